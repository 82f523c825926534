/- The way back from the sink: the room on it and the change along it. Conditions: a valid net, a tree of hops. -/
import Derived.Test.YtgalpgakdcfilaaGreatFlowC
import Derived.Test.YtgalpgakdcfilaaGreatL56
namespace Go.Proofs.YtgalpgakdcfilaaGreat.L
set_option linter.unusedVariables false
set_option linter.unusedSimpArgs false
open Go.RowKit Go.Proofs.YtgalpgakdcfilaaGreatW.PrintWords Go.Proofs.YtgalpgakdcfilaaGreat.PK Go.Proofs.YtgalpgakdcfilaaGreatW.PrintMore
def nxt(w:List P1)(h:HP):Int:=if h.f1=true then(rd_T71 w h.f0).f1 else(rd_T71 w h.f0).f0
def term(w:List P1)(f:List Int)(h:HP):Int:=if h.f1=true then rd f h.f0 else wrap64 ((rd_T71 w h.f0).f2-rd f h.f0)
def roomW(w:List P1)(f:List Int)(hs:List HP)(a:Int):Nat→Int→Int→Int
  |0,m,_=>m
  |t+1,m,v=>if v=a then m else roomW w f hs a t (mn m (term w f (rd_T103 hs v))) (nxt w (rd_T103 hs v))
def chg(g:List Int)(m:Int)(h:HP):List Int:=g.set h.f0.toNat (if h.f1=true then wrap64 (rd g h.f0-m)else wrap64 (rd g h.f0+m))
def chgW(w:List P1)(hs:List HP)(a m:Int):Nat→List Int→Int→List Int
  |0,g,_=>g
  |t+1,g,v=>if v=a then g else chgW w hs a m t (chg g m (rd_T103 hs v)) (nxt w (rd_T103 hs v))
theorem chg_len(g:List Int)(m:Int)(h:HP):(chg g m h).length=g.length:=by simp [chg]
theorem hop_tells{n:Nat}{w:List P1}{f:List Int}{a:Nat}{hs:List HP}{rk:Nat→Nat}{c:Nat}(T:Tree n w f a hs rk c){v t:Nat}(hv:v<n)(hsv:(rd_T103 hs (v:Int)).f2=true)(hr:rk v≤t)(ht:(v:Int)=(a:Int)∨¬((v:Int)=(a:Int))):
    (v:Int)=(a:Int)∨(¬((v:Int)=(a:Int))∧1≤t∧∃i u:Nat,i<w.length∧u<n∧(rd_T103 hs (v:Int)).f0=(i:Int)∧(rd_T103 hs (u:Int)).f2=true∧rk u≤t-1∧nxt w (rd_T103 hs (v:Int))=(u:Int)):=by
  rcases ht with e|e
  · exact .inl e
  · right
    rcases(T.2.2.2 v hv hsv).2 with e'|⟨i,u,h1,h2,h3,h4,h5,h6⟩
    · exact absurd (congrArg Int.ofNat e') e
    · refine⟨e,by omega,i,u,h1,h2,h3,h4,by omega,?_⟩
      unfold nxt
      rw[h3]
      rcases h6 with ⟨k1,_,k2,_⟩|⟨k1,_,k2,_⟩
      · rw[if_pos k1];exact k2
      · rw[if_neg (by rw[k1];simp)];exact k2
section
variable {n:Nat} {w:List P1} {f:List Int} {a:Nat} {hs:List HP} {rk:Nat→Nat} {c:Nat}
theorem impl_room(T:Tree n w f a hs rk c)(hf:f.length=w.length)(hl:w.length≤120)(b x38 nn:Int)(bl:List Bool)(x37:Int)(r:List Int×Bool):∀(t:Nat) (v:Nat) (m:Int),v<n→(rd_T103 hs (v:Int)).f2=true→rk v≤t→
    Ev (fun k=>impl_GreatestFlow.l1 k (a:Int) b f hs (roomW w f hs (a:Int) t m (v:Int)) bl x37 (wrap64 (x38+1)) nn w) r→Ev (fun k=>impl_GreatestFlow.l2 k (a:Int) b f hs m false (v:Int) bl x37 x38 nn w) r:=by
  intro t
  induction t with
  |zero=>
    intro v m hv hsv hr h
    rcases hop_tells T hv hsv hr (Classical.em _)with e|⟨e,h1,_⟩
    · exact Ev.step (fun k=>impl_GreatestFlow.l2.eq_2 ..) (Ev.pos e h)
    · omega
  |succ t ih=>
    intro v m hv hsv hr h
    simp only[roomW]at h
    rcases hop_tells T hv hsv hr (Classical.em _)with e|⟨e,_,i,u,hi,hu,h0,hsu,hru,hx⟩
    · rw[if_pos e]at h
      exact Ev.step (fun k=>impl_GreatestFlow.l2.eq_2 ..) (Ev.pos e h)
    · rw[if_neg e,hx]at h
      have h':=ih u _ hu hsu (by omega) h
      have hn:=T.1
      unfold nxt at hx
      unfold term at h'
      rw[h0]at hx h'
      refine Ev.step (fun k=>impl_GreatestFlow.l2.eq_2 ..) (Ev.neg e (Ev.pos (by omega) (Ev.pos (by omega) ?_)))
      rw[h0]
      refine Ev.pos (by omega) (Ev.pos (by omega) (Ev.neg (by simp) (Ev.step (fun k=>impl_GreatestFlow.j3.eq_2 ..) (Ev.neg (by simp) (Ev.neg (by simp) ?_)))))
      by_cases c1:(rd_T103 hs (v:Int)).f1=true
      · rw[if_pos c1]at hx h'
        refine Ev.pos c1 (Ev.pos (by omega) (Ev.pos (by omega) ?_))
        rw[hx]
        exact h'
      · rw[if_neg c1]at hx h'
        refine Ev.neg c1 (Ev.pos (by omega) (Ev.pos (by omega) ?_))
        rw[hx]
        exact h'
theorem impl_chg(T:Tree n w f a hs rk c)(hl:w.length≤120)(b x38 nn m:Int)(bl:List Bool)(x37:Int)(r:List Int×Bool):∀(t:Nat) (v:Nat) (g:List Int),g.length=w.length→v<n→(rd_T103 hs (v:Int)).f2=true→rk v≤t→
    Ev (fun k=>impl_GreatestFlow.l1 k (a:Int) b (chgW w hs (a:Int) m t g (v:Int)) hs m bl x37 (wrap64 (x38+1)) nn w) r→Ev (fun k=>impl_GreatestFlow.l2 k (a:Int) b g hs m true (v:Int) bl x37 x38 nn w) r:=by
  intro t
  induction t with
  |zero=>
    intro v g hg hv hsv hr h
    rcases hop_tells T hv hsv hr (Classical.em _)with e|⟨e,h1,_⟩
    · exact Ev.step (fun k=>impl_GreatestFlow.l2.eq_2 ..) (Ev.pos e h)
    · omega
  |succ t ih=>
    intro v g hg hv hsv hr h
    simp only[chgW]at h
    rcases hop_tells T hv hsv hr (Classical.em _)with e|⟨e,_,i,u,hi,hu,h0,hsu,hru,hx⟩
    · rw[if_pos e]at h
      exact Ev.step (fun k=>impl_GreatestFlow.l2.eq_2 ..) (Ev.pos e h)
    · rw[if_neg e,hx]at h
      have h':=ih u _ (by rw[chg_len];exact hg) hu hsu (by omega) h
      have hn:=T.1
      unfold nxt at hx
      unfold chg at h'
      rw[h0]at hx h'
      refine Ev.step (fun k=>impl_GreatestFlow.l2.eq_2 ..) (Ev.neg e (Ev.pos (by omega) (Ev.pos (by omega) ?_)))
      rw[h0]
      refine Ev.pos (by omega) (Ev.pos (by omega) (Ev.pos rfl (Ev.step (fun k=>impl_GreatestFlow.j3.eq_2 ..) ?_)))
      by_cases c1:(rd_T103 hs (v:Int)).f1=true
      · rw[if_pos c1]at hx h'
        refine Ev.pos c1 (Ev.pos (by omega) (Ev.pos (by omega) (Ev.bind0 rfl (Ev.pos c1 ?_))))
        rw[hx]
        exact h'
      · rw[if_neg c1]at hx h'
        refine Ev.neg c1 (Ev.pos rfl (Ev.pos (by omega) (Ev.pos (by omega) (Ev.bind0 rfl (Ev.neg c1 ?_)))))
        rw[hx]
        exact h'
end
end Go.Proofs.YtgalpgakdcfilaaGreat.L
