/- The same way by the reference. Conditions: a valid net, a tree of hops. -/
import Derived.Test.YtgalpgakdcfilaaGreatFlowD0
import Derived.Test.YtgalpgakdcfilaaGreatFlowB
import Derived.Test.YtgalpgakdcfilaaGreatL31
namespace Go.Proofs.YtgalpgakdcfilaaGreat.L
set_option linter.unusedVariables false
set_option linter.unusedSimpArgs false
open Go.RowKit Go.Proofs.YtgalpgakdcfilaaGreatW.PrintWords Go.Proofs.YtgalpgakdcfilaaGreat.PK Go.Proofs.YtgalpgakdcfilaaGreatW.PrintMore
section
variable {n:Nat} {w:List P1} {f:List Int} {a:Nat} {hs:List HP} {rk:Nat→Nat} {c:Nat}
theorem spec_back(hw:Ends n w)(T:Tree n w f a hs rk c)(g:List Int)(hg:g.length=w.length){v i:Nat}(hv:v<n)(hsv:(rd_T103 hs (v:Int)).f2=true)(hi:i<w.length)(h0:(rd_T103 hs (v:Int)).f0=(i:Int))(nn:Int):
    rd (hs.map enc) (v:Int)=(if(rd_T103 hs (v:Int)).f1=true then-(i:Int)-1 else(i:Int)+1)∧spec_l17Back.f nn w g (rd (hs.map enc) (v:Int))=some (nxt w (rd_T103 hs (v:Int)),term w g (rd_T103 hs (v:Int))):=by
  have hn:=T.1
  have hl:=hw.2.1
  have e1:rd (hs.map enc) (v:Int)=enc (rd_T103 hs (v:Int)):=by
    rw[rd_nat (by simp;omega),rdh_nat (by omega),List.getElem_map]
  rw[e1]
  unfold nxt term enc
  rw[if_pos hsv,h0]
  by_cases c1:(rd_T103 hs (v:Int)).f1=true
  · simp only[if_pos c1]
    refine⟨trivial,?_⟩
    unfold spec_l17Back.f
    rw[if_neg (by omega),w64 (n:= -(-(i:Int)-1)) (by omega) (by omega),w64 (n:= -(-(i:Int)-1)-1) (by omega) (by omega),show-(-(i:Int)-1)-1=(i:Int) by omega,if_pos (by omega),if_pos (by omega),if_pos (by omega)]
  · simp only[if_neg c1]
    refine⟨trivial,?_⟩
    unfold spec_l17Back.f
    rw[if_pos (by omega),w64 (n:=(i:Int)+1-1) (by omega) (by omega),show(i:Int)+1-1=(i:Int) by omega,if_pos (by omega),if_pos (by omega),if_pos (by omega)]
theorem spec_room(hw:Ends n w)(T:Tree n w f a hs rk c)(hf:f.length=w.length)(b nn:Int)(r:List Int×Bool):∀(t:Nat) (v:Nat) (m:Int),v<n→(rd_T103 hs (v:Int)).f2=true→rk v≤t→
    Ev (fun k=>spec_GreatestFlow.l2 k (a:Int) b f (hs.map enc) (roomW w f hs (a:Int) t m (v:Int)) b nn w) r→Ev (fun k=>spec_GreatestFlow.l1 k (a:Int) b f (hs.map enc) m (v:Int) nn w) r:=by
  intro t
  induction t with
  |zero=>
    intro v m hv hsv hr h
    rcases hop_tells T hv hsv hr (Classical.em _)with e|⟨e,h1,_⟩
    · exact Ev.step (fun k=>spec_GreatestFlow.l1.eq_2 ..) (Ev.pos e h)
    · omega
  |succ t ih=>
    intro v m hv hsv hr h
    simp only[roomW]at h
    rcases hop_tells T hv hsv hr (Classical.em _)with e|⟨e,_,i,u,hi,hu,h0,hsu,hru,hx⟩
    · rw[if_pos e]at h
      exact Ev.step (fun k=>spec_GreatestFlow.l1.eq_2 ..) (Ev.pos e h)
    · rw[if_neg e,hx]at h
      have h':=ih u _ hu hsu (by omega) h
      have hn:=T.1
      refine Ev.step (fun k=>spec_GreatestFlow.l1.eq_2 ..) (Ev.neg e (Ev.pos (by omega) (Ev.pos (by simp;omega) (Ev.bind0 (spec_back hw T f hf hv hsv hi h0 nn).2 ?_))))
      rw[hx]
      exact h'
theorem spec_chg(hw:Ends n w)(T:Tree n w f a hs rk c)(b nn m:Int)(r:List Int×Bool):∀(t:Nat) (v:Nat) (g:List Int),g.length=w.length→v<n→(rd_T103 hs (v:Int)).f2=true→rk v≤t→
    Ev (fun k=>spec_GreatestFlow.l0 k (a:Int) b (chgW w hs (a:Int) m t g (v:Int)) nn w) r→Ev (fun k=>spec_GreatestFlow.l2 k (a:Int) b g (hs.map enc) m (v:Int) nn w) r:=by
  intro t
  induction t with
  |zero=>
    intro v g hg hv hsv hr h
    rcases hop_tells T hv hsv hr (Classical.em _)with e|⟨e,h1,_⟩
    · exact Ev.step (fun k=>spec_GreatestFlow.l2.eq_2 ..) (Ev.pos e h)
    · omega
  |succ t ih=>
    intro v g hg hv hsv hr h
    simp only[chgW]at h
    rcases hop_tells T hv hsv hr (Classical.em _)with e|⟨e,_,i,u,hi,hu,h0,hsu,hru,hx⟩
    · rw[if_pos e]at h
      exact Ev.step (fun k=>spec_GreatestFlow.l2.eq_2 ..) (Ev.pos e h)
    · rw[if_neg e,hx]at h
      have h':=ih u _ (by rw[chg_len];exact hg) hu hsu (by omega) h
      have hn:=T.1
      have hl:=hw.2.1
      obtain⟨q1,q2⟩:=spec_back hw T g hg hv hsv hi h0 nn
      unfold chg at h'
      rw[h0]at h'
      refine Ev.step (fun k=>spec_GreatestFlow.l2.eq_2 ..) (Ev.neg e (Ev.pos (by omega) (Ev.pos (by simp;omega) (Ev.bind0 q2 ?_))))
      rw[hx,q1]
      by_cases c1:(rd_T103 hs (v:Int)).f1=true
      · rw[if_pos c1]at h'⊢
        rw[w64 (n:= -(-(i:Int)-1)) (by omega) (by omega),w64 (n:= -(-(i:Int)-1)-1) (by omega) (by omega),show-(-(i:Int)-1)-1=(i:Int) by omega]
        exact Ev.neg (by omega) (Ev.pos (by omega) (Ev.pos (by omega) h'))
      · rw[if_neg c1]at h'⊢
        rw[w64 (n:=(i:Int)+1-1) (by omega) (by omega),show(i:Int)+1-1=(i:Int) by omega]
        exact Ev.pos (by omega) (Ev.pos (by omega) (Ev.pos (by omega) h'))
end
end Go.Proofs.YtgalpgakdcfilaaGreat.L
