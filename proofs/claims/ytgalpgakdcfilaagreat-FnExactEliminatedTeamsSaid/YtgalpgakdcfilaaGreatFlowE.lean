/- The greatest flow: each round changes the flow by at least one; both go the same rounds. Conditions: a valid net. -/
import Derived.Test.YtgalpgakdcfilaaGreatFlowD0
namespace Go.Proofs.YtgalpgakdcfilaaGreat.L
set_option linter.unusedVariables false
set_option linter.unusedSimpArgs false
open Go.RowKit Go.Proofs.YtgalpgakdcfilaaGreatW.PrintWords Go.Proofs.YtgalpgakdcfilaaGreat.PK Go.Proofs.YtgalpgakdcfilaaGreatW.PrintMore
def coef(z:Int)(p:P1):Int:=(if p.f0=z then 1 else 0)-(if p.f1=z then 1 else 0)
def bal(z:Int):List P1→List Int→Int
  |p::w,x::g=>coef z p*x+bal z w g
  |_,_=>0
theorem bal_set(z:Int):∀(w:List P1) (g:List Int) (i:Nat) (h:i<w.length) (hg:i<g.length) (x:Int),bal z w (g.set i x)=bal z w g+coef z w[i]*(x-g[i])
  | [],_,_,h,_,_=>absurd h (by simp)
  |_::_,[],_,_,hg,_=>absurd hg (by simp)
  |p::w,y::g,0,_,_,x=>by
    simp only[List.set_cons_zero,bal,List.getElem_cons_zero,Int.mul_sub];omega
  |p::w,y::g,i+1,h,hg,x=>by
    simp only[List.set_cons_succ,bal,List.getElem_cons_succ]
    rw[bal_set z w g i (by simpa using h) (by simpa using hg) x];omega
def Good(w:List P1)(g:List Int):Prop:=g.length=w.length∧∀i:Nat,i<w.length→0≤rd g (i:Int)∧rd g (i:Int)≤(rd_T71 w (i:Int)).f2
def Lim(w:List P1):Prop:=∀p∈w,0≤p.f2∧p.f2≤1000
theorem Lim.at{w:List P1}(h:Lim w){i:Nat}(hi:i<w.length):0≤(rd_T71 w (i:Int)).f2∧(rd_T71 w (i:Int)).f2≤1000:=by
  rw[rd1_nat hi];exact h _ (List.getElem_mem hi)
theorem bal_le(z:Int):∀(w:List P1) (g:List Int),Lim w→Good w g→bal z w g≤1000*(w.length:Int)
  | [],_,_,_=>by simp [bal]
  |p::w,[],_,h=>absurd h.1 (by simp)
  |p::w,x::g,hl,h=>by
    have h0:=h.2 0 (by simp)
    have l0:=hl p (by simp)
    have ih:=bal_le z w g (fun q hq=>hl q (List.mem_cons_of_mem _ hq)) ⟨by simpa using h.1,fun i hi=>by
      have:=h.2 (i+1) (by simpa using hi)
      have hg:i<g.length:=by have:=h.1;simp at this;omega
      rw[rd_nat (by simpa using hg),rd1_nat (by simpa using hi)]at this
      rw[rd_nat hg,rd1_nat hi]
      simpa using this⟩
    have e1:rd (x::g) ((0:Nat):Int)=x:=rfl
    have e2:rd_T71 (p::w) ((0:Nat):Int)=p:=rfl
    rw[e1,e2]at h0
    have hc:coef z p*x≤1000:=by
      unfold coef
      by_cases c1:p.f0=z<;>by_cases c2:p.f1=z<;>simp [c1,c2]<;>omega
    simp only[bal,List.length_cons]
    omega
def Fits(w:List P1)(f:List Int)(hs:List HP)(a m:Int):Nat→Int→Prop
  |0,_=>True
  |t+1,v=>v=a∨(m≤term w f (rd_T103 hs v)∧Fits w f hs a m t (nxt w (rd_T103 hs v)))
theorem eq_turn(x y:Int):(if x=y then(1:Int)else 0)=if y=x then 1 else 0:=by
  by_cases h:y=x
  · rw[if_pos h,if_pos h.symm]
  · rw[if_neg h,if_neg (fun e=>h e.symm)]
theorem ifs_back(m z u v:Int):((if v=z then(1:Int)else 0)-(if u=z then 1 else 0))* -m=(if z=u then m else 0)-(if z=v then m else 0):=by
  rw[eq_turn v z,eq_turn u z]
  by_cases h1:z=v
  · by_cases h2:z=u
    · simp only[if_pos h1,if_pos h2];omega
    · simp only[if_pos h1,if_neg h2];omega
  · by_cases h2:z=u
    · simp only[if_neg h1,if_pos h2];omega
    · simp only[if_neg h1,if_neg h2];omega
theorem ifs_on(m z u v:Int):((if u=z then(1:Int)else 0)-(if v=z then 1 else 0))*m=(if z=u then m else 0)-(if z=v then m else 0):=by
  rw[eq_turn v z,eq_turn u z]
  by_cases h1:z=v
  · by_cases h2:z=u
    · simp only[if_pos h1,if_pos h2];omega
    · simp only[if_pos h1,if_neg h2];omega
  · by_cases h2:z=u
    · simp only[if_neg h1,if_pos h2];omega
    · simp only[if_neg h1,if_neg h2];omega
theorem mn_l(x y:Int):mn x y≤x:=by unfold mn;split<;>omega
theorem mn_r(x y:Int):mn x y≤y:=by unfold mn;split<;>omega
theorem room_le(w:List P1)(f:List Int)(hs:List HP)(a:Int):∀(t:Nat) (m v:Int),roomW w f hs a t m v≤m
  |0,_,_=>Int.le_refl _
  |t+1,m,v=>by
    simp only[roomW]
    split
    · exact Int.le_refl _
    · exact Int.le_trans (room_le w f hs a t _ _) (mn_l _ _)
theorem room_fits(w:List P1)(f:List Int)(hs:List HP)(a:Int):∀(t:Nat) (m v:Int),Fits w f hs a (roomW w f hs a t m v) t v
  |0,_,_=>trivial
  |t+1,m,v=>by
    simp only[Fits,roomW]
    by_cases c:v=a
    · exact .inl c
    · rw[if_neg c]
      exact .inr ⟨Int.le_trans (room_le w f hs a t _ _) (mn_r _ _),room_fits w f hs a t _ _⟩
section
variable {n:Nat} {w:List P1} {f:List Int} {a:Nat} {hs:List HP} {rk:Nat→Nat} {c:Nat}
theorem room_pos(hlim:Lim w)(T:Tree n w f a hs rk c)(hf:Good w f):∀(t:Nat) (v:Nat) (m:Int),v<n→(rd_T103 hs (v:Int)).f2=true→1≤m→1≤roomW w f hs (a:Int) t m (v:Int):=by
  intro t
  induction t with
  |zero=>intro v m _ _ h;exact h
  |succ t ih=>
    intro v m hv hsv h
    simp only[roomW]
    by_cases e:(v:Int)=(a:Int)
    · rw[if_pos e];exact h
    · rw[if_neg e]
      rcases(T.2.2.2 v hv hsv).2 with e'|⟨i,u,h1,h2,h3,h4,h5,h6⟩
      · exact absurd (congrArg Int.ofNat e') e
      · have hg:=hf.2 i h1
        have hl:=hlim.at h1
        have hu:nxt w (rd_T103 hs (v:Int))=(u:Int)∧1≤term w f (rd_T103 hs (v:Int)):=by
          unfold nxt term
          rw[h3]
          rcases h6 with ⟨k1,_,k2,k3⟩|⟨k1,_,k2,k3⟩
          · rw[if_pos k1,if_pos k1];exact⟨k2,by omega⟩
          · rw[if_neg (by rw[k1];simp),if_neg (by rw[k1];simp),w64 (by omega) (by omega)];exact⟨k2,by omega⟩
        rw[hu.1]
        refine ih u _ h2 h4 ?_
        unfold mn
        split
        · exact hu.2
        · exact h
theorem rd_set{g:List Int}{i:Nat}(hi:i<g.length)(x:Int)(j:Nat):rd (g.set i x) (j:Int)=if j=i then x else rd g (j:Int):=by
  by_cases e:j=i
  · subst e;rw[if_pos rfl,rd_nat (by simpa using hi)];simp
  · rw[if_neg e]
    simp only[rd,Int.toNat_natCast,List.getD_eq_getElem?_getD]
    rw[List.getElem?_set_ne (fun h=>e h.symm)]
theorem hop_apart(T:Tree n w f a hs rk c){x v i u:Nat}(hx:x<n)(hsx:(rd_T103 hs (x:Int)).f2=true)(hxa:x≠a)(hr:rk x<rk v)
    (h6:((rd_T71 w (i:Int)).f0=(v:Int)∧(rd_T71 w (i:Int)).f1=(u:Int))∨((rd_T71 w (i:Int)).f1=(v:Int)∧(rd_T71 w (i:Int)).f0=(u:Int))):
    ∃j:Nat,j<w.length∧(rd_T103 hs (x:Int)).f0=(j:Int)∧j≠i:=by
  rcases(T.2.2.2 x hx hsx).2 with e'|⟨j,y,h1,h2,h3,h4,h5,h7⟩
  · exact absurd e' hxa
  · refine⟨j,h1,h3,?_⟩
    rintro rfl
    rcases h7 with ⟨_,k1,k2,_⟩|⟨_,k1,k2,_⟩<;>rcases h6 with ⟨q1,q2⟩|⟨q1,q2⟩
    · have:x=v:=by omega
      subst this;omega
    · have:y=v:=by omega
      subst this;omega
    · have:y=v:=by omega
      subst this;omega
    · have:x=v:=by omega
      subst this;omega
theorem chg_good(hlim:Lim w)(T:Tree n w f a hs rk c)(hf:Good w f){m:Int}(hm:0≤m):∀(t:Nat) (v:Nat) (g:List Int),v<n→(rd_T103 hs (v:Int)).f2=true→rk v≤t→Good w g→
    (∀x:Nat,x<n→(rd_T103 hs (x:Int)).f2=true→rk x≤rk v→x≠a→rd g (rd_T103 hs (x:Int)).f0=rd f (rd_T103 hs (x:Int)).f0)→Fits w f hs (a:Int) m t (v:Int)→
    Good w (chgW w hs (a:Int) m t g (v:Int))∧∀z:Int,bal z w (chgW w hs (a:Int) m t g (v:Int))=bal z w g+(if z=(a:Int)then m else 0)-(if z=(v:Int)then m else 0):=by
  intro t
  induction t with
  |zero=>
    intro v g hv hsv hr hg hagree hfit
    rcases hop_tells T hv hsv hr (Classical.em _)with e|⟨e,h1,_⟩
    · exact⟨hg,fun z=>by simp only[chgW];rw[e];omega⟩
    · omega
  |succ t ih=>
    intro v g hv hsv hr hg hagree hfit
    simp only[chgW]
    simp only[Fits]at hfit
    by_cases e:(v:Int)=(a:Int)
    · rw[if_pos e]
      exact⟨hg,fun z=>by rw[e];omega⟩
    · rw[if_neg e]
      have hva:v≠a:=fun q=>e (by rw[q])
      have hfit:=hfit.resolve_left e
      rcases(T.2.2.2 v hv hsv).2 with e'|⟨i,u,h1,h2,h3,h4,h5,h6⟩
      · exact absurd e' hva
      · have hgi:=hg.2 i h1
        have hfi:=hf.2 i h1
        have hl:=hlim.at h1
        have hag:=hagree v hv hsv (Nat.le_refl _) hva
        have hi:i<g.length:=by rw[hg.1];exact h1
        rw[h3]at hag
        have key:nxt w (rd_T103 hs (v:Int))=(u:Int)∧∃y:Int,chg g m (rd_T103 hs (v:Int))=g.set i y∧0≤y∧y≤(rd_T71 w (i:Int)).f2∧(∀z:Int,coef z w[i]*(y-g[i])=(if z=(u:Int)then m else 0)-(if z=(v:Int)then m else 0)):=by
          have hfit1:=hfit.1
          have hgi':rd g (i:Int)=g[i]:=rd_nat hi
          have hwi:rd_T71 w (i:Int)=w[i]:=rd1_nat h1
          unfold nxt chg
          unfold term at hfit1
          rw[h3]at hfit1⊢
          rw[Int.toNat_natCast]
          rcases h6 with ⟨k1,k0,k2,k3⟩|⟨k1,k0,k2,k3⟩
          · rw[if_pos k1]at hfit1
            rw[if_pos k1,if_pos k1,w64 (by omega) (by omega)]
            refine⟨k2,_,rfl,by omega,by omega,fun z=>?_⟩
            rw[hwi]at k0 k2
            unfold coef
            rw[k0,k2,hgi',show g[i]-m-g[i]= -m by omega]
            exact ifs_back m z u v
          · have k1':¬((rd_T103 hs (v:Int)).f1=true):=by rw[k1];simp
            rw[if_neg k1',w64 (by omega) (by omega)]at hfit1
            rw[if_neg k1',if_neg k1',w64 (by omega) (by omega)]
            refine⟨k2,_,rfl,by omega,by omega,fun z=>?_⟩
            rw[hwi]at k0 k2
            unfold coef
            rw[k0,k2,hgi',show g[i]+m-g[i]=m by omega]
            exact ifs_on m z u v
        obtain⟨hx,y,hy,y0,y1,hco⟩:=key
        rw[hx]at hfit⊢
        rw[hy]
        have hG:Good w (g.set i y):=⟨by simpa using hg.1,fun j hj=>by
          rw[rd_set hi]
          split
          · rename_i q;subst q;exact⟨y0,y1⟩
          · exact hg.2 j hj⟩
        obtain⟨r1,r2⟩:=ih u (g.set i y) h2 h4 (by omega) hG (fun x hx' hsx hrx hxa=>by
          obtain⟨j,j1,j2,j3⟩:=hop_apart T hx' hsx hxa (show rk x<rk v by omega) (h6.imp (fun q=>⟨q.2.1,q.2.2.1⟩) (fun q=>⟨q.2.1,q.2.2.1⟩))
          have:=hagree x hx' hsx (by omega) hxa
          rw[j2]at this⊢
          rw[rd_set hi,if_neg j3]
          exact this) hfit.2
        refine⟨r1,fun z=>?_⟩
        rw[r2 z,bal_set z w g i h1 hi y,hco z]
        omega
end
end Go.Proofs.YtgalpgakdcfilaaGreat.L
