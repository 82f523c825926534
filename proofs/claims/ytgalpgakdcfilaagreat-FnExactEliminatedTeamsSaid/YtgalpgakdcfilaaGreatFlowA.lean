/- Breadth first search: program and reference reach the same nodes by the same pipes. Conditions: a valid net, flows for each pipe. -/
import Derived.Test.YtgalpgakdcfilaaGreatNetA0
import Derived.Test.YtgalpgakdcfilaaGreatL54
namespace Go.Proofs.YtgalpgakdcfilaaGreat.L
set_option linter.unusedVariables false
set_option linter.unusedSimpArgs false
open Go.RowKit Go.Proofs.YtgalpgakdcfilaaGreatW.PrintWords Go.Proofs.YtgalpgakdcfilaaGreat.PK
abbrev HP:=S103
def enc(h:HP):Int:=if h.f2=true then(if h.f1=true then-h.f0-1 else h.f0+1)else 0
abbrev BS:=List HP×List Int
def unseen(l:List HP):Nat:=l.countP (fun h=> !h.f2)
def see(s:BS)(nd pipe:Int)(back:Bool):BS:=if(rd_T103 s.1 nd).f2=true then s else(s.1.set nd.toNat ⟨pipe,back,true⟩,s.2++[nd])
def half0(v:Int)(s:BS)(p:P1)(x i:Int):BS:=if p.f0=v∧x<p.f2 then see s p.f1 i false else s
def half1(v:Int)(s:BS)(p:P1)(x i:Int):BS:=if p.f1=v∧0<x then see s p.f0 i true else s
def pst(v:Int)(s:BS)(p:P1)(x i:Int):BS:=half1 v (half0 v s p x i) p x i
def inn(w:List P1)(f:List Int)(v:Int)(s:BS):Nat→BS
  |0=>s
  |i+1=>pst v (inn w f v s i) (rd_T71 w (i:Int)) (rd f (i:Int)) (i:Int)
def bfs(w:List P1)(f:List Int):Nat→BS→List HP
  |0,s=>s.1
  |m+1,s=>if s.2= []then s.1 else bfs w f m (inn w f (rd s.2 0) (s.1,s.2.drop 1) w.length)
theorem rdh_nat{x:List HP}{i:Nat}(h:i<x.length):rd_T103 x (i:Int)=x[i]:=by simp [rd_T103,List.getD_eq_getElem?_getD,h]
theorem unseen_set:∀(l:List HP) (j:Nat) (h:j<l.length) (x:HP),l[j].f2=false→x.f2=true→unseen (l.set j x)+1=unseen l
  | [],_,h,_,_,_=>absurd h (by simp)
  |y::l,0,_,x,h1,h2=>by
    simp only[List.getElem_cons_zero]at h1
    simp [unseen,List.countP_cons,h1,h2]
  |y::l,j+1,h,x,h1,h2=>by
    have:=unseen_set l j (by simpa using h) x (by simpa using h1) h2
    simp only[unseen,List.set_cons_succ,List.countP_cons]at this⊢
    omega
def Bs(n q:Nat)(s:BS):Prop:=s.1.length=n∧s.2.length+unseen s.1=q
theorem Bs.see{n q:Nat}{s:BS}(h:Bs n q s){nd:Int}(h0:0≤nd)(h1:nd<n)(pipe:Int)(back:Bool):Bs n q (see s nd pipe back):=by
  unfold L.see
  obtain⟨j,rfl⟩:∃j:Nat,nd=j:=⟨nd.toNat,by omega⟩
  have hj:j<s.1.length:=by have:=h.1;omega
  by_cases c:(rd_T103 s.1 (j:Int)).f2=true
  · rw[if_pos c];exact h
  · rw[if_neg c]
    rw[rdh_nat hj]at c
    have:=unseen_set s.1 j hj ⟨pipe,back,true⟩ (by simpa using c) rfl
    refine⟨by simpa using h.1,?_⟩
    have h2:=h.2
    simp only[Int.toNat_natCast,List.length_append,List.length_singleton]
    omega
theorem Bs.half0{n q:Nat}{s:BS}(h:Bs n q s){p:P1}(h0:0≤p.f1)(h1:p.f1<n)(v x i:Int):Bs n q (half0 v s p x i):=by
  unfold L.half0
  split
  · exact h.see h0 h1 _ _
  · exact h
theorem Bs.half1{n q:Nat}{s:BS}(h:Bs n q s){p:P1}(h0:0≤p.f0)(h1:p.f0<n)(v x i:Int):Bs n q (half1 v s p x i):=by
  unfold L.half1
  split
  · exact h.see h0 h1 _ _
  · exact h
def Ends(n:Nat)(w:List P1):Prop:=n≤40∧w.length≤120∧∀p∈w,(0≤p.f0∧p.f0<n)∧(0≤p.f1∧p.f1<n)
theorem Ends.at{n:Nat}{w:List P1}(h:Ends n w){i:Nat}(hi:i<w.length):(0≤w[i].f0∧w[i].f0<n)∧(0≤w[i].f1∧w[i].f1<n):=h.2.2 _ (List.getElem_mem hi)
theorem Bs.inn{n q:Nat}{s:BS}{w:List P1}(hw:Ends n w)(h:Bs n q s)(f:List Int)(v:Int):∀i,i≤w.length→Bs n q (inn w f v s i)
  |0,_=>h
  |i+1,hi=>by
    have h':=Bs.inn hw h f v i (by omega)
    have he:=hw.at (show i<w.length by omega)
    simp only[L.inn,pst]
    rw[rd1_nat (show i<w.length by omega)]
    exact(h'.half0 he.2.1 he.2.2 _ _ _).half1 he.1.1 he.1.2 _ _ _
theorem vis_see{n q:Nat}{s:BS}(h:Bs n q s)(hq:q≤40){nd:Int}(h0:0≤nd)(h1:nd<n)(pipe:Int)(back:Bool):impl_reach.vis s.1 s.2 nd pipe back=some (see s nd pipe back):=by
  have:=h.1
  have h2:=h.2
  unfold impl_reach.vis L.see
  rw[if_pos h0,if_pos (by omega)]
  split
  · rfl
  · rw[if_pos (by omega)]
theorem impl_inn{n q:Nat}{s:BS}{w:List P1}(hw:Ends n w)(h:Bs n q s)(hq:q≤40)(f:List Int)(hf:f.length=w.length)(v:Int):Ev (fun k=>impl_reach.l1 k w f v s.1 s.2 0) (inn w f v s w.length):=by
  have hl:=hw.2.1
  refine Ev.iter (fun i k=>impl_reach.l1 k w f v (inn w f v s i).1 (inn w f v s i).2 (i:Int)) w.length _ (fun i hi hr=>?_) ?_
  · have h':=Bs.inn hw h f v i (by omega)
    have he:=hw.at hi
    have hh:=h'.half0 he.2.1 he.2.2 v (rd f (i:Int)) (i:Int)
    refine Ev.step (fun k=>impl_reach.l1.eq_2 ..) (Ev.pos (by omega) (Ev.pos (by omega) ?_))
    rw[rd1_nat hi,w64s (by omega)]
    simp only[L.inn,pst]at hr
    rw[rd1_nat hi]at hr
    refine Ev.bind0 (a:=half0 v (inn w f v s i) w[i] (rd f (i:Int)) (i:Int)) ?_ (Ev.bind0 (a:=half1 v (half0 v (inn w f v s i) w[i] (rd f (i:Int)) (i:Int)) w[i] (rd f (i:Int)) (i:Int)) ?_ hr)
    · unfold half0
      by_cases c:w[i].f0=v
      · rw[if_pos c,if_pos (by omega)]
        by_cases c':rd f (i:Int)<w[i].f2
        · rw[if_pos c',if_pos ⟨c,c'⟩,vis_see h' hq he.2.1 he.2.2]
        · rw[if_neg c',if_neg (fun e=>c' e.2)]
      · rw[if_neg c,if_neg (fun e=>c e.1)]
    · generalize half0 v (inn w f v s i) w[i] (rd f (i:Int)) (i:Int)=t at hh⊢
      unfold half1
      by_cases c:w[i].f1=v
      · rw[if_pos c,if_pos (by omega)]
        by_cases c':0<rd f (i:Int)
        · rw[if_pos c',if_pos ⟨c,c'⟩,vis_see hh hq he.1.1 he.1.2]
        · rw[if_neg c',if_neg (fun e=>c' e.2)]
      · rw[if_neg c,if_neg (fun e=>c e.1)]
  · exact Ev.step (fun k=>impl_reach.l1.eq_2 ..) (Ev.neg (by omega) (Ev.now _))
theorem impl_bfs{n:Nat}{w:List P1}(hw:Ends n w)(f:List Int)(hf:f.length=w.length):∀(m q:Nat) (s:BS),q≤m→q≤40→Bs n q s→Ev (fun k=>impl_reach.l0 k w f s.1 s.2) (bfs w f m s)
  |0,q,s,hm,_,h=>by
    have h2:=h.2
    refine Ev.step (fun k=>impl_reach.l0.eq_2 ..) (Ev.neg (by omega) (Ev.now _))
  |m+1,q,s,hm,hq,h=>by
    have h2:=h.2
    simp only[bfs]
    by_cases c:s.2= []
    · rw[if_pos c]
      refine Ev.step (fun k=>impl_reach.l0.eq_2 ..) (Ev.neg (by rw[c];simp) (Ev.now _))
    · rw[if_neg c]
      have hp:0<s.2.length:=List.length_pos_iff.2 c
      have h':Bs n (q-1) (s.1,s.2.drop 1):=⟨h.1,by simp only[List.length_drop];omega⟩
      have hi:=Bs.inn hw h' f (rd s.2 0) w.length (by omega)
      refine Ev.step (fun k=>impl_reach.l0.eq_2 ..) (Ev.pos (by omega) (Ev.bind (impl_inn hw h' (by omega) f hf _) ?_))
      exact impl_bfs hw f hf m (q-1) _ (by omega) (by omega) hi
theorem map_see(s:BS)(nd:Nat)(i:Nat)(b:Bool)(hi:i≤120):(s.1.map enc).set nd (if b=true then wrap64 (wrap64 (-(i:Int))-1)else wrap64 ((i:Int)+1))=(s.1.set nd ⟨(i:Int),b,true⟩).map enc:=by
  rw[List.map_set]
  congr 1
  cases b
  · simp only[enc,if_true,Bool.false_eq_true,if_false]
    rw[w64 (by omega) (by omega)]
  · simp only[enc,if_true]
    rw[w64 (n:= -(i:Int)) (by omega) (by omega),w64 (by omega) (by omega)]
theorem rd_seen(l:List HP)(j:Nat)(h:j<l.length):rdOf false (l.map (·.f2)) (j:Int)=(rd_T103 l (j:Int)).f2:=by
  rw[rdOf_nat (by simpa using h),rdh_nat h,List.getElem_map]
end Go.Proofs.YtgalpgakdcfilaaGreat.L
