/- Breadth first search: the hops are a tree, by ranks. Conditions: a valid net. -/
import Derived.Test.YtgalpgakdcfilaaGreatFlowB0
namespace Go.Proofs.YtgalpgakdcfilaaGreat.L
set_option linter.unusedVariables false
set_option linter.unusedSimpArgs false
open Go.RowKit Go.Proofs.YtgalpgakdcfilaaGreatW.PrintWords Go.Proofs.YtgalpgakdcfilaaGreat.PK
theorem rdh_set{l:List HP}{j:Nat}(hj:j<l.length)(x:HP)(v:Nat):rd_T103 (l.set j x) (v:Int)=if v=j then x else rd_T103 l (v:Int):=by
  by_cases c:v=j
  · subst c
    rw[if_pos rfl,rdh_nat (by simpa using hj)];simp
  · rw[if_neg c]
    simp only[rd_T103,Int.toNat_natCast,List.getD_eq_getElem?_getD]
    rw[List.getElem?_set_ne (fun e=>c e.symm)]
def HopOk(n:Nat)(w:List P1)(f:List Int)(hs:List HP)(rk:Nat→Nat)(v:Nat):Prop:=
  ∃i u:Nat,i<w.length∧u<n∧(rd_T103 hs (v:Int)).f0=(i:Int)∧(rd_T103 hs (u:Int)).f2=true∧rk u<rk v∧
    (((rd_T103 hs (v:Int)).f1=true∧(rd_T71 w (i:Int)).f0=(v:Int)∧(rd_T71 w (i:Int)).f1=(u:Int)∧0<rd f (i:Int))∨
     ((rd_T103 hs (v:Int)).f1=false∧(rd_T71 w (i:Int)).f1=(v:Int)∧(rd_T71 w (i:Int)).f0=(u:Int)∧rd f (i:Int)<(rd_T71 w (i:Int)).f2))
def Tree(n:Nat)(w:List P1)(f:List Int)(a:Nat)(hs:List HP)(rk:Nat→Nat)(c:Nat):Prop:=
  hs.length=n∧a<n∧(rd_T103 hs (a:Int)).f2=true∧∀v:Nat,v<n→(rd_T103 hs (v:Int)).f2=true→rk v<c∧(v=a∨HopOk n w f hs rk v)
def TreeS(n:Nat)(w:List P1)(f:List Int)(a:Nat)(s:BS):Prop:=(∃rk c,Tree n w f a s.1 rk c)∧∀x∈s.2,∃v:Nat,x=(v:Int)∧v<n∧(rd_T103 s.1 (v:Int)).f2=true
theorem Tree.add{n:Nat}{w:List P1}{f:List Int}{a:Nat}{hs:List HP}{rk:Nat→Nat}{c:Nat}(h:Tree n w f a hs rk c){v nd i:Nat}(hv:v<n)(hsv:(rd_T103 hs (v:Int)).f2=true)(hnd:nd<n)(hns:¬(rd_T103 hs (nd:Int)).f2=true)(hi:i<w.length)(b:Bool)
    (hh:(b=true∧(rd_T71 w (i:Int)).f0=(nd:Int)∧(rd_T71 w (i:Int)).f1=(v:Int)∧0<rd f (i:Int))∨
     (b=false∧(rd_T71 w (i:Int)).f1=(nd:Int)∧(rd_T71 w (i:Int)).f0=(v:Int)∧rd f (i:Int)<(rd_T71 w (i:Int)).f2)):
    Tree n w f a (hs.set nd ⟨(i:Int),b,true⟩) (fun x=>if x=nd then c else rk x) (c+1):=by
  obtain⟨h1,h2,h3,h4⟩:=h
  have hl:nd<hs.length:=by omega
  have ne:∀x:Nat,(rd_T103 hs (x:Int)).f2=true→x≠nd:=fun x hx e=>hns (e ▸ hx)
  refine⟨by simpa using h1,h2,?_,fun x hx hsx=>?_⟩
  · rw[rdh_set hl,if_neg (ne a h3)];exact h3
  · by_cases e:x=nd
    · subst e
      refine⟨by simp,.inr ⟨i,v,hi,hv,?_,?_,?_,?_⟩⟩
      · rw[rdh_set hl,if_pos rfl]
      · rw[rdh_set hl,if_neg (ne v hsv)];exact hsv
      · simp only[if_neg (ne v hsv),if_true];exact(h4 v hv hsv).1
      · rw[rdh_set hl,if_pos rfl];exact hh
    · rw[rdh_set hl,if_neg e]at hsx
      obtain⟨k1,k2⟩:=h4 x hx hsx
      refine⟨by simp only[if_neg e];omega,k2.imp id ?_⟩
      rintro⟨i',u,q1,q2,q3,q4,q5,q6⟩
      refine⟨i',u,q1,q2,?_,?_,?_,?_⟩
      · rw[rdh_set hl,if_neg e];exact q3
      · rw[rdh_set hl,if_neg (ne u q4)];exact q4
      · simp only[if_neg e,if_neg (ne u q4)];exact q5
      · rw[rdh_set hl,if_neg e];exact q6
theorem see_seen{s:BS}{nd v:Nat}(hnd:nd<s.1.length)(i:Int)(b:Bool)(h:(rd_T103 s.1 (v:Int)).f2=true):(rd_T103 (see s (nd:Int) i b).1 (v:Int)).f2=true:=by
  unfold see
  split
  · exact h
  · rw[Int.toNat_natCast,rdh_set hnd]
    split
    · rfl
    · exact h
theorem TreeS.see{n:Nat}{w:List P1}{f:List Int}{a:Nat}{s:BS}(h:TreeS n w f a s){v i:Nat}(hv:v<n)(hsv:(rd_T103 s.1 (v:Int)).f2=true){nd:Int}(hnd:0≤nd∧nd<n)(hi:i<w.length)(b:Bool)
    (hh:(b=true∧(rd_T71 w (i:Int)).f0=nd∧(rd_T71 w (i:Int)).f1=(v:Int)∧0<rd f (i:Int))∨
     (b=false∧(rd_T71 w (i:Int)).f1=nd∧(rd_T71 w (i:Int)).f0=(v:Int)∧rd f (i:Int)<(rd_T71 w (i:Int)).f2)):
    TreeS n w f a (see s nd (i:Int) b)∧(rd_T103 (L.see s nd (i:Int) b).1 (v:Int)).f2=true:=by
  obtain⟨j,rfl⟩:∃j:Nat,nd=j:=⟨nd.toNat,by omega⟩
  obtain⟨⟨rk,c,ht⟩,hw⟩:=h
  have hjl:j<s.1.length:=by have:=ht.1;omega
  refine⟨⟨?_,?_⟩,see_seen hjl _ _ hsv⟩
  · unfold L.see
    by_cases cs:(rd_T103 s.1 (j:Int)).f2=true
    · rw[if_pos cs];exact⟨rk,c,ht⟩
    · rw[if_neg cs,Int.toNat_natCast]
      exact⟨_,_,ht.add hv hsv (by omega) cs hi b hh⟩
  · intro x hx
    have hx':x∈s.2∨x=(j:Int):=by
      unfold L.see at hx
      split at hx
      · exact .inl hx
      · simpa using hx
    rcases hx' with hx|rfl
    · obtain⟨y,e,hy,hys⟩:=hw x hx
      exact⟨y,e,hy,see_seen hjl _ _ hys⟩
    · refine⟨j,rfl,by omega,?_⟩
      unfold L.see
      split
      · assumption
      · rw[Int.toNat_natCast,rdh_set hjl,if_pos rfl]
theorem TreeS.inn{n:Nat}{w:List P1}(hw:Ends n w){f:List Int}{a:Nat}{s:BS}(h:TreeS n w f a s){v:Nat}(hv:v<n)(hsv:(rd_T103 s.1 (v:Int)).f2=true):∀i,i≤w.length→TreeS n w f a (inn w f (v:Int) s i)∧(rd_T103 (L.inn w f (v:Int) s i).1 (v:Int)).f2=true
  |0,_=>⟨h,hsv⟩
  |i+1,hi=>by
    obtain⟨h1,h2⟩:=TreeS.inn hw h hv hsv i (by omega)
    have he:=hw.at (show i<w.length by omega)
    rw[←rd1_nat (show i<w.length by omega)]at he
    simp only[L.inn,pst]
    generalize L.inn w f (v:Int) s i=t at h1 h2
    have k1:TreeS n w f a (half0 (v:Int) t (rd_T71 w (i:Int)) (rd f (i:Int)) (i:Int))∧(rd_T103 (half0 (v:Int) t (rd_T71 w (i:Int)) (rd f (i:Int)) (i:Int)).1 (v:Int)).f2=true:=by
      unfold half0
      split
      · rename_i c
        exact h1.see hv h2 he.2 (by omega) false (.inr ⟨rfl,rfl,c.1,c.2⟩)
      · exact⟨h1,h2⟩
    generalize half0 (v:Int) t (rd_T71 w (i:Int)) (rd f (i:Int)) (i:Int)=t' at k1
    unfold half1
    split
    · rename_i c
      exact k1.1.see hv k1.2 he.1 (by omega) true (.inl ⟨rfl,rfl,c.1,c.2⟩)
    · exact k1
theorem bfs_tree{n:Nat}{w:List P1}(hw:Ends n w)(f:List Int)(a:Nat):∀(m:Nat) (s:BS),TreeS n w f a s→∃rk c,Tree n w f a (bfs w f m s) rk c
  |0,s,h=>h.1
  |m+1,s,h=>by
    simp only[bfs]
    by_cases c:s.2= []
    · rw[if_pos c];exact h.1
    · rw[if_neg c]
      obtain⟨v,ws,e⟩:=List.exists_cons_of_ne_nil c
      obtain⟨y,rfl,hy,hys⟩:=h.2 v (by rw[e];simp)
      rw[e,show rd ((y:Int)::ws) 0=(y:Int)from rfl,show((y:Int)::ws).drop 1=ws from rfl]
      have h':TreeS n w f a (s.1,ws):=⟨h.1,fun x hx=>h.2 x (by rw[e];exact List.mem_cons_of_mem _ hx)⟩
      exact bfs_tree hw f a m _ (TreeS.inn hw h' hy hys w.length (Nat.le_refl _)).1
theorem reachR_tree{n:Nat}{w:List P1}(hw:Ends n w)(f:List Int)(a:Nat)(ha:a<n):∃rk c,Tree n w f a (reachR n w f a) rk c:=by
  have hl:a<(List.replicate n z103).length:=by simpa using ha
  have h0:(rd_T103 (bs0 n a).1 (a:Int)).f2=true:=by
    simp only[bs0];rw[rdh_set hl,if_pos rfl]
  refine bfs_tree hw f a n _ ⟨⟨fun _=>0,1,by simp [bs0],ha,h0,fun v hv hs=>⟨Nat.zero_lt_one,.inl ?_⟩⟩,fun x hx=>⟨a,by simpa [bs0] using hx,ha,h0⟩⟩
  simp only[bs0]at hs
  rw[rdh_set hl]at hs
  by_cases e:v=a
  · exact e
  · rw[if_neg e,rdh_nat (by simpa using hv)]at hs
    simp [z103]at hs
end Go.Proofs.YtgalpgakdcfilaaGreat.L
