-- Written by a program of this session (wip/xp.py).
import Derived.Test.YtgalpgakdcfilaaGreatL0
import Derived.Test.YtgalpgakdcfilaaGreatL54
namespace Go.Proofs.YtgalpgakdcfilaaGreat.L
open Go.RowKit Go.Proofs.YtgalpgakdcfilaaGreatW.PrintWords Go.Proofs.YtgalpgakdcfilaaGreatW.PrintLast Go.Proofs.YtgalpgakdcfilaaGreatW.PrintMore
attribute [local go_sem] max2_int min2_int max_two min_two max_three min_three max_four min_four
set_option linter.unusedVariables false
set_option linter.unusedSimpArgs false
set_option maxHeartbeats 8000000
set_option maxRecDepth 100000
theorem impl_GreatestFlow.slot_back{K:Act→World→Prop}{l:List Value}{d}{w:World}(i:Nat){b b':Bool}(e:b'=b)(hl:l[i]? =some (.bool b))(h:K ⟨(l.set i (.bool b')).toArray,d⟩ w):K ⟨l.toArray,d⟩ w:=by
 subst e
 obtain⟨hi,he⟩:=List.getElem?_eq_some_iff.mp hl
 rw[←he,List.set_getElem_self]at h
 exact h
mutual
def impl_GreatestFlow.l0:Nat→Int→Int→List Int→Int→List (S71)→Option (List Int×Bool)
  |0,_,_,_,_,_=>none
  |k+1,x1,x2,x8,a,b=>(impl_reach.f k a b x1 x8).bind fun c=>(if 0≤x2 then(if x2<(c.length:Int)then(if((rd_T103 c x2).f2=true)then((some (([false,true]:List Bool):List Bool)).bind fun d=>(impl_GreatestFlow.l1 k x1 x2 x8 c 1000 d (d.length:Int) 0 a b))else(some (x8,true)))else(none))else(none))
def impl_GreatestFlow.l1:Nat→Int→Int→List Int→List (S103)→Int→List Bool→Int→Int→Int→List (S71)→Option (List Int×Bool)
  |0,_,_,_,_,_,_,_,_,_,_=>none
  |k+1,x1,x2,x8,x9,g,d,e,c,a,b=>if c<e then(if 0≤c then(if c<(d.length:Int)then(impl_GreatestFlow.l2 k x1 x2 x8 x9 g (rdOf false d c) x2 d e c a b)else(none))else(none))else(impl_GreatestFlow.l0 k x1 x2 x8 a b)
def impl_GreatestFlow.l2:Nat→Int→Int→List Int→List (S103)→Int→Bool→Int→List Bool→Int→Int→Int→List (S71)→Option (List Int×Bool)
  |0,_,_,_,_,_,_,_,_,_,_,_,_=>none
  |k+1,x1,x2,x8,x9,d,e,b,g,h,i,c,a=>if b=x1 then(impl_GreatestFlow.l1 k x1 x2 x8 x9 d g h (wrap64 (i+1)) c a)else(if 0≤b then(if b<(x9.length:Int)then(if 0≤((rd_T103 x9 b).f0)then(if((rd_T103 x9 b).f0)<(a.length:Int)then(if e=true then(impl_GreatestFlow.j3 k x1 x2 x8 x9 d e g h i ((rd_T103 x9 b).f1) c a ((rd_T103 x9 b).f0) ((rd_T103 x9 b).f1) ((rd_T103 x9 b).f2) ((rd_T71 a ((rd_T103 x9 b).f0)).f0) ((rd_T71 a ((rd_T103 x9 b).f0)).f1) ((rd_T71 a ((rd_T103 x9 b).f0)).f2))else(impl_GreatestFlow.j3 k x1 x2 x8 x9 d e g h i false c a ((rd_T103 x9 b).f0) ((rd_T103 x9 b).f1) ((rd_T103 x9 b).f2) ((rd_T71 a ((rd_T103 x9 b).f0)).f0) ((rd_T71 a ((rd_T103 x9 b).f0)).f1) ((rd_T71 a ((rd_T103 x9 b).f0)).f2)))else(none))else(none))else(none))else(none))
def impl_GreatestFlow.j3:Nat→Int→Int→List Int→List (S103)→Int→Bool→List Bool→Int→Int→Bool→Int→List (S71)→Int→Bool→Bool→Int→Int→Int→Option (List Int×Bool)
  |0,_,_,_,_,_,_,_,_,_,_,_,_,_,_,_,_,_,_=>none
  |k+1,x1,x2,x8,x9,h,i,j,l,m,r,b,c,a,d,q,e,g,n=>if r=true then(if 0≤a then(if a<(x8.length:Int)then((some (x8.set (a:Int).toNat (wrap64 ((rd x8 a)-h)):List Int)).bind fun o=>(if d=true then(impl_GreatestFlow.l2 k x1 x2 o x9 h i g j l m b c)else(impl_GreatestFlow.l2 k x1 x2 o x9 h i e j l m b c)))else(none))else(none))else(if i=true then(if 0≤a then(if a<(x8.length:Int)then((some (x8.set (a:Int).toNat (wrap64 ((rd x8 a)+h)):List Int)).bind fun p=>(if d=true then(impl_GreatestFlow.l2 k x1 x2 p x9 h i g j l m b c)else(impl_GreatestFlow.l2 k x1 x2 p x9 h i e j l m b c)))else(none))else(none))else(if d=true then(if 0≤a then(if a<(x8.length:Int)then(impl_GreatestFlow.l2 k x1 x2 x8 x9 (mn h (rd x8 a)) i g j l m b c)else(none))else(none))else(if 0≤a then(if a<(x8.length:Int)then(impl_GreatestFlow.l2 k x1 x2 x8 x9 (mn h (wrap64 (n-(rd x8 a)))) i e j l m b c)else(none))else(none))))
end
def impl_GreatestFlow.f(k:Nat)(b:Int)(a:List (S71))(a1:Int)(a2:Int):Option (List Int×Bool):=(impl_areEnds.f k b a a1 a2).bind fun c=>(if c=true then(if 0≤(a.length:Int)then(if((a.length:Int):Int).toNat≤35184372088832 then(impl_GreatestFlow.l0 k a1 a2 (List.replicate ((a.length:Int):Int).toNat 0) b a)else(none))else(none))else(some (([]:List Int),false)))
theorem impl_GreatestFlow.calls(k:Nat)(B:Int)(aK:Option Addr)(ap:Nat)(i:List (S71))(a1:Int)(a2:Int)(r1:List Int)(r2:Bool)(w:World)(Y:Kd.C k71 w aK i.length i)(aj:i.length≤ap)(h:impl_GreatestFlow.f k B i a1 a2=some (r1,r2)):Calls Tryz.prog 40 #[.agg #[.int .i64 B,.slice aK i.length ap],.int .i64 a1,.int .i64 a2] w fun e w'=>∃eo:Value,e=.returned (.tuple #[eo,.bool r2])∧Kd.R (Kd.int .i64) 3 w' w.heap.size (fun _=>True) eo r1∧Below w.heap.size w w':=by
 have eQ:=Tryz.underlying65
 have eK:=Tryz.underlying103
 have eR:=Tryz.underlying71
 replace Y:=am Y
 replace aj:=am aj
 have HB:=qb w
 have H:=h
 unfold impl_GreatestFlow.f at H
 clear h
 replace H:=bm H;obtain⟨eS,A4,H⟩:=H
 replace H:=ib H;obtain⟨rfl,H⟩|⟨rfl,H⟩:=H
 ·replace H:=i0 H;obtain⟨a4,H⟩:=H
  have bE:=eq_true (of_decide_eq_true a4)
  replace H:=i0 H;obtain⟨a5,H⟩:=H
  have bF:=eq_true (of_decide_eq_true a5)
  generalize hy719:(List.replicate ((i.length:Int):Int).toNat 0:List Int)=eu at H
  have bT:=am hy719.symm
  clear hy719
  replace H:=am H
  go_enter Tryz.func40,Tryz.ntmps40
  go_wp2_with (first|((with_reducible refine gd 3 ?_);refine bx w 3 #[.int .i64 B,.slice aK i.length ap] 65 ?_;clear HB;intro an w8 c cI HB;obtain⟨aF,aG,aH,aI⟩:=cf2 c.out)|(go_at_call 66;refine cm2 (impl_areEnds.calls k B _ _ i a1 a2 true _ (cb Y HB) aj.out A4.out) ?_;intro eO hb;replace c:=b1 c hb;replace HB:=b2 hb;clear hb;obtain⟨av,aw,ax,ay⟩:=cf2 c.out)|((with_reducible refine gate_dst (N:=24) rfl ?_);refine Kd.R_make (Kd.int .i64) _ 3 rfl (N:=24) rfl 23 _ _ rfl (i.length:Int) rfl rfl Tryz.underlying23 (.int .i64 0) 8 info3 rfl (by decide) (by omega) 0 (ok:=fun _=>True) (okp:=fun _=>True) rfl (fun _ hk=>hk) trivial (asm) (Nat.le_trans (Nat.mul_le_mul_right _ (asm:(i.length:Int).toNat≤35184372088832)) (by omega)) (Below.refl _ _) (Nat.le_refl _) ?_;intro ep eV ba hb hg_ hnew_;clear hg_ hnew_;(first|rw[←bT.out]at ba|(simp only[Int.reduceToNat]at ba;rw[←bT.out]at ba));have cJ:=am (Kd.R_lower ba (below_size bel));replace c:=b1 c hb;replace HB:=b2 hb;clear hb ba)|go_quiet (first|(go_at_call 66;refine cm2 (impl_areEnds.calls k B _ _ i a1 a2 true _ (cb Y HB) aj.out A4.out) ?_;intro eO hb;replace c:=b1 c hb;replace HB:=b2 hb;clear hb;obtain⟨av,aw,ax,ay⟩:=cf2 c.out)))
  go_loopg [] k (fun kq w'=>∃(az:List Int),Aside0 (impl_GreatestFlow.l0 kq a1 a2 az B i=some (r1,r2))∧Aside0 (kq≤k)∧Aside0 (Kd.R (Kd.int .i64) 3 w' w.heap.size (fun _=>True) ep az)∧Aside0 (w'.heap[an]? =some (.cells #[.int .i64 B,(.slice aK i.length ap)] 65 (0,0)))∧Aside0 (Below w.heap.size w w'))
  case atStart=>exact⟨(eu),H,⟨Nat.le_refl _⟩,⟨rk cJ.out⟩,⟨bk c.out⟩,⟨bel⟩⟩
  case round=>
   clear H
   try clear bE;try clear a4;try clear bF;try clear a5;try clear av;try clear aw;try clear aF;try clear aG;try clear ax;try clear ay;try clear aH;try clear aI
   obtain⟨az,HA,aq,d,c,HB⟩:=hrel
   cases gk with
   |zero=>exact absurd HA.out (by simp [impl_GreatestFlow.l0])
   |succ k1=>
    have H:=HA.out
    clear HA
    simp only[impl_GreatestFlow.l0]at H
    replace H:=bm H;obtain⟨b,cB,H⟩:=H
    replace H:=i0 H;obtain⟨bh,H⟩:=H
    replace H:=i0 H;obtain⟨bi,H⟩:=H
    generalize hbq17:((rd_T103 b a2).f2)=dj at H
    have Z:=am hbq17.symm
    clear hbq17
    by_cases bj:(dj=true)
    ·subst bj
     have H1:((some (([false,true]:List Bool):List Bool)).bind fun D=>(impl_GreatestFlow.l1 k1 a1 a2 az b 1000 D (D.length:Int) 0 B i))=some (r1,r2):=by rw[if_pos rfl]at H;exact H
     clear H
     have H:=H1
     clear H1
     replace H:=bs H;obtain⟨D,bU,H⟩:=H
     replace H:=am H
     obtain⟨aN,aO,aP,aQ⟩:=cf2 c.out
     obtain⟨bO,aa,du⟩:=Kd.R_slice d.out
     subst du
     go_wp2_with (first|(go_at_call 67;refine cm (impl_reach.calls k1 B _ _ i a1 _ _ az b _ (cb Y HB) aj.out (ck (Kd.R_reads' d.out).2.2) ((Kd.R_reads' d.out).2.1) cB.out) ?_;rintro e eP ⟨cA,rfl,aR,hb⟩;have W:=am (Kd.R_lower aR (below_size bel));replace d:=rb d hb;replace c:=b1 c hb;replace HB:=b2 hb;clear hb;(try clear aR);obtain⟨df,bG,b9⟩:=Kd.R_slice W.out;subst b9;have:(0≤(a2:Int))=True:=ab;have:(a2<(b.length:Int))=True:=ab;obtain⟨aE,aM,al,L,O⟩:=at_T103 (Kd.R_reads' W.out).2.2 a2 asm asm;(try rw[←Z.out]at L);(try rw[←Z.out]at O);cases aM)|((with_reducible refine gate_dst (N:=36) rfl ?_);refine Kd.R_lit Kd.bool _ 4 ?hg (N:=36) ?hd (xs:=([false,true]:List Bool)) (inner:=[.bool false,.bool true]) (ok:=fun _=>True) (okp:=fun _=>True) ?hr ?hp (fun _ hk=>hk) trivial (Below.refl _ _) (Nat.le_refl _) (by simp) ?_;(case hd=>rfl);(case hg=>rfl);(case hr=>first|(go_simp;done)|(go_simp;rfl));(case hp=>exact(Reps.one (show Kd.M Kd.bool _ _ _ false [.bool false]from rfl) (Reps.one (show Kd.M Kd.bool _ _ _ true [.bool true]from rfl) (Reps.none _ _))));intro eT eW bc hb hg_ hnew_;clear hg_ hnew_;(first|rw[←bU.out]at bc|(simp only[Int.reduceToNat]at bc;rw[←bU.out]at bc));have bS:=am (Kd.R_lower bc (below_size bel));replace d:=rb d hb;replace W:=rb W hb;replace c:=b1 c hb;replace HB:=b2 hb;clear hb bc;obtain⟨dg,b6,dv⟩:=Kd.R_slice bS.out;subst dv)|go_quiet (first|(go_at_call 67;refine cm (impl_reach.calls k1 B _ _ i a1 _ _ az b _ (cb Y HB) aj.out (ck (Kd.R_reads' d.out).2.2) ((Kd.R_reads' d.out).2.1) cB.out) ?_;rintro e eP ⟨cA,rfl,aR,hb⟩;have W:=am (Kd.R_lower aR (below_size bel));replace d:=rb d hb;replace c:=b1 c hb;replace HB:=b2 hb;clear hb;(try clear aR);obtain⟨df,bG,b9⟩:=Kd.R_slice W.out;subst b9;have:(0≤(a2:Int))=True:=ab;have:(a2<(b.length:Int))=True:=ab;obtain⟨aE,aM,al,L,O⟩:=at_T103 (Kd.R_reads' W.out).2.2 a2 asm asm;(try rw[←Z.out]at L);(try rw[←Z.out]at O);cases aM)))
     go_loopg [10,38] k1 (fun kq cX eM w'=>∃(aW:List Int) (aY:Int) (G:Int),cX=.int .i64 aY∧eM=.int .i64 G∧Aside0 (impl_GreatestFlow.l1 kq a1 a2 aW b aY D (D.length:Int) G B i=some (r1,r2))∧Aside0 (kq≤k1)∧Aside0 (Kd.R (Kd.int .i64) 3 w' w.heap.size (fun _=>True) (.slice bO az.length aa) aW)∧Aside0 (Kd.R k103 103 w' w.heap.size (fun _=>True) (.slice (some aE) b.length bG) b)∧Aside0 (Kd.R Kd.bool 4 w' w.heap.size (fun _=>True) (.slice dg D.length b6) D)∧Aside0 (w'.heap[an]? =some (.cells #[.int .i64 B,(.slice aK i.length ap)] 65 (0,0)))∧Aside0 (Below w.heap.size w w'))
     case atStart=>exact⟨(az),(1000),(0),(es),(es),H,⟨Nat.le_refl _⟩,⟨rk d.out⟩,⟨rk W.out⟩,⟨rk bS.out⟩,⟨bk c.out⟩,⟨bel⟩⟩
     case round=>
      clear H
      try clear bE;try clear a4;try clear bF;try clear a5;try clear bh;try clear bi;try clear bj;try clear av;try clear aw;try clear aN;try clear aO;try clear aF;try clear aG;try clear ax;try clear ay;try clear aP;try clear aQ;try clear aH;try clear aI;try clear al;try clear L;try clear O
      obtain⟨aW,aY,G,rfl,rfl,HA,ar,d,u,q,c,HB⟩:=hrel
      have j:=(Kd.R_reads' d.out).1
      rw[j]at d
      (try simp only[j])
      (try simp only[j]at c)
      (try simp only[j]at u)
      (try simp only[j]at q)
      cases gk with
      |zero=>exact absurd HA.out (by simp [impl_GreatestFlow.l1])
      |succ k2=>
       have H:=HA.out
       clear HA
       simp only[impl_GreatestFlow.l1]at H
       replace H:=i1 H;obtain⟨bl,H⟩|⟨bl,H⟩:=H
       ·replace H:=i0 H;obtain⟨b0,H⟩:=H
        replace H:=i0 H;obtain⟨b3,H⟩:=H
        replace H:=am H
        have:(0≤(G:Int))=True:=ab
        have:(G<(D.length:Int))=True:=ab
        obtain⟨bX,dp,aS⟩:=Kd.at_bool (Kd.R_reads' q.out).2.2 G asm asm
        (try rw[←Z.out]at aS)
        cases dp
        go_wp2
        repeat (go_quiet (fail);try go_wp2)
        go_loopg [10,13] k2 (fun kq cX eL w'=>∃(s:List Int) (z:Int) (a:Int),cX=.int .i64 z∧eL=.int .i64 a∧Aside0 (impl_GreatestFlow.l2 kq a1 a2 s b z (rdOf false D G) a D (D.length:Int) G B i=some (r1,r2))∧Aside0 (kq≤k2)∧Aside0 (Kd.R (Kd.int .i64) 3 w' w.heap.size (fun _=>True) (.slice bO aW.length aa) s)∧Aside0 (Kd.R k103 103 w' w.heap.size (fun _=>True) (.slice (some aE) b.length bG) b)∧Aside0 (Kd.R Kd.bool 4 w' w.heap.size (fun _=>True) (.slice (some bX) D.length b6) D)∧Aside0 (w'.heap[an]? =some (.cells #[.int .i64 B,(.slice aK i.length ap)] 65 (0,0)))∧Aside0 (Below w.heap.size w w'))
        case atStart=>exact⟨(aW),(aY),(a2),(es),(es),H,⟨Nat.le_refl _⟩,⟨by(try simp only[j]);(with_reducible repeat (first|apply Kd.R_alloc|apply Kd.R_drewN|apply Kd.R_drew));exact d.out⟩,⟨by(try simp only[j]);(with_reducible repeat (first|apply Kd.R_alloc|apply Kd.R_drewN|apply Kd.R_drew));exact u.out⟩,⟨by(try simp only[j]);(with_reducible repeat (first|apply Kd.R_alloc|apply Kd.R_drewN|apply Kd.R_drew));exact q.out⟩,⟨by(try simp only[j]);(with_reducible repeat (first|refine blk_drewN ?_ _|refine blk_drew ?_|refine blk_alloc ?_ _));exact c.out⟩,⟨bel⟩⟩
        case round=>
         clear H
         try clear bE;try clear a4;try clear bF;try clear a5;try clear bh;try clear bi;try clear bj;try clear bl;try clear b0;try clear b3;try clear av;try clear aw;try clear aN;try clear aO;try clear aF;try clear aG;try clear ax;try clear ay;try clear aP;try clear aQ;try clear aH;try clear aI;try clear al;try clear L;try clear O;try clear aS
         obtain⟨s,z,a,rfl,rfl,HA,aA,d,u,q,c,HB⟩:=hrel
         have l:=(Kd.R_reads' d.out).1
         rw[l]at d
         (try simp only[l])
         (try simp only[l]at c)
         (try simp only[l]at u)
         (try simp only[l]at q)
         cases gk with
         |zero=>exact absurd HA.out (by simp [impl_GreatestFlow.l2])
         |succ k3=>
          have H:=HA.out
          clear HA
          simp only[impl_GreatestFlow.l2]at H
          replace H:=ie H;obtain⟨b4,b5,H⟩|⟨⟨eC,b4,b5⟩,H⟩:=H
          ·replace H:=am H
           go_wp2
           repeat (go_quiet (fail);try go_wp2)
           (try simp only[←j,←l])
           go_roundg k3
           case measure=>have:=aq.out;have:=ar.out;have:=aA.out;omega
           case rel=>exact⟨(s),(z),(wrap64 (G+1)),(es),(es),H,⟨by have:=aq.out;have:=ar.out;have:=aA.out;omega⟩,⟨by(try simp only[j]);(try simp only[l]);(with_reducible repeat (first|apply Kd.R_alloc|apply Kd.R_drewN|apply Kd.R_drew));exact d.out⟩,⟨by(try simp only[j]);(try simp only[l]);(with_reducible repeat (first|apply Kd.R_alloc|apply Kd.R_drewN|apply Kd.R_drew));exact u.out⟩,⟨by(try simp only[j]);(try simp only[l]);(with_reducible repeat (first|apply Kd.R_alloc|apply Kd.R_drewN|apply Kd.R_drew));exact q.out⟩,⟨by(try simp only[j]);(try simp only[l]);(with_reducible repeat (first|refine blk_drewN ?_ _|refine blk_drew ?_|refine blk_alloc ?_ _));exact c.out⟩,⟨bel⟩⟩
          ·replace H:=i0 H;obtain⟨cO,H⟩:=H
           replace H:=i0 H;obtain⟨cP,H⟩:=H
           replace H:=i0 H;obtain⟨cQ,H⟩:=H
           replace H:=i0 H;obtain⟨cR,H⟩:=H
           have bR:=am H
           clear H
           have:(0≤(a:Int))=True:=ab
           have:(a<(b.length:Int))=True:=ab
           obtain⟨cL,dq,cy,bd,be⟩:=at_T103 (Kd.R_reads' u.out).2.2 a asm asm
           (try rw[←Z.out]at bd)
           (try rw[←Z.out]at be)
           obtain rfl:aE=cL:=(by injection dq)
           go_upto_region 16 with (first|((with_reducible refine gd 14 ?_);refine by_ w 14 #[.int .i64 0,.bool false,.bool false] 103 ?_;clear HB;intro r hg cY m bf hb HB;obtain⟨cK,E⟩:=qn hg c;replace d:=rb d hb;replace u:=am (Kd.R_below (Kd.R_elderB (rk u.out) r (Nat.le_of_eq hg.symm)) hb);replace q:=rb q hb;replace c:=b1 c hb;clear hb hg;obtain⟨_,_⟩:=qo E;obtain⟨cd,ce,cf,co,cp,cq⟩:=cf3 m.out;obtain⟨cg,ch,ct,cu⟩:=cf2 c.out;have:(0≤(((rd_T103 b a).f0):Int))=True:=ab;have:(((rd_T103 b a).f0)<(i.length:Int))=True:=ab;obtain⟨au,dr,A,P,T⟩:=at_T71 Y.out ((rd_T103 b a).f0) asm asm;cases dr;have I:au.block≠r:=Nat.ne_of_lt (Nat.lt_of_lt_of_le (by have:=World.block_lt_of_cell? _ _ A;first|rwa [add_block]at this|exact this) bf.out);have J:au.block≠r:=Nat.ne_of_lt (Nat.lt_of_lt_of_le (by have:=World.block_lt_of_cell? _ _ A;first|rwa [add_block]at this|exact this) bf.out);have K:au.block≠r:=Nat.ne_of_lt (Nat.lt_of_lt_of_le (by have:=World.block_lt_of_cell? _ _ A;first|rwa [add_block]at this|exact this) bf.out);replace A:=hcl HB.out A;replace P:=hcl HB.out P;replace T:=hcl HB.out T;replace A:=(cell_far (p:=⟨r,0,none⟩) (by first|(rw[add_block];exact I)|(show(Addr.add _ _).block≠_;rw[add_block];exact I)|exact I) (.int .i64 ((rd_T103 b a).f0))).trans A;replace P:=(cell_far (p:=⟨r,0,none⟩) (by first|(rw[add_block];exact I)|(show(Addr.add _ _).block≠_;rw[add_block];exact I)|exact I) (.int .i64 ((rd_T103 b a).f0))).trans P;replace T:=(cell_far (p:=⟨r,0,none⟩) (by first|(rw[add_block];exact I)|(show(Addr.add _ _).block≠_;rw[add_block];exact I)|exact I) (.int .i64 ((rd_T103 b a).f0))).trans T;replace A:=(cell_far (p:=⟨r,1,none⟩) (by first|(rw[add_block];exact J)|(show(Addr.add _ _).block≠_;rw[add_block];exact J)|exact J) (.bool ((rd_T103 b a).f1))).trans A;replace P:=(cell_far (p:=⟨r,1,none⟩) (by first|(rw[add_block];exact J)|(show(Addr.add _ _).block≠_;rw[add_block];exact J)|exact J) (.bool ((rd_T103 b a).f1))).trans P;replace T:=(cell_far (p:=⟨r,1,none⟩) (by first|(rw[add_block];exact J)|(show(Addr.add _ _).block≠_;rw[add_block];exact J)|exact J) (.bool ((rd_T103 b a).f1))).trans T;replace A:=(cell_far (p:=⟨r,2,none⟩) (by first|(rw[add_block];exact K)|(show(Addr.add _ _).block≠_;rw[add_block];exact K)|exact K) (.bool ((rd_T103 b a).f2))).trans A;replace P:=(cell_far (p:=⟨r,2,none⟩) (by first|(rw[add_block];exact K)|(show(Addr.add _ _).block≠_;rw[add_block];exact K)|exact K) (.bool ((rd_T103 b a).f2))).trans P;replace T:=(cell_far (p:=⟨r,2,none⟩) (by first|(rw[add_block];exact K)|(show(Addr.add _ _).block≠_;rw[add_block];exact K)|exact K) (.bool ((rd_T103 b a).f2))).trans T;(try have el:=fun(n_:Nat)=>(show(((((cY.drewN n_).setCell ⟨r,0,none⟩ (.int .i64 ((rd_T103 b a).f0))).setCell ⟨r,1,none⟩ (.bool ((rd_T103 b a).f1))).setCell ⟨r,2,none⟩ (.bool ((rd_T103 b a).f2)))).cell? _=some _ from A));(try have em:=fun(n_:Nat)=>(show(((((cY.drewN n_).setCell ⟨r,0,none⟩ (.int .i64 ((rd_T103 b a).f0))).setCell ⟨r,1,none⟩ (.bool ((rd_T103 b a).f1))).setCell ⟨r,2,none⟩ (.bool ((rd_T103 b a).f2)))).cell? _=some _ from P));(try have en:=fun(n_:Nat)=>(show(((((cY.drewN n_).setCell ⟨r,0,none⟩ (.int .i64 ((rd_T103 b a).f0))).setCell ⟨r,1,none⟩ (.bool ((rd_T103 b a).f1))).setCell ⟨r,2,none⟩ (.bool ((rd_T103 b a).f2)))).cell? _=some _ from T));clear I;clear J;clear K)|((with_reducible refine gd 15 ?_);refine by_ w 15 #[.int .i64 0,.int .i64 0,.int .i64 0] 71 ?_;clear HB;intro y hg eX n ez hb HB;obtain⟨X,U⟩:=qn hg c;have x:=am ((by rw[hg];exact Nat.ne_of_lt (blk_lt (g:=r) (o:=.cells #[.int .i64 ((rd_T103 b a).f0),.bool ((rd_T103 b a).f1),.bool ((rd_T103 b a).f2)] 103 (0,0)) (bz m)):r≠y));have bg:=am ((by rw[hg];exact Nat.ne_of_gt (blk_lt (g:=r) (o:=.cells #[.int .i64 ((rd_T103 b a).f0),.bool ((rd_T103 b a).f1),.bool ((rd_T103 b a).f2)] 103 (0,0)) (bz m)):y≠r));replace d:=am (Kd.R_below (kf (Kd.R_types d.out m.out (by decide)) (fun _ h_=>h_.1)) hb);replace u:=am (Kd.R_below (by exact rk (Kd.R_mono (Kd.R_far (p:=⟨r,2,none⟩) (Kd.R_far (p:=⟨r,1,none⟩) (Kd.R_far (p:=⟨r,0,none⟩) (Kd.R_mono u.out (fun k_ hk=>(⟨hk,hk.2⟩:_∧k_≠r))) (fun _ hk=>hk.2) (.int .i64 ((rd_T103 b a).f0))) (fun _ hk=>hk.2) (.bool ((rd_T103 b a).f1))) (fun _ hk=>hk.2) (.bool ((rd_T103 b a).f2))) (fun _ h_=>h_.1))) hb);replace q:=am (Kd.R_below (kf (Kd.R_types q.out m.out (by decide)) (fun _ h_=>h_.1)) hb);replace c:=b1 c hb;replace m:=bq m hb;clear hb hg;obtain⟨_,_⟩:=qo U;obtain⟨_,_⟩:=qo bg;obtain⟨ci,cj,cn,cv,cw,cx⟩:=cf3 n.out)|go_quiet (fail))
           (try simp only[Act.put,List.setIfInBounds_toArray,List.set_cons_zero,List.set_cons_succ])
           go_cut [66] (fun eN wc=>∃(kq:Nat) (aZ:Bool),eN=.bool aZ∧Aside0 (impl_GreatestFlow.j3 kq a1 a2 s b z (rdOf false D G) D (D.length:Int) G aZ B i ((rd_T103 b a).f0) ((rd_T103 b a).f1) ((rd_T103 b a).f2) ((rd_T71 i ((rd_T103 b a).f0)).f0) ((rd_T71 i ((rd_T103 b a).f0)).f1) ((rd_T71 i ((rd_T103 b a).f0)).f2)=some (r1,r2))∧Aside0 (kq≤k3)∧Aside0 (Kd.R (Kd.int .i64) 3 wc w.heap.size (fun _=>True) (.slice bO s.length aa) s)∧Aside0 (Kd.R k103 103 wc w.heap.size (fun k_=>k_≠r) (.slice (some aE) b.length bG) b)∧Aside0 (Kd.R Kd.bool 4 wc w.heap.size (fun _=>True) (.slice (some bX) D.length b6) D)∧Aside0 (wc.heap[an]? =some (.cells #[.int .i64 B,(.slice (some au) i.length ap)] 65 (0,0)))∧Aside0 (wc.heap[r]? =some (.cells #[.int .i64 ((rd_T103 b a).f0),.bool ((rd_T103 b a).f1),.bool ((rd_T103 b a).f2)] 103 (0,0)))∧Aside0 (wc.heap[y]? =some (.cells #[.int .i64 ((rd_T71 i ((rd_T103 b a).f0)).f0),.int .i64 ((rd_T71 i ((rd_T103 b a).f0)).f1),.int .i64 ((rd_T71 i ((rd_T103 b a).f0)).f2)] 71 (0,0)))∧Aside0 (Below w.heap.size w wc))
           case first=>
            have H:=bR.out
            clear bR
            generalize hbq43:(rdOf false D G)=bY at H
            have ak:=am hbq43.symm
            clear hbq43
            (try rw[←ak.out])
            (try rw[←ak.out])
            by_cases bJ:(bY)=true
            ·rw[if_pos bJ]at H
             have bn:(bY)=true:=bJ
             have EB:=am (show(rdOf false D G)=true from ak.out.symm.trans bn)
             clear bJ
             replace H:=am H
             obtain⟨_,_⟩:=qo E
             obtain⟨_,_⟩:=qo x
             obtain⟨_,_,_,_,_,_⟩:=cf3 m.out
             go_wp2
             repeat (go_quiet (fail);try go_wp2)
             refine impl_GreatestFlow.slot_back 12 EB.out rfl ?_
             refine impl_GreatestFlow.slot_back 41 EB.out rfl ?_
             simp only[List.set_cons_zero,List.set_cons_succ]
             go_meet
             case rel=>exact⟨k3,((rd_T103 b a).f1),(es),(by first|exact H|(rw[←ak.out];exact H)),⟨by have:=aq.out;have:=ar.out;have:=aA.out;first|omega|exact Nat.le_refl _⟩,⟨by(try simp only[j]);(try simp only[l]);(with_reducible repeat (first|apply Kd.R_alloc|apply Kd.R_drewN|apply Kd.R_drew));exact Kd.R_mono (Kd.R_far (p:=⟨y,2,none⟩) (Kd.R_far (p:=⟨y,1,none⟩) (Kd.R_far (p:=⟨y,0,none⟩) (Kd.R_types d.out n.out (by decide)) (fun _ hk=>hk.2) (.int .i64 ((rd_T71 i ((rd_T103 b a).f0)).f0))) (fun _ hk=>hk.2) (.int .i64 ((rd_T71 i ((rd_T103 b a).f0)).f1))) (fun _ hk=>hk.2) (.int .i64 ((rd_T71 i ((rd_T103 b a).f0)).f2))) (fun _ hk=>trivial)⟩,⟨by(try simp only[j]);(try simp only[l]);(with_reducible repeat (first|apply Kd.R_alloc|apply Kd.R_drewN|apply Kd.R_drew));exact Kd.R_mono (Kd.R_far (p:=⟨y,2,none⟩) (Kd.R_far (p:=⟨y,1,none⟩) (Kd.R_far (p:=⟨y,0,none⟩) (Kd.R_types u.out n.out (by decide)) (fun _ hk=>hk.2) (.int .i64 ((rd_T71 i ((rd_T103 b a).f0)).f0))) (fun _ hk=>hk.2) (.int .i64 ((rd_T71 i ((rd_T103 b a).f0)).f1))) (fun _ hk=>hk.2) (.int .i64 ((rd_T71 i ((rd_T103 b a).f0)).f2))) (fun _ hk=>hk.1.2)⟩,⟨by(try simp only[j]);(try simp only[l]);(with_reducible repeat (first|apply Kd.R_alloc|apply Kd.R_drewN|apply Kd.R_drew));exact Kd.R_mono (Kd.R_far (p:=⟨y,2,none⟩) (Kd.R_far (p:=⟨y,1,none⟩) (Kd.R_far (p:=⟨y,0,none⟩) (Kd.R_types q.out n.out (by decide)) (fun _ hk=>hk.2) (.int .i64 ((rd_T71 i ((rd_T103 b a).f0)).f0))) (fun _ hk=>hk.2) (.int .i64 ((rd_T71 i ((rd_T103 b a).f0)).f1))) (fun _ hk=>hk.2) (.int .i64 ((rd_T71 i ((rd_T103 b a).f0)).f2))) (fun _ hk=>trivial)⟩,⟨by(try simp only[j]);(try simp only[l]);(with_reducible repeat (first|refine blk_drewN ?_ _|refine blk_drew ?_|refine blk_alloc ?_ _));refine blk_far ?_ X.out _;(with_reducible repeat (first|refine blk_drewN ?_ _|refine blk_drew ?_|refine blk_alloc ?_ _));refine blk_far ?_ X.out _;(with_reducible repeat (first|refine blk_drewN ?_ _|refine blk_drew ?_|refine blk_alloc ?_ _));refine blk_far ?_ X.out _;(with_reducible repeat (first|refine blk_drewN ?_ _|refine blk_drew ?_|refine blk_alloc ?_ _));exact c.out⟩,⟨by(try simp only[j]);(try simp only[l]);(with_reducible repeat (first|refine blk_drewN ?_ _|refine blk_drew ?_|refine blk_alloc ?_ _));refine blk_far ?_ x.out _;(with_reducible repeat (first|refine blk_drewN ?_ _|refine blk_drew ?_|refine blk_alloc ?_ _));refine blk_far ?_ x.out _;(with_reducible repeat (first|refine blk_drewN ?_ _|refine blk_drew ?_|refine blk_alloc ?_ _));refine blk_far ?_ x.out _;(with_reducible repeat (first|refine blk_drewN ?_ _|refine blk_drew ?_|refine blk_alloc ?_ _));exact m.out⟩,⟨by(try simp only[j]);(try simp only[l]);(with_reducible repeat (first|refine blk_drewN ?_ _|refine blk_drew ?_|refine blk_alloc ?_ _));refine blk_put (cs:=#[.int .i64 ((rd_T71 i ((rd_T103 b a).f0)).f0),.int .i64 ((rd_T71 i ((rd_T103 b a).f0)).f1),.int .i64 0]) ?_ 2 _ rfl;(with_reducible repeat (first|refine blk_drewN ?_ _|refine blk_drew ?_|refine blk_alloc ?_ _));refine blk_put (cs:=#[.int .i64 ((rd_T71 i ((rd_T103 b a).f0)).f0),.int .i64 0,.int .i64 0]) ?_ 1 _ rfl;(with_reducible repeat (first|refine blk_drewN ?_ _|refine blk_drew ?_|refine blk_alloc ?_ _));refine blk_put (cs:=#[.int .i64 0,.int .i64 0,.int .i64 0]) ?_ 0 _ rfl;(with_reducible repeat (first|refine blk_drewN ?_ _|refine blk_drew ?_|refine blk_alloc ?_ _));exact n.out⟩,⟨bel⟩⟩
            ·rw[if_neg bJ]at H
             have bn:(bY)=false:=by simpa using bJ
             have EB:=am (show(rdOf false D G)=false from ak.out.symm.trans bn)
             clear bJ
             replace H:=am H
             go_wp2
             repeat (go_quiet (fail);try go_wp2)
             refine impl_GreatestFlow.slot_back 12 EB.out rfl ?_
             refine impl_GreatestFlow.slot_back 41 EB.out rfl ?_
             simp only[List.set_cons_zero,List.set_cons_succ]
             go_meet
             case rel=>exact⟨k3,(false),(es),(by first|exact H|(rw[←ak.out];exact H)),⟨by have:=aq.out;have:=ar.out;have:=aA.out;first|omega|exact Nat.le_refl _⟩,⟨by(try simp only[j]);(try simp only[l]);(with_reducible repeat (first|apply Kd.R_alloc|apply Kd.R_drewN|apply Kd.R_drew));exact Kd.R_mono (Kd.R_far (p:=⟨y,2,none⟩) (Kd.R_far (p:=⟨y,1,none⟩) (Kd.R_far (p:=⟨y,0,none⟩) (Kd.R_types d.out n.out (by decide)) (fun _ hk=>hk.2) (.int .i64 ((rd_T71 i ((rd_T103 b a).f0)).f0))) (fun _ hk=>hk.2) (.int .i64 ((rd_T71 i ((rd_T103 b a).f0)).f1))) (fun _ hk=>hk.2) (.int .i64 ((rd_T71 i ((rd_T103 b a).f0)).f2))) (fun _ hk=>trivial)⟩,⟨by(try simp only[j]);(try simp only[l]);(with_reducible repeat (first|apply Kd.R_alloc|apply Kd.R_drewN|apply Kd.R_drew));exact Kd.R_mono (Kd.R_far (p:=⟨y,2,none⟩) (Kd.R_far (p:=⟨y,1,none⟩) (Kd.R_far (p:=⟨y,0,none⟩) (Kd.R_types u.out n.out (by decide)) (fun _ hk=>hk.2) (.int .i64 ((rd_T71 i ((rd_T103 b a).f0)).f0))) (fun _ hk=>hk.2) (.int .i64 ((rd_T71 i ((rd_T103 b a).f0)).f1))) (fun _ hk=>hk.2) (.int .i64 ((rd_T71 i ((rd_T103 b a).f0)).f2))) (fun _ hk=>hk.1.2)⟩,⟨by(try simp only[j]);(try simp only[l]);(with_reducible repeat (first|apply Kd.R_alloc|apply Kd.R_drewN|apply Kd.R_drew));exact Kd.R_mono (Kd.R_far (p:=⟨y,2,none⟩) (Kd.R_far (p:=⟨y,1,none⟩) (Kd.R_far (p:=⟨y,0,none⟩) (Kd.R_types q.out n.out (by decide)) (fun _ hk=>hk.2) (.int .i64 ((rd_T71 i ((rd_T103 b a).f0)).f0))) (fun _ hk=>hk.2) (.int .i64 ((rd_T71 i ((rd_T103 b a).f0)).f1))) (fun _ hk=>hk.2) (.int .i64 ((rd_T71 i ((rd_T103 b a).f0)).f2))) (fun _ hk=>trivial)⟩,⟨by(try simp only[j]);(try simp only[l]);(with_reducible repeat (first|refine blk_drewN ?_ _|refine blk_drew ?_|refine blk_alloc ?_ _));refine blk_far ?_ X.out _;(with_reducible repeat (first|refine blk_drewN ?_ _|refine blk_drew ?_|refine blk_alloc ?_ _));refine blk_far ?_ X.out _;(with_reducible repeat (first|refine blk_drewN ?_ _|refine blk_drew ?_|refine blk_alloc ?_ _));refine blk_far ?_ X.out _;(with_reducible repeat (first|refine blk_drewN ?_ _|refine blk_drew ?_|refine blk_alloc ?_ _));exact c.out⟩,⟨by(try simp only[j]);(try simp only[l]);(with_reducible repeat (first|refine blk_drewN ?_ _|refine blk_drew ?_|refine blk_alloc ?_ _));refine blk_far ?_ x.out _;(with_reducible repeat (first|refine blk_drewN ?_ _|refine blk_drew ?_|refine blk_alloc ?_ _));refine blk_far ?_ x.out _;(with_reducible repeat (first|refine blk_drewN ?_ _|refine blk_drew ?_|refine blk_alloc ?_ _));refine blk_far ?_ x.out _;(with_reducible repeat (first|refine blk_drewN ?_ _|refine blk_drew ?_|refine blk_alloc ?_ _));exact m.out⟩,⟨by(try simp only[j]);(try simp only[l]);(with_reducible repeat (first|refine blk_drewN ?_ _|refine blk_drew ?_|refine blk_alloc ?_ _));refine blk_put (cs:=#[.int .i64 ((rd_T71 i ((rd_T103 b a).f0)).f0),.int .i64 ((rd_T71 i ((rd_T103 b a).f0)).f1),.int .i64 0]) ?_ 2 _ rfl;(with_reducible repeat (first|refine blk_drewN ?_ _|refine blk_drew ?_|refine blk_alloc ?_ _));refine blk_put (cs:=#[.int .i64 ((rd_T71 i ((rd_T103 b a).f0)).f0),.int .i64 0,.int .i64 0]) ?_ 1 _ rfl;(with_reducible repeat (first|refine blk_drewN ?_ _|refine blk_drew ?_|refine blk_alloc ?_ _));refine blk_put (cs:=#[.int .i64 0,.int .i64 0,.int .i64 0]) ?_ 0 _ rfl;(with_reducible repeat (first|refine blk_drewN ?_ _|refine blk_drew ?_|refine blk_alloc ?_ _));exact n.out⟩,⟨bel⟩⟩
           case rest=>
            clear bR
            try clear bE;try clear a4;try clear bF;try clear a5;try clear bh;try clear bi;try clear bj;try clear bl;try clear b0;try clear b3;try clear eC;try clear b4;try clear b5;try clear cO;try clear cP;try clear cQ;try clear cR;try clear av;try clear aw;try clear aN;try clear aO;try clear cd;try clear ce;try clear cf;try clear cg;try clear ch;try clear ci;try clear cj;try clear cn;try clear aF;try clear aG;try clear ax;try clear ay;try clear aP;try clear aQ;try clear co;try clear cp;try clear cq;try clear ct;try clear cu;try clear cv;try clear cw;try clear cx;try clear aH;try clear aI;try clear al;try clear L;try clear O;try clear aS;try clear cy;try clear bd;try clear be;try clear A;try clear P;try clear T
            obtain⟨kq,aZ,rfl,HA,ao,d,u,q,c,m,n,HB⟩:=hcut
            cases kq with
            |zero=>exact absurd HA.out (by simp [impl_GreatestFlow.j3])
            |succ aV=>
             have H:=HA.out
             clear HA
             simp only[impl_GreatestFlow.j3]at H
             replace H:=ib H;obtain⟨rfl,H⟩|⟨rfl,H⟩:=H
             ·replace H:=i0 H;obtain⟨eD,H⟩:=H
              replace H:=i0 H;obtain⟨eE,H⟩:=H
              replace H:=bs H;obtain⟨bH,bV,H⟩:=H
              by_cases bK:((rd_T103 b a).f1)=true
              ·rw[if_pos bK]at H
               have cS:((rd_T103 b a).f1)=true:=bK
               clear bK
               replace H:=am H
               obtain⟨_,_⟩:=qo E
               obtain⟨_,_⟩:=qo x
               obtain⟨_,_,_,_,_,_⟩:=cf3 m.out
               have:(0≤(((rd_T103 b a).f0):Int))=True:=ab
               have:(((rd_T103 b a).f0)<(s.length:Int))=True:=ab
               obtain⟨cM,b7,aT⟩:=Kd.at_int (Kd.R_reads' d.out).2.2 ((rd_T103 b a).f0) asm asm
               cases b7
               have bp:0≤(((rd_T103 b a).f0):Int):=asm
               have bu:(((rd_T103 b a).f0):Int)<((s.length:Int):Int):=asm
               obtain⟨aB,dm,a6,a8,ca,dk,a0⟩:=Kd.R_form d.out (by omega)
               (first|cases a6|(injection a6 with ea_ en_ ec_;(first|subst ea_|(injection ea_ with ea_;subst ea_));subst ec_;clear en_))
               have bP:=am a8
               have dh:=am a0
               clear a8 ca a0
               (first|simp only[add_plain]at aT|skip)
               obtain⟨cE,cC⟩:=Kd.R_celln 0 d.out (((rd_T103 b a).f0):Int) bp bu
               replace bp:=eq_true bp
               replace bu:=eq_true bu
               have bA:=Kd.R_putg d.out (((rd_T103 b a).f0):Int) (wrap64 ((rd s ((rd_T103 b a).f0))-z))
               go_wp2_with (first|((with_reducible refine gs 3 79 ?_);(try (rw[drewN_self wc];generalize hq_:World.drewN wc _=wc;have ac:=am (Kd.R_at hq_ d.out);have ad:=am (Kd.R_at hq_ u.out);have ae:=am (Kd.R_at hq_ q.out);have af:=am (blk_at hq_ c.out);have ag:=am (blk_at hq_ m.out);have ah:=am (blk_at hq_ n.out);have ai:=am (below_at hq_ HB.out);clear hq_ d u q c m n HB;have d:=ac;have u:=ad;have q:=ae;have c:=af;have m:=ag;have n:=ah;have HB:=ai;clear ac ad ae af ag ah ai;(try (have bA:=Kd.R_putg d.out (((rd_T103 b a).f0):Int) (wrap64 ((rd s ((rd_T103 b a).f0))-z))))));refine store_event (t:=3) (p:=79) (v:=?vo_w57) (w1:=(wc.setCell ⟨aB,(((rd_T103 b a).f0):Int).toNat,none⟩ (.int .i64 (wrap64 ((rd s ((rd_T103 b a).f0))-z))))) ?hg ?ho ?hn ?hr ?_;(case ho=>rfl);(case hg=>rfl);(case hn=>rfl);(case hr=>first|(go_simp;done)|(go_simp;rfl));intro cZ hw;have hg:wc.grownBy cZ (some aB):=(by rw[hw];exact bA.2);have hp_:Kd.R (Kd.int .i64) 3 cZ w.heap.size (fun _=>True) (.slice (some ⟨aB,0,none⟩) s.length aa) bH:=(by rw[hw,bV.out];exact bA.1);clear bA;have ac:=am (hp_);have ad:=am (Kd.R_over' (v:=(.slice (some ⟨aB,0,none⟩) s.length aa)) (rk u.out) (Kd.R_typed d.out) (by decide) hg);have ae:=am (Kd.R_over' (v:=(.slice (some ⟨aB,0,none⟩) s.length aa)) (rk q.out) (Kd.R_typed d.out) (by decide) hg);have af:=am (blk_grown (g:=an) (o:=.cells #[.int .i64 B,.slice (some au) i.length ap] 65 (0,0)) (bk c.out) hg (Kd.R_ne d.out c.out (by decide)));have ag:=am (blk_grown (g:=r) (o:=.cells #[.int .i64 ((rd_T103 b a).f0),.bool ((rd_T103 b a).f1),.bool ((rd_T103 b a).f2)] 103 (0,0)) (bk m.out) hg (Kd.R_ne d.out m.out (by decide)));have ah:=am (blk_grown (g:=y) (o:=.cells #[.int .i64 ((rd_T71 i ((rd_T103 b a).f0)).f0),.int .i64 ((rd_T71 i ((rd_T103 b a).f0)).f1),.int .i64 ((rd_T71 i ((rd_T103 b a).f0)).f2)] 71 (0,0)) (bk n.out) hg (Kd.R_ne d.out n.out (by decide)));have ai:=am ((by rw[hw];exact below_set (HB.out) bP.out:Below w.heap.size w cZ));clear d;clear u;clear q;clear c;clear m;clear n;clear HB;have d:=ac;have u:=ad;have q:=ae;have c:=af;have m:=ag;have n:=ah;have HB:=ai;clear ac ad ae af ag ah ai;clear hg hw hp_;obtain⟨dw,dx,dy,dU,dV,dW⟩:=cf3 m.out;obtain⟨_,_⟩:=qo U;obtain⟨dz,dA,dB,dX,dY,dZ⟩:=cf3 n.out)|go_quiet (fail))
               (try simp only[←l])
               go_roundg aV
               case measure=>have:=aq.out;have:=ar.out;have:=aA.out;have:=ao.out;omega
               case rel=>exact⟨(bH),(z),(((rd_T71 i ((rd_T103 b a).f0)).f1)),(es),(es),H,⟨by have:=aq.out;have:=ar.out;have:=aA.out;have:=ao.out;omega⟩,⟨by(try simp only[j]);(try simp only[l]);(with_reducible repeat (first|apply Kd.R_alloc|apply Kd.R_drewN|apply Kd.R_drew));exact d.out⟩,⟨by(try simp only[j]);(try simp only[l]);(with_reducible repeat (first|apply Kd.R_alloc|apply Kd.R_drewN|apply Kd.R_drew));exact Kd.R_mono u.out (fun _ hk=>trivial)⟩,⟨by(try simp only[j]);(try simp only[l]);(with_reducible repeat (first|apply Kd.R_alloc|apply Kd.R_drewN|apply Kd.R_drew));exact q.out⟩,⟨by(try simp only[j]);(try simp only[l]);(with_reducible repeat (first|refine blk_drewN ?_ _|refine blk_drew ?_|refine blk_alloc ?_ _));exact c.out⟩,⟨bel⟩⟩
              ·rw[if_neg bK]at H
               have cS:((rd_T103 b a).f1)=false:=by simpa using bK
               clear bK
               replace H:=am H
               obtain⟨_,_⟩:=qo E
               obtain⟨_,_⟩:=qo x
               obtain⟨_,_,_,_,_,_⟩:=cf3 m.out
               have:(0≤(((rd_T103 b a).f0):Int))=True:=ab
               have:(((rd_T103 b a).f0)<(s.length:Int))=True:=ab
               obtain⟨cM,b7,aT⟩:=Kd.at_int (Kd.R_reads' d.out).2.2 ((rd_T103 b a).f0) asm asm
               cases b7
               have bp:0≤(((rd_T103 b a).f0):Int):=asm
               have bu:(((rd_T103 b a).f0):Int)<((s.length:Int):Int):=asm
               obtain⟨aB,dm,a6,a8,ca,dk,a0⟩:=Kd.R_form d.out (by omega)
               (first|cases a6|(injection a6 with ea_ en_ ec_;(first|subst ea_|(injection ea_ with ea_;subst ea_));subst ec_;clear en_))
               have bP:=am a8
               have dh:=am a0
               clear a8 ca a0
               (first|simp only[add_plain]at aT|skip)
               obtain⟨cE,cC⟩:=Kd.R_celln 0 d.out (((rd_T103 b a).f0):Int) bp bu
               replace bp:=eq_true bp
               replace bu:=eq_true bu
               have bB:=Kd.R_putg d.out (((rd_T103 b a).f0):Int) (wrap64 ((rd s ((rd_T103 b a).f0))-z))
               go_wp2_with (first|((with_reducible refine gate_store (t:=3) (p:=79) rfl ?_);(try (rw[drewN_self wc];generalize hq_:World.drewN wc _=wc;have ac:=am (Kd.R_at hq_ d.out);have ad:=am (Kd.R_at hq_ u.out);have ae:=am (Kd.R_at hq_ q.out);have af:=am (blk_at hq_ c.out);have ag:=am (blk_at hq_ m.out);have ah:=am (blk_at hq_ n.out);have ai:=am (below_at hq_ HB.out);clear hq_ d u q c m n HB;have d:=ac;have u:=ad;have q:=ae;have c:=af;have m:=ag;have n:=ah;have HB:=ai;clear ac ad ae af ag ah ai;(try (have bB:=Kd.R_putg d.out (((rd_T103 b a).f0):Int) (wrap64 ((rd s ((rd_T103 b a).f0))-z))))));refine sv 3 79 ?_;intro c0 hw;have hg:wc.grownBy c0 (some aB):=(by rw[hw];exact bB.2);have hp_:Kd.R (Kd.int .i64) 3 c0 w.heap.size (fun _=>True) (.slice (some ⟨aB,0,none⟩) s.length aa) bH:=(by rw[hw,bV.out];exact bB.1);clear bB;have ac:=am (hp_);have ad:=am (Kd.R_over' (v:=(.slice (some ⟨aB,0,none⟩) s.length aa)) (rk u.out) (Kd.R_typed d.out) (by decide) hg);have ae:=am (Kd.R_over' (v:=(.slice (some ⟨aB,0,none⟩) s.length aa)) (rk q.out) (Kd.R_typed d.out) (by decide) hg);have af:=am (blk_grown (g:=an) (o:=.cells #[.int .i64 B,.slice (some au) i.length ap] 65 (0,0)) (bk c.out) hg (Kd.R_ne d.out c.out (by decide)));have ag:=am (blk_grown (g:=r) (o:=.cells #[.int .i64 ((rd_T103 b a).f0),.bool ((rd_T103 b a).f1),.bool ((rd_T103 b a).f2)] 103 (0,0)) (bk m.out) hg (Kd.R_ne d.out m.out (by decide)));have ah:=am (blk_grown (g:=y) (o:=.cells #[.int .i64 ((rd_T71 i ((rd_T103 b a).f0)).f0),.int .i64 ((rd_T71 i ((rd_T103 b a).f0)).f1),.int .i64 ((rd_T71 i ((rd_T103 b a).f0)).f2)] 71 (0,0)) (bk n.out) hg (Kd.R_ne d.out n.out (by decide)));have ai:=am ((by rw[hw];exact below_set (HB.out) bP.out:Below w.heap.size w c0));clear d;clear u;clear q;clear c;clear m;clear n;clear HB;have d:=ac;have u:=ad;have q:=ae;have c:=af;have m:=ag;have n:=ah;have HB:=ai;clear ac ad ae af ag ah ai;clear hg hw hp_;obtain⟨dC,dD,dE,d0,d1,d2⟩:=cf3 m.out;obtain⟨_,_⟩:=qo U;obtain⟨dF,dG,dH,d3,d4,d5⟩:=cf3 n.out)|go_quiet (fail))
               (try simp only[←l])
               go_roundg aV
               case measure=>have:=aq.out;have:=ar.out;have:=aA.out;have:=ao.out;omega
               case rel=>exact⟨(bH),(z),(((rd_T71 i ((rd_T103 b a).f0)).f0)),(es),(es),H,⟨by have:=aq.out;have:=ar.out;have:=aA.out;have:=ao.out;omega⟩,⟨by(try simp only[j]);(try simp only[l]);(with_reducible repeat (first|apply Kd.R_alloc|apply Kd.R_drewN|apply Kd.R_drew));exact d.out⟩,⟨by(try simp only[j]);(try simp only[l]);(with_reducible repeat (first|apply Kd.R_alloc|apply Kd.R_drewN|apply Kd.R_drew));exact Kd.R_mono u.out (fun _ hk=>trivial)⟩,⟨by(try simp only[j]);(try simp only[l]);(with_reducible repeat (first|apply Kd.R_alloc|apply Kd.R_drewN|apply Kd.R_drew));exact q.out⟩,⟨by(try simp only[j]);(try simp only[l]);(with_reducible repeat (first|refine blk_drewN ?_ _|refine blk_drew ?_|refine blk_alloc ?_ _));exact c.out⟩,⟨bel⟩⟩
             ·generalize hbq69:(rdOf false D G)=bZ at H
              have aD:=am hbq69.symm
              clear hbq69
              (try rw[←aD.out])
              by_cases bL:(bZ)=true
              ·rw[if_pos bL]at H
               have aL:(bZ)=true:=bL
               have EB:=am (show(rdOf false D G)=true from aD.out.symm.trans aL)
               (try rw[aL])
               clear bL
               replace H:=i0 H;obtain⟨eF,H⟩:=H
               replace H:=i0 H;obtain⟨eG,H⟩:=H
               replace H:=bs H;obtain⟨bI,bW,H⟩:=H
               by_cases bM:((rd_T103 b a).f1)=true
               ·rw[if_pos bM]at H
                have cT:((rd_T103 b a).f1)=true:=bM
                clear bM
                replace H:=am H
                obtain⟨_,_⟩:=qo E
                obtain⟨_,_⟩:=qo x
                obtain⟨_,_,_,_,_,_⟩:=cf3 m.out
                have:(0≤(((rd_T103 b a).f0):Int))=True:=ab
                have:(((rd_T103 b a).f0)<(s.length:Int))=True:=ab
                obtain⟨cN,b8,aU⟩:=Kd.at_int (Kd.R_reads' d.out).2.2 ((rd_T103 b a).f0) asm asm
                cases b8
                have br:0≤(((rd_T103 b a).f0):Int):=asm
                have bw:(((rd_T103 b a).f0):Int)<((s.length:Int):Int):=asm
                obtain⟨aC,dn,a7,a9,cc,dl,a3⟩:=Kd.R_form d.out (by omega)
                (first|cases a7|(injection a7 with ea_ en_ ec_;(first|subst ea_|(injection ea_ with ea_;subst ea_));subst ec_;clear en_))
                have bQ:=am a9
                have di:=am a3
                clear a9 cc a3
                (first|simp only[add_plain]at aU|skip)
                obtain⟨cF,cD⟩:=Kd.R_celln 0 d.out (((rd_T103 b a).f0):Int) br bw
                replace br:=eq_true br
                replace bw:=eq_true bw
                have bC:=Kd.R_putg d.out (((rd_T103 b a).f0):Int) (wrap64 ((rd s ((rd_T103 b a).f0))+z))
                go_wp2_with (first|((with_reducible refine gs 3 89 ?_);(try (rw[drewN_self wc];generalize hq_:World.drewN wc _=wc;have ac:=am (Kd.R_at hq_ d.out);have ad:=am (Kd.R_at hq_ u.out);have ae:=am (Kd.R_at hq_ q.out);have af:=am (blk_at hq_ c.out);have ag:=am (blk_at hq_ m.out);have ah:=am (blk_at hq_ n.out);have ai:=am (below_at hq_ HB.out);clear hq_ d u q c m n HB;have d:=ac;have u:=ad;have q:=ae;have c:=af;have m:=ag;have n:=ah;have HB:=ai;clear ac ad ae af ag ah ai;(try (have bC:=Kd.R_putg d.out (((rd_T103 b a).f0):Int) (wrap64 ((rd s ((rd_T103 b a).f0))+z))))));refine store_event (t:=3) (p:=89) (v:=?vo_w79) (w1:=(wc.setCell ⟨aC,(((rd_T103 b a).f0):Int).toNat,none⟩ (.int .i64 (wrap64 ((rd s ((rd_T103 b a).f0))+z))))) ?hg ?ho ?hn ?hr ?_;(case ho=>rfl);(case hg=>rfl);(case hn=>rfl);(case hr=>first|(go_simp;done)|(go_simp;rfl));intro c1 hw;have hg:wc.grownBy c1 (some aC):=(by rw[hw];exact bC.2);have hp_:Kd.R (Kd.int .i64) 3 c1 w.heap.size (fun _=>True) (.slice (some ⟨aC,0,none⟩) s.length aa) bI:=(by rw[hw,bW.out];exact bC.1);clear bC;have ac:=am (hp_);have ad:=am (Kd.R_over' (v:=(.slice (some ⟨aC,0,none⟩) s.length aa)) (rk u.out) (Kd.R_typed d.out) (by decide) hg);have ae:=am (Kd.R_over' (v:=(.slice (some ⟨aC,0,none⟩) s.length aa)) (rk q.out) (Kd.R_typed d.out) (by decide) hg);have af:=am (blk_grown (g:=an) (o:=.cells #[.int .i64 B,.slice (some au) i.length ap] 65 (0,0)) (bk c.out) hg (Kd.R_ne d.out c.out (by decide)));have ag:=am (blk_grown (g:=r) (o:=.cells #[.int .i64 ((rd_T103 b a).f0),.bool ((rd_T103 b a).f1),.bool ((rd_T103 b a).f2)] 103 (0,0)) (bk m.out) hg (Kd.R_ne d.out m.out (by decide)));have ah:=am (blk_grown (g:=y) (o:=.cells #[.int .i64 ((rd_T71 i ((rd_T103 b a).f0)).f0),.int .i64 ((rd_T71 i ((rd_T103 b a).f0)).f1),.int .i64 ((rd_T71 i ((rd_T103 b a).f0)).f2)] 71 (0,0)) (bk n.out) hg (Kd.R_ne d.out n.out (by decide)));have ai:=am ((by rw[hw];exact below_set (HB.out) bQ.out:Below w.heap.size w c1));clear d;clear u;clear q;clear c;clear m;clear n;clear HB;have d:=ac;have u:=ad;have q:=ae;have c:=af;have m:=ag;have n:=ah;have HB:=ai;clear ac ad ae af ag ah ai;clear hg hw hp_;obtain⟨dI,dJ,dK,d6,d7,d8⟩:=cf3 m.out;obtain⟨_,_⟩:=qo U;obtain⟨dL,dM,dN,d9,ea,eb⟩:=cf3 n.out)|go_quiet (fail))
                (try simp only[←l])
                refine impl_GreatestFlow.slot_back 12 EB.out rfl ?_
                refine impl_GreatestFlow.slot_back 41 EB.out rfl ?_
                simp only[List.set_cons_zero,List.set_cons_succ]
                go_roundg aV
                case measure=>have:=aq.out;have:=ar.out;have:=aA.out;have:=ao.out;omega
                case rel=>exact⟨(bI),(z),(((rd_T71 i ((rd_T103 b a).f0)).f1)),(es),(es),(by first|exact H|(rw[←aD.out];exact H)|(rw[←ak.out];exact H)),⟨by have:=aq.out;have:=ar.out;have:=aA.out;have:=ao.out;omega⟩,⟨by(try simp only[j]);(try simp only[l]);(with_reducible repeat (first|apply Kd.R_alloc|apply Kd.R_drewN|apply Kd.R_drew));exact d.out⟩,⟨by(try simp only[j]);(try simp only[l]);(with_reducible repeat (first|apply Kd.R_alloc|apply Kd.R_drewN|apply Kd.R_drew));exact Kd.R_mono u.out (fun _ hk=>trivial)⟩,⟨by(try simp only[j]);(try simp only[l]);(with_reducible repeat (first|apply Kd.R_alloc|apply Kd.R_drewN|apply Kd.R_drew));exact q.out⟩,⟨by(try simp only[j]);(try simp only[l]);(with_reducible repeat (first|refine blk_drewN ?_ _|refine blk_drew ?_|refine blk_alloc ?_ _));exact c.out⟩,⟨bel⟩⟩
               ·rw[if_neg bM]at H
                have cT:((rd_T103 b a).f1)=false:=by simpa using bM
                clear bM
                replace H:=am H
                obtain⟨_,_⟩:=qo E
                obtain⟨_,_⟩:=qo x
                obtain⟨_,_,_,_,_,_⟩:=cf3 m.out
                have:(0≤(((rd_T103 b a).f0):Int))=True:=ab
                have:(((rd_T103 b a).f0)<(s.length:Int))=True:=ab
                obtain⟨cN,b8,aU⟩:=Kd.at_int (Kd.R_reads' d.out).2.2 ((rd_T103 b a).f0) asm asm
                cases b8
                have br:0≤(((rd_T103 b a).f0):Int):=asm
                have bw:(((rd_T103 b a).f0):Int)<((s.length:Int):Int):=asm
                obtain⟨aC,dn,a7,a9,cc,dl,a3⟩:=Kd.R_form d.out (by omega)
                (first|cases a7|(injection a7 with ea_ en_ ec_;(first|subst ea_|(injection ea_ with ea_;subst ea_));subst ec_;clear en_))
                have bQ:=am a9
                have di:=am a3
                clear a9 cc a3
                (first|simp only[add_plain]at aU|skip)
                obtain⟨cF,cD⟩:=Kd.R_celln 0 d.out (((rd_T103 b a).f0):Int) br bw
                replace br:=eq_true br
                replace bw:=eq_true bw
                have bD:=Kd.R_putg d.out (((rd_T103 b a).f0):Int) (wrap64 ((rd s ((rd_T103 b a).f0))+z))
                go_wp2_with (first|((with_reducible refine gate_store (t:=3) (p:=89) rfl ?_);(try (rw[drewN_self wc];generalize hq_:World.drewN wc _=wc;have ac:=am (Kd.R_at hq_ d.out);have ad:=am (Kd.R_at hq_ u.out);have ae:=am (Kd.R_at hq_ q.out);have af:=am (blk_at hq_ c.out);have ag:=am (blk_at hq_ m.out);have ah:=am (blk_at hq_ n.out);have ai:=am (below_at hq_ HB.out);clear hq_ d u q c m n HB;have d:=ac;have u:=ad;have q:=ae;have c:=af;have m:=ag;have n:=ah;have HB:=ai;clear ac ad ae af ag ah ai;(try (have bD:=Kd.R_putg d.out (((rd_T103 b a).f0):Int) (wrap64 ((rd s ((rd_T103 b a).f0))+z))))));refine sv 3 89 ?_;intro da hw;have hg:wc.grownBy da (some aC):=(by rw[hw];exact bD.2);have hp_:Kd.R (Kd.int .i64) 3 da w.heap.size (fun _=>True) (.slice (some ⟨aC,0,none⟩) s.length aa) bI:=(by rw[hw,bW.out];exact bD.1);clear bD;have ac:=am (hp_);have ad:=am (Kd.R_over' (v:=(.slice (some ⟨aC,0,none⟩) s.length aa)) (rk u.out) (Kd.R_typed d.out) (by decide) hg);have ae:=am (Kd.R_over' (v:=(.slice (some ⟨aC,0,none⟩) s.length aa)) (rk q.out) (Kd.R_typed d.out) (by decide) hg);have af:=am (blk_grown (g:=an) (o:=.cells #[.int .i64 B,.slice (some au) i.length ap] 65 (0,0)) (bk c.out) hg (Kd.R_ne d.out c.out (by decide)));have ag:=am (blk_grown (g:=r) (o:=.cells #[.int .i64 ((rd_T103 b a).f0),.bool ((rd_T103 b a).f1),.bool ((rd_T103 b a).f2)] 103 (0,0)) (bk m.out) hg (Kd.R_ne d.out m.out (by decide)));have ah:=am (blk_grown (g:=y) (o:=.cells #[.int .i64 ((rd_T71 i ((rd_T103 b a).f0)).f0),.int .i64 ((rd_T71 i ((rd_T103 b a).f0)).f1),.int .i64 ((rd_T71 i ((rd_T103 b a).f0)).f2)] 71 (0,0)) (bk n.out) hg (Kd.R_ne d.out n.out (by decide)));have ai:=am ((by rw[hw];exact below_set (HB.out) bQ.out:Below w.heap.size w da));clear d;clear u;clear q;clear c;clear m;clear n;clear HB;have d:=ac;have u:=ad;have q:=ae;have c:=af;have m:=ag;have n:=ah;have HB:=ai;clear ac ad ae af ag ah ai;clear hg hw hp_;obtain⟨dO,dP,dQ,ec,ed,ee⟩:=cf3 m.out;obtain⟨_,_⟩:=qo U;obtain⟨dR,dS,dT,ef,eg,eh⟩:=cf3 n.out)|go_quiet (fail))
                (try simp only[←l])
                refine impl_GreatestFlow.slot_back 12 EB.out rfl ?_
                refine impl_GreatestFlow.slot_back 41 EB.out rfl ?_
                simp only[List.set_cons_zero,List.set_cons_succ]
                go_roundg aV
                case measure=>have:=aq.out;have:=ar.out;have:=aA.out;have:=ao.out;omega
                case rel=>exact⟨(bI),(z),(((rd_T71 i ((rd_T103 b a).f0)).f0)),(es),(es),(by first|exact H|(rw[←aD.out];exact H)|(rw[←ak.out];exact H)),⟨by have:=aq.out;have:=ar.out;have:=aA.out;have:=ao.out;omega⟩,⟨by(try simp only[j]);(try simp only[l]);(with_reducible repeat (first|apply Kd.R_alloc|apply Kd.R_drewN|apply Kd.R_drew));exact d.out⟩,⟨by(try simp only[j]);(try simp only[l]);(with_reducible repeat (first|apply Kd.R_alloc|apply Kd.R_drewN|apply Kd.R_drew));exact Kd.R_mono u.out (fun _ hk=>trivial)⟩,⟨by(try simp only[j]);(try simp only[l]);(with_reducible repeat (first|apply Kd.R_alloc|apply Kd.R_drewN|apply Kd.R_drew));exact q.out⟩,⟨by(try simp only[j]);(try simp only[l]);(with_reducible repeat (first|refine blk_drewN ?_ _|refine blk_drew ?_|refine blk_alloc ?_ _));exact c.out⟩,⟨bel⟩⟩
              ·rw[if_neg bL]at H
               have aL:(bZ)=false:=by simpa using bL
               have EB:=am (show(rdOf false D G)=false from aD.out.symm.trans aL)
               (try rw[aL])
               clear bL
               by_cases bN:((rd_T103 b a).f1)=true
               ·rw[if_pos bN]at H
                have cU:((rd_T103 b a).f1)=true:=bN
                clear bN
                replace H:=i0 H;obtain⟨eH,H⟩:=H
                replace H:=i0 H;obtain⟨eI,H⟩:=H
                obtain⟨cG,aX⟩:∃j_:Int,(mn z (rd s ((rd_T103 b a).f0)))=j_:=⟨_,rfl⟩
                (first|rw[aX]at H|simp only[aX]at H)
                have ex:(if(rd s ((rd_T103 b a).f0))<z then(rd s ((rd_T103 b a).f0))else z)=cG:=aX
                replace H:=am H
                obtain⟨_,_⟩:=qo E
                obtain⟨_,_⟩:=qo x
                obtain⟨_,_,_,_,_,_⟩:=cf3 m.out
                have:(0≤(((rd_T103 b a).f0):Int))=True:=ab
                have:(((rd_T103 b a).f0)<(s.length:Int))=True:=ab
                obtain⟨eA,ds,ej⟩:=Kd.at_int (Kd.R_reads' d.out).2.2 ((rd_T103 b a).f0) asm asm
                cases ds
                obtain⟨_,_⟩:=qo U
                obtain⟨_,_,_,_,_,_⟩:=cf3 n.out
                go_wp2
                repeat (go_quiet (fail);try go_wp2)
                (try simp only[←l])
                refine impl_GreatestFlow.slot_back 12 EB.out rfl ?_
                refine impl_GreatestFlow.slot_back 41 EB.out rfl ?_
                simp only[List.set_cons_zero,List.set_cons_succ]
                go_roundg aV
                case measure=>have:=aq.out;have:=ar.out;have:=aA.out;have:=ao.out;omega
                case rel=>exact⟨(s),(cG),(((rd_T71 i ((rd_T103 b a).f0)).f1)),(by first|rfl|(simp;done)|(simp only[←aX]<;>(first|rfl|simp))|(simp [*];done)),(es),(by first|exact H|(rw[←aD.out];exact H)|(rw[←ak.out];exact H)),⟨by have:=aq.out;have:=ar.out;have:=aA.out;have:=ao.out;omega⟩,⟨by(try simp only[j]);(try simp only[l]);(with_reducible repeat (first|apply Kd.R_alloc|apply Kd.R_drewN|apply Kd.R_drew));exact d.out⟩,⟨by(try simp only[j]);(try simp only[l]);(with_reducible repeat (first|apply Kd.R_alloc|apply Kd.R_drewN|apply Kd.R_drew));exact Kd.R_mono u.out (fun _ hk=>trivial)⟩,⟨by(try simp only[j]);(try simp only[l]);(with_reducible repeat (first|apply Kd.R_alloc|apply Kd.R_drewN|apply Kd.R_drew));exact q.out⟩,⟨by(try simp only[j]);(try simp only[l]);(with_reducible repeat (first|refine blk_drewN ?_ _|refine blk_drew ?_|refine blk_alloc ?_ _));exact c.out⟩,⟨bel⟩⟩
               ·rw[if_neg bN]at H
                have cU:((rd_T103 b a).f1)=false:=by simpa using bN
                clear bN
                replace H:=i0 H;obtain⟨ev,H⟩:=H
                replace H:=i0 H;obtain⟨ew,H⟩:=H
                obtain⟨cz,aJ⟩:∃j_:Int,(mn z (wrap64 (((rd_T71 i ((rd_T103 b a).f0)).f2)-(rd s ((rd_T103 b a).f0)))))=j_:=⟨_,rfl⟩
                (first|rw[aJ]at H|simp only[aJ]at H)
                have ei:(if(wrap64 (((rd_T71 i ((rd_T103 b a).f0)).f2)-(rd s ((rd_T103 b a).f0))))<z then(wrap64 (((rd_T71 i ((rd_T103 b a).f0)).f2)-(rd s ((rd_T103 b a).f0))))else z)=cz:=aJ
                replace H:=am H
                obtain⟨_,_⟩:=qo E
                obtain⟨_,_⟩:=qo x
                obtain⟨_,_,_,_,_,_⟩:=cf3 m.out
                obtain⟨_,_⟩:=qo U
                obtain⟨_,_,_,_,_,_⟩:=cf3 n.out
                have:(0≤(((rd_T103 b a).f0):Int))=True:=ab
                have:(((rd_T103 b a).f0)<(s.length:Int))=True:=ab
                obtain⟨eB,dt,ek⟩:=Kd.at_int (Kd.R_reads' d.out).2.2 ((rd_T103 b a).f0) asm asm
                cases dt
                go_wp2
                repeat (go_quiet (fail);try go_wp2)
                (try simp only[←l])
                refine impl_GreatestFlow.slot_back 12 EB.out rfl ?_
                refine impl_GreatestFlow.slot_back 41 EB.out rfl ?_
                simp only[List.set_cons_zero,List.set_cons_succ]
                go_roundg aV
                case measure=>have:=aq.out;have:=ar.out;have:=aA.out;have:=ao.out;omega
                case rel=>exact⟨(s),(cz),(((rd_T71 i ((rd_T103 b a).f0)).f0)),(by first|rfl|(simp;done)|(simp only[←aJ]<;>(first|rfl|simp))|(simp [*];done)),(es),(by first|exact H|(rw[←aD.out];exact H)|(rw[←ak.out];exact H)),⟨by have:=aq.out;have:=ar.out;have:=aA.out;have:=ao.out;omega⟩,⟨by(try simp only[j]);(try simp only[l]);(with_reducible repeat (first|apply Kd.R_alloc|apply Kd.R_drewN|apply Kd.R_drew));exact d.out⟩,⟨by(try simp only[j]);(try simp only[l]);(with_reducible repeat (first|apply Kd.R_alloc|apply Kd.R_drewN|apply Kd.R_drew));exact Kd.R_mono u.out (fun _ hk=>trivial)⟩,⟨by(try simp only[j]);(try simp only[l]);(with_reducible repeat (first|apply Kd.R_alloc|apply Kd.R_drewN|apply Kd.R_drew));exact q.out⟩,⟨by(try simp only[j]);(try simp only[l]);(with_reducible repeat (first|refine blk_drewN ?_ _|refine blk_drew ?_|refine blk_alloc ?_ _));exact c.out⟩,⟨bel⟩⟩
       ·replace H:=am H
        go_wp2
        repeat (go_quiet (fail);try go_wp2)
        (try simp only[←j])
        go_roundg k2
        case measure=>have:=aq.out;have:=ar.out;omega
        case rel=>exact⟨(aW),H,⟨by have:=aq.out;have:=ar.out;omega⟩,⟨by(try simp only[j]);(with_reducible repeat (first|apply Kd.R_alloc|apply Kd.R_drewN|apply Kd.R_drew));exact d.out⟩,⟨by(try simp only[j]);(with_reducible repeat (first|refine blk_drewN ?_ _|refine blk_drew ?_|refine blk_alloc ?_ _));exact c.out⟩,⟨bel⟩⟩
    ·replace bj:=Bool.eq_false_iff.mpr bj
     subst bj
     have H1:(some (az,true))=some (r1,r2):=by rw[if_neg (show ¬(false=true) by decide)]at H;exact H
     clear H
     have H:=H1
     clear H1
     obtain⟨rfl,rfl⟩:=qj2 H
     obtain⟨_,_,_,_⟩:=cf2 c.out
     obtain⟨ey,eJ,cW⟩:=Kd.R_slice d.out
     subst cW
     go_wp2_with (first|(go_at_call 67;refine cm (impl_reach.calls k1 B _ _ i a1 _ _ az b _ (cb Y HB) aj.out (ck (Kd.R_reads' d.out).2.2) ((Kd.R_reads' d.out).2.1) cB.out) ?_;rintro e eq ⟨cA,rfl,aR,hb⟩;have W:=am (Kd.R_lower aR (below_size bel));replace d:=rb d hb;replace c:=b1 c hb;replace HB:=b2 hb;clear hb;(try clear aR);obtain⟨cH,cV,bo⟩:=Kd.R_slice W.out;subst bo;have:(0≤(a2:Int))=True:=ab;have:(a2<(b.length:Int))=True:=ab;obtain⟨aE,aM,al,L,O⟩:=at_T103 (Kd.R_reads' W.out).2.2 a2 asm asm;(try rw[←Z.out]at L);(try rw[←Z.out]at O);cases aM)|go_quiet (first|(go_at_call 67;refine cm (impl_reach.calls k1 B _ _ i a1 _ _ az b _ (cb Y HB) aj.out (ck (Kd.R_reads' d.out).2.2) ((Kd.R_reads' d.out).2.1) cB.out) ?_;rintro e eq ⟨cA,rfl,aR,hb⟩;have W:=am (Kd.R_lower aR (below_size bel));replace d:=rb d hb;replace c:=b1 c hb;replace HB:=b2 hb;clear hb;(try clear aR);obtain⟨cH,cV,bo⟩:=Kd.R_slice W.out;subst bo;have:(0≤(a2:Int))=True:=ab;have:(a2<(b.length:Int))=True:=ab;obtain⟨aE,aM,al,L,O⟩:=at_T103 (Kd.R_reads' W.out).2.2 a2 asm asm;(try rw[←Z.out]at L);(try rw[←Z.out]at O);cases aM)))
     go_ret2
     exact⟨_,er,rk d.out,bel⟩
 ·obtain⟨rfl,rfl⟩:=qj2 H
  go_enter Tryz.func40,Tryz.ntmps40
  go_wp2_with (first|((with_reducible refine gd 3 ?_);refine bx w 3 #[.int .i64 B,.slice aK i.length ap] 65 ?_;clear HB;intro an eU c cI HB;obtain⟨db,dc,dd,de⟩:=cf2 c.out)|(go_at_call 66;refine cm2 (impl_areEnds.calls k B _ _ i a1 a2 false _ (cb Y HB) aj.out A4.out) ?_;intro et hb;replace c:=b1 c hb;replace HB:=b2 hb;clear hb)|go_quiet (first|(go_at_call 66;refine cm2 (impl_areEnds.calls k B _ _ i a1 a2 false _ (cb Y HB) aj.out A4.out) ?_;intro et hb;replace c:=b1 c hb;replace HB:=b2 hb;clear hb)))
  go_ret2
  exact⟨_,er,qk,bel⟩
end Go.Proofs.YtgalpgakdcfilaaGreat.L
