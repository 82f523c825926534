-- Written by a program of this session (wip/xp.py).
import Derived.Test.YtgalpgakdcfilaaGreatL0
import Derived.Test.YtgalpgakdcfilaaGreatL24
import Derived.Test.YtgalpgakdcfilaaGreatL11
import Derived.Test.YtgalpgakdcfilaaGreatL27
import Derived.Test.YtgalpgakdcfilaaGreatL30
namespace Go.Proofs.YtgalpgakdcfilaaGreat.L
open Go.RowKit Go.Proofs.YtgalpgakdcfilaaGreatW.PrintWords Go.Proofs.YtgalpgakdcfilaaGreatW.PrintLast Go.Proofs.YtgalpgakdcfilaaGreatW.PrintMore
attribute [local go_sem] max2_int min2_int max_two min_two max_three min_three max_four min_four
set_option linter.unusedVariables false
set_option linter.unusedSimpArgs false
set_option maxHeartbeats 8000000
set_option maxRecDepth 100000
def spec_l18Results.l0:Nat→Int→List Int→List Int→Int→List (S79)→Int→Int→Option (List Int)
  |0,_,_,_,_,_,_,_=>none
  |k+1,x1,x2,x7,x8,b,c,a=>if a<c then(if 0≤a then(if a<(b.length:Int)then((spec_IsOpen.f ((rd_T79 b a).f0) ((rd_T79 b a).f1) ((rd_T79 b a).f2) ((rd_T79 b a).f3) ((rd_T79 b a).f4)).bind fun d=>(if d=true then(if((rd_T79 b a).f0)=x1 then(if x7.length<17592186044416 then(spec_l18Results.l0 k x1 x2 (x7++[1]) x8 b c (wrap64 (a+1)))else(none))else(if((rd_T79 b a).f1)=x1 then(if x7.length<17592186044416 then(spec_l18Results.l0 k x1 x2 (x7++[3]) x8 b c (wrap64 (a+1)))else(none))else(if 0≤(wrap64 (x8+1))then(if(wrap64 (x8+1))<(x2.length:Int)then(if(rd x2 (wrap64 (x8+1)))=2 then(if x7.length<17592186044416 then(spec_l18Results.l0 k x1 x2 (x7++[1]) (wrap64 (x8+3)) b c (wrap64 (a+1)))else(none))else(if(rd x2 (wrap64 (x8+1)))=1 then(if x7.length<17592186044416 then(spec_l18Results.l0 k x1 x2 (x7++[2]) (wrap64 (x8+3)) b c (wrap64 (a+1)))else(none))else(if x7.length<17592186044416 then(spec_l18Results.l0 k x1 x2 (x7++[3]) (wrap64 (x8+3)) b c (wrap64 (a+1)))else(none))))else(none))else(none))))else(spec_l18Results.l0 k x1 x2 x7 x8 b c (wrap64 (a+1)))))else(none))else(none))else(some x7)
def spec_l18Results.f(k:Nat)(g:List (S83))(b:Int)(c:Int)(d:Int)(h:List Int)(e:Bool)(a:List (S79))(i:List Int)(j:List Int)(a1:Int)(l2:List Int):Option (List Int):=spec_l18Results.l0 k a1 l2 (([]:List Int)) 0 a (a.length:Int) 0
theorem spec_l18Results.calls(k:Nat)(L:Option Addr)(Y:Nat)(u:List (S83))(T:Int)(U:Int)(W:Int)(M:Option Addr)(Z:Nat)(v:List Int)(X:Bool)(av:Option Addr)(aa:Nat)(d:List (S79))(O:Option Addr)(ac:Nat)(x:List Int)(P:Option Addr)(ad:Nat)(y:List Int)(a1:Int)(A2:Option Addr)(c2:Nat)(l2:List Int)(r:List Int)(w:World)(aC:Kd.C k83 w L u.length u)(aw:u.length≤Y)(aD:Kd.C (Kd.int .i64) w M v.length v)(ax:v.length≤Z)(z:Kd.C k79 w av d.length d)(ay:d.length≤aa)(aE:Kd.C (Kd.int .i64) w O x.length x)(az:x.length≤ac)(aG:Kd.C (Kd.int .i64) w P y.length y)(aA:y.length≤ad)(ar:Kd.C (Kd.int .i64) w A2 l2.length l2)(bH:l2.length≤c2)(h:spec_l18Results.f k u T U W v X d x y a1 l2=some r):Calls Tryz.prog 36 #[.agg #[.slice L u.length Y,.int .i64 T,.int .i64 U,.int .i64 W,.slice M v.length Z,.bool X,.slice av d.length aa,.slice O x.length ac,.slice P y.length ad],.int .i64 a1,.slice A2 l2.length c2] w fun e w'=>∃bO:Value,e=.returned (bO)∧Kd.R (Kd.int .i64) 3 w' w.heap.size (fun _=>True) bO r∧Below w.heap.size w w':=by
 have b3:=Tryz.underlying35
 have b4:=Tryz.underlying79
 replace aC:=am aC
 replace aw:=am aw
 replace aD:=am aD
 replace ax:=am ax
 replace z:=am z
 replace ay:=am ay
 replace aE:=am aE
 replace az:=am az
 replace aG:=am aG
 replace aA:=am aA
 replace ar:=am ar
 replace bH:=am bH
 have HB:=qb w
 have H:=h
 unfold spec_l18Results.f at H
 clear h
 obtain⟨a7,al⟩:∃y_:List Int,y_=(([]:List Int)):=⟨_,rfl⟩
 replace H:(spec_l18Results.l0 k a1 l2 a7 0 d (d.length:Int) 0)=some r:=by first|(rw[al];with_reducible exact H)|(have a8:=(Option.bind_some _ _).symm.trans H;rw[al];with_reducible exact a8)|(have a8:=(Option.bind_some _ _).symm.trans H;with_reducible exact a8)|with_reducible exact H|(rw[al];exact H)|exact H
 have aH:=am al
 clear al
 replace H:=am H
 go_enter Tryz.func36,Tryz.ntmps36
 go_wp2_with (first|((with_reducible refine gd 3 ?_);refine bx w 3 #[.slice L u.length Y,.int .i64 T,.int .i64 U,.int .i64 W,.slice M v.length Z,.bool X,.slice av d.length aa,.slice O x.length ac,.slice P y.length ad] 35 ?_;clear HB;intro ai w4 c bV HB)|((with_reducible refine gate_dst (N:=11) rfl ?_);refine Kd.R_lit (Kd.int .i64) _ 3 ?hg (N:=11) ?hd (xs:=([]:List Int)) (inner:=[]) (ok:=fun _=>True) (okp:=fun _=>True) ?hr ?hp (fun _ hk=>hk) trivial (Below.refl _ _) (Nat.le_refl _) (by simp) ?_;(case hd=>rfl);(case hg=>rfl);(case hr=>first|(go_simp;done)|(go_simp;rfl));(case hp=>exact(Reps.none _ _));intro b6 w5 aJ hb hg_ hnew_;clear hg_ hnew_;(first|rw[←aH.out]at aJ|(simp only[Int.reduceToNat]at aJ;rw[←aH.out]at aJ));have a9:=am (Kd.R_lower aJ (below_size bel));replace c:=b1 c hb;replace HB:=b2 hb;clear hb aJ;obtain⟨aK,aM,aN,aQ,aR,aT,aU,aV,aW,aX,aY,aZ,a0,a2,a3,a4,a5,a6⟩:=cf9 c.out))
 go_loopg [7,8,15] k (fun kq v7 v8 bZ w'=>∃(q:List Int) (K:Int) (a:Int),v8=.int .i64 K∧bZ=.int .i64 a∧Aside0 (spec_l18Results.l0 kq a1 l2 q K d (d.length:Int) a=some r)∧Aside0 (kq≤k)∧Aside0 (Kd.R (Kd.int .i64) 3 w' w.heap.size (fun _=>True) v7 q)∧Aside0 (w'.heap[ai]? =some (.cells #[(.slice L u.length Y),.int .i64 T,.int .i64 U,.int .i64 W,(.slice M v.length Z),.bool X,(.slice av d.length aa),(.slice O x.length ac),(.slice P y.length ad)] 35 (0,0)))∧Aside0 (Below w.heap.size w w'))
 case atStart=>exact⟨(a7),(0),(0),(es),(es),H,⟨Nat.le_refl _⟩,⟨rk a9.out⟩,⟨bk c.out⟩,⟨bel⟩⟩
 case round=>
  clear H
  try clear c2;try clear aK;try clear aM;try clear aN;try clear aQ;try clear aR;try clear aT;try clear aU;try clear aV;try clear aW;try clear aX;try clear aY;try clear aZ;try clear a0;try clear a2;try clear a3;try clear a4;try clear a5;try clear a6
  obtain⟨q,K,a,rfl,rfl,HA,aj,j,c,HB⟩:=hrel
  cases gk with
  |zero=>exact absurd HA.out (by simp [spec_l18Results.l0])
  |succ k1=>
   have H:=HA.out
   clear HA
   simp only[spec_l18Results.l0]at H
   replace H:=i1 H;obtain⟨bN,H⟩|⟨bN,H⟩:=H
   ·replace H:=i0 H;obtain⟨b0,H⟩:=H
    replace H:=i0 H;obtain⟨bW,H⟩:=H
    replace H:=bm H;obtain⟨b5,aq,H⟩:=H
    replace H:=ib H;obtain⟨rfl,H⟩|⟨rfl,H⟩:=H
    ·replace H:=ie H;obtain⟨bw,bA,H⟩|⟨⟨cd,bw,bA⟩,H⟩:=H
     ·replace H:=i0 H;obtain⟨bI,H⟩:=H
      have bg:=am (of_decide_eq_true bI)
      clear bI
      generalize hy496:(q++[1]:List Int)=bP at H
      have bn:=am hy496.symm
      clear hy496
      replace H:=am H
      have:(0≤(a:Int))=True:=ab
      have:(a<(d.length:Int))=True:=ab
      obtain⟨s,A,B,D,E,G,I⟩:=hc5 HB.out (at_T79 z.out a asm asm)
      cases A
      go_wp2_with (first|((with_reducible refine gd 10 ?_);refine by_ w 10 #[.int .i64 0,.int .i64 0,.int .i64 0,.int .i64 0,.int .i64 0] 79 ?_;clear HB;intro t hg ch i ak hb HB;obtain⟨p,l⟩:=qn hg c;replace j:=rb j hb;replace c:=b1 c hb;clear hb hg;obtain⟨_,_⟩:=qo l;obtain⟨_,_,_,_,_,_,_,_,_,_⟩:=cf5 i.out)|((with_reducible refine gc 56 ?_);refine gl 20 Tryz.func56 (spec_IsOpen.calls ((rd_T79 d a).f0) ((rd_T79 d a).f1) ((rd_T79 d a).f2) ((rd_T79 d a).f3) ((rd_T79 d a).f4) true _ aq.out) ?_;rintro e ci ⟨rfl,hb⟩;refine⟨_,rfl,?_⟩;replace j:=am (Kd.R_below (kf (Kd.R_types j.out i.out (by decide)) (fun _ h_=>h_.1)) hb);replace c:=b1 c hb;replace i:=bq i hb;replace HB:=b2 hb;(try clear hb);obtain⟨_,_,_,_,_,_,_,_,_,_⟩:=cf5 i.out)|((with_reducible refine gate_builtin (b:=.append) (xs:=#[.tmp 30,.tmp 31]) rfl ?_);at_builtin;refine Kd.R_append (Kd.int .i64) (w0:=w) w.heap.size rfl (.tmp 30) (.tmp 31) 23 3 (.int .i64 0) 8 rfl Tryz.underlying23 info3 rfl (by decide) (by omega) u7 q 1 [.int .i64 1] (fun _=>True) (fun _=>False) rfl rfl ?aP (fun _ hk=>hk.elim) ?aF ?aO ?aB ?aS ?aL ?_;(case aP=>exact rfl);(case aB=>exact bel);(case aF=>exact(fun _ _=>trivial));(case aO=>exact(rk j.out));(case aS=>exact(below_size bel));(case aL=>have:=bg.out;omega);intro b7 cj ho hb hg hat;rw[←bn.out]at ho;have ae:=am (blk_grown (g:=ai) (o:=.cells #[.slice L u.length Y,.int .i64 T,.int .i64 U,.int .i64 W,.slice M v.length Z,.bool X,.slice (some s) d.length aa,.slice O x.length ac,.slice P y.length ad] 35 (0,0)) (bk c.out) hg (Kd.R_ne j.out c.out (by decide)));have af:=am (blk_grown (g:=t) (o:=.cells #[.int .i64 ((rd_T79 d a).f0),.int .i64 ((rd_T79 d a).f1),.int .i64 ((rd_T79 d a).f2),.int .i64 ((rd_T79 d a).f3),.int .i64 ((rd_T79 d a).f4)] 79 (0,0)) (bk i.out) hg (Kd.R_ne j.out i.out (by decide)));have ag:=am (hb);have ah:=am (ho);clear c;clear i;clear HB;clear j;have c:=ae;have i:=af;have HB:=ag;have ba:=ah;clear ae af ag ah;clear ho hb hg hat))
      go_roundg k1
      case measure=>have:=aj.out;omega
      case rel=>exact⟨(bP),(K),(wrap64 (a+1)),(es),(es),H,⟨by have:=aj.out;omega⟩,⟨rk ba.out⟩,⟨bk c.out⟩,⟨bel⟩⟩
     ·replace H:=ie H;obtain⟨bB,bC,H⟩|⟨⟨ce,bB,bC⟩,H⟩:=H
      ·replace H:=i0 H;obtain⟨bJ,H⟩:=H
       have bh:=am (of_decide_eq_true bJ)
       clear bJ
       generalize hy499:(q++[3]:List Int)=bQ at H
       have bo:=am hy499.symm
       clear hy499
       replace H:=am H
       have:(0≤(a:Int))=True:=ab
       have:(a<(d.length:Int))=True:=ab
       obtain⟨s,A,B,D,E,G,I⟩:=hc5 HB.out (at_T79 z.out a asm asm)
       cases A
       go_wp2_with (first|((with_reducible refine gd 10 ?_);refine by_ w 10 #[.int .i64 0,.int .i64 0,.int .i64 0,.int .i64 0,.int .i64 0] 79 ?_;clear HB;intro t hg cn i ak hb HB;obtain⟨p,l⟩:=qn hg c;replace j:=rb j hb;replace c:=b1 c hb;clear hb hg;obtain⟨_,_⟩:=qo l;obtain⟨_,_,_,_,_,_,_,_,_,_⟩:=cf5 i.out)|((with_reducible refine gc 56 ?_);refine gl 20 Tryz.func56 (spec_IsOpen.calls ((rd_T79 d a).f0) ((rd_T79 d a).f1) ((rd_T79 d a).f2) ((rd_T79 d a).f3) ((rd_T79 d a).f4) true _ aq.out) ?_;rintro e co ⟨rfl,hb⟩;refine⟨_,rfl,?_⟩;replace j:=am (Kd.R_below (kf (Kd.R_types j.out i.out (by decide)) (fun _ h_=>h_.1)) hb);replace c:=b1 c hb;replace i:=bq i hb;replace HB:=b2 hb;(try clear hb);obtain⟨_,_,_,_,_,_,_,_,_,_⟩:=cf5 i.out)|((with_reducible refine gate_builtin (b:=.append) (xs:=#[.tmp 38,.tmp 39]) rfl ?_);at_builtin;refine Kd.R_append (Kd.int .i64) (w0:=w) w.heap.size rfl (.tmp 38) (.tmp 39) 23 3 (.int .i64 0) 8 rfl Tryz.underlying23 info3 rfl (by decide) (by omega) u7 q 3 [.int .i64 3] (fun _=>True) (fun _=>False) rfl rfl ?aP (fun _ hk=>hk.elim) ?aF ?aO ?aB ?aS ?aL ?_;(case aP=>exact rfl);(case aB=>exact bel);(case aF=>exact(fun _ _=>trivial));(case aO=>exact(rk j.out));(case aS=>exact(below_size bel));(case aL=>have:=bh.out;omega);intro b8 cp ho hb hg hat;rw[←bo.out]at ho;have ae:=am (blk_grown (g:=ai) (o:=.cells #[.slice L u.length Y,.int .i64 T,.int .i64 U,.int .i64 W,.slice M v.length Z,.bool X,.slice (some s) d.length aa,.slice O x.length ac,.slice P y.length ad] 35 (0,0)) (bk c.out) hg (Kd.R_ne j.out c.out (by decide)));have af:=am (blk_grown (g:=t) (o:=.cells #[.int .i64 ((rd_T79 d a).f0),.int .i64 ((rd_T79 d a).f1),.int .i64 ((rd_T79 d a).f2),.int .i64 ((rd_T79 d a).f3),.int .i64 ((rd_T79 d a).f4)] 79 (0,0)) (bk i.out) hg (Kd.R_ne j.out i.out (by decide)));have ag:=am (hb);have ah:=am (ho);clear c;clear i;clear HB;clear j;have c:=ae;have i:=af;have HB:=ag;have bc:=ah;clear ae af ag ah;clear ho hb hg hat))
       go_roundg k1
       case measure=>have:=aj.out;omega
       case rel=>exact⟨(bQ),(K),(wrap64 (a+1)),(es),(es),H,⟨by have:=aj.out;omega⟩,⟨rk bc.out⟩,⟨bk c.out⟩,⟨bel⟩⟩
      ·obtain⟨n,ao⟩:∃j_:Int,(wrap64 (K+1))=j_:=⟨_,rfl⟩
       (first|rw[ao]at H|simp only[ao]at H)
       (try rw[ao]at aq)
       have bU:(IntKind.i64.wrap (K+1))=n:=(i64_w _).trans ao
       replace H:=i0 H;obtain⟨bX,H⟩:=H
       replace H:=i0 H;obtain⟨bY,H⟩:=H
       replace H:=ie H;obtain⟨bD,bE,H⟩|⟨⟨cf,bD,bE⟩,H⟩:=H
       ·replace H:=i0 H;obtain⟨bK,H⟩:=H
        have bi:=am (of_decide_eq_true bK)
        clear bK
        generalize hy503:(q++[1]:List Int)=bR at H
        have bp:=am hy503.symm
        clear hy503
        replace H:=am H
        have:(0≤(a:Int))=True:=ab
        have:(a<(d.length:Int))=True:=ab
        obtain⟨s,A,B,D,E,G,I⟩:=hc5 HB.out (at_T79 z.out a asm asm)
        cases A
        go_wp2_with (first|((with_reducible refine gd 10 ?_);refine by_ w 10 #[.int .i64 0,.int .i64 0,.int .i64 0,.int .i64 0,.int .i64 0] 79 ?_;clear HB;intro t hg cq i ak hb HB;obtain⟨p,l⟩:=qn hg c;replace j:=rb j hb;replace c:=b1 c hb;clear hb hg;obtain⟨_,_⟩:=qo l;obtain⟨_,_,_,_,_,_,_,_,_,_⟩:=cf5 i.out)|((with_reducible refine gc 56 ?_);refine gl 20 Tryz.func56 (spec_IsOpen.calls ((rd_T79 d a).f0) ((rd_T79 d a).f1) ((rd_T79 d a).f2) ((rd_T79 d a).f3) ((rd_T79 d a).f4) true _ aq.out) ?_;rintro e cs ⟨rfl,hb⟩;refine⟨_,rfl,?_⟩;replace j:=am (Kd.R_below (kf (Kd.R_types j.out i.out (by decide)) (fun _ h_=>h_.1)) hb);replace c:=b1 c hb;replace i:=bq i hb;replace HB:=b2 hb;(try clear hb);obtain⟨_,_,_,_,_,_,_,_,_,_⟩:=cf5 i.out;have:(0≤((n):Int))=True:=ab;have:((n)<(l2.length:Int))=True:=ab;obtain⟨an,ap,m⟩:=Kd.at_int ar.out (n) asm asm;cases ap;replace m:=hcl HB.out m)|((with_reducible refine gate_builtin (b:=.append) (xs:=#[.tmp 48,.tmp 49]) rfl ?_);at_builtin;refine Kd.R_append (Kd.int .i64) (w0:=w) w.heap.size rfl (.tmp 48) (.tmp 49) 23 3 (.int .i64 0) 8 rfl Tryz.underlying23 info3 rfl (by decide) (by omega) u7 q 1 [.int .i64 1] (fun _=>True) (fun _=>False) rfl rfl ?aP (fun _ hk=>hk.elim) ?aF ?aO ?aB ?aS ?aL ?_;(case aP=>exact rfl);(case aB=>exact bel);(case aF=>exact(fun _ _=>trivial));(case aO=>exact(rk j.out));(case aS=>exact(below_size bel));(case aL=>have:=bi.out;omega);intro b9 ct ho hb hg hat;rw[←bp.out]at ho;have ae:=am (blk_grown (g:=ai) (o:=.cells #[.slice L u.length Y,.int .i64 T,.int .i64 U,.int .i64 W,.slice M v.length Z,.bool X,.slice (some s) d.length aa,.slice O x.length ac,.slice P y.length ad] 35 (0,0)) (bk c.out) hg (Kd.R_ne j.out c.out (by decide)));have af:=am (blk_grown (g:=t) (o:=.cells #[.int .i64 ((rd_T79 d a).f0),.int .i64 ((rd_T79 d a).f1),.int .i64 ((rd_T79 d a).f2),.int .i64 ((rd_T79 d a).f3),.int .i64 ((rd_T79 d a).f4)] 79 (0,0)) (bk i.out) hg (Kd.R_ne j.out i.out (by decide)));have ag:=am (hb);have ah:=am (ho);clear c;clear i;clear HB;clear j;have c:=ae;have i:=af;have HB:=ag;have bd:=ah;clear ae af ag ah;clear ho hb hg hat))
        go_roundg k1
        case measure=>have:=aj.out;omega
        case rel=>exact⟨(bR),(wrap64 (K+3)),(wrap64 (a+1)),(es),(es),H,⟨by have:=aj.out;omega⟩,⟨rk bd.out⟩,⟨bk c.out⟩,⟨bel⟩⟩
       ·replace H:=ie H;obtain⟨bF,bG,H⟩|⟨⟨cg,bF,bG⟩,H⟩:=H
        ·replace H:=i0 H;obtain⟨bL,H⟩:=H
         have bj:=am (of_decide_eq_true bL)
         clear bL
         generalize hy507:(q++[2]:List Int)=bS at H
         have br:=am hy507.symm
         clear hy507
         replace H:=am H
         have:(0≤(a:Int))=True:=ab
         have:(a<(d.length:Int))=True:=ab
         obtain⟨s,A,B,D,E,G,I⟩:=hc5 HB.out (at_T79 z.out a asm asm)
         cases A
         go_wp2_with (first|((with_reducible refine gd 10 ?_);refine by_ w 10 #[.int .i64 0,.int .i64 0,.int .i64 0,.int .i64 0,.int .i64 0] 79 ?_;clear HB;intro t hg cu i ak hb HB;obtain⟨p,l⟩:=qn hg c;replace j:=rb j hb;replace c:=b1 c hb;clear hb hg;obtain⟨_,_⟩:=qo l;obtain⟨_,_,_,_,_,_,_,_,_,_⟩:=cf5 i.out)|((with_reducible refine gc 56 ?_);refine gl 20 Tryz.func56 (spec_IsOpen.calls ((rd_T79 d a).f0) ((rd_T79 d a).f1) ((rd_T79 d a).f2) ((rd_T79 d a).f3) ((rd_T79 d a).f4) true _ aq.out) ?_;rintro e cv ⟨rfl,hb⟩;refine⟨_,rfl,?_⟩;replace j:=am (Kd.R_below (kf (Kd.R_types j.out i.out (by decide)) (fun _ h_=>h_.1)) hb);replace c:=b1 c hb;replace i:=bq i hb;replace HB:=b2 hb;(try clear hb);obtain⟨_,_,_,_,_,_,_,_,_,_⟩:=cf5 i.out;have:(0≤((n):Int))=True:=ab;have:((n)<(l2.length:Int))=True:=ab;obtain⟨an,ap,m⟩:=Kd.at_int ar.out (n) asm asm;cases ap;replace m:=hcl HB.out m;have:(0≤((n):Int))=True:=ab;have:((n)<(l2.length:Int))=True:=ab;obtain⟨au,aI,J⟩:=Kd.at_int ar.out (n) asm asm;obtain rfl:an=au:=(by injection aI);replace J:=hcl HB.out J)|((with_reducible refine gate_builtin (b:=.append) (xs:=#[.tmp 58,.tmp 59]) rfl ?_);at_builtin;refine Kd.R_append (Kd.int .i64) (w0:=w) w.heap.size rfl (.tmp 58) (.tmp 59) 23 3 (.int .i64 0) 8 rfl Tryz.underlying23 info3 rfl (by decide) (by omega) u7 q 2 [.int .i64 2] (fun _=>True) (fun _=>False) rfl rfl ?aP (fun _ hk=>hk.elim) ?aF ?aO ?aB ?aS ?aL ?_;(case aP=>exact rfl);(case aB=>exact bel);(case aF=>exact(fun _ _=>trivial));(case aO=>exact(rk j.out));(case aS=>exact(below_size bel));(case aL=>have:=bj.out;omega);intro ca cw ho hb hg hat;rw[←br.out]at ho;have ae:=am (blk_grown (g:=ai) (o:=.cells #[.slice L u.length Y,.int .i64 T,.int .i64 U,.int .i64 W,.slice M v.length Z,.bool X,.slice (some s) d.length aa,.slice O x.length ac,.slice P y.length ad] 35 (0,0)) (bk c.out) hg (Kd.R_ne j.out c.out (by decide)));have af:=am (blk_grown (g:=t) (o:=.cells #[.int .i64 ((rd_T79 d a).f0),.int .i64 ((rd_T79 d a).f1),.int .i64 ((rd_T79 d a).f2),.int .i64 ((rd_T79 d a).f3),.int .i64 ((rd_T79 d a).f4)] 79 (0,0)) (bk i.out) hg (Kd.R_ne j.out i.out (by decide)));have ag:=am (hb);have ah:=am (ho);clear c;clear i;clear HB;clear j;have c:=ae;have i:=af;have HB:=ag;have be:=ah;clear ae af ag ah;clear ho hb hg hat))
         go_roundg k1
         case measure=>have:=aj.out;omega
         case rel=>exact⟨(bS),(wrap64 (K+3)),(wrap64 (a+1)),(es),(es),H,⟨by have:=aj.out;omega⟩,⟨rk be.out⟩,⟨bk c.out⟩,⟨bel⟩⟩
        ·replace H:=i0 H;obtain⟨bM,H⟩:=H
         have bl:=am (of_decide_eq_true bM)
         clear bM
         generalize hy510:(q++[3]:List Int)=bT at H
         have bu:=am hy510.symm
         clear hy510
         replace H:=am H
         have:(0≤(a:Int))=True:=ab
         have:(a<(d.length:Int))=True:=ab
         obtain⟨s,A,B,D,E,G,I⟩:=hc5 HB.out (at_T79 z.out a asm asm)
         cases A
         go_wp2_with (first|((with_reducible refine gd 10 ?_);refine by_ w 10 #[.int .i64 0,.int .i64 0,.int .i64 0,.int .i64 0,.int .i64 0] 79 ?_;clear HB;intro t hg cx i ak hb HB;obtain⟨p,l⟩:=qn hg c;replace j:=rb j hb;replace c:=b1 c hb;clear hb hg;obtain⟨_,_⟩:=qo l;obtain⟨_,_,_,_,_,_,_,_,_,_⟩:=cf5 i.out)|((with_reducible refine gc 56 ?_);refine gl 20 Tryz.func56 (spec_IsOpen.calls ((rd_T79 d a).f0) ((rd_T79 d a).f1) ((rd_T79 d a).f2) ((rd_T79 d a).f3) ((rd_T79 d a).f4) true _ aq.out) ?_;rintro e cy ⟨rfl,hb⟩;refine⟨_,rfl,?_⟩;replace j:=am (Kd.R_below (kf (Kd.R_types j.out i.out (by decide)) (fun _ h_=>h_.1)) hb);replace c:=b1 c hb;replace i:=bq i hb;replace HB:=b2 hb;(try clear hb);obtain⟨_,_,_,_,_,_,_,_,_,_⟩:=cf5 i.out;have:(0≤((n):Int))=True:=ab;have:((n)<(l2.length:Int))=True:=ab;obtain⟨an,ap,m⟩:=Kd.at_int ar.out (n) asm asm;cases ap;replace m:=hcl HB.out m;have:(0≤((n):Int))=True:=ab;have:((n)<(l2.length:Int))=True:=ab;obtain⟨au,aI,J⟩:=Kd.at_int ar.out (n) asm asm;obtain rfl:an=au:=(by injection aI);replace J:=hcl HB.out J)|((with_reducible refine gate_builtin (b:=.append) (xs:=#[.tmp 22,.tmp 23]) rfl ?_);at_builtin;refine Kd.R_append (Kd.int .i64) (w0:=w) w.heap.size rfl (.tmp 22) (.tmp 23) 23 3 (.int .i64 0) 8 rfl Tryz.underlying23 info3 rfl (by decide) (by omega) u7 q 3 [.int .i64 3] (fun _=>True) (fun _=>False) rfl rfl ?aP (fun _ hk=>hk.elim) ?aF ?aO ?aB ?aS ?aL ?_;(case aP=>exact rfl);(case aB=>exact bel);(case aF=>exact(fun _ _=>trivial));(case aO=>exact(rk j.out));(case aS=>exact(below_size bel));(case aL=>have:=bl.out;omega);intro cc cz ho hb hg hat;rw[←bu.out]at ho;have ae:=am (blk_grown (g:=ai) (o:=.cells #[.slice L u.length Y,.int .i64 T,.int .i64 U,.int .i64 W,.slice M v.length Z,.bool X,.slice (some s) d.length aa,.slice O x.length ac,.slice P y.length ad] 35 (0,0)) (bk c.out) hg (Kd.R_ne j.out c.out (by decide)));have af:=am (blk_grown (g:=t) (o:=.cells #[.int .i64 ((rd_T79 d a).f0),.int .i64 ((rd_T79 d a).f1),.int .i64 ((rd_T79 d a).f2),.int .i64 ((rd_T79 d a).f3),.int .i64 ((rd_T79 d a).f4)] 79 (0,0)) (bk i.out) hg (Kd.R_ne j.out i.out (by decide)));have ag:=am (hb);have ah:=am (ho);clear c;clear i;clear HB;clear j;have c:=ae;have i:=af;have HB:=ag;have bf:=ah;clear ae af ag ah;clear ho hb hg hat))
         go_roundg k1
         case measure=>have:=aj.out;omega
         case rel=>exact⟨(bT),(wrap64 (K+3)),(wrap64 (a+1)),(es),(es),H,⟨by have:=aj.out;omega⟩,⟨rk bf.out⟩,⟨bk c.out⟩,⟨bel⟩⟩
    ·replace H:=am H
     have:(0≤(a:Int))=True:=ab
     have:(a<(d.length:Int))=True:=ab
     obtain⟨s,A,B,D,E,G,I⟩:=hc5 HB.out (at_T79 z.out a asm asm)
     cases A
     go_wp2_with (first|((with_reducible refine gd 10 ?_);refine by_ w 10 #[.int .i64 0,.int .i64 0,.int .i64 0,.int .i64 0,.int .i64 0] 79 ?_;clear HB;intro t hg cA i ak hb HB;obtain⟨p,l⟩:=qn hg c;replace j:=rb j hb;replace c:=b1 c hb;clear hb hg;obtain⟨_,_⟩:=qo l;obtain⟨_,_,_,_,_,_,_,_,_,_⟩:=cf5 i.out)|((with_reducible refine gc 56 ?_);refine gl 20 Tryz.func56 (spec_IsOpen.calls ((rd_T79 d a).f0) ((rd_T79 d a).f1) ((rd_T79 d a).f2) ((rd_T79 d a).f3) ((rd_T79 d a).f4) false _ aq.out) ?_;rintro e cB ⟨rfl,hb⟩;refine⟨_,rfl,?_⟩;replace j:=am (Kd.R_below (kf (Kd.R_types j.out i.out (by decide)) (fun _ h_=>h_.1)) hb);replace c:=b1 c hb;replace i:=bq i hb;replace HB:=b2 hb;(try clear hb)))
     go_roundg k1
     case measure=>have:=aj.out;omega
     case rel=>exact⟨(q),(K),(wrap64 (a+1)),(es),(es),H,⟨by have:=aj.out;omega⟩,⟨rk j.out⟩,⟨bk c.out⟩,⟨bel⟩⟩
   ·obtain rfl:=qj1 H
    go_wp2
    go_ret
    exact⟨_,er,rk j.out,bel⟩
def spec_SourceSide.f(k:Nat)(a:Int)(b:List (S71))(a1:Int)(l2:List Int):Option (List Bool):=(spec_NetOk.f k a b).bind fun d=>(if d=true then((spec_l01In.f a1 0 (wrap64 (a-1))).bind fun e=>(if e=true then(if(l2.length:Int)=(b.length:Int)then((spec_l17Reach.f k a b a1 l2).bind fun c=>(some c.2))else(some ([]:List Bool)))else(some ([]:List Bool))))else(some ([]:List Bool)))
theorem spec_SourceSide.calls(k:Nat)(c:Int)(i:Option Addr)(j:Nat)(b:List (S71))(a1:Int)(A2:Option Addr)(c2:Nat)(l2:List Int)(r:List Bool)(w:World)(g:Kd.C k71 w i b.length b)(d:b.length≤j)(p:Kd.C (Kd.int .i64) w A2 l2.length l2)(n:l2.length≤c2)(h:spec_SourceSide.f k c b a1 l2=some r):Calls Tryz.prog 37 #[.agg #[.int .i64 c,.slice i b.length j],.int .i64 a1,.slice A2 l2.length c2] w fun e w'=>∃z:Value,e=.returned (z)∧Kd.R Kd.bool 4 w' w.heap.size (fun _=>True) z r∧Below w.heap.size w w':=by
 have B:=Tryz.underlying65
 replace g:=am g
 replace d:=am d
 replace p:=am p
 replace n:=am n
 have HB:=qb w
 have H:=h
 unfold spec_SourceSide.f at H
 clear h
 replace H:=bm H;obtain⟨D,A4,H⟩:=H
 replace H:=ib H;obtain⟨rfl,H⟩|⟨rfl,H⟩:=H
 ·replace H:=bm H;obtain⟨E,A6,H⟩:=H
  replace H:=ib H;obtain⟨rfl,H⟩|⟨rfl,H⟩:=H
  ·by_cases c8:(l2.length:Int)=(b.length:Int)
   ·rw[if_pos c8]at H
    have q:((l2.length:Int)==(b.length:Int))=true:=beq_iff_eq.mpr c8
    have s:((l2.length:Int) != (b.length:Int))=false:=bne_eq_false_iff_eq.mpr c8
    have t:(l2.length==b.length)=true:=by first|simpa using c8|(simp at c8⊢;omega)
    clear c8
    replace H:=bm H;obtain⟨⟨x,y⟩,A9,H⟩:=H;dsimp only at H
    obtain rfl:=qj1 H
    go_enter Tryz.func37,Tryz.ntmps37
    go_wp2_with (first|((with_reducible refine gd 3 ?_);refine bx w 3 #[.int .i64 c,.slice i b.length j] 65 ?_;clear HB;intro m J a l HB;obtain⟨_,_,_,_⟩:=cf2 a.out)|((with_reducible refine gc 60 ?_);refine gl 10 Tryz.func60 (spec_NetOk.calls k c _ _ b true _ (cb g HB) d.out A4.out) ?_;rintro e K ⟨rfl,hb⟩;refine⟨_,rfl,?_⟩;replace a:=b1 a hb;replace HB:=b2 hb;(try clear hb);obtain⟨_,_,_,_⟩:=cf2 a.out)|(go_at_call 53;refine cm1 (spec_l01In.calls a1 0 (wrap64 (c-1)) true _ A6.out) ?_;intro nd)|((with_reducible refine gc 58 ?_);refine gl 32 Tryz.func58 (spec_l17Reach.calls k c _ _ b a1 _ _ l2 x y _ (ck (Kd.C_below g.out bel)) d.out (ck (Kd.C_below p.out bel)) n.out A9.out) ?_;rintro e L ⟨G,I,rfl,u,v,hb⟩;refine⟨_,rfl,?_⟩;have A:=am (Kd.R_lower u (below_size bel));have o:=am (Kd.R_lower v (below_size bel));replace a:=b1 a hb;replace HB:=b2 hb;(try clear hb);(try clear u);(try clear v)))
    go_ret
    exact⟨_,er,rk o.out,bel⟩
   ·rw[if_neg c8]at H
    have q:((l2.length:Int)==(b.length:Int))=false:=beq_eq_false_iff_ne.mpr c8
    have s:((l2.length:Int) != (b.length:Int))=true:=bne_iff_ne.mpr c8
    have t:(l2.length==b.length)=false:=by first|simpa using c8|(simp at c8⊢;omega)
    obtain rfl:=qj1 H
    go_enter Tryz.func37,Tryz.ntmps37
    go_wp2_with (first|((with_reducible refine gd 3 ?_);refine bx w 3 #[.int .i64 c,.slice i b.length j] 65 ?_;clear HB;intro m M a l HB;obtain⟨_,_,_,_⟩:=cf2 a.out)|((with_reducible refine gc 60 ?_);refine gl 10 Tryz.func60 (spec_NetOk.calls k c _ _ b true _ (cb g HB) d.out A4.out) ?_;rintro e O ⟨rfl,hb⟩;refine⟨_,rfl,?_⟩;replace a:=b1 a hb;replace HB:=b2 hb;(try clear hb);obtain⟨_,_,_,_⟩:=cf2 a.out)|(go_at_call 53;refine cm1 (spec_l01In.calls a1 0 (wrap64 (c-1)) true _ A6.out) ?_;intro nd))
    go_ret
    exact⟨_,er,qk,bel⟩
  ·obtain rfl:=qj1 H
   go_enter Tryz.func37,Tryz.ntmps37
   go_wp2_with (first|((with_reducible refine gd 3 ?_);refine bx w 3 #[.int .i64 c,.slice i b.length j] 65 ?_;clear HB;intro m P a l HB;obtain⟨_,_,_,_⟩:=cf2 a.out)|((with_reducible refine gc 60 ?_);refine gl 10 Tryz.func60 (spec_NetOk.calls k c _ _ b true _ (cb g HB) d.out A4.out) ?_;rintro e T ⟨rfl,hb⟩;refine⟨_,rfl,?_⟩;replace a:=b1 a hb;replace HB:=b2 hb;(try clear hb);obtain⟨_,_,_,_⟩:=cf2 a.out)|(go_at_call 53;refine cm1 (spec_l01In.calls a1 0 (wrap64 (c-1)) false _ A6.out) ?_;intro nd))
   go_ret
   exact⟨_,er,qk,bel⟩
 ·obtain rfl:=qj1 H
  go_enter Tryz.func37,Tryz.ntmps37
  go_wp2_with (first|((with_reducible refine gd 3 ?_);refine bx w 3 #[.int .i64 c,.slice i b.length j] 65 ?_;clear HB;intro m U a l HB;obtain⟨_,_,_,_⟩:=cf2 a.out)|((with_reducible refine gc 60 ?_);refine gl 10 Tryz.func60 (spec_NetOk.calls k c _ _ b false _ (cb g HB) d.out A4.out) ?_;rintro e W ⟨rfl,hb⟩;refine⟨_,rfl,?_⟩;replace a:=b1 a hb;replace HB:=b2 hb;(try clear hb)))
  go_ret
  exact⟨_,er,qk,bel⟩
end Go.Proofs.YtgalpgakdcfilaaGreat.L
