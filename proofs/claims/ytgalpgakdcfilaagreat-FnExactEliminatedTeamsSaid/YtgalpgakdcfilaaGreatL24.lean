-- Written by a program of this session (wip/xp.py).
import Derived.Test.YtgalpgakdcfilaaGreatL0
import Derived.Test.YtgalpgakdcfilaaGreatL11
import Derived.Test.YtgalpgakdcfilaaGreatL23
namespace Go.Proofs.YtgalpgakdcfilaaGreat.L
open Go.RowKit Go.Proofs.YtgalpgakdcfilaaGreatW.PrintWords Go.Proofs.YtgalpgakdcfilaaGreatW.PrintLast Go.Proofs.YtgalpgakdcfilaaGreatW.PrintMore
attribute [local go_sem] max2_int min2_int max_two min_two max_three min_three max_four min_four
set_option linter.unusedVariables false
set_option linter.unusedSimpArgs false
set_option maxHeartbeats 8000000
set_option maxRecDepth 100000
def spec_l06Among.l0:Nat→List Int→Bool→List (S112)→List (S79)→Int→Int→Int→Int→Int→List Int→Bool→Option ((List (S112)))
  |0,_,_,_,_,_,_,_,_,_,_,_=>none
  |k+1,x3,x4,i,h,j,g,a,b,c,d,e=>if g<j then(if 0≤g then(if g<(h.length:Int)then(if x4=true then((spec_l06Add.f a b c d e i ((rd_T79 h g).f0) ((rd_T79 h g).f1) ((rd_T79 h g).f2) ((rd_T79 h g).f3) ((rd_T79 h g).f4)).bind fun l=>(spec_l06Among.l0 k x3 x4 l h j (wrap64 (g+1)) a b c d e))else((spec_l02Has.f k x3 ((rd_T79 h g).f0)).bind fun m=>(if m=true then((spec_l02Has.f k x3 ((rd_T79 h g).f1)).bind fun n=>(if n=true then((spec_l06Add.f a b c d e i ((rd_T79 h g).f0) ((rd_T79 h g).f1) ((rd_T79 h g).f2) ((rd_T79 h g).f3) ((rd_T79 h g).f4)).bind fun o=>(spec_l06Among.l0 k x3 x4 o h j (wrap64 (g+1)) a b c d e))else(spec_l06Among.l0 k x3 x4 i h j (wrap64 (g+1)) a b c d e)))else(spec_l06Among.l0 k x3 x4 i h j (wrap64 (g+1)) a b c d e))))else(none))else(none))else(some i)
def spec_l06Among.f(k:Nat)(a:Int)(b:Int)(c:Int)(e:List Int)(d:Bool)(a1:Int)(l2:List (S79))(l3:List Int)(a4:Bool):Option ((List (S112))):=if 0≤a1 then(if(a1:Int).toNat≤5026338869833 then(spec_l06Among.l0 k l3 a4 (List.replicate (a1:Int).toNat z112) l2 (l2.length:Int) 0 a b c e d)else(none))else(none)
theorem spec_l06Among.calls(k:Nat)(m:Int)(n:Int)(o:Int)(E:Option Addr)(G:Nat)(j:List Int)(p:Bool)(a1:Int)(A2:Option Addr)(c2:Nat)(l2:List (S79))(A3:Option Addr)(c3:Nat)(l3:List Int)(a4:Bool)(r:List (S112))(w:World)(J:Kd.C (Kd.int .i64) w E j.length j)(I:j.length≤G)(W:Kd.C k79 w A2 l2.length l2)(ap:l2.length≤c2)(P:Kd.C (Kd.int .i64) w A3 l3.length l3)(O:l3.length≤c3)(h:spec_l06Among.f k m n o j p a1 l2 l3 a4=some r):Calls Tryz.prog 76 #[.agg #[.int .i64 m,.int .i64 n,.int .i64 o,.slice E j.length G,.bool p],.int .i64 a1,.slice A2 l2.length c2,.slice A3 l3.length c3,.bool a4] w fun e w'=>∃ax:Value,e=.returned (ax)∧Kd.R k112 112 w' w.heap.size (fun _=>True) ax r∧Below w.heap.size w w':=by
 have aF:=Tryz.underlying32
 have aG:=Tryz.underlying79
 replace J:=am J
 replace I:=am I
 replace W:=am W
 replace ap:=am ap
 replace P:=am P
 replace O:=am O
 have HB:=qb w
 have H:=h
 unfold spec_l06Among.f at H
 clear h
 by_cases c6:0≤a1
 ·rw[if_pos c6]at H
  have aq:=eq_true c6
  have ar:decide (0≤a1)=true:=decide_eq_true c6
  clear c6
  replace H:=i0 H;obtain⟨af,H⟩:=H
  have au:=eq_true (of_decide_eq_true af)
  generalize hy359:(List.replicate (a1:Int).toNat z112:List (S112))=ay at H
  have X:=am hy359.symm
  clear hy359
  replace H:=am H
  go_enter Tryz.func76,Tryz.ntmps76
  go_wp2_with (first|((with_reducible refine gd 5 ?_);refine bx w 5 #[.int .i64 m,.int .i64 n,.int .i64 o,.slice E j.length G,.bool p] 32 ?_;clear HB;intro U w8 b aB HB)|((with_reducible refine gate_dst (N:=15) rfl ?_);refine Kd.R_make k112 _ 112 rfl (N:=15) rfl 109 _ _ rfl a1 rfl rfl Tryz.underlying109 (.agg #[(.int .i64 0),(.int .i64 0),(.int .i64 0),(.int .i64 0),(.int .i64 0),(.int .i64 0),(.int .i64 0)]) 56 info112 rfl (by decide) (by omega) z112 (ok:=fun _=>True) (okp:=fun _=>True) (k112_mkM _ _ _ z112) (fun _ hk=>hk) trivial (asm) (Nat.le_trans (Nat.mul_le_mul_right _ (asm:a1.toNat≤5026338869833)) (by omega)) (Below.refl _ _) (Nat.le_refl _) ?_;intro Z w9 L hb hg_ hnew_;clear hg_ hnew_;(first|rw[←X.out]at L|(simp only[Int.reduceToNat]at L;rw[←X.out]at L));have al:=am (Kd.R_lower L (below_size bel));replace b:=b1 b hb;replace HB:=b2 hb;clear hb L))
  go_loopg [18] k (fun kq aE w'=>∃(i:List (S112)) (a:Int),aE=.int .i64 a∧Aside0 (spec_l06Among.l0 kq l3 a4 i l2 (l2.length:Int) a m n o j p=some r)∧Aside0 (kq≤k)∧Aside0 (Kd.R k112 112 w' w.heap.size (fun _=>True) Z i)∧Aside0 (w'.heap[U]? =some (.cells #[.int .i64 m,.int .i64 n,.int .i64 o,(.slice E j.length G),.bool p] 32 (0,0)))∧Aside0 (Below w.heap.size w w'))
  case atStart=>exact⟨(ay),(0),(es),H,⟨Nat.le_refl _⟩,⟨rk al.out⟩,⟨bk b.out⟩,⟨bel⟩⟩
  case round=>
   clear H
   try clear c2;try clear c3;try clear c6;try clear aq;try clear ar;try clear au;try clear af
   obtain⟨i,a,rfl,HA,K,c,b,HB⟩:=hrel
   cases gk with
   |zero=>exact absurd HA.out (by simp [spec_l06Among.l0])
   |succ k1=>
    have H:=HA.out
    clear HA
    simp only[spec_l06Among.l0]at H
    replace H:=i1 H;obtain⟨an,H⟩|⟨an,H⟩:=H
    ·replace H:=i0 H;obtain⟨aC,H⟩:=H
     replace H:=i0 H;obtain⟨aD,H⟩:=H
     replace H:=ib H;obtain⟨rfl,H⟩|⟨rfl,H⟩:=H
     ·replace H:=bm H;obtain⟨ai,az,H⟩:=H
      replace H:=am H
      have:(0≤(a:Int))=True:=ab
      have:(a<(l2.length:Int))=True:=ab
      obtain⟨T,q,t,u,v,x,y⟩:=hc5 HB.out (at_T79 W.out a asm asm)
      cases q
      go_wp2_with (first|((with_reducible refine gd 13 ?_);refine by_ w 13 #[.int .i64 0,.int .i64 0,.int .i64 0,.int .i64 0,.int .i64 0] 79 ?_;clear HB;intro s hg aJ d M hb HB;obtain⟨l,g⟩:=qn hg b;replace c:=rb c hb;replace b:=b1 b hb;clear hb hg;obtain⟨_,_⟩:=qo g;obtain⟨_,_,_,_,_,_,_,_,_,_⟩:=cf5 d.out)|((with_reducible refine gs 79 13 ?_);refine sv 79 13 ?_;intro aa hw;have z:Aside0 (Kd.R k112 112 aa w.heap.size (fun _=>True) Z i):=⟨(by rw[hw];exact(kf (Kd.R_types c.out d.out (by decide)) (fun _ hk=>trivial)))⟩;have A:Aside0 (aa.heap[U]? =some (.cells #[.int .i64 m,.int .i64 n,.int .i64 o,.slice E j.length G,.bool p] 32 (0,0))):=⟨(by rw[hw];exact(bk b.out))⟩;have B:Aside0 (aa.heap[s]? =some (.cells #[.int .i64 ((rd_T79 l2 a).f0),.int .i64 ((rd_T79 l2 a).f1),.int .i64 ((rd_T79 l2 a).f2),.int .i64 ((rd_T79 l2 a).f3),.int .i64 ((rd_T79 l2 a).f4)] 79 (0,0))):=⟨(by rw[hw];exact(bz d))⟩;have D:Aside0 (Below w.heap.size w aa):=⟨(by rw[hw];exact bel)⟩;clear hw;clear c;clear b;clear d;clear HB;have c:=z;have b:=A;have d:=B;have HB:=D;clear z A B D;obtain⟨_,_,_,_,_,_,_,_,_,_⟩:=cf5 b.out;obtain⟨_,_,_,_,_,_,_,_,_,_⟩:=cf5 d.out;obtain⟨ad,ag,av⟩:=Kd.R_slice c.out;subst av)|((with_reducible refine gc 87 ?_);refine gl 38 Tryz.func87 (spec_l06Add.calls m n o _ _ j p (fun k_=>some k_=(.slice ad i.length ag:Value).ownBlock) (.slice ad i.length ag) i ((rd_T79 l2 a).f0) ((rd_T79 l2 a).f1) ((rd_T79 l2 a).f2) ((rd_T79 l2 a).f3) ((rd_T79 l2 a).f4) ai w _ bel (Kd.C_kept_came (Kd.heap_int .i64) J.out bel (fun k_ hs_=>(fun e_=>Kd.R_base c.out k_ e_.symm) hs_)) I.out (Kd.R_tight rfl c.out) az.out) ?_;rintro e aK ⟨rfl,Y,hb,hkp⟩;refine⟨_,rfl,?_⟩;have z:=am (Kd.R_reok rfl Y (fun k_ e_=>c.out.1 k_ e_));have A:=am (blk_kept (bk b.out) hkp (fun hs_=>(fun e_=>(Kd.R_ne c.out b.out (by decide)) e_) hs_));have B:=am (blk_kept (bk d.out) hkp (fun hs_=>(fun e_=>(Kd.R_ne c.out d.out (by decide)) e_) hs_));have D:=am (hb);clear c;clear b;clear d;clear HB;have c:=z;have b:=A;have d:=B;have HB:=D;clear z A B D;(try clear hb);(try clear hkp);(try clear Y)))
      go_roundg k1
      case measure=>have:=K.out;omega
      case rel=>exact⟨(ai),(wrap64 (a+1)),(es),H,⟨by have:=K.out;omega⟩,⟨rk c.out⟩,⟨bk b.out⟩,⟨bel⟩⟩
     ·replace H:=bm H;obtain⟨aH,ak,H⟩:=H
      replace H:=ib H;obtain⟨rfl,H⟩|⟨rfl,H⟩:=H
      ·replace H:=bm H;obtain⟨aI,ao,H⟩:=H
       replace H:=ib H;obtain⟨rfl,H⟩|⟨rfl,H⟩:=H
       ·replace H:=bm H;obtain⟨aj,aA,H⟩:=H
        replace H:=am H
        have:(0≤(a:Int))=True:=ab
        have:(a<(l2.length:Int))=True:=ab
        obtain⟨T,q,t,u,v,x,y⟩:=hc5 HB.out (at_T79 W.out a asm asm)
        cases q
        go_wp2_with (first|((with_reducible refine gd 13 ?_);refine by_ w 13 #[.int .i64 0,.int .i64 0,.int .i64 0,.int .i64 0,.int .i64 0] 79 ?_;clear HB;intro s hg aL d M hb HB;obtain⟨l,g⟩:=qn hg b;replace c:=rb c hb;replace b:=b1 b hb;clear hb hg;obtain⟨_,_⟩:=qo g;obtain⟨_,_,_,_,_,_,_,_,_,_⟩:=cf5 d.out)|((with_reducible refine gs 79 13 ?_);refine sv 79 13 ?_;intro ac hw;have z:Aside0 (Kd.R k112 112 ac w.heap.size (fun _=>True) Z i):=⟨(by rw[hw];exact(kf (Kd.R_types c.out d.out (by decide)) (fun _ hk=>trivial)))⟩;have A:Aside0 (ac.heap[U]? =some (.cells #[.int .i64 m,.int .i64 n,.int .i64 o,.slice E j.length G,.bool p] 32 (0,0))):=⟨(by rw[hw];exact(bk b.out))⟩;have B:Aside0 (ac.heap[s]? =some (.cells #[.int .i64 ((rd_T79 l2 a).f0),.int .i64 ((rd_T79 l2 a).f1),.int .i64 ((rd_T79 l2 a).f2),.int .i64 ((rd_T79 l2 a).f3),.int .i64 ((rd_T79 l2 a).f4)] 79 (0,0))):=⟨(by rw[hw];exact(bz d))⟩;have D:Aside0 (Below w.heap.size w ac):=⟨(by rw[hw];exact bel)⟩;clear hw;clear c;clear b;clear d;clear HB;have c:=z;have b:=A;have d:=B;have HB:=D;clear z A B D;obtain⟨_,_,_,_,_,_,_,_,_,_⟩:=cf5 d.out)|(go_at_call 84;refine cm1 (spec_l02Has.calls k1 _ _ l3 ((rd_T79 l2 a).f0) true _ (cb P HB) O.out ak.out) ?_;intro nd)|(go_at_call 84;refine cm1 (spec_l02Has.calls k1 _ _ l3 ((rd_T79 l2 a).f1) true _ (ck (Kd.C_below P.out bel)) O.out ao.out) ?_;intro nd;obtain⟨_,_,_,_,_,_,_,_,_,_⟩:=cf5 b.out;obtain⟨ae,ah,aw⟩:=Kd.R_slice c.out;subst aw)|((with_reducible refine gc 87 ?_);refine gl 38 Tryz.func87 (spec_l06Add.calls m n o _ _ j p (fun k_=>some k_=(.slice ae i.length ah:Value).ownBlock) (.slice ae i.length ah) i ((rd_T79 l2 a).f0) ((rd_T79 l2 a).f1) ((rd_T79 l2 a).f2) ((rd_T79 l2 a).f3) ((rd_T79 l2 a).f4) aj w _ bel (Kd.C_kept_came (Kd.heap_int .i64) J.out bel (fun k_ hs_=>(fun e_=>Kd.R_base c.out k_ e_.symm) hs_)) I.out (Kd.R_tight rfl c.out) aA.out) ?_;rintro e aM ⟨rfl,Y,hb,hkp⟩;refine⟨_,rfl,?_⟩;have z:=am (Kd.R_reok rfl Y (fun k_ e_=>c.out.1 k_ e_));have A:=am (blk_kept (bk b.out) hkp (fun hs_=>(fun e_=>(Kd.R_ne c.out b.out (by decide)) e_) hs_));have B:=am (blk_kept (bk d.out) hkp (fun hs_=>(fun e_=>(Kd.R_ne c.out d.out (by decide)) e_) hs_));have D:=am (hb);clear c;clear b;clear d;clear HB;have c:=z;have b:=A;have d:=B;have HB:=D;clear z A B D;(try clear hb);(try clear hkp);(try clear Y)))
        go_roundg k1
        case measure=>have:=K.out;omega
        case rel=>exact⟨(aj),(wrap64 (a+1)),(es),H,⟨by have:=K.out;omega⟩,⟨rk c.out⟩,⟨bk b.out⟩,⟨bel⟩⟩
       ·replace H:=am H
        have:(0≤(a:Int))=True:=ab
        have:(a<(l2.length:Int))=True:=ab
        obtain⟨T,q,t,u,v,x,y⟩:=hc5 HB.out (at_T79 W.out a asm asm)
        cases q
        go_wp2_with (first|((with_reducible refine gd 13 ?_);refine by_ w 13 #[.int .i64 0,.int .i64 0,.int .i64 0,.int .i64 0,.int .i64 0] 79 ?_;clear HB;intro s hg aN d M hb HB;obtain⟨l,g⟩:=qn hg b;replace c:=rb c hb;replace b:=b1 b hb;clear hb hg;obtain⟨_,_⟩:=qo g;obtain⟨_,_,_,_,_,_,_,_,_,_⟩:=cf5 d.out)|(go_at_call 84;refine cm1 (spec_l02Has.calls k1 _ _ l3 ((rd_T79 l2 a).f0) true _ (Kd.C_below P.out bel) O.out ak.out) ?_;intro nd)|(go_at_call 84;refine cm1 (spec_l02Has.calls k1 _ _ l3 ((rd_T79 l2 a).f1) false _ (Kd.C_below P.out bel) O.out ao.out) ?_;intro nd))
        go_roundg k1
        case measure=>have:=K.out;omega
        case rel=>exact⟨(i),(wrap64 (a+1)),(es),H,⟨by have:=K.out;omega⟩,⟨(kf (Kd.R_types c.out d.out (by decide)) (fun _ hk=>trivial))⟩,⟨bk b.out⟩,⟨bel⟩⟩
      ·replace H:=am H
       have:(0≤(a:Int))=True:=ab
       have:(a<(l2.length:Int))=True:=ab
       obtain⟨T,q,t,u,v,x,y⟩:=hc5 HB.out (at_T79 W.out a asm asm)
       cases q
       go_wp2_with (first|((with_reducible refine gd 13 ?_);refine by_ w 13 #[.int .i64 0,.int .i64 0,.int .i64 0,.int .i64 0,.int .i64 0] 79 ?_;clear HB;intro s hg aO d M hb HB;obtain⟨l,g⟩:=qn hg b;replace c:=rb c hb;replace b:=b1 b hb;clear hb hg;obtain⟨_,_⟩:=qo g;obtain⟨_,_,_,_,_,_,_,_,_,_⟩:=cf5 d.out)|(go_at_call 84;refine cm1 (spec_l02Has.calls k1 _ _ l3 ((rd_T79 l2 a).f0) false _ (Kd.C_below P.out bel) O.out ak.out) ?_;intro nd))
       go_roundg k1
       case measure=>have:=K.out;omega
       case rel=>exact⟨(i),(wrap64 (a+1)),(es),H,⟨by have:=K.out;omega⟩,⟨(kf (Kd.R_types c.out d.out (by decide)) (fun _ hk=>trivial))⟩,⟨bk b.out⟩,⟨bel⟩⟩
    ·obtain rfl:=qj1 H
     go_wp2
     go_ret
     exact⟨_,er,rk c.out,bel⟩
 ·rw[if_neg c6]at H
  exact absurd H (by simp)
def spec_l18Points.l0:Nat→List Int→List (S112)→Int→Int→List (S83)→Int→Int→Int→List Int→Bool→List (S79)→List Int→List Int→Option (List Int)
  |0,_,_,_,_,_,_,_,_,_,_,_,_,_=>none
  |k+1,x3,m,n,b,c,d,e,g,h,i,j,l,a=>if b<n then(if 0≤b then(if b<(m.length:Int)then(if b<(a.length:Int)then(if x3.length<17592186044416 then(spec_l18Points.l0 k (x3++[wrap64 (((rd_T112 m b).f6)-(rd a b))]) m n (wrap64 (b+1)) c d e g h i j l a)else(none))else(none))else(none))else(none))else(some x3)
def spec_l18Points.f(k:Nat)(e:List (S83))(a:Int)(b:Int)(c:Int)(g:List Int)(d:Bool)(h:List (S79))(j:List Int)(l:List Int):Option (List Int):=(spec_l06Among.f k a b c g d (e.length:Int) h ([]:List Int) true).bind fun i=>(spec_l18Points.l0 k (([]:List Int)) i (i.length:Int) 0 e a b c g d h j l)
def spec_l18Points.T5:Bool×List (List Nat×List Nat):=(true,[([],[]),([],[]),([1],[1]),([],[]),([3],[3]),([],[]),([4,5],[4,5]),([6],[6]),([2,7],[2,7]),([8],[8]),([0,9],[0,9]),([10,10,0,1,2,3,4,5,6,7,8,9,10],[0,10])])
def spec_l18Points.B5:List Nat:=[0,0,2,0,8,0,56,120,254,510,1023,2047]
theorem spec_l18Points.tab5:rtab .any (opsOf Tryz.f54 5)=spec_l18Points.T5:=by kernel_rfl
theorem spec_l18Points.bits5:waitsOk spec_l18Points.T5.2 spec_l18Points.B5=true:=by kernel_rfl
theorem spec_l18Points.calls(k:Nat)(M:Option Addr)(P:Nat)(s:List (S83))(y:Int)(z:Int)(A:Int)(G:Option Addr)(J:Nat)(t:List Int)(B:Bool)(I:Option Addr)(L:Nat)(u:List (S79))(O:Option Addr)(T:Nat)(D:List Int)(Y:Option Addr)(U:Nat)(m:List Int)(r:List Int)(w:World)(ao:Kd.C k83 w M s.length s)(aj:s.length≤P)(ad:Kd.C (Kd.int .i64) w G t.length t)(Z:t.length≤J)(ae:Kd.C k79 w I u.length u)(aa:u.length≤L)(ap:Kd.C (Kd.int .i64) w O D.length D)(ak:D.length≤T)(af:Kd.C (Kd.int .i64) w Y m.length m)(al:m.length≤U)(h:spec_l18Points.f k s y z A t B u D m=some r):Calls Tryz.prog 54 #[.agg #[.slice M s.length P,.int .i64 y,.int .i64 z,.int .i64 A,.slice G t.length J,.bool B,.slice I u.length L,.slice O D.length T,.slice Y m.length U]] w fun e w'=>∃bj:Value,e=.returned (bj)∧Kd.R (Kd.int .i64) 3 w' w.heap.size (fun _=>True) bj r∧Below w.heap.size w w':=by
 have bF:=Tryz.underlying35
 have bE:=Tryz.underlying32
 have bB:=Tryz.underlying112
 replace ao:=am ao
 replace aj:=am aj
 replace ad:=am ad
 replace Z:=am Z
 replace ae:=am ae
 replace aa:=am aa
 replace ap:=am ap
 replace ak:=am ak
 replace af:=am af
 replace al:=am al
 have HB:=qb w
 have H:=h
 unfold spec_l18Points.f at H
 clear h
 obtain⟨aX,W⟩:∃y_:List Int,y_=(([]:List Int)):=⟨_,rfl⟩
 replace H:((spec_l06Among.f k y z A t B (s.length:Int) u ([]:List Int) true).bind fun c=>(spec_l18Points.l0 k aX c (c.length:Int) 0 s y z A t B u D m))=some r:=by first|(rw[W];with_reducible exact H)|(have aY:=(Option.bind_some _ _).symm.trans H;rw[W];with_reducible exact aY)|(have aY:=(Option.bind_some _ _).symm.trans H;with_reducible exact aY)|with_reducible exact H|(rw[W];exact H)|exact H
 have aq:=am W
 clear W
 replace H:=bm H;obtain⟨c,A2,H⟩:=H
 replace H:=am H
 go_enter Tryz.func54,Tryz.ntmps54
 go_wp2_with (first|((with_reducible refine gd 1 ?_);refine bx w 1 #[.slice M s.length P,.int .i64 y,.int .i64 z,.int .i64 A,.slice G t.length J,.bool B,.slice I u.length L,.slice O D.length T,.slice Y m.length U] 35 ?_;clear HB;intro q w3 b bo HB)|((with_reducible refine gate_dst (N:=6) rfl ?_);refine Kd.R_lit (Kd.int .i64) _ 3 ?hg (N:=6) ?hd (xs:=([]:List Int)) (inner:=[]) (ok:=fun _=>True) (okp:=fun _=>True) ?hr ?hp (fun _ hk=>hk) trivial (Below.refl _ _) (Nat.le_refl _) (by simp) ?_;(case hd=>rfl);(case hg=>rfl);(case hr=>first|(go_simp;done)|(go_simp;rfl));(case hp=>exact(Reps.none _ _));intro bG w4 ar hb hg_ hnew_;clear hg_ hnew_;(first|rw[←aq.out]at ar|(simp only[Int.reduceToNat]at ar;rw[←aq.out]at ar));have ac:=am (Kd.R_lower ar (below_size bel));replace b:=b1 b hb;replace HB:=b2 hb;clear hb ar;obtain⟨az,aA,aC,aD,aE,aG,aH,aI,aJ,aK,aM,aN,aQ,aR,aT,aU,aV,aW⟩:=cf9 b.out)|((with_reducible refine gate_callee (f:=76) rfl ?_);refine goesL_ (some 14) rfl rfl Tryz.func76 (by kernel_rfl) rfl #[.agg #[.int .i64 y,.int .i64 z,.int .i64 A,.slice G t.length J,.bool B],.int .i64 (s.length:Int),.slice I u.length L,.slice none 0 0,.bool true] rfl ga ?_;(refine(spec_l06Among.calls k y z A _ _ t B (s.length:Int) _ _ u _ _ ([]:List Int) true c _ ?side1 ?side2 ?side3 ?side4 ?side5 ?side6 A2.out).mono ?_);(case side1=>exact ck (Kd.C_below ad.out HB.out));(case side2=>exact Z.out);(case side3=>exact ck (Kd.C_below ae.out HB.out));(case side4=>exact aa.out);(case side5=>exact Kd.C_nil _ _);(case side6=>exact Nat.le_refl _);rintro e w7 ⟨bH,rfl,ba,hb⟩;refine⟨_,rfl,?_⟩;have an:=am (Kd.R_lower ba (below_size bel));replace ac:=rb ac hb;replace b:=b1 b hb;replace HB:=b2 hb;(try clear hb);(try clear ba);obtain⟨bn,a7,bA⟩:=Kd.R_slice an.out;subst bA))
 go_loopg [3,16] k (fun kq v3 bC w'=>∃(X:List Int) (a:Int),bC=.int .i64 a∧Aside0 (spec_l18Points.l0 kq X c (c.length:Int) a s y z A t B u D m=some r)∧Aside0 (kq≤k)∧Aside0 (Kd.R (Kd.int .i64) 3 w' w.heap.size (fun _=>True) v3 X)∧Aside0 (Kd.R k112 112 w' w.heap.size (fun _=>True) (.slice bn c.length a7) c)∧Aside0 (w'.heap[q]? =some (.cells #[(.slice M s.length P),.int .i64 y,.int .i64 z,.int .i64 A,(.slice G t.length J),.bool B,(.slice I u.length L),(.slice O D.length T),(.slice Y m.length U)] 35 (0,0)))∧Aside0 (Below w.heap.size w w'))
 case atStart=>exact⟨(aX),(0),(es),H,⟨Nat.le_refl _⟩,⟨rk ac.out⟩,⟨rk an.out⟩,⟨bk b.out⟩,⟨bel⟩⟩
 case round=>
  clear H
  try clear az;try clear aA;try clear aC;try clear aD;try clear aE;try clear aG;try clear aH;try clear aI;try clear aJ;try clear aK;try clear aM;try clear aN;try clear aQ;try clear aR;try clear aT;try clear aU;try clear aV;try clear aW
  obtain⟨X,a,rfl,HA,a4,x,j,b,HB⟩:=hrel
  cases gk with
  |zero=>exact absurd HA.out (by simp [spec_l18Points.l0])
  |succ k1=>
   have H:=HA.out
   clear HA
   simp only[spec_l18Points.l0]at H
   replace H:=i1 H;obtain⟨a6,H⟩|⟨a6,H⟩:=H
   ·replace H:=i0 H;obtain⟨br,H⟩:=H
    replace H:=i0 H;obtain⟨bu,H⟩:=H
    replace H:=i0 H;obtain⟨bw,H⟩:=H
    replace H:=i0 H;obtain⟨a5,H⟩:=H
    have a0:=am (of_decide_eq_true a5)
    clear a5
    generalize hy378:(X++[wrap64 (((rd_T112 c a).f6)-(rd m a))]:List Int)=bl at H
    have a2:=am hy378.symm
    clear hy378
    replace H:=am H
    have:(0≤(a:Int))=True:=ab
    have:(a<(c.length:Int))=True:=ab
    obtain⟨a3,a8,bc,bd,be,bf,bg,bh,bi⟩:=at_T112 (Kd.R_reads' j.out).2.2 a asm asm
    cases a8
    try go_wp2_with (first|((with_reducible refine gd 5 ?_);refine by_ w 5 #[.int .i64 0,.int .i64 0,.int .i64 0,.int .i64 0,.int .i64 0,.int .i64 0,.int .i64 0] 112 ?_;clear HB;intro i hg bD d bp hb HB;obtain⟨a1,ag⟩:=qn hg b;replace x:=rb x hb;replace j:=am (Kd.R_below (Kd.R_elderB (rk j.out) i (Nat.le_of_eq hg.symm)) hb);replace b:=b1 b hb;clear hb hg;obtain⟨_,_⟩:=qo ag;obtain⟨_,_,_,_,_,_,_,_,_,_,_,_,_,_⟩:=cf7 d.out))
    obtain⟨ai,hw⟩:∃W_,W_=(((((((bD.setCell ⟨i,0,none⟩ (.int .i64 ((rd_T112 c a).f0))).setCell ⟨i,1,none⟩ (.int .i64 ((rd_T112 c a).f1))).setCell ⟨i,2,none⟩ (.int .i64 ((rd_T112 c a).f2))).setCell ⟨i,3,none⟩ (.int .i64 ((rd_T112 c a).f3))).setCell ⟨i,4,none⟩ (.int .i64 ((rd_T112 c a).f4))).setCell ⟨i,5,none⟩ (.int .i64 ((rd_T112 c a).f5))).setCell ⟨i,6,none⟩ (.int .i64 ((rd_T112 c a).f6))):=⟨_,rfl⟩
    rw[←hw]
    have au:Aside0 (Kd.R (Kd.int .i64) 3 ai w.heap.size (fun _=>True) u3 X):=⟨by rw[hw];exact(kf (Kd.R_types x.out d.out (by decide)) (fun _ hk=>trivial))⟩
    have av:Aside0 (Kd.R k112 112 ai w.heap.size (fun k_=>k_≠i) (.slice (some a3) c.length a7) c):=⟨by rw[hw];(with_reducible repeat (first|apply Kd.R_alloc|apply Kd.R_drewN|apply Kd.R_drew));exact Kd.R_mono (Kd.R_far (p:=⟨i,6,none⟩) (Kd.R_far (p:=⟨i,5,none⟩) (Kd.R_far (p:=⟨i,4,none⟩) (Kd.R_far (p:=⟨i,3,none⟩) (Kd.R_far (p:=⟨i,2,none⟩) (Kd.R_far (p:=⟨i,1,none⟩) (Kd.R_far (p:=⟨i,0,none⟩) (Kd.R_mono j.out (fun k_ hk=>(⟨hk,hk.2⟩:_∧k_≠i))) (fun _ hk=>hk.2) (.int .i64 ((rd_T112 c a).f0))) (fun _ hk=>hk.2) (.int .i64 ((rd_T112 c a).f1))) (fun _ hk=>hk.2) (.int .i64 ((rd_T112 c a).f2))) (fun _ hk=>hk.2) (.int .i64 ((rd_T112 c a).f3))) (fun _ hk=>hk.2) (.int .i64 ((rd_T112 c a).f4))) (fun _ hk=>hk.2) (.int .i64 ((rd_T112 c a).f5))) (fun _ hk=>hk.2) (.int .i64 ((rd_T112 c a).f6))) (fun _ hk=>hk.1.2)⟩
    have aw:Aside0 (ai.heap[q]? =some (.cells #[.slice M s.length P,.int .i64 y,.int .i64 z,.int .i64 A,.slice G t.length J,.bool B,.slice I u.length L,.slice O D.length T,.slice Y m.length U] 35 (0,0))):=⟨by rw[hw];exact bk b.out⟩
    have ax:Aside0 (ai.heap[i]? =some (.cells #[.int .i64 ((rd_T112 c a).f0),.int .i64 ((rd_T112 c a).f1),.int .i64 ((rd_T112 c a).f2),.int .i64 ((rd_T112 c a).f3),.int .i64 ((rd_T112 c a).f4),.int .i64 ((rd_T112 c a).f5),.int .i64 ((rd_T112 c a).f6)] 112 (0,0))):=⟨by rw[hw];exact(bz d)⟩
    have ay:Aside0 (Below w.heap.size w ai):=⟨by rw[hw];exact bel⟩
    (try clear x)
    (try clear j)
    (try clear b)
    (try clear d)
    (try clear HB)
    clear hw
    have x:=au
    have j:=av
    have b:=aw
    have d:=ax
    have HB:=ay
    clear au av aw ax ay
    replace x:=am (Kd.R_drew x.out)
    replace j:=am (Kd.R_drew j.out)
    replace b:=am (blk_drew b.out)
    replace d:=am (blk_drew d.out)
    replace HB:=am (below_drew1 HB.out)
    have:(0≤(a:Int))=True:=ab
    have:(a<(m.length:Int))=True:=ab
    obtain⟨ah,a9,E⟩:=Kd.at_int af.out a asm asm
    have l:=E
    cases a9
    replace E:=hcl HB.out E
    refine start_ (n:=12) (S:=fun w'=>w'.cell? ⟨i,0,none⟩=some (.int .i64 ((rd_T112 c a).f0))∧w'.cell? ⟨i,1,none⟩=some (.int .i64 ((rd_T112 c a).f1))∧w'.cell? ⟨i,2,none⟩=some (.int .i64 ((rd_T112 c a).f2))∧w'.cell? ⟨i,3,none⟩=some (.int .i64 ((rd_T112 c a).f3))∧w'.cell? ⟨i,4,none⟩=some (.int .i64 ((rd_T112 c a).f4))∧w'.cell? ⟨i,5,none⟩=some (.int .i64 ((rd_T112 c a).f5))∧w'.cell? ⟨i,6,none⟩=some (.int .i64 ((rd_T112 c a).f6))∧w'.cell? ⟨q,0,none⟩=some (.slice M s.length P)∧w'.cell? ⟨q,1,none⟩=some (.int .i64 y)∧w'.cell? ⟨q,2,none⟩=some (.int .i64 z)∧w'.cell? ⟨q,3,none⟩=some (.int .i64 A)∧w'.cell? ⟨q,4,none⟩=some (.slice G t.length J)∧w'.cell? ⟨q,5,none⟩=some (.bool B)∧w'.cell? ⟨q,6,none⟩=some (.slice I u.length L)∧w'.cell? ⟨q,7,none⟩=some (.slice O D.length T)∧w'.cell? ⟨q,8,none⟩=some (.slice (some ah) m.length U)∧w'.cell? (ah.add (a).toNat)=some (.int .i64 (rd m a))) (ds:=[]) (lb 12 0) (by kernel_rfl) rfl rfl ⟨qc d 0,qc d 1,qc d 2,qc d 3,qc d 4,qc d 5,qc d 6,qc b 0,qc b 1,qc b 2,qc b 3,qc b 4,qc b 5,qc b 6,qc b 7,qc b 8,((HB.out.cell (World.block_lt_of_cell? w _ l)).trans l)⟩ (fun hHeld=>?_);refine with_tabW spec_l18Points.tab5 spec_l18Points.bits5 (fun HT_ HW_=>?_)
    generalize ai.drew=bJ at x j b d HB E hHeld⊢
    refine pu HT_ 0 21 (lb 12 1) ?_
    refine pu HT_ 1 22 (lb 12 3) ?_
    refine pu HT_ 3 24 (lb 12 11) ?_
    refine pu HT_ 5 26 (lb 12 43) ?_
    refine tk HT_ HW_ hHeld 2 23 (lb 12 47) ?_
    refine tk HT_ HW_ hHeld 4 25 (lb 12 63) ?_
    refine pu HT_ 6 27 (lb 12 127) ?_
    refine tk HT_ HW_ hHeld 7 28 (lb 12 255) ?_
    refine pu HT_ 8 29 (lb 12 511) ?_
    refine on HT_ 9 30 (lb 12 1023) fun K hK=>?_
    refine value_ (w1:=?_) (v:=?_) (by rfl) rfl ?_ ?_
    rotate_left 2
    ·go_simp
     constructor
     ·rfl
     ·rfl
    refine hK.out _ _ ⟨(blk_cell (blk_alloc d.out _) 0).trans rfl,(blk_cell (blk_alloc d.out _) 1).trans rfl,(blk_cell (blk_alloc d.out _) 2).trans rfl,(blk_cell (blk_alloc d.out _) 3).trans rfl,(blk_cell (blk_alloc d.out _) 4).trans rfl,(blk_cell (blk_alloc d.out _) 5).trans rfl,(blk_cell (blk_alloc d.out _) 6).trans rfl,(blk_cell (blk_alloc b.out _) 0).trans rfl,(blk_cell (blk_alloc b.out _) 1).trans rfl,(blk_cell (blk_alloc b.out _) 2).trans rfl,(blk_cell (blk_alloc b.out _) 3).trans rfl,(blk_cell (blk_alloc b.out _) 4).trans rfl,(blk_cell (blk_alloc b.out _) 5).trans rfl,(blk_cell (blk_alloc b.out _) 6).trans rfl,(blk_cell (blk_alloc b.out _) 7).trans rfl,(blk_cell (blk_alloc b.out _) 8).trans rfl,(World.cell?_alloc_lt _ _ _ (World.block_lt_of_cell? _ _ (((HB.out.cell (World.block_lt_of_cell? w _ l)).trans l)))).trans (((HB.out.cell (World.block_lt_of_cell? w _ l)).trans l))⟩ (fun hHeld=>?_)
    clear hK K
    refine nm 30 ?_
    refine on HT_ 10 31 (lb 12 2047) fun K hK=>?_
    refine Kd.R_append_step (Kd.int .i64) (w0:=w) w.heap.size (by rfl) (.tmp 21) (.tmp 30) 23 3 (.int .i64 0) 8 rfl Tryz.underlying23 info3 rfl (by decide) (by omega) u3 X (wrap64 (((rd_T112 c a).f6)-(rd m a))) [.int .i64 (wrap64 (((rd_T112 c a).f6)-(rd m a)))] (fun _=>True) (fun _=>False) rfl rfl ?aP (fun _ hk=>hk.elim) ?aF ?aO ?aB ?aS ?aL ?_
    (case aP=>exact rfl)
    (case aB=>exact bel)
    (case aF=>exact(fun _ _=>trivial))
    (case aO=>exact(rk x.out))
    (case aS=>exact(below_size bel))
    (case aL=>have:=a0.out;omega)
    intro bI bK ho hb hg hat
    rw[←a2.out]at ho
    have au:=am (Kd.R_over' (rk j.out) (Kd.R_typed (rk x.out)) (by decide) hg)
    have av:=am (blk_grown (g:=q) (o:=.cells #[.slice M s.length P,.int .i64 y,.int .i64 z,.int .i64 A,.slice G t.length J,.bool B,.slice I u.length L,.slice O D.length T,.slice (some ah) m.length U] 35 (0,0)) (bk b.out) hg (Kd.R_ne x.out b.out (by decide)))
    have aw:=am (blk_grown (g:=i) (o:=.cells #[.int .i64 ((rd_T112 c a).f0),.int .i64 ((rd_T112 c a).f1),.int .i64 ((rd_T112 c a).f2),.int .i64 ((rd_T112 c a).f3),.int .i64 ((rd_T112 c a).f4),.int .i64 ((rd_T112 c a).f5),.int .i64 ((rd_T112 c a).f6)] 112 (0,0)) (bk d.out) hg (Kd.R_ne x.out d.out (by decide)))
    have ax:=am (hb)
    have ay:=am (ho)
    clear j
    clear b
    clear d
    clear HB
    clear x
    have j:=au
    have b:=av
    have d:=aw
    have HB:=ax
    have aZ:=ay
    clear au av aw ax ay
    clear ho hb hg hat
    refine hK.out _ _ ⟨qc d 0,qc d 1,qc d 2,qc d 3,qc d 4,qc d 5,qc d 6,qc b 0,qc b 1,qc b 2,qc b 3,qc b 4,qc b 5,qc b 6,qc b 7,qc b 8,((HB.out.cell (World.block_lt_of_cell? w _ l)).trans l)⟩ (fun hHeld=>?_)
    clear hK K
    refine nm 31 ?_
    refine pu HT_ 11 3 (lb 12 4095) ?_
    refine done_ (done_of HT_.out (by kernel_rfl)) ?_
    try go_wp2
    go_roundg k1
    case measure=>have:=a4.out;omega
    case rel=>exact⟨(bl),(wrap64 (a+1)),(es),H,⟨by have:=a4.out;omega⟩,⟨rk aZ.out⟩,⟨by(with_reducible repeat (first|apply Kd.R_alloc|apply Kd.R_drewN|apply Kd.R_drew));exact Kd.R_mono j.out (fun _ hk=>trivial)⟩,⟨bk b.out⟩,⟨bel⟩⟩
   ·obtain rfl:=qj1 H
    go_wp2
    go_ret
    exact⟨_,er,rk x.out,bel⟩
def spec_IsOpen.f(b:Int)(c:Int)(d:Int)(e:Int)(a:Int):Option (Bool):=some (a==0)
theorem spec_IsOpen.calls(a:Int)(b:Int)(c:Int)(d:Int)(g:Int)(r:Bool)(w:World)(h:spec_IsOpen.f a b c d g=some r):Calls Tryz.prog 56 #[.agg #[.int .i64 a,.int .i64 b,.int .i64 c,.int .i64 d,.int .i64 g]] w fun e w'=>e=.returned (.bool r)∧Below w.heap.size w w':=by
 have l:=Tryz.underlying79
 have HB:=qb w
 have H:=h
 unfold spec_IsOpen.f at H
 clear h
 obtain rfl:=qj1 H
 go_enter Tryz.func56,Tryz.ntmps56
 go_wp2_with (first|((with_reducible refine gd 1 ?_);refine bx w 1 #[.int .i64 a,.int .i64 b,.int .i64 c,.int .i64 d,.int .i64 g] 79 ?_;clear HB;intro k w2 i j HB;obtain⟨_,_,_,_,_,_,_,_,_,_⟩:=cf5 i.out))
 go_ret
 exact⟨er,bel⟩
def spec_l18Best.l0:Nat→Int→Int→List (S79)→Int→Int→Option (Int)
  |0,_,_,_,_,_=>none
  |k+1,x1,x5,b,c,a=>if a<c then(if 0≤a then(if a<(b.length:Int)then((spec_IsOpen.f ((rd_T79 b a).f0) ((rd_T79 b a).f1) ((rd_T79 b a).f2) ((rd_T79 b a).f3) ((rd_T79 b a).f4)).bind fun d=>(if d=true then(if((rd_T79 b a).f0)=x1 then(spec_l18Best.l0 k x1 (wrap64 (x5+2)) b c (wrap64 (a+1)))else(if((rd_T79 b a).f1)=x1 then(spec_l18Best.l0 k x1 (wrap64 (x5+2)) b c (wrap64 (a+1)))else(spec_l18Best.l0 k x1 x5 b c (wrap64 (a+1)))))else(spec_l18Best.l0 k x1 x5 b c (wrap64 (a+1)))))else(none))else(none))else(some x5)
def spec_l18Best.f(k:Nat)(h:List (S83))(c:Int)(d:Int)(e:Int)(i:List Int)(g:Bool)(a:List (S79))(j:List Int)(l:List Int)(a1:Int):Option (Int):=(spec_l18Points.f k h c d e i g a j l).bind fun b=>(if 0≤a1 then(if a1<(b.length:Int)then(spec_l18Best.l0 k a1 (rd b a1) a (a.length:Int) 0)else(none))else(none))
theorem spec_l18Best.calls(k:Nat)(X:Option Addr)(ad:Nat)(l:List (S83))(z:Int)(A:Int)(B:Int)(Y:Option Addr)(ae:Nat)(m:List Int)(D:Bool)(Z:Option Addr)(af:Nat)(c:List (S79))(aa:Option Addr)(ag:Nat)(n:List Int)(ac:Option Addr)(ah:Nat)(o:List Int)(a1:Int)(r:Int)(w:World)(M:Kd.C k83 w X l.length l)(G:l.length≤ad)(O:Kd.C (Kd.int .i64) w Y m.length m)(I:m.length≤ae)(i:Kd.C k79 w Z c.length c)(J:c.length≤af)(P:Kd.C (Kd.int .i64) w aa n.length n)(K:n.length≤ag)(T:Kd.C (Kd.int .i64) w ac o.length o)(L:o.length≤ah)(h:spec_l18Best.f k l z A B m D c n o a1=some r):Calls Tryz.prog 55 #[.agg #[.slice X l.length ad,.int .i64 z,.int .i64 A,.int .i64 B,.slice Y m.length ae,.bool D,.slice Z c.length af,.slice aa n.length ag,.slice ac o.length ah],.int .i64 a1] w fun e w'=>e=.returned (.int .i64 r)∧Below w.heap.size w w':=by
 have bh:=Tryz.underlying35
 have bi:=Tryz.underlying79
 replace M:=am M
 replace G:=am G
 replace O:=am O
 replace I:=am I
 replace i:=am i
 replace J:=am J
 replace P:=am P
 replace K:=am K
 replace T:=am T
 replace L:=am L
 have HB:=qb w
 have H:=h
 unfold spec_l18Best.f at H
 clear h
 replace H:=bm H;obtain⟨aF,A3,H⟩:=H
 by_cases c4:0≤a1
 ·rw[if_pos c4]at H
  have a6:decide (0≤a1)=true:=decide_eq_true c4
  clear c4
  replace H:=i0 H;obtain⟨a7,H⟩:=H
  replace H:=am H
  go_enter Tryz.func55,Tryz.ntmps55
  go_wp2_with (first|((with_reducible refine gd 2 ?_);refine bx w 2 #[.slice X l.length ad,.int .i64 z,.int .i64 A,.int .i64 B,.slice Y m.length ae,.bool D,.slice Z c.length af,.slice aa n.length ag,.slice ac o.length ah] 35 ?_;clear HB;intro a5 w6 b ba HB;obtain⟨aH,aI,aJ,aK,aL,aM,aN,aO,aP,aQ,aR,aS,aT,aU,aV,aW,aX,aY⟩:=cf9 b.out)|((with_reducible refine gc 54 ?_);refine gl 9 Tryz.func54 (spec_l18Points.calls k _ _ l z A B _ _ m D _ _ c _ _ n _ _ o aF _ (cb M HB) G.out (cb O HB) I.out (cb i HB) J.out (cb P HB) K.out (cb T HB) L.out A3.out) ?_;rintro e w8 ⟨bl,rfl,a9,hb⟩;refine⟨_,rfl,?_⟩;have ai:=am (Kd.R_lower a9 (below_size bel));replace b:=b1 b hb;replace HB:=b2 hb;(try clear hb);(try clear a9);obtain⟨bn,br,bf⟩:=Kd.R_slice ai.out;subst bf;have:(0≤(a1:Int))=True:=ab;have:(a1<(aF.length:Int))=True:=ab;obtain⟨bc,a8,aE⟩:=Kd.at_int (Kd.R_reads' ai.out).2.2 a1 asm asm;cases a8;obtain⟨aj,ak,al,an,ao,ap,aq,ar,au,av,aw,ax,ay,az,aA,aB,aC,aD⟩:=cf9 b.out))
  go_loopg [5,16] k (fun kq v5 bg w'=>∃(x:Int) (a:Int),v5=.int .i64 x∧bg=.int .i64 a∧Aside0 (spec_l18Best.l0 kq a1 x c (c.length:Int) a=some r)∧Aside0 (kq≤k)∧Aside0 (w'.heap[a5]? =some (.cells #[(.slice X l.length ad),.int .i64 z,.int .i64 A,.int .i64 B,(.slice Y m.length ae),.bool D,(.slice Z c.length af),(.slice aa n.length ag),(.slice ac o.length ah)] 35 (0,0)))∧Aside0 (Below w.heap.size w w'))
  case atStart=>exact⟨(rd aF a1),(0),(es),(es),H,⟨Nat.le_refl _⟩,⟨bk b.out⟩,⟨bel⟩⟩
  case round=>
   clear H
   try clear c4;try clear a6;try clear a7;try clear aj;try clear ak;try clear al;try clear an;try clear ao;try clear ap;try clear aq;try clear ar;try clear au;try clear aH;try clear aI;try clear aJ;try clear aK;try clear aL;try clear aM;try clear aN;try clear aO;try clear aP;try clear av;try clear aw;try clear ax;try clear ay;try clear az;try clear aA;try clear aB;try clear aC;try clear aD;try clear aQ;try clear aR;try clear aS;try clear aT;try clear aU;try clear aV;try clear aW;try clear aX;try clear aY;try clear aE
   obtain⟨x,a,rfl,rfl,HA,y,b,HB⟩:=hrel
   cases gk with
   |zero=>exact absurd HA.out (by simp [spec_l18Best.l0])
   |succ k1=>
    have H:=HA.out
    clear HA
    simp only[spec_l18Best.l0]at H
    replace H:=i1 H;obtain⟨aZ,H⟩|⟨aZ,H⟩:=H
    ·replace H:=i0 H;obtain⟨bd,H⟩:=H
     replace H:=i0 H;obtain⟨be,H⟩:=H
     replace H:=bm H;obtain⟨bj,aG,H⟩:=H
     replace H:=ib H;obtain⟨rfl,H⟩|⟨rfl,H⟩:=H
     ·replace H:=ie H;obtain⟨a0,a2,H⟩|⟨⟨bo,a0,a2⟩,H⟩:=H
      ·replace H:=am H
       have:(0≤(a:Int))=True:=ab
       have:(a<(c.length:Int))=True:=ab
       obtain⟨U,p,q,s,t,u,v⟩:=hc5 HB.out (at_T79 i.out a asm asm)
       cases p
       go_wp2_with (first|((with_reducible refine gd 7 ?_);refine by_ w 7 #[.int .i64 0,.int .i64 0,.int .i64 0,.int .i64 0,.int .i64 0] 79 ?_;clear HB;intro W hg bu d E hb HB;obtain⟨j,g⟩:=qn hg b;replace b:=b1 b hb;clear hb hg;obtain⟨_,_⟩:=qo g;obtain⟨_,_,_,_,_,_,_,_,_,_⟩:=cf5 d.out)|((with_reducible refine gc 56 ?_);refine gl 21 Tryz.func56 (spec_IsOpen.calls ((rd_T79 c a).f0) ((rd_T79 c a).f1) ((rd_T79 c a).f2) ((rd_T79 c a).f3) ((rd_T79 c a).f4) true _ aG.out) ?_;rintro e bw ⟨rfl,hb⟩;refine⟨_,rfl,?_⟩;replace b:=b1 b hb;replace d:=bq d hb;replace HB:=b2 hb;(try clear hb);obtain⟨_,_,_,_,_,_,_,_,_,_⟩:=cf5 d.out))
       go_roundg k1
       case measure=>have:=y.out;omega
       case rel=>exact⟨(wrap64 (x+2)),(wrap64 (a+1)),(es),(es),H,⟨by have:=y.out;omega⟩,⟨bk b.out⟩,⟨bel⟩⟩
      ·replace H:=ie H;obtain⟨a3,a4,H⟩|⟨⟨bp,a3,a4⟩,H⟩:=H
       ·replace H:=am H
        have:(0≤(a:Int))=True:=ab
        have:(a<(c.length:Int))=True:=ab
        obtain⟨U,p,q,s,t,u,v⟩:=hc5 HB.out (at_T79 i.out a asm asm)
        cases p
        go_wp2_with (first|((with_reducible refine gd 7 ?_);refine by_ w 7 #[.int .i64 0,.int .i64 0,.int .i64 0,.int .i64 0,.int .i64 0] 79 ?_;clear HB;intro W hg bA d E hb HB;obtain⟨j,g⟩:=qn hg b;replace b:=b1 b hb;clear hb hg;obtain⟨_,_⟩:=qo g;obtain⟨_,_,_,_,_,_,_,_,_,_⟩:=cf5 d.out)|((with_reducible refine gc 56 ?_);refine gl 21 Tryz.func56 (spec_IsOpen.calls ((rd_T79 c a).f0) ((rd_T79 c a).f1) ((rd_T79 c a).f2) ((rd_T79 c a).f3) ((rd_T79 c a).f4) true _ aG.out) ?_;rintro e bB ⟨rfl,hb⟩;refine⟨_,rfl,?_⟩;replace b:=b1 b hb;replace d:=bq d hb;replace HB:=b2 hb;(try clear hb);obtain⟨_,_,_,_,_,_,_,_,_,_⟩:=cf5 d.out))
        go_roundg k1
        case measure=>have:=y.out;omega
        case rel=>exact⟨(wrap64 (x+2)),(wrap64 (a+1)),(es),(es),H,⟨by have:=y.out;omega⟩,⟨bk b.out⟩,⟨bel⟩⟩
       ·replace H:=am H
        have:(0≤(a:Int))=True:=ab
        have:(a<(c.length:Int))=True:=ab
        obtain⟨U,p,q,s,t,u,v⟩:=hc5 HB.out (at_T79 i.out a asm asm)
        cases p
        go_wp2_with (first|((with_reducible refine gd 7 ?_);refine by_ w 7 #[.int .i64 0,.int .i64 0,.int .i64 0,.int .i64 0,.int .i64 0] 79 ?_;clear HB;intro W hg bC d E hb HB;obtain⟨j,g⟩:=qn hg b;replace b:=b1 b hb;clear hb hg;obtain⟨_,_⟩:=qo g;obtain⟨_,_,_,_,_,_,_,_,_,_⟩:=cf5 d.out)|((with_reducible refine gc 56 ?_);refine gl 21 Tryz.func56 (spec_IsOpen.calls ((rd_T79 c a).f0) ((rd_T79 c a).f1) ((rd_T79 c a).f2) ((rd_T79 c a).f3) ((rd_T79 c a).f4) true _ aG.out) ?_;rintro e bD ⟨rfl,hb⟩;refine⟨_,rfl,?_⟩;replace b:=b1 b hb;replace d:=bq d hb;replace HB:=b2 hb;(try clear hb);obtain⟨_,_,_,_,_,_,_,_,_,_⟩:=cf5 d.out))
        go_roundg k1
        case measure=>have:=y.out;omega
        case rel=>exact⟨(x),(wrap64 (a+1)),(es),(es),H,⟨by have:=y.out;omega⟩,⟨bk b.out⟩,⟨bel⟩⟩
     ·replace H:=am H
      have:(0≤(a:Int))=True:=ab
      have:(a<(c.length:Int))=True:=ab
      obtain⟨U,p,q,s,t,u,v⟩:=hc5 HB.out (at_T79 i.out a asm asm)
      cases p
      go_wp2_with (first|((with_reducible refine gd 7 ?_);refine by_ w 7 #[.int .i64 0,.int .i64 0,.int .i64 0,.int .i64 0,.int .i64 0] 79 ?_;clear HB;intro W hg bE d E hb HB;obtain⟨j,g⟩:=qn hg b;replace b:=b1 b hb;clear hb hg;obtain⟨_,_⟩:=qo g;obtain⟨_,_,_,_,_,_,_,_,_,_⟩:=cf5 d.out)|((with_reducible refine gc 56 ?_);refine gl 21 Tryz.func56 (spec_IsOpen.calls ((rd_T79 c a).f0) ((rd_T79 c a).f1) ((rd_T79 c a).f2) ((rd_T79 c a).f3) ((rd_T79 c a).f4) false _ aG.out) ?_;rintro e bF ⟨rfl,hb⟩;refine⟨_,rfl,?_⟩;replace b:=b1 b hb;replace d:=bq d hb;replace HB:=b2 hb;(try clear hb)))
      go_roundg k1
      case measure=>have:=y.out;omega
      case rel=>exact⟨(x),(wrap64 (a+1)),(es),(es),H,⟨by have:=y.out;omega⟩,⟨bk b.out⟩,⟨bel⟩⟩
    ·obtain rfl:=qj1 H
     go_wp2
     go_ret
     exact⟨er,bel⟩
 ·rw[if_neg c4]at H
  exact absurd H (by simp)
end Go.Proofs.YtgalpgakdcfilaaGreat.L
