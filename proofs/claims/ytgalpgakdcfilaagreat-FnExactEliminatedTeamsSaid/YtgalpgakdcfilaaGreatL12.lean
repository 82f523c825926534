-- Written by a program of this session (wip/xp.py).
import Derived.Test.YtgalpgakdcfilaaGreatL0
import Derived.Test.YtgalpgakdcfilaaGreatL11
namespace Go.Proofs.YtgalpgakdcfilaaGreat.L
open Go.RowKit Go.Proofs.YtgalpgakdcfilaaGreatW.PrintWords Go.Proofs.YtgalpgakdcfilaaGreatW.PrintLast Go.Proofs.YtgalpgakdcfilaaGreatW.PrintMore
attribute [local go_sem] max2_int min2_int max_two min_two max_three min_three max_four min_four
set_option linter.unusedVariables false
set_option linter.unusedSimpArgs false
set_option maxHeartbeats 8000000
set_option maxRecDepth 100000
def spec_IsName.l0:Nat→ByteArray→Int→Option (Bool)
  |0,_,_=>none
  |k+1,x0,x3=>if x3<(x0.size:Int)then(if 0≤x3 then(if(bt x0 x3)≥97 then(if((bt x0 x3)≤122)then(spec_IsName.l0 k x0 (wrap64 (x3+1)))else(if x3=0 then(some false)else(if(bt x0 x3)<48 then(some false)else(if(bt x0 x3)>57 then(some false)else(spec_IsName.l0 k x0 (wrap64 (x3+1)))))))else(if x3=0 then(some false)else(if(bt x0 x3)<48 then(some false)else(if(bt x0 x3)>57 then(some false)else(spec_IsName.l0 k x0 (wrap64 (x3+1)))))))else(none))else((spec_l01In.f (x0.size:Int) 1 8).bind fun a=>(some a))
def spec_IsName.f(k:Nat)(a0:ByteArray):Option (Bool):=spec_IsName.l0 k a0 0
theorem spec_IsName.calls(k:Nat)(a0:ByteArray)(r:Bool)(w:World)(h:spec_IsName.f k a0=some r):Calls Tryz.prog 99 #[.string a0] w fun e w'=>e=.returned (.bool r)∧Drawn0 w w':=by
 have H:=h
 unfold spec_IsName.f at H
 clear h
 replace H:=am H
 go_enter Tryz.func99,Tryz.ntmps99
 go_wp2
 go_loopg [3] k (fun kq v3 w'=>∃(a:Int),v3=.int .i64 a∧Aside0 (spec_IsName.l0 kq a0 a=some r)∧Aside0 (kq≤k)∧Drawn0 w w')
 case atStart=>exact⟨(0),(es),H,⟨Nat.le_refl _⟩,by repeat (first|exact Drawn0.refl _|apply Drawn0.step)⟩
 case round=>
  clear H
  obtain⟨a,rfl,HA,c,⟨m1,rfl⟩⟩:=hrel
  cases gk with
  |zero=>exact absurd HA.out (by simp [spec_IsName.l0])
  |succ k1=>
   have H:=HA.out
   clear HA
   simp only[spec_IsName.l0]at H
   replace H:=i1 H;obtain⟨p,H⟩|⟨p,H⟩:=H
   ·replace H:=i0 H;obtain⟨B,H⟩:=H
    replace H:=i1 H;obtain⟨q,H⟩|⟨q,H⟩:=H
    ·replace H:=i1 H;obtain⟨s,H⟩|⟨s,H⟩:=H
     ·replace H:=am H
      have:(0≤(a:Int))=True:=ab
      have:(a<(a0.size:Int))=True:=ab
      have b:=bt_at a0 a
      have:(0≤(a:Int))=True:=ab
      have:(a<(a0.size:Int))=True:=ab
      have d:=bt_at a0 a
      go_wp2
      go_roundg k1
      case measure=>have:=c.out;omega
      case rel=>exact⟨(wrap64 (a+1)),(es),H,⟨by have:=c.out;omega⟩,by repeat (first|exact Drawn0.refl _|apply Drawn0.step)⟩
     ·replace H:=ie H;obtain⟨t,u,H⟩|⟨⟨c8,t,u⟩,H⟩:=H
      ·obtain rfl:=qj1 H
       have:(0≤(a:Int))=True:=ab
       have:(a<(a0.size:Int))=True:=ab
       have b:=bt_at a0 a
       have:(0≤(a:Int))=True:=ab
       have:(a<(a0.size:Int))=True:=ab
       have d:=bt_at a0 a
       go_wp2
       go_ret
       exact⟨es,by repeat (first|exact Drawn0.refl _|apply Drawn0.step)⟩
      ·replace H:=i1 H;obtain⟨i,H⟩|⟨i,H⟩:=H
       ·obtain rfl:=qj1 H
        have:(0≤(a:Int))=True:=ab
        have:(a<(a0.size:Int))=True:=ab
        have b:=bt_at a0 a
        have:(0≤(a:Int))=True:=ab
        have:(a<(a0.size:Int))=True:=ab
        have d:=bt_at a0 a
        have:(0≤(a:Int))=True:=ab
        have:(a<(a0.size:Int))=True:=ab
        have y:=bt_at a0 a
        go_wp2
        go_ret
        exact⟨es,by repeat (first|exact Drawn0.refl _|apply Drawn0.step)⟩
       ·replace H:=i1 H;obtain⟨j,H⟩|⟨j,H⟩:=H
        ·obtain rfl:=qj1 H
         have:(0≤(a:Int))=True:=ab
         have:(a<(a0.size:Int))=True:=ab
         have b:=bt_at a0 a
         have:(0≤(a:Int))=True:=ab
         have:(a<(a0.size:Int))=True:=ab
         have d:=bt_at a0 a
         have:(0≤(a:Int))=True:=ab
         have:(a<(a0.size:Int))=True:=ab
         have y:=bt_at a0 a
         have:(0≤(a:Int))=True:=ab
         have:(a<(a0.size:Int))=True:=ab
         have v:=bt_at a0 a
         go_wp2
         go_ret
         exact⟨es,by repeat (first|exact Drawn0.refl _|apply Drawn0.step)⟩
        ·replace H:=am H
         have:(0≤(a:Int))=True:=ab
         have:(a<(a0.size:Int))=True:=ab
         have b:=bt_at a0 a
         have:(0≤(a:Int))=True:=ab
         have:(a<(a0.size:Int))=True:=ab
         have d:=bt_at a0 a
         have:(0≤(a:Int))=True:=ab
         have:(a<(a0.size:Int))=True:=ab
         have y:=bt_at a0 a
         have:(0≤(a:Int))=True:=ab
         have:(a<(a0.size:Int))=True:=ab
         have v:=bt_at a0 a
         go_wp2
         go_roundg k1
         case measure=>have:=c.out;omega
         case rel=>exact⟨(wrap64 (a+1)),(es),H,⟨by have:=c.out;omega⟩,by repeat (first|exact Drawn0.refl _|apply Drawn0.step)⟩
    ·replace H:=ie H;obtain⟨l,m,H⟩|⟨⟨D,l,m⟩,H⟩:=H
     ·obtain rfl:=qj1 H
      have:(0≤(a:Int))=True:=ab
      have:(a<(a0.size:Int))=True:=ab
      have b:=bt_at a0 a
      go_wp2
      go_ret
      exact⟨es,by repeat (first|exact Drawn0.refl _|apply Drawn0.step)⟩
     ·replace H:=i1 H;obtain⟨n,H⟩|⟨n,H⟩:=H
      ·obtain rfl:=qj1 H
       have:(0≤(a:Int))=True:=ab
       have:(a<(a0.size:Int))=True:=ab
       have b:=bt_at a0 a
       have:(0≤(a:Int))=True:=ab
       have:(a<(a0.size:Int))=True:=ab
       have g:=bt_at a0 a
       go_wp2
       go_ret
       exact⟨es,by repeat (first|exact Drawn0.refl _|apply Drawn0.step)⟩
      ·replace H:=i1 H;obtain⟨o,H⟩|⟨o,H⟩:=H
       ·obtain rfl:=qj1 H
        have:(0≤(a:Int))=True:=ab
        have:(a<(a0.size:Int))=True:=ab
        have b:=bt_at a0 a
        have:(0≤(a:Int))=True:=ab
        have:(a<(a0.size:Int))=True:=ab
        have g:=bt_at a0 a
        have:(0≤(a:Int))=True:=ab
        have:(a<(a0.size:Int))=True:=ab
        have x:=bt_at a0 a
        go_wp2
        go_ret
        exact⟨es,by repeat (first|exact Drawn0.refl _|apply Drawn0.step)⟩
       ·replace H:=am H
        have:(0≤(a:Int))=True:=ab
        have:(a<(a0.size:Int))=True:=ab
        have b:=bt_at a0 a
        have:(0≤(a:Int))=True:=ab
        have:(a<(a0.size:Int))=True:=ab
        have g:=bt_at a0 a
        have:(0≤(a:Int))=True:=ab
        have:(a<(a0.size:Int))=True:=ab
        have x:=bt_at a0 a
        go_wp2
        go_roundg k1
        case measure=>have:=c.out;omega
        case rel=>exact⟨(wrap64 (a+1)),(es),H,⟨by have:=c.out;omega⟩,by repeat (first|exact Drawn0.refl _|apply Drawn0.step)⟩
   ·replace H:=bm H;obtain⟨z,A,H⟩:=H
    obtain rfl:=qj1 H
    go_wp2_with (first|((with_reducible refine gc 53 ?_);refine gl 41 Tryz.func53 (spec_l01In.calls (a0.size:Int) 1 8 z _ A.out) ?_;rintro e w' ⟨rfl,⟨nd,rfl⟩⟩;refine⟨_,rfl,?_⟩))
    go_ret
    exact⟨es,by repeat (first|exact Drawn0.refl _|apply Drawn0.step)⟩
def spec_TeamOk.f(k:Nat)(a:ByteArray)(b:Int)(c:Int):Option (Bool):=(spec_IsName.f k a).bind fun d=>(if d=true then((spec_l01In.f b 0 5).bind fun e=>(if e=true then((spec_l01In.f c 1 8).bind fun g=>(some g))else(some false)))else(some false))
theorem spec_TeamOk.calls(k:Nat)(a:ByteArray)(c:Int)(d:Int)(r:Bool)(w:World)(h:spec_TeamOk.f k a c d=some r):Calls Tryz.prog 83 #[.agg #[.string a,.int .i64 c,.int .i64 d]] w fun e w'=>e=.returned (.bool r)∧Below w.heap.size w w':=by
 have l:=Tryz.underlying83
 have HB:=qb w
 have H:=h
 unfold spec_TeamOk.f at H
 clear h
 replace H:=bm H;obtain⟨m,A2,H⟩:=H
 replace H:=ib H;obtain⟨rfl,H⟩|⟨rfl,H⟩:=H
 ·replace H:=bm H;obtain⟨n,A4,H⟩:=H
  replace H:=ib H;obtain⟨rfl,H⟩|⟨rfl,H⟩:=H
  ·replace H:=bm H;obtain⟨j,A6,H⟩:=H
   obtain rfl:=qj1 H
   go_enter Tryz.func83,Tryz.ntmps83
   go_wp2_with (first|((with_reducible refine gd 1 ?_);refine bx w 1 #[.string a,.int .i64 c,.int .i64 d] 83 ?_;clear HB;intro i w7 b g HB;obtain⟨_,_,_,_,_,_⟩:=cf3 b.out)|((with_reducible refine gc 99 ?_);refine gl 5 Tryz.func99 (spec_IsName.calls k a true _ A2.out) ?_;rintro e w' ⟨rfl,⟨nd,rfl⟩⟩;refine⟨_,rfl,?_⟩)|(go_at_call 53;refine cm1 (spec_l01In.calls c 0 5 true _ A4.out) ?_;intro nd)|(go_at_call 53;refine cm1 (spec_l01In.calls d 1 8 j _ A6.out) ?_;intro nd))
   go_ret
   exact⟨er,bel⟩
  ·obtain rfl:=qj1 H
   go_enter Tryz.func83,Tryz.ntmps83
   go_wp2_with (first|((with_reducible refine gd 1 ?_);refine bx w 1 #[.string a,.int .i64 c,.int .i64 d] 83 ?_;clear HB;intro i w9 b g HB;obtain⟨_,_,_,_,_,_⟩:=cf3 b.out)|((with_reducible refine gc 99 ?_);refine gl 5 Tryz.func99 (spec_IsName.calls k a true _ A2.out) ?_;rintro e w' ⟨rfl,⟨nd,rfl⟩⟩;refine⟨_,rfl,?_⟩)|(go_at_call 53;refine cm1 (spec_l01In.calls c 0 5 false _ A4.out) ?_;intro nd))
   go_ret
   exact⟨er,bel⟩
 ·obtain rfl:=qj1 H
  go_enter Tryz.func83,Tryz.ntmps83
  go_wp2_with (first|((with_reducible refine gd 1 ?_);refine bx w 1 #[.string a,.int .i64 c,.int .i64 d] 83 ?_;clear HB;intro i o b g HB;obtain⟨_,_,_,_,_,_⟩:=cf3 b.out)|((with_reducible refine gc 99 ?_);refine gl 5 Tryz.func99 (spec_IsName.calls k a false _ A2.out) ?_;rintro e w' ⟨rfl,⟨nd,rfl⟩⟩;refine⟨_,rfl,?_⟩))
  go_ret
  exact⟨er,bel⟩
mutual
def spec_FieldOk.l0:Nat→List (S83)→List (S83)→Int→Int→Option (Bool)
  |0,_,_,_,_=>none
  |k+1,x0,b,e,a=>if a<e then(if 0≤a then(if a<(b.length:Int)then((spec_TeamOk.f k ((rd_T83 b a).f0) ((rd_T83 b a).f1) ((rd_T83 b a).f2)).bind fun d=>(if d=true then(if a≤(x0.length:Int)then((some (x0.take (a:Int).toNat:List (S83))).bind fun c=>(spec_FieldOk.l1 k x0 b e a c (c.length:Int) 0 ((rd_T83 b a).f0) ((rd_T83 b a).f1) ((rd_T83 b a).f2)))else(none))else(some false)))else(none))else(none))else(some true)
def spec_FieldOk.l1:Nat→List (S83)→List (S83)→Int→Int→List (S83)→Int→Int→ByteArray→Int→Int→Option (Bool)
  |0,_,_,_,_,_,_,_,_,_,_=>none
  |k+1,x0,g,h,i,e,j,c,a,d,b=>if c<j then(if 0≤c then(if c<(e.length:Int)then(if((rd_T83 e c).f0).toList=a.toList then(some false)else(if((rd_T83 e c).f2)=b then(some false)else(spec_FieldOk.l1 k x0 g h i e j (wrap64 (c+1)) a d b)))else(none))else(none))else(spec_FieldOk.l0 k x0 g h (wrap64 (i+1)))
end
def spec_FieldOk.f(k:Nat)(l0:List (S83)):Option (Bool):=(spec_l01In.f (l0.length:Int) 2 8).bind fun a=>(if a=true then(spec_FieldOk.l0 k l0 l0 (l0.length:Int) 0)else(some false))
theorem spec_FieldOk.calls(k:Nat)(A0:Option Addr)(c0:Nat)(l0:List (S83))(r:Bool)(w:World)(B:Kd.C k83 w A0 l0.length l0)(ah:l0.length≤c0)(h:spec_FieldOk.f k l0=some r):Calls Tryz.prog 73 #[.slice A0 l0.length c0] w fun e w'=>e=.returned (.bool r)∧Below w.heap.size w w':=by
 have aB:=Tryz.underlying83
 replace B:=am B
 replace ah:=am ah
 have HB:=qb w
 have H:=h
 unfold spec_FieldOk.f at H
 clear h
 replace H:=bm H;obtain⟨aD,A2,H⟩:=H
 replace H:=ib H;obtain⟨rfl,H⟩|⟨rfl,H⟩:=H
 ·replace H:=am H
  go_enter Tryz.func73,Tryz.ntmps73
  go_wp2_with (first|((with_reducible refine gc 53 ?_);refine gl 9 Tryz.func53 (spec_l01In.calls (l0.length:Int) 2 8 true _ A2.out) ?_;rintro e w' ⟨rfl,⟨nd,rfl⟩⟩;refine⟨_,rfl,?_⟩))
  go_loopg [13] k (fun kq ay w'=>∃(a:Int),ay=.int .i64 a∧Aside0 (spec_FieldOk.l0 kq l0 l0 (l0.length:Int) a=some r)∧Aside0 (kq≤k)∧Aside0 (Below w.heap.size w w'))
  case atStart=>exact⟨(0),(es),H,⟨Nat.le_refl _⟩,⟨bel⟩⟩
  case round=>
   clear H
   obtain⟨a,rfl,HA,Z,HB⟩:=hrel
   cases gk with
   |zero=>exact absurd HA.out (by simp [spec_FieldOk.l0])
   |succ k1=>
    have H:=HA.out
    clear HA
    simp only[spec_FieldOk.l0]at H
    replace H:=i1 H;obtain⟨ae,H⟩|⟨ae,H⟩:=H
    ·replace H:=i0 H;obtain⟨aq,H⟩:=H
     replace H:=i0 H;obtain⟨ar,H⟩:=H
     replace H:=bm H;obtain⟨aE,A7,H⟩:=H
     replace H:=ib H;obtain⟨rfl,H⟩|⟨rfl,H⟩:=H
     ·have au:=eq_true (asm:0≤a)
      replace H:=i0 H;obtain⟨E,H⟩:=H
      have ai:=eq_true (of_decide_eq_true E)
      replace H:=bs H;obtain⟨g,D,H⟩:=H
      replace H:=am H
      have:(0≤(a:Int))=True:=ab
      have:(a<(l0.length:Int))=True:=ab
      obtain⟨i,G,q,s,t⟩:=hc3 HB.out (at_T83 B.out a asm asm)
      cases G
      go_wp2_with (first|((with_reducible refine gd 4 ?_);refine bx w 4 #[.string (⟨#[]⟩:ByteArray),.int .i64 0,.int .i64 0] 83 ?_;clear HB;intro I aG b ag HB;obtain⟨K,L,M,O,T,U⟩:=cf3 b.out)|((with_reducible refine gc 83 ?_);refine gl 19 Tryz.func83 (spec_TeamOk.calls k1 ((rd_T83 l0 a).f0) ((rd_T83 l0 a).f1) ((rd_T83 l0 a).f2) true _ A7.out) ?_;rintro e aH ⟨rfl,hb⟩;refine⟨_,rfl,?_⟩;replace b:=bq b hb;replace HB:=b2 hb;(try clear hb);have ad:(a:Int)≤((l0.length:Int):Int):=asm;obtain⟨aC,W,_,ap,_⟩:=info_parts info83;have p:l0.length≤c0:=ah.out;have af:Kd.C k83 _ (some i) l0.length l0:=B.out;have ac:=cut_to (P:=Tryz.prog) 31 83 .i64 Tryz.underlying31 W (some i) l0.length c0 a (asm) ad p;have X:=Kd.C_take (m:=(a:Int).toNat) af (by omega);have Y:g.length=(a:Int).toNat:=(by rw[D.out,List.length_take];omega);rw[←D.out]at X;rw[←Y]at ac;have y:=am X;have av:=am (show g.length≤c0 from by omega);clear X af p W ap;have aA:=am Y;clear Y;replace ad:=eq_true ad))
      go_loopg [25] k1 (fun kq az w'=>∃(c:Int),az=.int .i64 c∧Aside0 (spec_FieldOk.l1 kq l0 l0 (l0.length:Int) a g (g.length:Int) c ((rd_T83 l0 a).f0) ((rd_T83 l0 a).f1) ((rd_T83 l0 a).f2)=some r)∧Aside0 (kq≤k1)∧Aside0 (w'.heap[I]? =some (.cells #[.string ((rd_T83 l0 a).f0),.int .i64 ((rd_T83 l0 a).f1),.int .i64 ((rd_T83 l0 a).f2)] 83 (0,0)))∧Aside0 (Below w.heap.size w w'))
      case atStart=>exact⟨(0),(es),H,⟨Nat.le_refl _⟩,⟨bk b.out⟩,⟨bel⟩⟩
      case round=>
       clear H
       try clear ae;try clear aq;try clear ar;try clear au;try clear ai;try clear E;try clear ad;try clear K;try clear L;try clear M;try clear O;try clear T;try clear U;try clear q;try clear s;try clear t
       obtain⟨c,rfl,HA,aa,b,HB⟩:=hrel
       cases gk with
       |zero=>exact absurd HA.out (by simp [spec_FieldOk.l1])
       |succ k2=>
        have H:=HA.out
        clear HA
        simp only[spec_FieldOk.l1]at H
        replace H:=i1 H;obtain⟨aj,H⟩|⟨aj,H⟩:=H
        ·replace H:=i0 H;obtain⟨aw,H⟩:=H
         replace H:=i0 H;obtain⟨ax,H⟩:=H
         by_cases z:((rd_T83 g c).f0).toList=((rd_T83 l0 a).f0).toList
         ·rw[if_pos z]at H
          have ak:(((rd_T83 g c).f0).toList==((rd_T83 l0 a).f0).toList)=true:=beq_iff_eq.mpr z
          have al:(((rd_T83 g c).f0).toList != ((rd_T83 l0 a).f0).toList)=false:=bne_eq_false_iff_eq.mpr z
          clear z
          obtain rfl:=qj1 H
          have:(0≤(c:Int))=True:=ab
          have:(c<(g.length:Int))=True:=ab
          obtain⟨n,o,u,v,x⟩:=hc3 HB.out (at_T83 y.out c asm asm)
          obtain rfl:i=n:=(by injection o)
          go_wp2_with (first|((with_reducible refine gd 6 ?_);refine by_ w 6 #[.string (⟨#[]⟩:ByteArray),.int .i64 0,.int .i64 0] 83 ?_;clear HB;intro J hg aI j A hb HB;obtain⟨l,d⟩:=qn hg b;replace b:=b1 b hb;clear hb hg;obtain⟨_,_⟩:=qo d;obtain⟨_,_,_,_,_,_⟩:=cf3 j.out;obtain⟨_,_,_,_,_,_⟩:=cf3 b.out))
          go_ret
          exact⟨er,bel⟩
         ·rw[if_neg z]at H
          have ak:(((rd_T83 g c).f0).toList==((rd_T83 l0 a).f0).toList)=false:=beq_eq_false_iff_ne.mpr z
          have al:(((rd_T83 g c).f0).toList != ((rd_T83 l0 a).f0).toList)=true:=bne_iff_ne.mpr z
          replace H:=ie H;obtain⟨an,ao,H⟩|⟨⟨aF,an,ao⟩,H⟩:=H
          ·obtain rfl:=qj1 H
           have:(0≤(c:Int))=True:=ab
           have:(c<(g.length:Int))=True:=ab
           obtain⟨n,o,u,v,x⟩:=hc3 HB.out (at_T83 y.out c asm asm)
           obtain rfl:i=n:=(by injection o)
           go_wp2_with (first|((with_reducible refine gd 6 ?_);refine by_ w 6 #[.string (⟨#[]⟩:ByteArray),.int .i64 0,.int .i64 0] 83 ?_;clear HB;intro J hg aJ j A hb HB;obtain⟨l,d⟩:=qn hg b;replace b:=b1 b hb;clear hb hg;obtain⟨_,_⟩:=qo d;obtain⟨_,_,_,_,_,_⟩:=cf3 j.out;obtain⟨_,_,_,_,_,_⟩:=cf3 b.out))
           go_ret
           exact⟨er,bel⟩
          ·replace H:=am H
           have:(0≤(c:Int))=True:=ab
           have:(c<(g.length:Int))=True:=ab
           obtain⟨n,o,u,v,x⟩:=hc3 HB.out (at_T83 y.out c asm asm)
           obtain rfl:i=n:=(by injection o)
           go_wp2_with (first|((with_reducible refine gd 6 ?_);refine by_ w 6 #[.string (⟨#[]⟩:ByteArray),.int .i64 0,.int .i64 0] 83 ?_;clear HB;intro J hg aK j A hb HB;obtain⟨l,d⟩:=qn hg b;replace b:=b1 b hb;clear hb hg;obtain⟨_,_⟩:=qo d;obtain⟨_,_,_,_,_,_⟩:=cf3 j.out;obtain⟨_,_,_,_,_,_⟩:=cf3 b.out))
           go_roundg k2
           case measure=>have:=Z.out;have:=aa.out;omega
           case rel=>exact⟨(wrap64 (c+1)),(es),H,⟨by have:=Z.out;have:=aa.out;omega⟩,⟨bk b.out⟩,⟨bel⟩⟩
        ·replace H:=am H
         go_wp2
         go_roundg k2
         case measure=>have:=Z.out;have:=aa.out;omega
         case rel=>exact⟨(wrap64 (a+1)),(es),H,⟨by have:=Z.out;have:=aa.out;omega⟩,⟨bel⟩⟩
     ·obtain rfl:=qj1 H
      have:(0≤(a:Int))=True:=ab
      have:(a<(l0.length:Int))=True:=ab
      obtain⟨i,G,q,s,t⟩:=hc3 HB.out (at_T83 B.out a asm asm)
      cases G
      go_wp2_with (first|((with_reducible refine gd 4 ?_);refine bx w 4 #[.string (⟨#[]⟩:ByteArray),.int .i64 0,.int .i64 0] 83 ?_;clear HB;intro I aL b ag HB;obtain⟨_,_,_,_,_,_⟩:=cf3 b.out)|((with_reducible refine gc 83 ?_);refine gl 19 Tryz.func83 (spec_TeamOk.calls k1 ((rd_T83 l0 a).f0) ((rd_T83 l0 a).f1) ((rd_T83 l0 a).f2) false _ A7.out) ?_;rintro e aM ⟨rfl,hb⟩;refine⟨_,rfl,?_⟩;replace b:=bq b hb;replace HB:=b2 hb;(try clear hb)))
      go_ret
      exact⟨er,bel⟩
    ·obtain rfl:=qj1 H
     go_wp2
     go_ret
     exact⟨er,bel⟩
 ·obtain rfl:=qj1 H
  go_enter Tryz.func73,Tryz.ntmps73
  go_wp2_with (first|((with_reducible refine gc 53 ?_);refine gl 9 Tryz.func53 (spec_l01In.calls (l0.length:Int) 2 8 false _ A2.out) ?_;rintro e w' ⟨rfl,⟨nd,rfl⟩⟩;refine⟨_,rfl,?_⟩))
  go_ret
  exact⟨er,bel⟩
def spec_GameOk.j0:Nat→Bool→Int→Int→Int→Int→Int→Option (Bool)
  |0,_,_,_,_,_,_=>none
  |k+1,i,g,h,a,b,c=>if i=true then(some false)else(if c=1 then((spec_l01In.f a 0 99).bind fun d=>(if d=true then((spec_l01In.f b 0 99).bind fun e=>(some e))else(some false)))else(if a=0 then(some (b==0))else(some false)))
def spec_GameOk.f(k:Nat)(a0:Int)(a:Int)(b:Int)(d:Int)(e:Int)(c:Int):Option (Bool):=(spec_l01In.f a0 2 8).bind fun g=>(if g=true then((spec_l01In.f a 0 (wrap64 (a0-1))).bind fun h=>(if h=true then((spec_l01In.f b 0 (wrap64 (a0-1))).bind fun i=>(if i=true then(if a=b then(spec_GameOk.j0 k true a b d e c)else((spec_l01In.f c 0 4).bind fun j=>(spec_GameOk.j0 k (!j) a b d e c)))else(spec_GameOk.j0 k true a b d e c)))else(spec_GameOk.j0 k true a b d e c)))else(spec_GameOk.j0 k true a b d e c))
theorem spec_GameOk.calls(k:Nat)(a0:Int)(b:Int)(c:Int)(d:Int)(i:Int)(j:Int)(r:Bool)(w:World)(h:spec_GameOk.f k a0 b c d i j=some r):Calls Tryz.prog 85 #[.int .i64 a0,.agg #[.int .i64 b,.int .i64 c,.int .i64 d,.int .i64 i,.int .i64 j]] w fun e w'=>e=.returned (.bool r)∧Below w.heap.size w w':=by
 have D:=Tryz.underlying79
 have HB:=qb w
 have H:=h
 unfold spec_GameOk.f at H
 clear h
 have n:=am H
 clear H
 go_enter Tryz.func85,Tryz.ntmps85
 go_upto_region 1 with (first|((with_reducible refine gd 3 ?_);refine bx w 3 #[.int .i64 b,.int .i64 c,.int .i64 d,.int .i64 i,.int .i64 j] 79 ?_;clear HB;intro u w4 a A HB))
 (try simp only[Act.put,List.setIfInBounds_toArray,List.set_cons_zero,List.set_cons_succ])
 go_cut [36] (fun B wc=>∃(kq:Nat) (l:Bool),B=.bool l∧Aside0 (spec_GameOk.j0 kq l b c d i j=some r)∧Aside0 (kq≤k)∧Aside0 (wc.heap[u]? =some (.cells #[.int .i64 b,.int .i64 c,.int .i64 d,.int .i64 i,.int .i64 j] 79 (0,0)))∧Aside0 (Below w.heap.size w wc))
 case first=>
  have H:=n.out
  clear n
  replace H:=bm H;obtain⟨E,A5,H⟩:=H
  replace H:=ib H;obtain⟨rfl,H⟩|⟨rfl,H⟩:=H
  ·replace H:=bm H;obtain⟨G,A7,H⟩:=H
   replace H:=ib H;obtain⟨rfl,H⟩|⟨rfl,H⟩:=H
   ·replace H:=bm H;obtain⟨I,A9,H⟩:=H
    replace H:=ib H;obtain⟨rfl,H⟩|⟨rfl,H⟩:=H
    ·replace H:=ie H;obtain⟨g,o,H⟩|⟨⟨L,g,o⟩,H⟩:=H
     ·(first|rw[g]|(simp only[i64_w,i32_w];rw[g])|skip)
      replace H:=am H
      go_wp2_with (first|((with_reducible refine gc 53 ?_);refine gl 6 Tryz.func53 (spec_l01In.calls a0 2 8 true _ A5.out) ?_;rintro e w' ⟨rfl,⟨nd,rfl⟩⟩;refine⟨_,rfl,?_⟩;obtain⟨_,_,_,_,_,_,_,_,_,_⟩:=cf5 a.out)|(go_at_call 53;refine cm1 (spec_l01In.calls b 0 (wrap64 (a0-1)) true _ A7.out) ?_;intro nd)|(go_at_call 53;refine cm1 (spec_l01In.calls c 0 (wrap64 (a0-1)) true _ A9.out) ?_;intro nd))
      go_meet
      case rel=>exact⟨_,(true),(es),H,⟨by first|omega|exact Nat.le_refl _⟩,⟨bk a.out⟩,⟨bel⟩⟩
     ·(first|rw[g]|(simp only[i64_w,i32_w];rw[g])|skip)
      replace H:=bm H;obtain⟨m,y,H⟩:=H
      replace H:=am H
      go_wp2_with (first|((with_reducible refine gc 53 ?_);refine gl 6 Tryz.func53 (spec_l01In.calls a0 2 8 true _ A5.out) ?_;rintro e w' ⟨rfl,⟨nd,rfl⟩⟩;refine⟨_,rfl,?_⟩;obtain⟨_,_,_,_,_,_,_,_,_,_⟩:=cf5 a.out)|(go_at_call 53;refine cm1 (spec_l01In.calls b 0 (wrap64 (a0-1)) true _ A7.out) ?_;intro nd)|(go_at_call 53;refine cm1 (spec_l01In.calls c 0 (wrap64 (a0-1)) true _ A9.out) ?_;intro nd)|(go_at_call 53;refine cm1 (spec_l01In.calls j 0 4 m _ y.out) ?_;intro nd))
      go_meet
      case rel=>exact⟨_,(!m),(es),H,⟨by first|omega|exact Nat.le_refl _⟩,⟨bk a.out⟩,⟨bel⟩⟩
    ·replace H:=am H
     go_wp2_with (first|((with_reducible refine gc 53 ?_);refine gl 6 Tryz.func53 (spec_l01In.calls a0 2 8 true _ A5.out) ?_;rintro e w' ⟨rfl,⟨nd,rfl⟩⟩;refine⟨_,rfl,?_⟩;obtain⟨_,_,_,_,_,_,_,_,_,_⟩:=cf5 a.out)|(go_at_call 53;refine cm1 (spec_l01In.calls b 0 (wrap64 (a0-1)) true _ A7.out) ?_;intro nd)|(go_at_call 53;refine cm1 (spec_l01In.calls c 0 (wrap64 (a0-1)) false _ A9.out) ?_;intro nd))
     go_meet
     case rel=>exact⟨_,(true),(es),H,⟨by first|omega|exact Nat.le_refl _⟩,⟨bk a.out⟩,⟨bel⟩⟩
   ·replace H:=am H
    go_wp2_with (first|((with_reducible refine gc 53 ?_);refine gl 6 Tryz.func53 (spec_l01In.calls a0 2 8 true _ A5.out) ?_;rintro e w' ⟨rfl,⟨nd,rfl⟩⟩;refine⟨_,rfl,?_⟩;obtain⟨_,_,_,_,_,_,_,_,_,_⟩:=cf5 a.out)|(go_at_call 53;refine cm1 (spec_l01In.calls b 0 (wrap64 (a0-1)) false _ A7.out) ?_;intro nd))
    go_meet
    case rel=>exact⟨_,(true),(es),H,⟨by first|omega|exact Nat.le_refl _⟩,⟨bk a.out⟩,⟨bel⟩⟩
  ·replace H:=am H
   go_wp2_with (first|((with_reducible refine gc 53 ?_);refine gl 6 Tryz.func53 (spec_l01In.calls a0 2 8 false _ A5.out) ?_;rintro e w' ⟨rfl,⟨nd,rfl⟩⟩;refine⟨_,rfl,?_⟩))
   go_meet
   case rel=>exact⟨_,(true),(es),H,⟨by first|omega|exact Nat.le_refl _⟩,⟨bk a.out⟩,⟨bel⟩⟩
 case rest=>
  clear n
  obtain⟨kq,l,rfl,HA,K,a,HB⟩:=hcut
  cases kq with
  |zero=>exact absurd HA.out (by simp [spec_GameOk.j0])
  |succ P=>
   have H:=HA.out
   clear HA
   simp only[spec_GameOk.j0]at H
   replace H:=ib H;obtain⟨rfl,H⟩|⟨rfl,H⟩:=H
   ·obtain rfl:=qj1 H
    go_wp2
    go_ret
    exact⟨er,bel⟩
   ·replace H:=ie H;obtain⟨p,q,H⟩|⟨⟨M,p,q⟩,H⟩:=H
    ·replace H:=bm H;obtain⟨J,v,H⟩:=H
     replace H:=ib H;obtain⟨rfl,H⟩|⟨rfl,H⟩:=H
     ·replace H:=bm H;obtain⟨x,z,H⟩:=H
      obtain rfl:=qj1 H
      obtain⟨_,_,_,_,_,_,_,_,_,_⟩:=cf5 a.out
      go_wp2_with (first|((with_reducible refine gc 53 ?_);refine gl 50 Tryz.func53 (spec_l01In.calls d 0 99 true _ v.out) ?_;rintro e w' ⟨rfl,⟨nd,rfl⟩⟩;refine⟨_,rfl,?_⟩)|(go_at_call 53;refine cm1 (spec_l01In.calls i 0 99 x _ z.out) ?_;intro nd))
      go_ret
      exact⟨er,bel⟩
     ·obtain rfl:=qj1 H
      obtain⟨_,_,_,_,_,_,_,_,_,_⟩:=cf5 a.out
      go_wp2_with (first|((with_reducible refine gc 53 ?_);refine gl 50 Tryz.func53 (spec_l01In.calls d 0 99 false _ v.out) ?_;rintro e w' ⟨rfl,⟨nd,rfl⟩⟩;refine⟨_,rfl,?_⟩))
      go_ret
      exact⟨er,bel⟩
    ·replace H:=ie H;obtain⟨s,t,H⟩|⟨⟨O,s,t⟩,H⟩:=H
     ·obtain rfl:=qj1 H
      obtain⟨_,_,_,_,_,_,_,_,_,_⟩:=cf5 a.out
      go_wp2
      go_ret
      exact⟨er,bel⟩
     ·obtain rfl:=qj1 H
      obtain⟨_,_,_,_,_,_,_,_,_,_⟩:=cf5 a.out
      go_wp2
      go_ret
      exact⟨er,bel⟩
def spec_GameOf.l0:Nat→Int→Int→List (S79)→Int→Int→Option (Int)
  |0,_,_,_,_,_=>none
  |k+1,x1,x2,x9,b,a=>if a<b then(if 0≤a then(if a<(x9.length:Int)then(if((rd_T79 x9 a).f0)=x1 then(if((rd_T79 x9 a).f1)=x2 then(some a)else(spec_GameOf.l0 k x1 x2 x9 b (wrap64 (a+1))))else(spec_GameOf.l0 k x1 x2 x9 b (wrap64 (a+1))))else(none))else(none))else(some (-1))
def spec_GameOf.f(k:Nat)(l0:List (S79))(a1:Int)(a2:Int):Option (Int):=spec_GameOf.l0 k a1 a2 l0 (l0.length:Int) 0
theorem spec_GameOf.calls(k:Nat)(A0:Option Addr)(c0:Nat)(l0:List (S79))(a1:Int)(a2:Int)(r:Int)(w:World)(n:Kd.C k79 w A0 l0.length l0)(s:l0.length≤c0)(h:spec_GameOf.f k l0 a1 a2=some r):Calls Tryz.prog 86 #[.slice A0 l0.length c0,.int .i64 a1,.int .i64 a2] w fun e w'=>e=.returned (.int .i64 r)∧Below w.heap.size w w':=by
 have D:=Tryz.underlying79
 replace n:=am n
 replace s:=am s
 have HB:=qb w
 have H:=h
 unfold spec_GameOf.f at H
 clear h
 replace H:=am H
 go_enter Tryz.func86,Tryz.ntmps86
 go_wp2
 go_loopg [11] k (fun kq z w'=>∃(a:Int),z=.int .i64 a∧Aside0 (spec_GameOf.l0 kq a1 a2 l0 (l0.length:Int) a=some r)∧Aside0 (kq≤k)∧Aside0 (Below w.heap.size w w'))
 case atStart=>exact⟨(0),(es),H,⟨Nat.le_refl _⟩,⟨bel⟩⟩
 case round=>
  clear H
  obtain⟨a,rfl,HA,q,HB⟩:=hrel
  cases gk with
  |zero=>exact absurd HA.out (by simp [spec_GameOf.l0])
  |succ k1=>
   have H:=HA.out
   clear HA
   simp only[spec_GameOf.l0]at H
   replace H:=i1 H;obtain⟨t,H⟩|⟨t,H⟩:=H
   ·replace H:=i0 H;obtain⟨A,H⟩:=H
    replace H:=i0 H;obtain⟨B,H⟩:=H
    replace H:=ie H;obtain⟨u,v,H⟩|⟨⟨c7,u,v⟩,H⟩:=H
    ·replace H:=ie H;obtain⟨x,y,H⟩|⟨⟨c8,x,y⟩,H⟩:=H
     ·obtain rfl:=qj1 H
      have:(0≤(a:Int))=True:=ab
      have:(a<(l0.length:Int))=True:=ab
      obtain⟨o,c,d,g,i,j,l⟩:=hc5 HB.out (at_T79 n.out a asm asm)
      cases c
      go_wp2_with (first|((with_reducible refine gd 8 ?_);refine bx w 8 #[.int .i64 0,.int .i64 0,.int .i64 0,.int .i64 0,.int .i64 0] 79 ?_;clear HB;intro p w9 b m HB;obtain⟨_,_,_,_,_,_,_,_,_,_⟩:=cf5 b.out))
      go_ret
      exact⟨er,bel⟩
     ·replace H:=am H
      have:(0≤(a:Int))=True:=ab
      have:(a<(l0.length:Int))=True:=ab
      obtain⟨o,c,d,g,i,j,l⟩:=hc5 HB.out (at_T79 n.out a asm asm)
      cases c
      go_wp2_with (first|((with_reducible refine gd 8 ?_);refine bx w 8 #[.int .i64 0,.int .i64 0,.int .i64 0,.int .i64 0,.int .i64 0] 79 ?_;clear HB;intro p E b m HB;obtain⟨_,_,_,_,_,_,_,_,_,_⟩:=cf5 b.out))
      go_roundg k1
      case measure=>have:=q.out;omega
      case rel=>exact⟨(wrap64 (a+1)),(es),H,⟨by have:=q.out;omega⟩,⟨bel⟩⟩
    ·replace H:=am H
     have:(0≤(a:Int))=True:=ab
     have:(a<(l0.length:Int))=True:=ab
     obtain⟨o,c,d,g,i,j,l⟩:=hc5 HB.out (at_T79 n.out a asm asm)
     cases c
     go_wp2_with (first|((with_reducible refine gd 8 ?_);refine bx w 8 #[.int .i64 0,.int .i64 0,.int .i64 0,.int .i64 0,.int .i64 0] 79 ?_;clear HB;intro p G b m HB;obtain⟨_,_,_,_,_,_,_,_,_,_⟩:=cf5 b.out))
     go_roundg k1
     case measure=>have:=q.out;omega
     case rel=>exact⟨(wrap64 (a+1)),(es),H,⟨by have:=q.out;omega⟩,⟨bel⟩⟩
   ·obtain rfl:=qj1 H
    go_wp2
    go_ret
    exact⟨er,bel⟩
def spec_SeasonOk.l0:Nat→Int→List (S79)→List (S79)→Int→Int→Option (Bool)
  |0,_,_,_,_,_=>none
  |k+1,x0,x1,b,e,a=>if a<e then(if 0≤a then(if a<(b.length:Int)then((spec_GameOk.f k x0 ((rd_T79 b a).f0) ((rd_T79 b a).f1) ((rd_T79 b a).f2) ((rd_T79 b a).f3) ((rd_T79 b a).f4)).bind fun c=>(if c=true then((spec_GameOf.f k x1 ((rd_T79 b a).f0) ((rd_T79 b a).f1)).bind fun d=>(if d=a then(spec_SeasonOk.l0 k x0 x1 b e (wrap64 (a+1)))else(some false)))else(some false)))else(none))else(none))else(some true)
def spec_SeasonOk.f(k:Nat)(a0:Int)(l1:List (S79)):Option (Bool):=if(l1.length:Int)>60 then(some false)else(spec_SeasonOk.l0 k a0 l1 l1 (l1.length:Int) 0)
theorem spec_SeasonOk.calls(k:Nat)(a0:Int)(A1:Option Addr)(c1:Nat)(l1:List (S79))(r:Bool)(w:World)(m:Kd.C k79 w A1 l1.length l1)(q:l1.length≤c1)(h:spec_SeasonOk.f k a0 l1=some r):Calls Tryz.prog 75 #[.int .i64 a0,.slice A1 l1.length c1] w fun e w'=>e=.returned (.bool r)∧Below w.heap.size w w':=by
 have E:=Tryz.underlying79
 replace m:=am m
 replace q:=am q
 have HB:=qb w
 have H:=h
 unfold spec_SeasonOk.f at H
 clear h
 by_cases c3:(l1.length:Int)>60
 ·rw[if_pos c3]at H
  have s:decide (60<(l1.length:Int))=true:=decide_eq_true c3
  have t:decide (60<l1.length)=true:=decide_eq_true (by omega)
  clear c3
  obtain rfl:=qj1 H
  go_enter Tryz.func75,Tryz.ntmps75
  go_wp2
  go_ret
  exact⟨er,bel⟩
 ·rw[if_neg c3]at H
  have s:decide (60<(l1.length:Int))=false:=decide_eq_false c3
  have t:decide (60<l1.length)=false:=decide_eq_false (by omega)
  clear c3
  replace H:=am H
  go_enter Tryz.func75,Tryz.ntmps75
  go_wp2
  go_loopg [12] k (fun kq A w'=>∃(a:Int),A=.int .i64 a∧Aside0 (spec_SeasonOk.l0 kq a0 l1 l1 (l1.length:Int) a=some r)∧Aside0 (kq≤k)∧Aside0 (Below w.heap.size w w'))
  case atStart=>exact⟨(0),(es),H,⟨Nat.le_refl _⟩,⟨bel⟩⟩
  case round=>
   clear H
   try clear c1;try clear c3;try clear s;try clear t
   obtain⟨a,rfl,HA,y,HB⟩:=hrel
   cases gk with
   |zero=>exact absurd HA.out (by simp [spec_SeasonOk.l0])
   |succ k1=>
    have H:=HA.out
    clear HA
    simp only[spec_SeasonOk.l0]at H
    replace H:=i1 H;obtain⟨z,H⟩|⟨z,H⟩:=H
    ·replace H:=i0 H;obtain⟨B,H⟩:=H
     replace H:=i0 H;obtain⟨D,H⟩:=H
     replace H:=bm H;obtain⟨G,A7,H⟩:=H
     replace H:=ib H;obtain⟨rfl,H⟩|⟨rfl,H⟩:=H
     ·replace H:=bm H;obtain⟨u,A9,H⟩:=H
      replace H:=ie H;obtain⟨v,x,H⟩|⟨⟨c10,v,x⟩,H⟩:=H
      ·replace H:=am H
       have:(0≤(a:Int))=True:=ab
       have:(a<(l1.length:Int))=True:=ab
       obtain⟨o,c,d,g,i,j,l⟩:=hc5 HB.out (at_T79 m.out a asm asm)
       cases c
       go_wp2_with (first|((with_reducible refine gd 6 ?_);refine bx w 6 #[.int .i64 0,.int .i64 0,.int .i64 0,.int .i64 0,.int .i64 0] 79 ?_;clear HB;intro p I b n HB;obtain⟨_,_,_,_,_,_,_,_,_,_⟩:=cf5 b.out)|((with_reducible refine gc 85 ?_);refine gl 19 Tryz.func85 (spec_GameOk.calls k1 a0 ((rd_T79 l1 a).f0) ((rd_T79 l1 a).f1) ((rd_T79 l1 a).f2) ((rd_T79 l1 a).f3) ((rd_T79 l1 a).f4) true _ A7.out) ?_;rintro e J ⟨rfl,hb⟩;refine⟨_,rfl,?_⟩;replace b:=bq b hb;replace HB:=b2 hb;(try clear hb);obtain⟨_,_,_,_,_,_,_,_,_,_⟩:=cf5 b.out)|(go_at_call 86;refine cm2 (spec_GameOf.calls k1 _ _ l1 ((rd_T79 l1 a).f0) ((rd_T79 l1 a).f1) u _ (cb m HB) q.out A9.out) ?_;intro K hb;replace b:=b1 b hb;replace HB:=b2 hb;clear hb))
       go_roundg k1
       case measure=>have:=y.out;omega
       case rel=>exact⟨(wrap64 (a+1)),(es),H,⟨by have:=y.out;omega⟩,⟨bel⟩⟩
      ·obtain rfl:=qj1 H
       have:(0≤(a:Int))=True:=ab
       have:(a<(l1.length:Int))=True:=ab
       obtain⟨o,c,d,g,i,j,l⟩:=hc5 HB.out (at_T79 m.out a asm asm)
       cases c
       go_wp2_with (first|((with_reducible refine gd 6 ?_);refine bx w 6 #[.int .i64 0,.int .i64 0,.int .i64 0,.int .i64 0,.int .i64 0] 79 ?_;clear HB;intro p L b n HB;obtain⟨_,_,_,_,_,_,_,_,_,_⟩:=cf5 b.out)|((with_reducible refine gc 85 ?_);refine gl 19 Tryz.func85 (spec_GameOk.calls k1 a0 ((rd_T79 l1 a).f0) ((rd_T79 l1 a).f1) ((rd_T79 l1 a).f2) ((rd_T79 l1 a).f3) ((rd_T79 l1 a).f4) true _ A7.out) ?_;rintro e M ⟨rfl,hb⟩;refine⟨_,rfl,?_⟩;replace b:=bq b hb;replace HB:=b2 hb;(try clear hb);obtain⟨_,_,_,_,_,_,_,_,_,_⟩:=cf5 b.out)|(go_at_call 86;refine cm2 (spec_GameOf.calls k1 _ _ l1 ((rd_T79 l1 a).f0) ((rd_T79 l1 a).f1) u _ (cb m HB) q.out A9.out) ?_;intro O hb;replace b:=b1 b hb;replace HB:=b2 hb;clear hb))
       go_ret
       exact⟨er,bel⟩
     ·obtain rfl:=qj1 H
      have:(0≤(a:Int))=True:=ab
      have:(a<(l1.length:Int))=True:=ab
      obtain⟨o,c,d,g,i,j,l⟩:=hc5 HB.out (at_T79 m.out a asm asm)
      cases c
      go_wp2_with (first|((with_reducible refine gd 6 ?_);refine bx w 6 #[.int .i64 0,.int .i64 0,.int .i64 0,.int .i64 0,.int .i64 0] 79 ?_;clear HB;intro p P b n HB;obtain⟨_,_,_,_,_,_,_,_,_,_⟩:=cf5 b.out)|((with_reducible refine gc 85 ?_);refine gl 19 Tryz.func85 (spec_GameOk.calls k1 a0 ((rd_T79 l1 a).f0) ((rd_T79 l1 a).f1) ((rd_T79 l1 a).f2) ((rd_T79 l1 a).f3) ((rd_T79 l1 a).f4) false _ A7.out) ?_;rintro e T ⟨rfl,hb⟩;refine⟨_,rfl,?_⟩;replace b:=bq b hb;replace HB:=b2 hb;(try clear hb)))
      go_ret
      exact⟨er,bel⟩
    ·obtain rfl:=qj1 H
     go_wp2
     go_ret
     exact⟨er,bel⟩
mutual
def spec_BookOk.j0:Nat→Bool→List (S83)→Int→Int→Int→List Int→Bool→List (S79)→List Int→List Int→Option (Bool)
  |0,_,_,_,_,_,_,_,_,_,_=>none
  |k+1,l,a,b,c,d,e,g,h,i,j=>if l=true then(some false)else(spec_BookOk.l0 k (a.length:Int) 0 a b c d e g h i j)
def spec_BookOk.l0:Nat→Int→Int→List (S83)→Int→Int→Int→List Int→Bool→List (S79)→List Int→List Int→Option (Bool)
  |0,_,_,_,_,_,_,_,_,_,_,_=>none
  |k+1,o,c,d,e,g,h,i,j,l,a,b=>if c<o then(if 0≤c then(if c<(a.length:Int)then((spec_l01In.f (rd a c) 0 1000).bind fun m=>(if m=true then(if c<(b.length:Int)then((spec_l01In.f (rd b c) 0 1000).bind fun n=>(if n=true then(spec_BookOk.l0 k o (wrap64 (c+1)) d e g h i j l a b)else(some false)))else(none))else(some false)))else(none))else(none))else(some true)
end
def spec_BookOk.f(k:Nat)(a:List (S83))(b:Int)(c:Int)(d:Int)(g:List Int)(e:Bool)(h:List (S79))(i:List Int)(j:List Int):Option (Bool):=(spec_FieldOk.f k a).bind fun l=>(if l=true then((spec_RulesOk.f k b c d g e).bind fun m=>(if m=true then((spec_SeasonOk.f k (a.length:Int) h).bind fun n=>(if n=true then(if(i.length:Int)=(a.length:Int)then(spec_BookOk.j0 k ((j.length:Int) != (a.length:Int)) a b c d g e h i j)else(spec_BookOk.j0 k true a b c d g e h i j))else(spec_BookOk.j0 k true a b c d g e h i j)))else(spec_BookOk.j0 k true a b c d g e h i j)))else(spec_BookOk.j0 k true a b c d g e h i j))
theorem spec_BookOk.calls(k:Nat)(D:Option Addr)(K:Nat)(c:List (S83))(l:Int)(m:Int)(n:Int)(E:Option Addr)(L:Nat)(i:List Int)(o:Bool)(G:Option Addr)(M:Nat)(j:List (S79))(I:Option Addr)(O:Nat)(d:List Int)(J:Option Addr)(P:Nat)(g:List Int)(r:Bool)(w:World)(s:Kd.C k83 w D c.length c)(q:c.length≤K)(u:Kd.C (Kd.int .i64) w E i.length i)(t:i.length≤L)(x:Kd.C k79 w G j.length j)(v:j.length≤M)(y:Kd.C (Kd.int .i64) w I d.length d)(ar:d.length≤O)(B:Kd.C (Kd.int .i64) w J g.length g)(au:g.length≤P)(h:spec_BookOk.f k c l m n i o j d g=some r):Calls Tryz.prog 51 #[.agg #[.slice D c.length K,.int .i64 l,.int .i64 m,.int .i64 n,.slice E i.length L,.bool o,.slice G j.length M,.slice I d.length O,.slice J g.length P]] w fun e w'=>e=.returned (.bool r)∧Below w.heap.size w w':=by
 have a7:=Tryz.underlying35
 have a6:=Tryz.underlying32
 replace s:=am s
 replace q:=am q
 replace u:=am u
 replace t:=am t
 replace x:=am x
 replace v:=am v
 replace y:=am y
 replace ar:=am ar
 replace B:=am B
 replace au:=am au
 have HB:=qb w
 have H:=h
 unfold spec_BookOk.f at H
 clear h
 have aR:=am H
 clear H
 go_enter Tryz.func51,Tryz.ntmps51
 go_upto_region 2 with (first|((with_reducible refine gd 1 ?_);refine bx w 1 #[.slice D c.length K,.int .i64 l,.int .i64 m,.int .i64 n,.slice E i.length L,.bool o,.slice G j.length M,.slice I d.length O,.slice J g.length P] 35 ?_;clear HB;intro ax w3 a a0 HB;obtain⟨X,Y,Z,aa,ac,ad,ae,af,ag,ah,ai,aj,ak,al,an,ao,ap,aq⟩:=cf9 a.out))
 (try simp only[Act.put,List.setIfInBounds_toArray,List.set_cons_zero,List.set_cons_succ])
 go_cut [38] (fun a4 wc=>∃(kq:Nat) (W:Bool),a4=.bool W∧Aside0 (spec_BookOk.j0 kq W c l m n i o j d g=some r)∧Aside0 (kq≤k)∧Aside0 (wc.heap[ax]? =some (.cells #[(.slice D c.length K),.int .i64 l,.int .i64 m,.int .i64 n,(.slice E i.length L),.bool o,(.slice G j.length M),(.slice I d.length O),(.slice J g.length P)] 35 (0,0)))∧Aside0 (Below w.heap.size w wc))
 case first=>
  have H:=aR.out
  clear aR
  replace H:=bm H;obtain⟨a8,A5,H⟩:=H
  replace H:=ib H;obtain⟨rfl,H⟩|⟨rfl,H⟩:=H
  ·replace H:=bm H;obtain⟨a9,A7,H⟩:=H
   replace H:=ib H;obtain⟨rfl,H⟩|⟨rfl,H⟩:=H
   ·replace H:=bm H;obtain⟨ba,A9,H⟩:=H
    replace H:=ib H;obtain⟨rfl,H⟩|⟨rfl,H⟩:=H
    ·by_cases z:(d.length:Int)=(c.length:Int)
     ·rw[if_pos z]at H
      have A:((d.length:Int)==(c.length:Int))=true:=beq_iff_eq.mpr z
      have aT:((d.length:Int) != (c.length:Int))=false:=bne_eq_false_iff_eq.mpr z
      have aU:(d.length==c.length)=true:=by first|simpa using z|(simp at z⊢;omega)
      clear z
      (first|rw[A]|(simp only[i64_w,i32_w];rw[A])|skip)
      replace H:=am H
      obtain⟨_,_,_,_,_,_,_,_,_,_,_,_,_,_,_,_,_,_⟩:=cf9 a.out
      go_wp2_with (first|((with_reducible refine gc 73 ?_);refine gl 10 Tryz.func73 (spec_FieldOk.calls k _ _ c true _ (cb s HB) q.out A5.out) ?_;rintro e be ⟨rfl,hb⟩;refine⟨_,rfl,?_⟩;replace a:=b1 a hb;replace HB:=b2 hb;(try clear hb);obtain⟨_,_,_,_,_,_,_,_,_,_,_,_,_,_,_,_,_,_⟩:=cf9 a.out)|(go_at_call 74;refine cm2 (spec_RulesOk.calls k l m n _ _ i o true _ (cb u HB) t.out A7.out) ?_;intro bf hb;replace a:=b1 a hb;replace HB:=b2 hb;clear hb;obtain⟨_,_,_,_,_,_,_,_,_,_,_,_,_,_,_,_,_,_⟩:=cf9 a.out)|(go_at_call 75;refine cm2 (spec_SeasonOk.calls k (c.length:Int) _ _ j true _ (cb x HB) v.out A9.out) ?_;intro bg hb;replace a:=b1 a hb;replace HB:=b2 hb;clear hb;obtain⟨_,_,_,_,_,_,_,_,_,_,_,_,_,_,_,_,_,_⟩:=cf9 a.out))
      go_meet
      case rel=>exact⟨_,(((g.length:Int) != (c.length:Int))),(es),H,⟨by first|omega|exact Nat.le_refl _⟩,⟨bk a.out⟩,⟨bel⟩⟩
     ·rw[if_neg z]at H
      have A:((d.length:Int)==(c.length:Int))=false:=beq_eq_false_iff_ne.mpr z
      have aT:((d.length:Int) != (c.length:Int))=true:=bne_iff_ne.mpr z
      have aU:(d.length==c.length)=false:=by first|simpa using z|(simp at z⊢;omega)
      (first|rw[A]|(simp only[i64_w,i32_w];rw[A])|skip)
      replace H:=am H
      obtain⟨_,_,_,_,_,_,_,_,_,_,_,_,_,_,_,_,_,_⟩:=cf9 a.out
      go_wp2_with (first|((with_reducible refine gc 73 ?_);refine gl 10 Tryz.func73 (spec_FieldOk.calls k _ _ c true _ (cb s HB) q.out A5.out) ?_;rintro e bh ⟨rfl,hb⟩;refine⟨_,rfl,?_⟩;replace a:=b1 a hb;replace HB:=b2 hb;(try clear hb);obtain⟨_,_,_,_,_,_,_,_,_,_,_,_,_,_,_,_,_,_⟩:=cf9 a.out)|(go_at_call 74;refine cm2 (spec_RulesOk.calls k l m n _ _ i o true _ (cb u HB) t.out A7.out) ?_;intro bi hb;replace a:=b1 a hb;replace HB:=b2 hb;clear hb;obtain⟨_,_,_,_,_,_,_,_,_,_,_,_,_,_,_,_,_,_⟩:=cf9 a.out)|(go_at_call 75;refine cm2 (spec_SeasonOk.calls k (c.length:Int) _ _ j true _ (cb x HB) v.out A9.out) ?_;intro bj hb;replace a:=b1 a hb;replace HB:=b2 hb;clear hb;obtain⟨_,_,_,_,_,_,_,_,_,_,_,_,_,_,_,_,_,_⟩:=cf9 a.out))
      go_meet
      case rel=>exact⟨_,(true),(es),H,⟨by first|omega|exact Nat.le_refl _⟩,⟨bk a.out⟩,⟨bel⟩⟩
    ·replace H:=am H
     obtain⟨_,_,_,_,_,_,_,_,_,_,_,_,_,_,_,_,_,_⟩:=cf9 a.out
     go_wp2_with (first|((with_reducible refine gc 73 ?_);refine gl 10 Tryz.func73 (spec_FieldOk.calls k _ _ c true _ (cb s HB) q.out A5.out) ?_;rintro e bl ⟨rfl,hb⟩;refine⟨_,rfl,?_⟩;replace a:=b1 a hb;replace HB:=b2 hb;(try clear hb);obtain⟨_,_,_,_,_,_,_,_,_,_,_,_,_,_,_,_,_,_⟩:=cf9 a.out)|(go_at_call 74;refine cm2 (spec_RulesOk.calls k l m n _ _ i o true _ (cb u HB) t.out A7.out) ?_;intro bn hb;replace a:=b1 a hb;replace HB:=b2 hb;clear hb;obtain⟨_,_,_,_,_,_,_,_,_,_,_,_,_,_,_,_,_,_⟩:=cf9 a.out)|(go_at_call 75;refine cm2 (spec_SeasonOk.calls k (c.length:Int) _ _ j false _ (cb x HB) v.out A9.out) ?_;intro bo hb;replace a:=b1 a hb;replace HB:=b2 hb;clear hb))
     go_meet
     case rel=>exact⟨_,(true),(es),H,⟨by first|omega|exact Nat.le_refl _⟩,⟨bk a.out⟩,⟨bel⟩⟩
   ·replace H:=am H
    obtain⟨_,_,_,_,_,_,_,_,_,_,_,_,_,_,_,_,_,_⟩:=cf9 a.out
    go_wp2_with (first|((with_reducible refine gc 73 ?_);refine gl 10 Tryz.func73 (spec_FieldOk.calls k _ _ c true _ (cb s HB) q.out A5.out) ?_;rintro e bp ⟨rfl,hb⟩;refine⟨_,rfl,?_⟩;replace a:=b1 a hb;replace HB:=b2 hb;(try clear hb);obtain⟨_,_,_,_,_,_,_,_,_,_,_,_,_,_,_,_,_,_⟩:=cf9 a.out)|(go_at_call 74;refine cm2 (spec_RulesOk.calls k l m n _ _ i o false _ (cb u HB) t.out A7.out) ?_;intro br hb;replace a:=b1 a hb;replace HB:=b2 hb;clear hb))
    go_meet
    case rel=>exact⟨_,(true),(es),H,⟨by first|omega|exact Nat.le_refl _⟩,⟨bk a.out⟩,⟨bel⟩⟩
  ·replace H:=am H
   obtain⟨_,_,_,_,_,_,_,_,_,_,_,_,_,_,_,_,_,_⟩:=cf9 a.out
   go_wp2_with (first|((with_reducible refine gc 73 ?_);refine gl 10 Tryz.func73 (spec_FieldOk.calls k _ _ c false _ (cb s HB) q.out A5.out) ?_;rintro e bu ⟨rfl,hb⟩;refine⟨_,rfl,?_⟩;replace a:=b1 a hb;replace HB:=b2 hb;(try clear hb)))
   go_meet
   case rel=>exact⟨_,(true),(es),H,⟨by first|omega|exact Nat.le_refl _⟩,⟨bk a.out⟩,⟨bel⟩⟩
 case rest=>
  clear aR
  try clear X;try clear Y;try clear Z;try clear aa;try clear ac;try clear ad;try clear ae;try clear af;try clear ag;try clear ah;try clear ai;try clear aj;try clear ak;try clear al;try clear an;try clear ao;try clear ap;try clear aq
  obtain⟨kq,W,rfl,HA,aX,a,HB⟩:=hcut
  cases kq with
  |zero=>exact absurd HA.out (by simp [spec_BookOk.j0])
  |succ aZ=>
   have H:=HA.out
   clear HA
   simp only[spec_BookOk.j0]at H
   replace H:=ib H;obtain⟨rfl,H⟩|⟨rfl,H⟩:=H
   ·obtain rfl:=qj1 H
    go_wp2
    go_ret
    exact⟨er,bel⟩
   ·replace H:=am H
    obtain⟨ay,az,aA,aB,aC,aD,aE,aF,aG,aH,aI,aJ,aK,aL,aM,aN,aO,aP⟩:=cf9 a.out
    go_wp2
    go_loopg [42] aZ (fun kq a5 w'=>∃(b:Int),a5=.int .i64 b∧Aside0 (spec_BookOk.l0 kq (c.length:Int) b c l m n i o j d g=some r)∧Aside0 (kq≤aZ)∧Aside0 (w'.heap[ax]? =some (.cells #[(.slice D c.length K),.int .i64 l,.int .i64 m,.int .i64 n,(.slice E i.length L),.bool o,(.slice G j.length M),(.slice I d.length O),(.slice J g.length P)] 35 (0,0)))∧Aside0 (Below w.heap.size w w'))
    case atStart=>exact⟨(0),(es),H,⟨Nat.le_refl _⟩,⟨bk a.out⟩,⟨bel⟩⟩
    case round=>
     clear H
     try clear ay;try clear az;try clear aA;try clear aB;try clear aC;try clear aD;try clear aE;try clear aF;try clear aG;try clear X;try clear Y;try clear Z;try clear aa;try clear ac;try clear ad;try clear ae;try clear af;try clear ag;try clear aH;try clear aI;try clear aJ;try clear aK;try clear aL;try clear aM;try clear aN;try clear aO;try clear aP;try clear ah;try clear ai;try clear aj;try clear ak;try clear al;try clear an;try clear ao;try clear ap;try clear aq
     obtain⟨b,rfl,HA,aY,a,HB⟩:=hrel
     cases gk with
     |zero=>exact absurd HA.out (by simp [spec_BookOk.l0])
     |succ k2=>
      have H:=HA.out
      clear HA
      simp only[spec_BookOk.l0]at H
      replace H:=i1 H;obtain⟨aV,H⟩|⟨aV,H⟩:=H
      ·replace H:=i0 H;obtain⟨a1,H⟩:=H
       replace H:=i0 H;obtain⟨a2,H⟩:=H
       replace H:=bm H;obtain⟨bc,aQ,H⟩:=H
       replace H:=ib H;obtain⟨rfl,H⟩|⟨rfl,H⟩:=H
       ·replace H:=i0 H;obtain⟨a3,H⟩:=H
        replace H:=bm H;obtain⟨bd,aW,H⟩:=H
        replace H:=ib H;obtain⟨rfl,H⟩|⟨rfl,H⟩:=H
        ·replace H:=am H
         obtain⟨_,_,_,_,_,_,_,_,_,_,_,_,_,_,_,_,_,_⟩:=cf9 a.out
         have:(0≤(b:Int))=True:=ab
         have:(b<(d.length:Int))=True:=ab
         obtain⟨av,T,U⟩:=hc1 HB.out (Kd.at_int y.out b asm asm)
         cases T
         go_wp2_with (first|((with_reducible refine gc 53 ?_);refine gl 50 Tryz.func53 (spec_l01In.calls (rd d b) 0 1000 true _ aQ.out) ?_;rintro e w' ⟨rfl,⟨nd,rfl⟩⟩;refine⟨_,rfl,?_⟩;have:(0≤(b:Int))=True:=ab;have:(b<(g.length:Int))=True:=ab;obtain⟨aS,aw,p⟩:=Kd.at_int B.out b asm asm;cases aw;replace p:=hcl HB.out p)|(go_at_call 53;refine cm1 (spec_l01In.calls (rd g b) 0 1000 true _ aW.out) ?_;intro nd))
         go_roundg k2
         case measure=>have:=aX.out;have:=aY.out;omega
         case rel=>exact⟨(wrap64 (b+1)),(es),H,⟨by have:=aX.out;have:=aY.out;omega⟩,⟨bk a.out⟩,⟨bel⟩⟩
        ·obtain rfl:=qj1 H
         obtain⟨_,_,_,_,_,_,_,_,_,_,_,_,_,_,_,_,_,_⟩:=cf9 a.out
         have:(0≤(b:Int))=True:=ab
         have:(b<(d.length:Int))=True:=ab
         obtain⟨av,T,U⟩:=hc1 HB.out (Kd.at_int y.out b asm asm)
         cases T
         go_wp2_with (first|((with_reducible refine gc 53 ?_);refine gl 50 Tryz.func53 (spec_l01In.calls (rd d b) 0 1000 true _ aQ.out) ?_;rintro e w' ⟨rfl,⟨nd,rfl⟩⟩;refine⟨_,rfl,?_⟩;have:(0≤(b:Int))=True:=ab;have:(b<(g.length:Int))=True:=ab;obtain⟨aS,aw,p⟩:=Kd.at_int B.out b asm asm;cases aw;replace p:=hcl HB.out p)|(go_at_call 53;refine cm1 (spec_l01In.calls (rd g b) 0 1000 false _ aW.out) ?_;intro nd))
         go_ret
         exact⟨er,bel⟩
       ·obtain rfl:=qj1 H
        obtain⟨_,_,_,_,_,_,_,_,_,_,_,_,_,_,_,_,_,_⟩:=cf9 a.out
        have:(0≤(b:Int))=True:=ab
        have:(b<(d.length:Int))=True:=ab
        obtain⟨av,T,U⟩:=hc1 HB.out (Kd.at_int y.out b asm asm)
        cases T
        go_wp2_with (first|((with_reducible refine gc 53 ?_);refine gl 50 Tryz.func53 (spec_l01In.calls (rd d b) 0 1000 false _ aQ.out) ?_;rintro e w' ⟨rfl,⟨nd,rfl⟩⟩;refine⟨_,rfl,?_⟩))
        go_ret
        exact⟨er,bel⟩
      ·obtain rfl:=qj1 H
       go_wp2
       go_ret
       exact⟨er,bel⟩
end Go.Proofs.YtgalpgakdcfilaaGreat.L
