-- Written by a program of this session (wip/xp.py).
import Derived.Test.YtgalpgakdcfilaaGreatL0
import Derived.Test.YtgalpgakdcfilaaGreatL35
namespace Go.Proofs.YtgalpgakdcfilaaGreat.L
open Go.RowKit Go.Proofs.YtgalpgakdcfilaaGreatW.PrintWords Go.Proofs.YtgalpgakdcfilaaGreatW.PrintLast Go.Proofs.YtgalpgakdcfilaaGreatW.PrintMore
attribute [local go_sem] max2_int min2_int max_two min_two max_three min_three max_four min_four
set_option linter.unusedVariables false
set_option linter.unusedSimpArgs false
set_option maxHeartbeats 8000000
set_option maxRecDepth 100000
def impl_IsName.l0:Nat→ByteArray→Int→Int→Option (Bool)
  |0,_,_,_=>none
  |k+1,x0,x6,x7=>if x7<x6 then(if 0≤x7 then(if x7<(x0.size:Int)then(if(bt x0 x7)≥97 then(if((bt x0 x7)≤122)then(impl_IsName.l0 k x0 x6 (wrap64 (x7+1)))else(if x7=0 then(some false)else(if(bt x0 x7)<48 then(some false)else(if(bt x0 x7)>57 then(some false)else(impl_IsName.l0 k x0 x6 (wrap64 (x7+1)))))))else(if x7=0 then(some false)else(if(bt x0 x7)<48 then(some false)else(if(bt x0 x7)>57 then(some false)else(impl_IsName.l0 k x0 x6 (wrap64 (x7+1)))))))else(none))else(none))else((impl_within.f (x0.size:Int) 1 8).bind fun a=>(some a))
def impl_IsName.f(k:Nat)(a0:ByteArray):Option (Bool):=impl_IsName.l0 k a0 (a0.size:Int) 0
theorem impl_IsName.calls(k:Nat)(a0:ByteArray)(r:Bool)(w:World)(h:impl_IsName.f k a0=some r):Calls Tryz.prog 103 #[.string a0] w fun e w'=>e=.returned (.bool r)∧Drawn0 w w':=by
 have H:=h
 unfold impl_IsName.f at H
 clear h
 replace H:=am H
 go_enter Tryz.func103,Tryz.ntmps103
 go_wp2
 go_loopg [7] k (fun kq v7 w'=>∃(a:Int),v7=.int .i64 a∧Aside0 (impl_IsName.l0 kq a0 (a0.size:Int) a=some r)∧Aside0 (kq≤k)∧Drawn0 w w')
 case atStart=>exact⟨(0),(es),H,⟨Nat.le_refl _⟩,by repeat (first|exact Drawn0.refl _|apply Drawn0.step)⟩
 case round=>
  clear H
  obtain⟨a,rfl,HA,c,⟨m1,rfl⟩⟩:=hrel
  cases gk with
  |zero=>exact absurd HA.out (by simp [impl_IsName.l0])
  |succ k1=>
   have H:=HA.out
   clear HA
   simp only[impl_IsName.l0]at H
   replace H:=i1 H;obtain⟨q,H⟩|⟨q,H⟩:=H
   ·replace H:=i0 H;obtain⟨B,H⟩:=H
    replace H:=i0 H;obtain⟨D,H⟩:=H
    replace H:=i1 H;obtain⟨s,H⟩|⟨s,H⟩:=H
    ·replace H:=i1 H;obtain⟨t,H⟩|⟨t,H⟩:=H
     ·replace H:=am H
      have:(0≤(a:Int))=True:=ab
      have:(a<(a0.size:Int))=True:=ab
      have b:=bt_at a0 a
      have:(0≤(a:Int))=True:=ab
      have:(a<(a0.size:Int))=True:=ab
      have d:=bt_at a0 a
      go_wp2
      go_roundg k1
      case measure=>have:=c.out;omega
      case rel=>exact⟨(wrap64 (a+1)),(es),H,⟨by have:=c.out;omega⟩,by repeat (first|exact Drawn0.refl _|apply Drawn0.step)⟩
     ·replace H:=ie H;obtain⟨u,v,H⟩|⟨⟨c9,u,v⟩,H⟩:=H
      ·obtain rfl:=qj1 H
       have:(0≤(a:Int))=True:=ab
       have:(a<(a0.size:Int))=True:=ab
       have b:=bt_at a0 a
       have:(0≤(a:Int))=True:=ab
       have:(a<(a0.size:Int))=True:=ab
       have d:=bt_at a0 a
       go_wp2
       go_ret
       exact⟨es,by repeat (first|exact Drawn0.refl _|apply Drawn0.step)⟩
      ·replace H:=i1 H;obtain⟨j,H⟩|⟨j,H⟩:=H
       ·obtain rfl:=qj1 H
        have:(0≤(a:Int))=True:=ab
        have:(a<(a0.size:Int))=True:=ab
        have b:=bt_at a0 a
        have:(0≤(a:Int))=True:=ab
        have:(a<(a0.size:Int))=True:=ab
        have d:=bt_at a0 a
        have:(0≤(a:Int))=True:=ab
        have:(a<(a0.size:Int))=True:=ab
        have g:=bt_at a0 a
        go_wp2
        go_ret
        exact⟨es,by repeat (first|exact Drawn0.refl _|apply Drawn0.step)⟩
       ·replace H:=i1 H;obtain⟨l,H⟩|⟨l,H⟩:=H
        ·obtain rfl:=qj1 H
         have:(0≤(a:Int))=True:=ab
         have:(a<(a0.size:Int))=True:=ab
         have b:=bt_at a0 a
         have:(0≤(a:Int))=True:=ab
         have:(a<(a0.size:Int))=True:=ab
         have d:=bt_at a0 a
         have:(0≤(a:Int))=True:=ab
         have:(a<(a0.size:Int))=True:=ab
         have g:=bt_at a0 a
         have:(0≤(a:Int))=True:=ab
         have:(a<(a0.size:Int))=True:=ab
         have x:=bt_at a0 a
         go_wp2
         go_ret
         exact⟨es,by repeat (first|exact Drawn0.refl _|apply Drawn0.step)⟩
        ·replace H:=am H
         have:(0≤(a:Int))=True:=ab
         have:(a<(a0.size:Int))=True:=ab
         have b:=bt_at a0 a
         have:(0≤(a:Int))=True:=ab
         have:(a<(a0.size:Int))=True:=ab
         have d:=bt_at a0 a
         have:(0≤(a:Int))=True:=ab
         have:(a<(a0.size:Int))=True:=ab
         have g:=bt_at a0 a
         have:(0≤(a:Int))=True:=ab
         have:(a<(a0.size:Int))=True:=ab
         have x:=bt_at a0 a
         go_wp2
         go_roundg k1
         case measure=>have:=c.out;omega
         case rel=>exact⟨(wrap64 (a+1)),(es),H,⟨by have:=c.out;omega⟩,by repeat (first|exact Drawn0.refl _|apply Drawn0.step)⟩
    ·replace H:=ie H;obtain⟨m,n,H⟩|⟨⟨E,m,n⟩,H⟩:=H
     ·obtain rfl:=qj1 H
      have:(0≤(a:Int))=True:=ab
      have:(a<(a0.size:Int))=True:=ab
      have b:=bt_at a0 a
      go_wp2
      go_ret
      exact⟨es,by repeat (first|exact Drawn0.refl _|apply Drawn0.step)⟩
     ·replace H:=i1 H;obtain⟨o,H⟩|⟨o,H⟩:=H
      ·obtain rfl:=qj1 H
       have:(0≤(a:Int))=True:=ab
       have:(a<(a0.size:Int))=True:=ab
       have b:=bt_at a0 a
       have:(0≤(a:Int))=True:=ab
       have:(a<(a0.size:Int))=True:=ab
       have i:=bt_at a0 a
       go_wp2
       go_ret
       exact⟨es,by repeat (first|exact Drawn0.refl _|apply Drawn0.step)⟩
      ·replace H:=i1 H;obtain⟨p,H⟩|⟨p,H⟩:=H
       ·obtain rfl:=qj1 H
        have:(0≤(a:Int))=True:=ab
        have:(a<(a0.size:Int))=True:=ab
        have b:=bt_at a0 a
        have:(0≤(a:Int))=True:=ab
        have:(a<(a0.size:Int))=True:=ab
        have i:=bt_at a0 a
        have:(0≤(a:Int))=True:=ab
        have:(a<(a0.size:Int))=True:=ab
        have y:=bt_at a0 a
        go_wp2
        go_ret
        exact⟨es,by repeat (first|exact Drawn0.refl _|apply Drawn0.step)⟩
       ·replace H:=am H
        have:(0≤(a:Int))=True:=ab
        have:(a<(a0.size:Int))=True:=ab
        have b:=bt_at a0 a
        have:(0≤(a:Int))=True:=ab
        have:(a<(a0.size:Int))=True:=ab
        have i:=bt_at a0 a
        have:(0≤(a:Int))=True:=ab
        have:(a<(a0.size:Int))=True:=ab
        have y:=bt_at a0 a
        go_wp2
        go_roundg k1
        case measure=>have:=c.out;omega
        case rel=>exact⟨(wrap64 (a+1)),(es),H,⟨by have:=c.out;omega⟩,by repeat (first|exact Drawn0.refl _|apply Drawn0.step)⟩
   ·replace H:=bm H;obtain⟨z,A,H⟩:=H
    obtain rfl:=qj1 H
    go_wp2_with (first|((with_reducible refine gc 72 ?_);refine gl 41 Tryz.func72 (impl_within.calls (a0.size:Int) 1 8 z _ A.out) ?_;rintro e w' ⟨rfl,⟨nd,rfl⟩⟩;refine⟨_,rfl,?_⟩))
    go_ret
    exact⟨es,by repeat (first|exact Drawn0.refl _|apply Drawn0.step)⟩
def impl_TeamOk.f(k:Nat)(a:ByteArray)(b:Int)(c:Int):Option (Bool):=(impl_IsName.f k a).bind fun d=>(if d=true then((impl_within.f b 0 5).bind fun e=>(if e=true then((impl_within.f c 1 8).bind fun g=>(some g))else(some false)))else(some false))
theorem impl_TeamOk.calls(k:Nat)(a:ByteArray)(c:Int)(d:Int)(r:Bool)(w:World)(h:impl_TeamOk.f k a c d=some r):Calls Tryz.prog 88 #[.agg #[.string a,.int .i64 c,.int .i64 d]] w fun e w'=>e=.returned (.bool r)∧Below w.heap.size w w':=by
 have l:=Tryz.underlying83
 have HB:=qb w
 have H:=h
 unfold impl_TeamOk.f at H
 clear h
 replace H:=bm H;obtain⟨m,A2,H⟩:=H
 replace H:=ib H;obtain⟨rfl,H⟩|⟨rfl,H⟩:=H
 ·replace H:=bm H;obtain⟨n,A4,H⟩:=H
  replace H:=ib H;obtain⟨rfl,H⟩|⟨rfl,H⟩:=H
  ·replace H:=bm H;obtain⟨j,A6,H⟩:=H
   obtain rfl:=qj1 H
   go_enter Tryz.func88,Tryz.ntmps88
   go_wp2_with (first|((with_reducible refine gd 1 ?_);refine bx w 1 #[.string a,.int .i64 c,.int .i64 d] 83 ?_;clear HB;intro i w7 b g HB;obtain⟨_,_,_,_,_,_⟩:=cf3 b.out)|((with_reducible refine gc 103 ?_);refine gl 5 Tryz.func103 (impl_IsName.calls k a true _ A2.out) ?_;rintro e w' ⟨rfl,⟨nd,rfl⟩⟩;refine⟨_,rfl,?_⟩)|(go_at_call 72;refine cm1 (impl_within.calls c 0 5 true _ A4.out) ?_;intro nd)|(go_at_call 72;refine cm1 (impl_within.calls d 1 8 j _ A6.out) ?_;intro nd))
   go_ret
   exact⟨er,bel⟩
  ·obtain rfl:=qj1 H
   go_enter Tryz.func88,Tryz.ntmps88
   go_wp2_with (first|((with_reducible refine gd 1 ?_);refine bx w 1 #[.string a,.int .i64 c,.int .i64 d] 83 ?_;clear HB;intro i w9 b g HB;obtain⟨_,_,_,_,_,_⟩:=cf3 b.out)|((with_reducible refine gc 103 ?_);refine gl 5 Tryz.func103 (impl_IsName.calls k a true _ A2.out) ?_;rintro e w' ⟨rfl,⟨nd,rfl⟩⟩;refine⟨_,rfl,?_⟩)|(go_at_call 72;refine cm1 (impl_within.calls c 0 5 false _ A4.out) ?_;intro nd))
   go_ret
   exact⟨er,bel⟩
 ·obtain rfl:=qj1 H
  go_enter Tryz.func88,Tryz.ntmps88
  go_wp2_with (first|((with_reducible refine gd 1 ?_);refine bx w 1 #[.string a,.int .i64 c,.int .i64 d] 83 ?_;clear HB;intro i o b g HB;obtain⟨_,_,_,_,_,_⟩:=cf3 b.out)|((with_reducible refine gc 103 ?_);refine gl 5 Tryz.func103 (impl_IsName.calls k a false _ A2.out) ?_;rintro e w' ⟨rfl,⟨nd,rfl⟩⟩;refine⟨_,rfl,?_⟩))
  go_ret
  exact⟨er,bel⟩
def impl_FieldOk_1.f(a:ByteArray)(e:Int)(b:Int)(c:ByteArray)(g:Int)(d:Int):Option (Bool):=if a.toList=c.toList then(some true)else(some (b==d))
theorem impl_FieldOk_1.calls(c:ByteArray)(j:Int)(k:Int)(m:Nat)(d:ByteArray)(n:Int)(o:Int)(r:Bool)(w:World)(l:w.heap[m]? =some (.cells #[.string d,.int .i64 n,.int .i64 o] 83 (0,0)))(h:impl_FieldOk_1.f c j k d n o=some r):Calls Tryz.prog 90 #[.agg #[.string c,.int .i64 j,.int .i64 k],.pointer (some ⟨m,0,none⟩)] w fun e w'=>e=.returned (.bool r)∧Below w.heap.size w w':=by
 have u:=Tryz.underlying83
 have a:=am l
 clear l
 have HB:=qb w
 have H:=h
 unfold impl_FieldOk_1.f at H
 clear h
 by_cases c3:c.toList=d.toList
 ·rw[if_pos c3]at H
  have s:(c.toList==d.toList)=true:=beq_iff_eq.mpr c3
  have t:(c.toList != d.toList)=false:=bne_eq_false_iff_eq.mpr c3
  clear c3
  obtain rfl:=qj1 H
  go_enter Tryz.func90,Tryz.ntmps90
  go_wp2_with (first|((with_reducible refine gd 2 ?_);refine by_ w 2 #[.string c,.int .i64 j,.int .i64 k] 83 ?_;clear HB;intro q hg w4 g p hb HB;obtain⟨i,b⟩:=qn hg a;replace a:=b1 a hb;clear hb hg;obtain⟨_,_⟩:=qo b;obtain⟨_,_,_,_,_,_⟩:=cf3 g.out;obtain⟨_,_,_,_,_,_⟩:=cf3 a.out))
  go_ret
  exact⟨er,bel⟩
 ·rw[if_neg c3]at H
  have s:(c.toList==d.toList)=false:=beq_eq_false_iff_ne.mpr c3
  have t:(c.toList != d.toList)=true:=bne_iff_ne.mpr c3
  obtain rfl:=qj1 H
  go_enter Tryz.func90,Tryz.ntmps90
  go_wp2_with (first|((with_reducible refine gd 2 ?_);refine by_ w 2 #[.string c,.int .i64 j,.int .i64 k] 83 ?_;clear HB;intro q hg w8 g p hb HB;obtain⟨i,b⟩:=qn hg a;replace a:=b1 a hb;clear hb hg;obtain⟨_,_⟩:=qo b;obtain⟨_,_,_,_,_,_⟩:=cf3 g.out;obtain⟨_,_,_,_,_,_⟩:=cf3 a.out))
  go_ret
  exact⟨er,bel⟩
def slices_IndexFunc_impl_Team_impl_Team_impl_FieldOk_1.l0:Nat→List (S83)→Int→Int→ByteArray→Int→Int→Option (Int)
  |0,_,_,_,_,_,_=>none
  |k+1,x0,x7,x8,a,b,c=>if x8<x7 then(if 0≤x8 then(if x8<(x0.length:Int)then((impl_FieldOk_1.f ((rd_T83 x0 x8).f0) ((rd_T83 x0 x8).f1) ((rd_T83 x0 x8).f2) a b c).bind fun d=>(if d=true then(some x8)else(slices_IndexFunc_impl_Team_impl_Team_impl_FieldOk_1.l0 k x0 x7 (wrap64 (x8+1)) a b c)))else(none))else(none))else(some (-1))
def slices_IndexFunc_impl_Team_impl_Team_impl_FieldOk_1.f(k:Nat)(l0:List (S83))(a:ByteArray)(b:Int)(c:Int):Option (Int):=slices_IndexFunc_impl_Team_impl_Team_impl_FieldOk_1.l0 k l0 (l0.length:Int) 0 a b c
theorem slices_IndexFunc_impl_Team_impl_Team_impl_FieldOk_1.calls(k:Nat)(A0:Option Addr)(c0:Nat)(l0:List (S83))(c:Nat)(d:ByteArray)(g:Int)(i:Int)(r:Int)(w:World)(p:Kd.C k83 w A0 l0.length l0)(s:l0.length≤c0)(j:w.heap[c]? =some (.cells #[.string d,.int .i64 g,.int .i64 i] 83 (0,0)))(h:slices_IndexFunc_impl_Team_impl_Team_impl_FieldOk_1.f k l0 d g i=some r):Calls Tryz.prog 104 #[.slice A0 l0.length c0,.func (.func 90) #[] #[.pointer (some ⟨c,0,none⟩)]] w fun e w'=>e=.returned (.int .i64 r)∧Below w.heap.size w w':=by
 have y:=Tryz.underlying83
 replace p:=am p
 replace s:=am s
 have b:=am j
 clear j
 have HB:=qb w
 have H:=h
 unfold slices_IndexFunc_impl_Team_impl_Team_impl_FieldOk_1.f at H
 clear h
 replace H:=am H
 go_enter Tryz.func104,Tryz.ntmps104
 go_wp2
 go_loopg [8] k (fun kq v8 w'=>∃(a:Int),v8=.int .i64 a∧Aside0 (slices_IndexFunc_impl_Team_impl_Team_impl_FieldOk_1.l0 kq l0 (l0.length:Int) a d g i=some r)∧Aside0 (kq≤k)∧Aside0 (w'.heap[c]? =some (.cells #[.string d,.int .i64 g,.int .i64 i] 83 (0,0)))∧Aside0 (Below w.heap.size w w'))
 case atStart=>exact⟨(0),(es),H,⟨Nat.le_refl _⟩,⟨bk b.out⟩,⟨bel⟩⟩
 case round=>
  clear H
  obtain⟨a,rfl,HA,t,b,HB⟩:=hrel
  cases gk with
  |zero=>exact absurd HA.out (by simp [slices_IndexFunc_impl_Team_impl_Team_impl_FieldOk_1.l0])
  |succ k1=>
   have H:=HA.out
   clear HA
   simp only[slices_IndexFunc_impl_Team_impl_Team_impl_FieldOk_1.l0]at H
   replace H:=i1 H;obtain⟨u,H⟩|⟨u,H⟩:=H
   ·replace H:=i0 H;obtain⟨v,H⟩:=H
    replace H:=i0 H;obtain⟨x,H⟩:=H
    replace H:=bm H;obtain⟨z,A7,H⟩:=H
    replace H:=ib H;obtain⟨rfl,H⟩|⟨rfl,H⟩:=H
    ·obtain rfl:=qj1 H
     have:(0≤(a:Int))=True:=ab
     have:(a<(l0.length:Int))=True:=ab
     obtain⟨q,l,m,n,o⟩:=hc3 HB.out (at_T83 p.out a asm asm)
     cases l
     go_wp2_with (first|(go_at_call 90;refine cm2 (impl_FieldOk_1.calls ((rd_T83 l0 a).f0) ((rd_T83 l0 a).f1) ((rd_T83 l0 a).f2) c d g i true _ (bk b.out) A7.out) ?_;intro w9 hb;replace b:=b1 b hb;replace HB:=b2 hb;clear hb))
     go_ret
     exact⟨er,bel⟩
    ·replace H:=am H
     have:(0≤(a:Int))=True:=ab
     have:(a<(l0.length:Int))=True:=ab
     obtain⟨q,l,m,n,o⟩:=hc3 HB.out (at_T83 p.out a asm asm)
     cases l
     go_wp2_with (first|(go_at_call 90;refine cm2 (impl_FieldOk_1.calls ((rd_T83 l0 a).f0) ((rd_T83 l0 a).f1) ((rd_T83 l0 a).f2) c d g i false _ (bk b.out) A7.out) ?_;intro A hb;replace b:=b1 b hb;replace HB:=b2 hb;clear hb))
     go_roundg k1
     case measure=>have:=t.out;omega
     case rel=>exact⟨(wrap64 (a+1)),(es),H,⟨by have:=t.out;omega⟩,⟨bk b.out⟩,⟨bel⟩⟩
   ·obtain rfl:=qj1 H
    go_wp2
    go_ret
    exact⟨er,bel⟩
def slices_ContainsFunc_impl_Team_impl_Team_impl_FieldOk_1.f(k:Nat)(l0:List (S83))(a:ByteArray)(b:Int)(c:Int):Option (Bool):=(slices_IndexFunc_impl_Team_impl_Team_impl_FieldOk_1.f k l0 a b c).bind fun d=>(some (decide (d≥0)))
theorem slices_ContainsFunc_impl_Team_impl_Team_impl_FieldOk_1.calls(k:Nat)(A0:Option Addr)(c0:Nat)(l0:List (S83))(b:Nat)(d:ByteArray)(g:Int)(i:Int)(r:Bool)(w:World)(l:Kd.C k83 w A0 l0.length l0)(j:l0.length≤c0)(c:w.heap[b]? =some (.cells #[.string d,.int .i64 g,.int .i64 i] 83 (0,0)))(h:slices_ContainsFunc_impl_Team_impl_Team_impl_FieldOk_1.f k l0 d g i=some r):Calls Tryz.prog 89 #[.slice A0 l0.length c0,.func (.func 90) #[] #[.pointer (some ⟨b,0,none⟩)]] w fun e w'=>e=.returned (.bool r)∧Below w.heap.size w w':=by
 replace l:=am l
 replace j:=am j
 have a:=am c
 clear c
 have HB:=qb w
 have H:=h
 unfold slices_ContainsFunc_impl_Team_impl_Team_impl_FieldOk_1.f at H
 clear h
 replace H:=bm H;obtain⟨m,A4,H⟩:=H
 obtain rfl:=qj1 H
 go_enter Tryz.func89,Tryz.ntmps89
 go_wp2_with (first|((with_reducible refine gc 104 ?_);refine gl 7 Tryz.func104 (slices_IndexFunc_impl_Team_impl_Team_impl_FieldOk_1.calls k _ _ l0 b d g i m _ (ck l.out) j.out ((bk a.out)) A4.out) ?_;rintro e w5 ⟨rfl,hb⟩;refine⟨_,rfl,?_⟩;replace a:=b1 a hb;replace HB:=b2 hb;(try clear hb)))
 go_ret
 exact⟨er,bel⟩
def impl_FieldOk.l0:Nat→List (S83)→List (S83)→Int→Int→Option (Bool)
  |0,_,_,_,_=>none
  |k+1,x0,x5,x6,x7=>if x7<x6 then(if 0≤x7 then(if x7<(x5.length:Int)then((impl_TeamOk.f k ((rd_T83 x5 x7).f0) ((rd_T83 x5 x7).f1) ((rd_T83 x5 x7).f2)).bind fun b=>(if b=true then(if x7≤(x0.length:Int)then((slices_ContainsFunc_impl_Team_impl_Team_impl_FieldOk_1.f k (x0.take (x7:Int).toNat) ((rd_T83 x5 x7).f0) ((rd_T83 x5 x7).f1) ((rd_T83 x5 x7).f2)).bind fun c=>(if c=true then(some false)else(impl_FieldOk.l0 k x0 x5 x6 (wrap64 (x7+1)))))else(none))else(some false)))else(none))else(none))else((impl_within.f (x0.length:Int) 2 8).bind fun a=>(some a))
def impl_FieldOk.f(k:Nat)(l0:List (S83)):Option (Bool):=impl_FieldOk.l0 k l0 l0 (l0.length:Int) 0
theorem impl_FieldOk.calls(k:Nat)(A0:Option Addr)(c0:Nat)(l0:List (S83))(r:Bool)(w:World)(t:Kd.C k83 w A0 l0.length l0)(E:l0.length≤c0)(h:impl_FieldOk.f k l0=some r):Calls Tryz.prog 77 #[.slice A0 l0.length c0] w fun e w'=>e=.returned (.bool r)∧Below w.heap.size w w':=by
 have ah:=Tryz.underlying83
 replace t:=am t
 replace E:=am E
 have HB:=qb w
 have H:=h
 unfold impl_FieldOk.f at H
 clear h
 replace H:=am H
 go_enter Tryz.func77,Tryz.ntmps77
 go_wp2
 go_loopg [7] k (fun kq v7 w'=>∃(a:Int),v7=.int .i64 a∧Aside0 (impl_FieldOk.l0 kq l0 l0 (l0.length:Int) a=some r)∧Aside0 (kq≤k)∧Aside0 (Below w.heap.size w w'))
 case atStart=>exact⟨(0),(es),H,⟨Nat.le_refl _⟩,⟨bel⟩⟩
 case round=>
  clear H
  obtain⟨a,rfl,HA,U,HB⟩:=hrel
  cases gk with
  |zero=>exact absurd HA.out (by simp [impl_FieldOk.l0])
  |succ k1=>
   have H:=HA.out
   clear HA
   simp only[impl_FieldOk.l0]at H
   replace H:=i1 H;obtain⟨W,H⟩|⟨W,H⟩:=H
   ·replace H:=i0 H;obtain⟨ad,H⟩:=H
    replace H:=i0 H;obtain⟨ae,H⟩:=H
    replace H:=bm H;obtain⟨ak,A5,H⟩:=H
    replace H:=ib H;obtain⟨rfl,H⟩|⟨rfl,H⟩:=H
    ·have af:=eq_true (asm:0≤a)
     replace H:=i0 H;obtain⟨X,H⟩:=H
     have ag:=eq_true (of_decide_eq_true X)
     generalize hy568:(l0.take (a:Int).toNat:List (S83))=d at H
     have g:=am hy568.symm
     clear hy568
     replace H:=bm H;obtain⟨al,A9,H⟩:=H
     replace H:=ib H;obtain⟨rfl,H⟩|⟨rfl,H⟩:=H
     ·obtain rfl:=qj1 H
      have:(0≤(a:Int))=True:=ab
      have:(a<(l0.length:Int))=True:=ab
      obtain⟨c,j,o,p,q⟩:=hc3 HB.out (at_T83 t.out a asm asm)
      cases j
      go_wp2_with (first|((with_reducible refine gd 4 ?_);refine bx w 4 #[.string (⟨#[]⟩:ByteArray),.int .i64 0,.int .i64 0] 83 ?_;clear HB;intro i an b v HB;obtain⟨_,_,_,_,_,_⟩:=cf3 b.out)|((with_reducible refine gc 88 ?_);refine gl 13 Tryz.func88 (impl_TeamOk.calls k1 ((rd_T83 l0 a).f0) ((rd_T83 l0 a).f1) ((rd_T83 l0 a).f2) true _ A5.out) ?_;rintro e ao ⟨rfl,hb⟩;refine⟨_,rfl,?_⟩;replace b:=bq b hb;replace HB:=b2 hb;(try clear hb);have O:(a:Int)≤((l0.length:Int):Int):=asm;obtain⟨ai,x,_,L,_⟩:=info_parts info83;have l:l0.length≤c0:=E.out;have J:Kd.C k83 _ (some c) l0.length l0:=t.out;have G:=cut_to (P:=Tryz.prog) 31 83 .i64 Tryz.underlying31 x (some c) l0.length c0 a (asm) O l;have z:=Kd.C_take (m:=(a:Int).toNat) J (by omega);have B:d.length=(a:Int).toNat:=(by rw[g.out,List.length_take];omega);rw[←g.out]at z;rw[←B]at G;have u:=am z;have s:=am (show d.length≤c0 from by omega);clear z J l x L;have aa:=am B;clear B;replace O:=eq_true O)|(go_at_call 89;refine cm2 (slices_ContainsFunc_impl_Team_impl_Team_impl_FieldOk_1.calls k1 _ _ d i ((rd_T83 l0 a).f0) ((rd_T83 l0 a).f1) ((rd_T83 l0 a).f2) true _ (cb u HB) s.out (bk b.out) A9.out) ?_;intro ap hb;replace b:=b1 b hb;replace HB:=b2 hb;clear hb))
      go_ret
      exact⟨er,bel⟩
     ·replace H:=am H
      have:(0≤(a:Int))=True:=ab
      have:(a<(l0.length:Int))=True:=ab
      obtain⟨c,j,o,p,q⟩:=hc3 HB.out (at_T83 t.out a asm asm)
      cases j
      go_wp2_with (first|((with_reducible refine gd 4 ?_);refine bx w 4 #[.string (⟨#[]⟩:ByteArray),.int .i64 0,.int .i64 0] 83 ?_;clear HB;intro i aq b v HB;obtain⟨_,_,_,_,_,_⟩:=cf3 b.out)|((with_reducible refine gc 88 ?_);refine gl 13 Tryz.func88 (impl_TeamOk.calls k1 ((rd_T83 l0 a).f0) ((rd_T83 l0 a).f1) ((rd_T83 l0 a).f2) true _ A5.out) ?_;rintro e ar ⟨rfl,hb⟩;refine⟨_,rfl,?_⟩;replace b:=bq b hb;replace HB:=b2 hb;(try clear hb);have T:(a:Int)≤((l0.length:Int):Int):=asm;obtain⟨aj,y,_,M,_⟩:=info_parts info83;have n:l0.length≤c0:=E.out;have K:Kd.C k83 _ (some c) l0.length l0:=t.out;have I:=cut_to (P:=Tryz.prog) 31 83 .i64 Tryz.underlying31 y (some c) l0.length c0 a (asm) T n;have A:=Kd.C_take (m:=(a:Int).toNat) K (by omega);have D:d.length=(a:Int).toNat:=(by rw[g.out,List.length_take];omega);rw[←g.out]at A;rw[←D]at I;have u:=am A;have s:=am (show d.length≤c0 from by omega);clear A K n y M;have ac:=am D;clear D;replace T:=eq_true T)|(go_at_call 89;refine cm2 (slices_ContainsFunc_impl_Team_impl_Team_impl_FieldOk_1.calls k1 _ _ d i ((rd_T83 l0 a).f0) ((rd_T83 l0 a).f1) ((rd_T83 l0 a).f2) false _ (cb u HB) s.out (bk b.out) A9.out) ?_;intro au hb;replace b:=b1 b hb;replace HB:=b2 hb;clear hb))
      go_roundg k1
      case measure=>have:=U.out;omega
      case rel=>exact⟨(wrap64 (a+1)),(es),H,⟨by have:=U.out;omega⟩,⟨bel⟩⟩
    ·obtain rfl:=qj1 H
     have:(0≤(a:Int))=True:=ab
     have:(a<(l0.length:Int))=True:=ab
     obtain⟨c,j,o,p,q⟩:=hc3 HB.out (at_T83 t.out a asm asm)
     cases j
     go_wp2_with (first|((with_reducible refine gd 4 ?_);refine bx w 4 #[.string (⟨#[]⟩:ByteArray),.int .i64 0,.int .i64 0] 83 ?_;clear HB;intro i av b v HB;obtain⟨_,_,_,_,_,_⟩:=cf3 b.out)|((with_reducible refine gc 88 ?_);refine gl 13 Tryz.func88 (impl_TeamOk.calls k1 ((rd_T83 l0 a).f0) ((rd_T83 l0 a).f1) ((rd_T83 l0 a).f2) false _ A5.out) ?_;rintro e aw ⟨rfl,hb⟩;refine⟨_,rfl,?_⟩;replace b:=bq b hb;replace HB:=b2 hb;(try clear hb)))
     go_ret
     exact⟨er,bel⟩
   ·replace H:=bm H;obtain⟨Y,Z,H⟩:=H
    obtain rfl:=qj1 H
    go_wp2_with (first|((with_reducible refine gc 72 ?_);refine gl 25 Tryz.func72 (impl_within.calls (l0.length:Int) 2 8 Y _ Z.out) ?_;rintro e w' ⟨rfl,⟨nd,rfl⟩⟩;refine⟨_,rfl,?_⟩))
    go_ret
    exact⟨er,bel⟩
def impl_isKey.f(a0:Int):Option (Bool):=(impl_within.f a0 1 8).bind fun a=>(some a)
theorem impl_isKey.calls(a0:Int)(r:Bool)(w:World)(h:impl_isKey.f a0=some r):Calls Tryz.prog 91 #[.int .i64 a0] w fun e w'=>e=.returned (.bool r)∧Drawn0 w w':=by
 have H:=h
 unfold impl_isKey.f at H
 clear h
 replace H:=bm H;obtain⟨a,A2,H⟩:=H
 obtain rfl:=qj1 H
 go_enter Tryz.func91,Tryz.ntmps91
 go_wp2_with (first|((with_reducible refine gc 72 ?_);refine gl 4 Tryz.func72 (impl_within.calls a0 1 8 a _ A2.out) ?_;rintro e w' ⟨rfl,⟨nd,rfl⟩⟩;refine⟨_,rfl,?_⟩))
 go_ret
 exact⟨es,by repeat (first|exact Drawn0.refl _|apply Drawn0.step)⟩
def slices_Index_int_int.l0:Nat→List Int→Int→Int→Int→Option (Int)
  |0,_,_,_,_=>none
  |k+1,x0,x1,x7,x8=>if x8<x7 then(if 0≤x8 then(if x8<(x0.length:Int)then(if x1=(rd x0 x8)then(some x8)else(slices_Index_int_int.l0 k x0 x1 x7 (wrap64 (x8+1))))else(none))else(none))else(some (-1))
def slices_Index_int_int.f(k:Nat)(l0:List Int)(a1:Int):Option (Int):=slices_Index_int_int.l0 k l0 a1 (l0.length:Int) 0
theorem slices_Index_int_int.calls(k:Nat)(A0:Option Addr)(c0:Nat)(l0:List Int)(a1:Int)(r:Int)(w:World)(d:Kd.C (Kd.int .i64) w A0 l0.length l0)(i:l0.length≤c0)(h:slices_Index_int_int.f k l0 a1=some r):Calls Tryz.prog 105 #[.slice A0 l0.length c0,.int .i64 a1] w fun e w'=>e=.returned (.int .i64 r)∧Drawn0 w w':=by
 replace d:=am d
 replace i:=am i
 have H:=h
 unfold slices_Index_int_int.f at H
 clear h
 replace H:=am H
 go_enter Tryz.func105,Tryz.ntmps105
 go_wp2
 go_loopg [8] k (fun kq v8 w'=>∃(a:Int),v8=.int .i64 a∧Aside0 (slices_Index_int_int.l0 kq l0 a1 (l0.length:Int) a=some r)∧Aside0 (kq≤k)∧Drawn0 w w')
 case atStart=>exact⟨(0),(es),H,⟨Nat.le_refl _⟩,by repeat (first|exact Drawn0.refl _|apply Drawn0.step)⟩
 case round=>
  clear H
  obtain⟨a,rfl,HA,j,⟨m1,rfl⟩⟩:=hrel
  cases gk with
  |zero=>exact absurd HA.out (by simp [slices_Index_int_int.l0])
  |succ k1=>
   have H:=HA.out
   clear HA
   simp only[slices_Index_int_int.l0]at H
   replace H:=i1 H;obtain⟨l,H⟩|⟨l,H⟩:=H
   ·replace H:=i0 H;obtain⟨o,H⟩:=H
    replace H:=i0 H;obtain⟨p,H⟩:=H
    replace H:=ie H;obtain⟨m,n,H⟩|⟨⟨c6,m,n⟩,H⟩:=H
    ·obtain rfl:=qj1 H
     have:(0≤(a:Int))=True:=ab
     have:(a<(l0.length:Int))=True:=ab
     obtain⟨g,b,c⟩:=Kd.at_int d.out a asm asm
     cases b
     go_wp2
     go_ret
     exact⟨es,by repeat (first|exact Drawn0.refl _|apply Drawn0.step)⟩
    ·replace H:=am H
     have:(0≤(a:Int))=True:=ab
     have:(a<(l0.length:Int))=True:=ab
     obtain⟨g,b,c⟩:=Kd.at_int d.out a asm asm
     cases b
     go_wp2
     go_roundg k1
     case measure=>have:=j.out;omega
     case rel=>exact⟨(wrap64 (a+1)),(es),H,⟨by have:=j.out;omega⟩,by repeat (first|exact Drawn0.refl _|apply Drawn0.step)⟩
   ·obtain rfl:=qj1 H
    go_wp2
    go_ret
    exact⟨es,by repeat (first|exact Drawn0.refl _|apply Drawn0.step)⟩
def slices_Contains_int_int.f(k:Nat)(l0:List Int)(a1:Int):Option (Bool):=(slices_Index_int_int.f k l0 a1).bind fun a=>(some (decide (a≥0)))
theorem slices_Contains_int_int.calls(k:Nat)(A0:Option Addr)(c0:Nat)(l0:List Int)(a1:Int)(r:Bool)(w:World)(b:Kd.C (Kd.int .i64) w A0 l0.length l0)(a:l0.length≤c0)(h:slices_Contains_int_int.f k l0 a1=some r):Calls Tryz.prog 92 #[.slice A0 l0.length c0,.int .i64 a1] w fun e w'=>e=.returned (.bool r)∧Drawn0 w w':=by
 replace b:=am b
 replace a:=am a
 have H:=h
 unfold slices_Contains_int_int.f at H
 clear h
 replace H:=bm H;obtain⟨c,A3,H⟩:=H
 obtain rfl:=qj1 H
 go_enter Tryz.func92,Tryz.ntmps92
 go_wp2_with (first|((with_reducible refine gc 105 ?_);refine gl 7 Tryz.func105 (slices_Index_int_int.calls k _ _ l0 a1 c _ (ck b.out) a.out A3.out) ?_;rintro e w' ⟨rfl,⟨nd,rfl⟩⟩;refine⟨_,rfl,?_⟩))
 go_ret
 exact⟨es,by repeat (first|exact Drawn0.refl _|apply Drawn0.step)⟩
def impl_RulesOk.l0:Nat→List Int→Int→Int→Int→Int→Int→List Int→Bool→Option (Bool)
  |0,_,_,_,_,_,_,_,_=>none
  |k+1,x6,x7,x8,b,c,d,a,e=>if x8<x7 then(if 0≤x8 then(if x8<(x6.length:Int)then((impl_isKey.f (rd x6 x8)).bind fun h=>(if h=true then(if x8≤(a.length:Int)then((slices_Contains_int_int.f k (a.take (x8:Int).toNat) (rd x6 x8)).bind fun i=>(if i=true then(some false)else(impl_RulesOk.l0 k x6 x7 (wrap64 (x8+1)) b c d a e)))else(none))else(some false)))else(none))else(none))else(if 0≤d then(if d≤c then(if c≤b then(if b≤10 then((impl_within.f (a.length:Int) 1 8).bind fun g=>(some g))else(some false))else(some false))else(some false))else(some false))
def impl_RulesOk.f(k:Nat)(b:Int)(c:Int)(d:Int)(a:List Int)(e:Bool):Option (Bool):=impl_RulesOk.l0 k a (a.length:Int) 0 b c d a e
theorem impl_RulesOk.calls(k:Nat)(n:Int)(o:Int)(p:Int)(u:Option Addr)(j:Nat)(b:List Int)(q:Bool)(r:Bool)(w:World)(d:Kd.C (Kd.int .i64) w u b.length b)(l:b.length≤j)(h:impl_RulesOk.f k n o p b q=some r):Calls Tryz.prog 78 #[.agg #[.int .i64 n,.int .i64 o,.int .i64 p,.slice u b.length j,.bool q]] w fun e w'=>e=.returned (.bool r)∧Below w.heap.size w w':=by
 have ar:=Tryz.underlying32
 replace d:=am d
 replace l:=am l
 have HB:=qb w
 have H:=h
 unfold impl_RulesOk.f at H
 clear h
 replace H:=am H
 go_enter Tryz.func78,Tryz.ntmps78
 go_wp2_with (first|((with_reducible refine gd 1 ?_);refine bx w 1 #[.int .i64 n,.int .i64 o,.int .i64 p,.slice u b.length j,.bool q] 32 ?_;clear HB;intro ae w2 c al HB;obtain⟨B,D,E,G,I,J,K,L,M,O⟩:=cf5 c.out))
 go_loopg [8] k (fun kq v8 w'=>∃(a:Int),v8=.int .i64 a∧Aside0 (impl_RulesOk.l0 kq b (b.length:Int) a n o p b q=some r)∧Aside0 (kq≤k)∧Aside0 (w'.heap[ae]? =some (.cells #[.int .i64 n,.int .i64 o,.int .i64 p,(.slice u b.length j),.bool q] 32 (0,0)))∧Aside0 (Below w.heap.size w w'))
 case atStart=>exact⟨(0),(es),H,⟨Nat.le_refl _⟩,⟨bk c.out⟩,⟨bel⟩⟩
 case round=>
  clear H
  try clear B;try clear D;try clear E;try clear G;try clear I;try clear J;try clear K;try clear L;try clear M;try clear O
  obtain⟨a,rfl,HA,af,c,HB⟩:=hrel
  cases gk with
  |zero=>exact absurd HA.out (by simp [impl_RulesOk.l0])
  |succ k1=>
   have H:=HA.out
   clear HA
   simp only[impl_RulesOk.l0]at H
   replace H:=i1 H;obtain⟨ag,H⟩|⟨ag,H⟩:=H
   ·replace H:=i0 H;obtain⟨ao,H⟩:=H
    replace H:=i0 H;obtain⟨ap,H⟩:=H
    replace H:=bm H;obtain⟨aw,A7,H⟩:=H
    replace H:=ib H;obtain⟨rfl,H⟩|⟨rfl,H⟩:=H
    ·have aq:=eq_true (asm:0≤a)
     replace H:=i0 H;obtain⟨Y,H⟩:=H
     have an:=eq_true (of_decide_eq_true Y)
     replace H:=bm H;obtain⟨ax,A,H⟩:=H
     replace H:=ib H;obtain⟨rfl,H⟩|⟨rfl,H⟩:=H
     ·obtain rfl:=qj1 H
      have:(0≤(a:Int))=True:=ab
      have:(a<(b.length:Int))=True:=ab
      obtain⟨m,s,t⟩:=hc1 HB.out (Kd.at_int d.out a asm asm)
      cases s
      go_wp2_with (first|((with_reducible refine gc 91 ?_);refine gl 14 Tryz.func91 (impl_isKey.calls (rd b a) true _ A7.out) ?_;rintro e w' ⟨rfl,⟨nd,rfl⟩⟩;refine⟨_,rfl,?_⟩;obtain⟨_,_,_,_,_,_,_,_,_,_⟩:=cf5 c.out;obtain⟨au,v,_,y,_⟩:=info_parts info3;obtain⟨ai,T,W⟩:=print_take_of (P:=Tryz.prog) (Value.int .i64) 0 23 3 .i64 Tryz.underlying23 v y (some m) j b a (asm) (asm) l.out;have i:=am (Kd.C_of_reads (h1:=fun _=>rfl) (T _ (Kd.reads_of_C d.out)));have g:=am W;clear T W v y)|(go_at_call 92;refine cm1 (slices_Contains_int_int.calls k1 _ _ (b.take (a:Int).toNat) (rd b a) true _ (ck (Kd.C_below i.out bel)) g.out A.out) ?_;intro nd)|(go_at_call 92;rw[show(a:Int).toNat=(b.take (a:Int).toNat).length from(slen b a asm).symm];(with_reducible refine(slices_Contains_int_int.calls k1 _ _ (b.take (a:Int).toNat) (rd b a) true _ ?side1 ?side2 A.out).mono ?_);(case side1=>exact ck (Kd.C_below i.out bel));(case side2=>exact g.out);rintro e w' ⟨rfl,⟨nd,rfl⟩⟩))
      go_ret
      exact⟨er,bel⟩
     ·replace H:=am H
      have:(0≤(a:Int))=True:=ab
      have:(a<(b.length:Int))=True:=ab
      obtain⟨m,s,t⟩:=hc1 HB.out (Kd.at_int d.out a asm asm)
      cases s
      go_wp2_with (first|((with_reducible refine gc 91 ?_);refine gl 14 Tryz.func91 (impl_isKey.calls (rd b a) true _ A7.out) ?_;rintro e w' ⟨rfl,⟨nd,rfl⟩⟩;refine⟨_,rfl,?_⟩;obtain⟨_,_,_,_,_,_,_,_,_,_⟩:=cf5 c.out;obtain⟨av,x,_,z,_⟩:=info_parts info3;obtain⟨aj,U,X⟩:=print_take_of (P:=Tryz.prog) (Value.int .i64) 0 23 3 .i64 Tryz.underlying23 x z (some m) j b a (asm) (asm) l.out;have i:=am (Kd.C_of_reads (h1:=fun _=>rfl) (U _ (Kd.reads_of_C d.out)));have g:=am X;clear U X x z)|(go_at_call 92;refine cm1 (slices_Contains_int_int.calls k1 _ _ (b.take (a:Int).toNat) (rd b a) false _ (ck (Kd.C_below i.out bel)) g.out A.out) ?_;intro nd)|(go_at_call 92;rw[show(a:Int).toNat=(b.take (a:Int).toNat).length from(slen b a asm).symm];(with_reducible refine(slices_Contains_int_int.calls k1 _ _ (b.take (a:Int).toNat) (rd b a) false _ ?side1 ?side2 A.out).mono ?_);(case side1=>exact ck (Kd.C_below i.out bel));(case side2=>exact g.out);rintro e w' ⟨rfl,⟨nd,rfl⟩⟩))
      go_roundg k1
      case measure=>have:=af.out;omega
      case rel=>exact⟨(wrap64 (a+1)),(es),H,⟨by have:=af.out;omega⟩,⟨bk c.out⟩,⟨bel⟩⟩
    ·obtain rfl:=qj1 H
     have:(0≤(a:Int))=True:=ab
     have:(a<(b.length:Int))=True:=ab
     obtain⟨m,s,t⟩:=hc1 HB.out (Kd.at_int d.out a asm asm)
     cases s
     go_wp2_with (first|((with_reducible refine gc 91 ?_);refine gl 14 Tryz.func91 (impl_isKey.calls (rd b a) false _ A7.out) ?_;rintro e w' ⟨rfl,⟨nd,rfl⟩⟩;refine⟨_,rfl,?_⟩))
     go_ret
     exact⟨er,bel⟩
   ·replace H:=i1 H;obtain⟨Z,H⟩|⟨Z,H⟩:=H
    ·replace H:=i1 H;obtain⟨aa,H⟩|⟨aa,H⟩:=H
     ·replace H:=i1 H;obtain⟨ac,H⟩|⟨ac,H⟩:=H
      ·replace H:=i1 H;obtain⟨ad,H⟩|⟨ad,H⟩:=H
       ·replace H:=bm H;obtain⟨ah,ak,H⟩:=H
        obtain rfl:=qj1 H
        obtain⟨_,_,_,_,_,_,_,_,_,_⟩:=cf5 c.out
        go_wp2_with (first|(go_at_call 72;refine cm1 (impl_within.calls (b.length:Int) 1 8 ah _ ak.out) ?_;intro nd))
        go_ret
        exact⟨er,bel⟩
       ·obtain rfl:=qj1 H
        obtain⟨_,_,_,_,_,_,_,_,_,_⟩:=cf5 c.out
        go_wp2
        go_ret
        exact⟨er,bel⟩
      ·obtain rfl:=qj1 H
       obtain⟨_,_,_,_,_,_,_,_,_,_⟩:=cf5 c.out
       go_wp2
       go_ret
       exact⟨er,bel⟩
     ·obtain rfl:=qj1 H
      obtain⟨_,_,_,_,_,_,_,_,_,_⟩:=cf5 c.out
      go_wp2
      go_ret
      exact⟨er,bel⟩
    ·obtain rfl:=qj1 H
     obtain⟨_,_,_,_,_,_,_,_,_,_⟩:=cf5 c.out
     go_wp2
     go_ret
     exact⟨er,bel⟩
def impl_GameOk.j0:Nat→Int→Int→Int→Int→Int→Int→Int→Option (Bool)
  |0,_,_,_,_,_,_,_=>none
  |k+1,x0,x5,a,b,c,d,e=>(impl_within.f x0 2 8).bind fun g=>(if g=true then(if a=b then(some false)else((impl_within.f a 0 (wrap64 (x0-1))).bind fun h=>(if h=true then((impl_within.f b 0 (wrap64 (x0-1))).bind fun i=>(if i=true then((impl_within.f e 0 4).bind fun j=>(if j=true then((impl_within.f c 0 x5).bind fun l=>(if l=true then((impl_within.f d 0 x5).bind fun m=>(some m))else(some false)))else(some false)))else(some false)))else(some false))))else(some false))
def impl_GameOk.f(k:Nat)(a0:Int)(b:Int)(c:Int)(d:Int)(e:Int)(a:Int):Option (Bool):=if a=1 then(impl_GameOk.j0 k a0 99 b c d e a)else(impl_GameOk.j0 k a0 0 b c d e a)
theorem impl_GameOk.calls(k:Nat)(a0:Int)(b:Int)(c:Int)(g:Int)(i:Int)(d:Int)(r:Bool)(w:World)(h:impl_GameOk.f k a0 b c g i d=some r):Calls Tryz.prog 93 #[.int .i64 a0,.agg #[.int .i64 b,.int .i64 c,.int .i64 g,.int .i64 i,.int .i64 d]] w fun e w'=>e=.returned (.bool r)∧Below w.heap.size w w':=by
 have O:=Tryz.underlying79
 have HB:=qb w
 have H:=h
 unfold impl_GameOk.f at H
 clear h
 have B:=am H
 clear H
 go_enter Tryz.func93,Tryz.ntmps93
 go_upto_if 8 with (first|((with_reducible refine gd 3 ?_);refine bx w 3 #[.int .i64 b,.int .i64 c,.int .i64 g,.int .i64 i,.int .i64 d] 79 ?_;clear HB;intro D w4 a M HB;obtain⟨o,p,q,s,t,u,v,x,y,z⟩:=cf5 a.out))
 (try simp only[Act.put,List.setIfInBounds_toArray,List.set_cons_zero,List.set_cons_succ])
 go_cut [5] (fun v5 wc=>∃(kq:Nat) (j:Int),v5=.int .i64 j∧Aside0 (impl_GameOk.j0 kq a0 j b c g i d=some r)∧Aside0 (kq≤k)∧Aside0 (wc.heap[D]? =some (.cells #[.int .i64 b,.int .i64 c,.int .i64 g,.int .i64 i,.int .i64 d] 79 (0,0)))∧Aside0 (Below w.heap.size w wc))
 case first=>
  have H:=B.out
  clear B
  replace H:=ie H;obtain⟨l,G,H⟩|⟨⟨c6,l,G⟩,H⟩:=H
  ·(first|rw[l]|(simp only[i64_w,i32_w];rw[l])|skip)
   replace H:=am H
   go_wp2
   go_meet
   case rel=>exact⟨_,(99),(es),H,⟨by first|omega|exact Nat.le_refl _⟩,⟨bk a.out⟩,⟨bel⟩⟩
  ·(first|rw[l]|(simp only[i64_w,i32_w];rw[l])|skip)
   replace H:=am H
   go_wp2
   go_meet
   case rel=>exact⟨_,(0),(es),H,⟨by first|omega|exact Nat.le_refl _⟩,⟨bk a.out⟩,⟨bel⟩⟩
 case rest=>
  clear B
  try clear o;try clear p;try clear q;try clear s;try clear t;try clear u;try clear v;try clear x;try clear y;try clear z
  obtain⟨kq,j,rfl,HA,Y,a,HB⟩:=hcut
  cases kq with
  |zero=>exact absurd HA.out (by simp [impl_GameOk.j0])
  |succ Z=>
   have H:=HA.out
   clear HA
   simp only[impl_GameOk.j0]at H
   replace H:=bm H;obtain⟨P,A7,H⟩:=H
   replace H:=ib H;obtain⟨rfl,H⟩|⟨rfl,H⟩:=H
   ·replace H:=ie H;obtain⟨I,J,H⟩|⟨⟨c9,I,J⟩,H⟩:=H
    ·obtain rfl:=qj1 H
     go_wp2_with (first|((with_reducible refine gc 72 ?_);refine gl 10 Tryz.func72 (impl_within.calls a0 2 8 true _ A7.out) ?_;rintro e w' ⟨rfl,⟨nd,rfl⟩⟩;refine⟨_,rfl,?_⟩;obtain⟨_,_,_,_,_,_,_,_,_,_⟩:=cf5 a.out))
     go_ret
     exact⟨er,bel⟩
    ·replace H:=bm H;obtain⟨T,m,H⟩:=H
     replace H:=ib H;obtain⟨rfl,H⟩|⟨rfl,H⟩:=H
     ·replace H:=bm H;obtain⟨U,n,H⟩:=H
      replace H:=ib H;obtain⟨rfl,H⟩|⟨rfl,H⟩:=H
      ·replace H:=bm H;obtain⟨W,A,H⟩:=H
       replace H:=ib H;obtain⟨rfl,H⟩|⟨rfl,H⟩:=H
       ·replace H:=bm H;obtain⟨X,E,H⟩:=H
        replace H:=ib H;obtain⟨rfl,H⟩|⟨rfl,H⟩:=H
        ·replace H:=bm H;obtain⟨K,L,H⟩:=H
         obtain rfl:=qj1 H
         go_wp2_with (first|((with_reducible refine gc 72 ?_);refine gl 10 Tryz.func72 (impl_within.calls a0 2 8 true _ A7.out) ?_;rintro e w' ⟨rfl,⟨nd,rfl⟩⟩;refine⟨_,rfl,?_⟩;obtain⟨_,_,_,_,_,_,_,_,_,_⟩:=cf5 a.out)|(go_at_call 72;refine cm1 (impl_within.calls b 0 (wrap64 (a0-1)) true _ m.out) ?_;intro nd)|(go_at_call 72;refine cm1 (impl_within.calls c 0 (wrap64 (a0-1)) true _ n.out) ?_;intro nd)|(go_at_call 72;refine cm1 (impl_within.calls d 0 4 true _ A.out) ?_;intro nd)|(go_at_call 72;refine cm1 (impl_within.calls g 0 j true _ E.out) ?_;intro nd)|(go_at_call 72;refine cm1 (impl_within.calls i 0 j K _ L.out) ?_;intro nd))
         go_ret
         exact⟨er,bel⟩
        ·obtain rfl:=qj1 H
         go_wp2_with (first|((with_reducible refine gc 72 ?_);refine gl 10 Tryz.func72 (impl_within.calls a0 2 8 true _ A7.out) ?_;rintro e w' ⟨rfl,⟨nd,rfl⟩⟩;refine⟨_,rfl,?_⟩;obtain⟨_,_,_,_,_,_,_,_,_,_⟩:=cf5 a.out)|(go_at_call 72;refine cm1 (impl_within.calls b 0 (wrap64 (a0-1)) true _ m.out) ?_;intro nd)|(go_at_call 72;refine cm1 (impl_within.calls c 0 (wrap64 (a0-1)) true _ n.out) ?_;intro nd)|(go_at_call 72;refine cm1 (impl_within.calls d 0 4 true _ A.out) ?_;intro nd)|(go_at_call 72;refine cm1 (impl_within.calls g 0 j false _ E.out) ?_;intro nd))
         go_ret
         exact⟨er,bel⟩
       ·obtain rfl:=qj1 H
        go_wp2_with (first|((with_reducible refine gc 72 ?_);refine gl 10 Tryz.func72 (impl_within.calls a0 2 8 true _ A7.out) ?_;rintro e w' ⟨rfl,⟨nd,rfl⟩⟩;refine⟨_,rfl,?_⟩;obtain⟨_,_,_,_,_,_,_,_,_,_⟩:=cf5 a.out)|(go_at_call 72;refine cm1 (impl_within.calls b 0 (wrap64 (a0-1)) true _ m.out) ?_;intro nd)|(go_at_call 72;refine cm1 (impl_within.calls c 0 (wrap64 (a0-1)) true _ n.out) ?_;intro nd)|(go_at_call 72;refine cm1 (impl_within.calls d 0 4 false _ A.out) ?_;intro nd))
        go_ret
        exact⟨er,bel⟩
      ·obtain rfl:=qj1 H
       go_wp2_with (first|((with_reducible refine gc 72 ?_);refine gl 10 Tryz.func72 (impl_within.calls a0 2 8 true _ A7.out) ?_;rintro e w' ⟨rfl,⟨nd,rfl⟩⟩;refine⟨_,rfl,?_⟩;obtain⟨_,_,_,_,_,_,_,_,_,_⟩:=cf5 a.out)|(go_at_call 72;refine cm1 (impl_within.calls b 0 (wrap64 (a0-1)) true _ m.out) ?_;intro nd)|(go_at_call 72;refine cm1 (impl_within.calls c 0 (wrap64 (a0-1)) false _ n.out) ?_;intro nd))
       go_ret
       exact⟨er,bel⟩
     ·obtain rfl:=qj1 H
      go_wp2_with (first|((with_reducible refine gc 72 ?_);refine gl 10 Tryz.func72 (impl_within.calls a0 2 8 true _ A7.out) ?_;rintro e w' ⟨rfl,⟨nd,rfl⟩⟩;refine⟨_,rfl,?_⟩;obtain⟨_,_,_,_,_,_,_,_,_,_⟩:=cf5 a.out)|(go_at_call 72;refine cm1 (impl_within.calls b 0 (wrap64 (a0-1)) false _ m.out) ?_;intro nd))
      go_ret
      exact⟨er,bel⟩
   ·obtain rfl:=qj1 H
    go_wp2_with (first|((with_reducible refine gc 72 ?_);refine gl 10 Tryz.func72 (impl_within.calls a0 2 8 false _ A7.out) ?_;rintro e w' ⟨rfl,⟨nd,rfl⟩⟩;refine⟨_,rfl,?_⟩))
    go_ret
    exact⟨er,bel⟩
def impl_GameOf_1.f(a:Int)(b:Int)(e:Int)(g:Int)(h:Int)(c:Int)(d:Int):Option (Bool):=if a=c then(some (b==d))else(some false)
theorem impl_GameOf_1.calls(k:Int)(l:Int)(m:Int)(n:Int)(o:Int)(s:Nat)(u:Int)(t:Nat)(v:Int)(r:Bool)(w:World)(p:w.heap[s]? =some (.cells #[.int .i64 u] 3 (0,0)))(q:w.heap[t]? =some (.cells #[.int .i64 v] 3 (0,0)))(h:impl_GameOf_1.f k l m n o u v=some r):Calls Tryz.prog 107 #[.agg #[.int .i64 k,.int .i64 l,.int .i64 m,.int .i64 n,.int .i64 o],.pointer (some ⟨s,0,none⟩),.pointer (some ⟨t,0,none⟩)] w fun e w'=>e=.returned (.bool r)∧Below w.heap.size w w':=by
 have B:=Tryz.underlying79
 have a:=am p
 clear p
 have b:=am q
 clear q
 have HB:=qb w
 have H:=h
 unfold impl_GameOf_1.f at H
 clear h
 replace H:=ie H;obtain⟨z,A,H⟩|⟨⟨c4,z,A⟩,H⟩:=H
 ·obtain rfl:=qj1 H
  go_enter Tryz.func107,Tryz.ntmps107
  go_wp2_with (first|((with_reducible refine gd 3 ?_);refine by_ w 3 #[.int .i64 k,.int .i64 l,.int .i64 m,.int .i64 n,.int .i64 o] 79 ?_;clear HB;intro y hg w5 g x hb HB;obtain⟨i,c⟩:=qn hg a;obtain⟨j,d⟩:=qn hg b;replace a:=b1 a hb;replace b:=b1 b hb;clear hb hg;obtain⟨_,_⟩:=qo c;obtain⟨_,_⟩:=qo d;obtain⟨_,_,_,_,_,_,_,_,_,_⟩:=cf5 g.out;obtain⟨_,_⟩:=cf1 a.out;obtain⟨_,_⟩:=cf1 b.out))
  go_ret
  exact⟨er,bel⟩
 ·obtain rfl:=qj1 H
  go_enter Tryz.func107,Tryz.ntmps107
  go_wp2_with (first|((with_reducible refine gd 3 ?_);refine by_ w 3 #[.int .i64 k,.int .i64 l,.int .i64 m,.int .i64 n,.int .i64 o] 79 ?_;clear HB;intro y hg D g x hb HB;obtain⟨i,c⟩:=qn hg a;obtain⟨j,d⟩:=qn hg b;replace a:=b1 a hb;replace b:=b1 b hb;clear hb hg;obtain⟨_,_⟩:=qo c;obtain⟨_,_⟩:=qo d;obtain⟨_,_,_,_,_,_,_,_,_,_⟩:=cf5 g.out;obtain⟨_,_⟩:=cf1 a.out))
  go_ret
  exact⟨er,bel⟩
def slices_IndexFunc_impl_Game_impl_Game_impl_GameOf_1.l0:Nat→List (S79)→Int→Int→Int→Int→Option (Int)
  |0,_,_,_,_,_=>none
  |k+1,x0,x7,x8,a,b=>if x8<x7 then(if 0≤x8 then(if x8<(x0.length:Int)then((impl_GameOf_1.f ((rd_T79 x0 x8).f0) ((rd_T79 x0 x8).f1) ((rd_T79 x0 x8).f2) ((rd_T79 x0 x8).f3) ((rd_T79 x0 x8).f4) a b).bind fun c=>(if c=true then(some x8)else(slices_IndexFunc_impl_Game_impl_Game_impl_GameOf_1.l0 k x0 x7 (wrap64 (x8+1)) a b)))else(none))else(none))else(some (-1))
def slices_IndexFunc_impl_Game_impl_Game_impl_GameOf_1.f(k:Nat)(l0:List (S79))(a:Int)(b:Int):Option (Int):=slices_IndexFunc_impl_Game_impl_Game_impl_GameOf_1.l0 k l0 (l0.length:Int) 0 a b
theorem slices_IndexFunc_impl_Game_impl_Game_impl_GameOf_1.calls(k:Nat)(A0:Option Addr)(c0:Nat)(l0:List (S79))(d:Nat)(i:Int)(g:Nat)(j:Int)(r:Int)(w:World)(u:Kd.C k79 w A0 l0.length l0)(x:l0.length≤c0)(l:w.heap[d]? =some (.cells #[.int .i64 i] 3 (0,0)))(m:w.heap[g]? =some (.cells #[.int .i64 j] 3 (0,0)))(h:slices_IndexFunc_impl_Game_impl_Game_impl_GameOf_1.f k l0 i j=some r):Calls Tryz.prog 106 #[.slice A0 l0.length c0,.func (.func 107) #[] #[.pointer (some ⟨d,0,none⟩),.pointer (some ⟨g,0,none⟩)]] w fun e w'=>e=.returned (.int .i64 r)∧Below w.heap.size w w':=by
 have D:=Tryz.underlying79
 replace u:=am u
 replace x:=am x
 have b:=am l
 clear l
 have c:=am m
 clear m
 have HB:=qb w
 have H:=h
 unfold slices_IndexFunc_impl_Game_impl_Game_impl_GameOf_1.f at H
 clear h
 replace H:=am H
 go_enter Tryz.func106,Tryz.ntmps106
 go_wp2
 go_loopg [8] k (fun kq v8 w'=>∃(a:Int),v8=.int .i64 a∧Aside0 (slices_IndexFunc_impl_Game_impl_Game_impl_GameOf_1.l0 kq l0 (l0.length:Int) a i j=some r)∧Aside0 (kq≤k)∧Aside0 (w'.heap[d]? =some (.cells #[.int .i64 i] 3 (0,0)))∧Aside0 (w'.heap[g]? =some (.cells #[.int .i64 j] 3 (0,0)))∧Aside0 (Below w.heap.size w w'))
 case atStart=>exact⟨(0),(es),H,⟨Nat.le_refl _⟩,⟨bk b.out⟩,⟨bk c.out⟩,⟨bel⟩⟩
 case round=>
  clear H
  obtain⟨a,rfl,HA,y,b,c,HB⟩:=hrel
  cases gk with
  |zero=>exact absurd HA.out (by simp [slices_IndexFunc_impl_Game_impl_Game_impl_GameOf_1.l0])
  |succ k1=>
   have H:=HA.out
   clear HA
   simp only[slices_IndexFunc_impl_Game_impl_Game_impl_GameOf_1.l0]at H
   replace H:=i1 H;obtain⟨z,H⟩|⟨z,H⟩:=H
   ·replace H:=i0 H;obtain⟨A,H⟩:=H
    replace H:=i0 H;obtain⟨B,H⟩:=H
    replace H:=bm H;obtain⟨E,A8,H⟩:=H
    replace H:=ib H;obtain⟨rfl,H⟩|⟨rfl,H⟩:=H
    ·obtain rfl:=qj1 H
     have:(0≤(a:Int))=True:=ab
     have:(a<(l0.length:Int))=True:=ab
     obtain⟨v,n,o,p,q,s,t⟩:=hc5 HB.out (at_T79 u.out a asm asm)
     cases n
     go_wp2_with (first|(go_at_call 107;refine cm2 (impl_GameOf_1.calls ((rd_T79 l0 a).f0) ((rd_T79 l0 a).f1) ((rd_T79 l0 a).f2) ((rd_T79 l0 a).f3) ((rd_T79 l0 a).f4) d i g j true _ (bk b.out) (bk c.out) A8.out) ?_;intro G hb;replace b:=b1 b hb;replace c:=b1 c hb;replace HB:=b2 hb;clear hb))
     go_ret
     exact⟨er,bel⟩
    ·replace H:=am H
     have:(0≤(a:Int))=True:=ab
     have:(a<(l0.length:Int))=True:=ab
     obtain⟨v,n,o,p,q,s,t⟩:=hc5 HB.out (at_T79 u.out a asm asm)
     cases n
     go_wp2_with (first|(go_at_call 107;refine cm2 (impl_GameOf_1.calls ((rd_T79 l0 a).f0) ((rd_T79 l0 a).f1) ((rd_T79 l0 a).f2) ((rd_T79 l0 a).f3) ((rd_T79 l0 a).f4) d i g j false _ (bk b.out) (bk c.out) A8.out) ?_;intro I hb;replace b:=b1 b hb;replace c:=b1 c hb;replace HB:=b2 hb;clear hb))
     go_roundg k1
     case measure=>have:=y.out;omega
     case rel=>exact⟨(wrap64 (a+1)),(es),H,⟨by have:=y.out;omega⟩,⟨bk b.out⟩,⟨bk c.out⟩,⟨bel⟩⟩
   ·obtain rfl:=qj1 H
    go_wp2
    go_ret
    exact⟨er,bel⟩
def impl_GameOf.f(k:Nat)(l0:List (S79))(a1:Int)(a2:Int):Option (Int):=(slices_IndexFunc_impl_Game_impl_Game_impl_GameOf_1.f k l0 a1 a2).bind fun a=>(some a)
theorem impl_GameOf.calls(k:Nat)(A0:Option Addr)(c0:Nat)(l0:List (S79))(a1:Int)(a2:Int)(r:Int)(w:World)(d:Kd.C k79 w A0 l0.length l0)(c:l0.length≤c0)(h:impl_GameOf.f k l0 a1 a2=some r):Calls Tryz.prog 94 #[.slice A0 l0.length c0,.int .i64 a1,.int .i64 a2] w fun e w'=>e=.returned (.int .i64 r)∧Below w.heap.size w w':=by
 replace d:=am d
 replace c:=am c
 have HB:=qb w
 have H:=h
 unfold impl_GameOf.f at H
 clear h
 replace H:=bm H;obtain⟨m,A4,H⟩:=H
 obtain rfl:=qj1 H
 go_enter Tryz.func94,Tryz.ntmps94
 go_wp2_with (first|((with_reducible refine gd 4 ?_);refine bx w 4 #[.int .i64 a1] 3 ?_;clear HB;intro j w5 a n HB)|((with_reducible refine gd 5 ?_);refine by_ w 5 #[.int .i64 a2] 3 ?_;clear HB;intro l hg w6 b o hb HB;obtain⟨g,i⟩:=qn hg a;replace a:=b1 a hb;clear hb hg)|((with_reducible refine gc 106 ?_);refine gl 9 Tryz.func106 (slices_IndexFunc_impl_Game_impl_Game_impl_GameOf_1.calls k _ _ l0 j a1 l a2 m _ (cb d HB) c.out ((bk a.out)) ((bk b.out)) A4.out) ?_;rintro e w7 ⟨rfl,hb⟩;refine⟨_,rfl,?_⟩;replace a:=b1 a hb;replace b:=b1 b hb;replace HB:=b2 hb;(try clear hb)))
 go_ret
 exact⟨er,bel⟩
end Go.Proofs.YtgalpgakdcfilaaGreat.L
