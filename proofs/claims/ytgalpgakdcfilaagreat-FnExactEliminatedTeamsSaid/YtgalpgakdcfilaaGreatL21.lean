-- Written by a program of this session (wip/xp.py).
import Derived.Test.YtgalpgakdcfilaaGreatL0
import Derived.Test.YtgalpgakdcfilaaGreatL11
import Derived.Test.YtgalpgakdcfilaaGreatL12
namespace Go.Proofs.YtgalpgakdcfilaaGreat.L
open Go.RowKit Go.Proofs.YtgalpgakdcfilaaGreatW.PrintWords Go.Proofs.YtgalpgakdcfilaaGreatW.PrintLast Go.Proofs.YtgalpgakdcfilaaGreatW.PrintMore
attribute [local go_sem] max2_int min2_int max_two min_two max_three min_three max_four min_four
set_option linter.unusedVariables false
set_option linter.unusedSimpArgs false
set_option maxHeartbeats 8000000
set_option maxRecDepth 100000
def spec_IsSimple.f(k:Nat)(a:Int)(b:Int)(c:Int)(e:List Int)(d:Bool):Option (Bool):=(spec_RulesOk.f k a b c e d).bind fun g=>(if g=true then(if a=2 then(if b=1 then(some (c==0))else(some false))else(some false))else(some false))
theorem spec_IsSimple.calls(k:Nat)(c:Int)(d:Int)(g:Int)(m:Option Addr)(n:Nat)(b:List Int)(i:Bool)(r:Bool)(w:World)(l:Kd.C (Kd.int .i64) w m b.length b)(j:b.length≤n)(h:spec_IsSimple.f k c d g b i=some r):Calls Tryz.prog 52 #[.agg #[.int .i64 c,.int .i64 d,.int .i64 g,.slice m b.length n,.bool i]] w fun e w'=>e=.returned (.bool r)∧Below w.heap.size w w':=by
 have v:=Tryz.underlying32
 replace l:=am l
 replace j:=am j
 have HB:=qb w
 have H:=h
 unfold spec_IsSimple.f at H
 clear h
 replace H:=bm H;obtain⟨x,A2,H⟩:=H
 replace H:=ib H;obtain⟨rfl,H⟩|⟨rfl,H⟩:=H
 ·replace H:=ie H;obtain⟨q,s,H⟩|⟨⟨c4,q,s⟩,H⟩:=H
  ·replace H:=ie H;obtain⟨t,u,H⟩|⟨⟨c5,t,u⟩,H⟩:=H
   ·obtain rfl:=qj1 H
    go_enter Tryz.func52,Tryz.ntmps52
    go_wp2_with (first|((with_reducible refine gd 1 ?_);refine bx w 1 #[.int .i64 c,.int .i64 d,.int .i64 g,.slice m b.length n,.bool i] 32 ?_;clear HB;intro p w6 a o HB;obtain⟨_,_,_,_,_,_,_,_,_,_⟩:=cf5 a.out)|((with_reducible refine gc 74 ?_);refine gl 4 Tryz.func74 (spec_RulesOk.calls k c d g _ _ b i true _ (cb l HB) j.out A2.out) ?_;rintro e w8 ⟨rfl,hb⟩;refine⟨_,rfl,?_⟩;replace a:=b1 a hb;replace HB:=b2 hb;(try clear hb);obtain⟨_,_,_,_,_,_,_,_,_,_⟩:=cf5 a.out))
    go_ret
    exact⟨er,bel⟩
   ·obtain rfl:=qj1 H
    go_enter Tryz.func52,Tryz.ntmps52
    go_wp2_with (first|((with_reducible refine gd 1 ?_);refine bx w 1 #[.int .i64 c,.int .i64 d,.int .i64 g,.slice m b.length n,.bool i] 32 ?_;clear HB;intro p y a o HB;obtain⟨_,_,_,_,_,_,_,_,_,_⟩:=cf5 a.out)|((with_reducible refine gc 74 ?_);refine gl 4 Tryz.func74 (spec_RulesOk.calls k c d g _ _ b i true _ (cb l HB) j.out A2.out) ?_;rintro e z ⟨rfl,hb⟩;refine⟨_,rfl,?_⟩;replace a:=b1 a hb;replace HB:=b2 hb;(try clear hb);obtain⟨_,_,_,_,_,_,_,_,_,_⟩:=cf5 a.out))
    go_ret
    exact⟨er,bel⟩
  ·obtain rfl:=qj1 H
   go_enter Tryz.func52,Tryz.ntmps52
   go_wp2_with (first|((with_reducible refine gd 1 ?_);refine bx w 1 #[.int .i64 c,.int .i64 d,.int .i64 g,.slice m b.length n,.bool i] 32 ?_;clear HB;intro p A a o HB;obtain⟨_,_,_,_,_,_,_,_,_,_⟩:=cf5 a.out)|((with_reducible refine gc 74 ?_);refine gl 4 Tryz.func74 (spec_RulesOk.calls k c d g _ _ b i true _ (cb l HB) j.out A2.out) ?_;rintro e B ⟨rfl,hb⟩;refine⟨_,rfl,?_⟩;replace a:=b1 a hb;replace HB:=b2 hb;(try clear hb);obtain⟨_,_,_,_,_,_,_,_,_,_⟩:=cf5 a.out))
   go_ret
   exact⟨er,bel⟩
 ·obtain rfl:=qj1 H
  go_enter Tryz.func52,Tryz.ntmps52
  go_wp2_with (first|((with_reducible refine gd 1 ?_);refine bx w 1 #[.int .i64 c,.int .i64 d,.int .i64 g,.slice m b.length n,.bool i] 32 ?_;clear HB;intro p D a o HB;obtain⟨_,_,_,_,_,_,_,_,_,_⟩:=cf5 a.out)|((with_reducible refine gc 74 ?_);refine gl 4 Tryz.func74 (spec_RulesOk.calls k c d g _ _ b i false _ (cb l HB) j.out A2.out) ?_;rintro e E ⟨rfl,hb⟩;refine⟨_,rfl,?_⟩;replace a:=b1 a hb;replace HB:=b2 hb;(try clear hb)))
  go_ret
  exact⟨er,bel⟩
def spec_l18Ok.f(k:Nat)(e:List (S83))(a:Int)(b:Int)(c:Int)(g:List Int)(d:Bool)(h:List (S79))(i:List Int)(j:List Int)(a1:Int):Option (Bool):=(spec_BookOk.f k e a b c g d h i j).bind fun l=>(if l=true then((spec_IsSimple.f k a b c g d).bind fun m=>(if m=true then((spec_l01In.f a1 0 (wrap64 ((e.length:Int)-1))).bind fun n=>(some n))else(some false)))else(some false))
theorem spec_l18Ok.calls(k:Nat)(A:Option Addr)(I:Nat)(c:List (S83))(j:Int)(l:Int)(m:Int)(B:Option Addr)(J:Nat)(b:List Int)(n:Bool)(D:Option Addr)(K:Nat)(d:List (S79))(E:Option Addr)(L:Nat)(g:List Int)(G:Option Addr)(M:Nat)(i:List Int)(a1:Int)(r:Bool)(w:World)(v:Kd.C k83 w A c.length c)(q:c.length≤I)(p:Kd.C (Kd.int .i64) w B b.length b)(o:b.length≤J)(x:Kd.C k79 w D d.length d)(s:d.length≤K)(y:Kd.C (Kd.int .i64) w E g.length g)(t:g.length≤L)(z:Kd.C (Kd.int .i64) w G i.length i)(u:i.length≤M)(h:spec_l18Ok.f k c j l m b n d g i a1=some r):Calls Tryz.prog 33 #[.agg #[.slice A c.length I,.int .i64 j,.int .i64 l,.int .i64 m,.slice B b.length J,.bool n,.slice D d.length K,.slice E g.length L,.slice G i.length M],.int .i64 a1] w fun e w'=>e=.returned (.bool r)∧Below w.heap.size w w':=by
 have W:=Tryz.underlying35
 have U:=Tryz.underlying32
 replace v:=am v
 replace q:=am q
 replace p:=am p
 replace o:=am o
 replace x:=am x
 replace s:=am s
 replace y:=am y
 replace t:=am t
 replace z:=am z
 replace u:=am u
 have HB:=qb w
 have H:=h
 unfold spec_l18Ok.f at H
 clear h
 replace H:=bm H;obtain⟨X,A3,H⟩:=H
 replace H:=ib H;obtain⟨rfl,H⟩|⟨rfl,H⟩:=H
 ·replace H:=bm H;obtain⟨Y,A5,H⟩:=H
  replace H:=ib H;obtain⟨rfl,H⟩|⟨rfl,H⟩:=H
  ·replace H:=bm H;obtain⟨T,A7,H⟩:=H
   obtain rfl:=qj1 H
   go_enter Tryz.func33,Tryz.ntmps33
   go_wp2_with (first|((with_reducible refine gd 2 ?_);refine bx w 2 #[.slice A c.length I,.int .i64 j,.int .i64 l,.int .i64 m,.slice B b.length J,.bool n,.slice D d.length K,.slice E g.length L,.slice G i.length M] 35 ?_;clear HB;intro P w8 a O HB;obtain⟨_,_,_,_,_,_,_,_,_,_,_,_,_,_,_,_,_,_⟩:=cf9 a.out)|((with_reducible refine gc 51 ?_);refine gl 6 Tryz.func51 (spec_BookOk.calls k _ _ c j l m _ _ b n _ _ d _ _ g _ _ i true _ (cb v HB) q.out (cb p HB) o.out (cb x HB) s.out (cb y HB) t.out (cb z HB) u.out A3.out) ?_;rintro e Z ⟨rfl,hb⟩;refine⟨_,rfl,?_⟩;replace a:=b1 a hb;replace HB:=b2 hb;(try clear hb);obtain⟨_,_,_,_,_,_,_,_,_,_,_,_,_,_,_,_,_,_⟩:=cf9 a.out)|(go_at_call 52;refine cm2 (spec_IsSimple.calls k j l m _ _ b n true _ (cb p HB) o.out A5.out) ?_;intro aa hb;replace a:=b1 a hb;replace HB:=b2 hb;clear hb;obtain⟨_,_,_,_,_,_,_,_,_,_,_,_,_,_,_,_,_,_⟩:=cf9 a.out)|(go_at_call 53;refine cm1 (spec_l01In.calls a1 0 (wrap64 ((c.length:Int)-1)) T _ A7.out) ?_;intro nd))
   go_ret
   exact⟨er,bel⟩
  ·obtain rfl:=qj1 H
   go_enter Tryz.func33,Tryz.ntmps33
   go_wp2_with (first|((with_reducible refine gd 2 ?_);refine bx w 2 #[.slice A c.length I,.int .i64 j,.int .i64 l,.int .i64 m,.slice B b.length J,.bool n,.slice D d.length K,.slice E g.length L,.slice G i.length M] 35 ?_;clear HB;intro P ac a O HB;obtain⟨_,_,_,_,_,_,_,_,_,_,_,_,_,_,_,_,_,_⟩:=cf9 a.out)|((with_reducible refine gc 51 ?_);refine gl 6 Tryz.func51 (spec_BookOk.calls k _ _ c j l m _ _ b n _ _ d _ _ g _ _ i true _ (cb v HB) q.out (cb p HB) o.out (cb x HB) s.out (cb y HB) t.out (cb z HB) u.out A3.out) ?_;rintro e ad ⟨rfl,hb⟩;refine⟨_,rfl,?_⟩;replace a:=b1 a hb;replace HB:=b2 hb;(try clear hb);obtain⟨_,_,_,_,_,_,_,_,_,_,_,_,_,_,_,_,_,_⟩:=cf9 a.out)|(go_at_call 52;refine cm2 (spec_IsSimple.calls k j l m _ _ b n false _ (cb p HB) o.out A5.out) ?_;intro ae hb;replace a:=b1 a hb;replace HB:=b2 hb;clear hb))
   go_ret
   exact⟨er,bel⟩
 ·obtain rfl:=qj1 H
  go_enter Tryz.func33,Tryz.ntmps33
  go_wp2_with (first|((with_reducible refine gd 2 ?_);refine bx w 2 #[.slice A c.length I,.int .i64 j,.int .i64 l,.int .i64 m,.slice B b.length J,.bool n,.slice D d.length K,.slice E g.length L,.slice G i.length M] 35 ?_;clear HB;intro P af a O HB;obtain⟨_,_,_,_,_,_,_,_,_,_,_,_,_,_,_,_,_,_⟩:=cf9 a.out)|((with_reducible refine gc 51 ?_);refine gl 6 Tryz.func51 (spec_BookOk.calls k _ _ c j l m _ _ b n _ _ d _ _ g _ _ i false _ (cb v HB) q.out (cb p HB) o.out (cb x HB) s.out (cb y HB) t.out (cb z HB) u.out A3.out) ?_;rintro e ag ⟨rfl,hb⟩;refine⟨_,rfl,?_⟩;replace a:=b1 a hb;replace HB:=b2 hb;(try clear hb)))
  go_ret
  exact⟨er,bel⟩
def spec_GoalsOf.f(d:Int)(e:Int)(b:Int)(c:Int)(a:Int):Option (Int×Int×Bool):=if a=1 then(some (b,c,true))else(if a=2 then(some (3,0,true))else(if a=3 then(some (0,3,true))else(some (0,0,false))))
theorem spec_GoalsOf.calls(b:Int)(c:Int)(d:Int)(g:Int)(i:Int)(r1:Int)(r2:Int)(r3:Bool)(w:World)(h:spec_GoalsOf.f b c d g i=some (r1,r2,r3)):Calls Tryz.prog 100 #[.agg #[.int .i64 b,.int .i64 c,.int .i64 d,.int .i64 g,.int .i64 i]] w fun e w'=>e=.returned (.tuple #[.int .i64 r1,.int .i64 r2,.bool r3])∧Below w.heap.size w w':=by
 have aq:=Tryz.underlying79
 have HB:=qb w
 have H:=h
 unfold spec_GoalsOf.f at H
 clear h
 replace H:=ie H;obtain⟨l,m,H⟩|⟨⟨c2,l,m⟩,H⟩:=H
 ·obtain⟨rfl,rfl,rfl⟩:=qj3 H
  go_enter Tryz.func100,Tryz.ntmps100
  go_wp2_with (first|((with_reducible refine gd 1 ?_);refine bx w 1 #[.int .i64 b,.int .i64 c,.int .i64 d,.int .i64 g,.int .i64 i] 79 ?_;clear HB;intro k w3 a j HB;obtain⟨T,U,W,X,Y,af,ag,ah,ai,aj⟩:=cf5 a.out)|go_quiet (fail))
  go_ret3
  exact⟨er,bel⟩
 ·replace H:=ie H;obtain⟨n,o,H⟩|⟨⟨c5,n,o⟩,H⟩:=H
  ·obtain⟨rfl,rfl,rfl⟩:=qj3 H
   go_enter Tryz.func100,Tryz.ntmps100
   go_wp2_with (first|((with_reducible refine gd 1 ?_);refine bx w 1 #[.int .i64 b,.int .i64 c,.int .i64 d,.int .i64 g,.int .i64 i] 79 ?_;clear HB;intro k w6 a j HB;obtain⟨Z,aa,ac,ad,ae,ak,al,an,ao,ap⟩:=cf5 a.out)|go_quiet (fail))
   go_ret3
   exact⟨er,bel⟩
  ·replace H:=ie H;obtain⟨p,q,H⟩|⟨⟨c8,p,q⟩,H⟩:=H
   ·obtain⟨rfl,rfl,rfl⟩:=qj3 H
    go_enter Tryz.func100,Tryz.ntmps100
    go_wp2_with (first|((with_reducible refine gd 1 ?_);refine bx w 1 #[.int .i64 b,.int .i64 c,.int .i64 d,.int .i64 g,.int .i64 i] 79 ?_;clear HB;intro k w9 a j HB;obtain⟨r,s,t,u,v,D,E,G,I,J⟩:=cf5 a.out)|go_quiet (fail))
    go_ret3
    exact⟨er,bel⟩
   ·obtain⟨rfl,rfl,rfl⟩:=qj3 H
    go_enter Tryz.func100,Tryz.ntmps100
    go_wp2_with (first|((with_reducible refine gd 1 ?_);refine bx w 1 #[.int .i64 b,.int .i64 c,.int .i64 d,.int .i64 g,.int .i64 i] 79 ?_;clear HB;intro k ar a j HB;obtain⟨x,y,z,A,B,K,L,M,O,P⟩:=cf5 a.out)|go_quiet (fail))
    go_ret3
    exact⟨er,bel⟩
def spec_OutcomeOf.f(b:Int)(c:Int)(d:Int)(e:Int)(g:Int):Option (Int):=(spec_GoalsOf.f b c d e g).bind fun a=>(if a.2.2=true then(if a.1>a.2.1 then(some 1)else(if a.1=a.2.1 then(some 2)else(some 3)))else(some 0))
theorem spec_OutcomeOf.calls(b:Int)(c:Int)(d:Int)(g:Int)(i:Int)(r:Int)(w:World)(h:spec_OutcomeOf.f b c d g i=some r):Calls Tryz.prog 101 #[.agg #[.int .i64 b,.int .i64 c,.int .i64 d,.int .i64 g,.int .i64 i]] w fun e w'=>e=.returned (.int .i64 r)∧Below w.heap.size w w':=by
 have q:=Tryz.underlying79
 have HB:=qb w
 have H:=h
 unfold spec_OutcomeOf.f at H
 clear h
 replace H:=bm H;obtain⟨⟨l,m,s⟩,A2,H⟩:=H;dsimp only at H
 replace H:=ib H;obtain⟨rfl,H⟩|⟨rfl,H⟩:=H
 ·replace H:=i1 H;obtain⟨n,H⟩|⟨n,H⟩:=H
  ·obtain rfl:=qj1 H
   go_enter Tryz.func101,Tryz.ntmps101
   go_wp2_with (first|((with_reducible refine gd 1 ?_);refine bx w 1 #[.int .i64 b,.int .i64 c,.int .i64 d,.int .i64 g,.int .i64 i] 79 ?_;clear HB;intro k w5 a j HB;obtain⟨_,_,_,_,_,_,_,_,_,_⟩:=cf5 a.out)|((with_reducible refine gc 100 ?_);refine gl 8 Tryz.func100 (spec_GoalsOf.calls b c d g i l m true _ A2.out) ?_;rintro e w7 ⟨rfl,hb⟩;refine⟨_,rfl,?_⟩;replace a:=b1 a hb;replace HB:=b2 hb;(try clear hb)))
   go_ret
   exact⟨er,bel⟩
  ·replace H:=ie H;obtain⟨o,p,H⟩|⟨⟨c8,o,p⟩,H⟩:=H
   ·obtain rfl:=qj1 H
    go_enter Tryz.func101,Tryz.ntmps101
    go_wp2_with (first|((with_reducible refine gd 1 ?_);refine bx w 1 #[.int .i64 b,.int .i64 c,.int .i64 d,.int .i64 g,.int .i64 i] 79 ?_;clear HB;intro k w9 a j HB;obtain⟨_,_,_,_,_,_,_,_,_,_⟩:=cf5 a.out)|((with_reducible refine gc 100 ?_);refine gl 8 Tryz.func100 (spec_GoalsOf.calls b c d g i l m true _ A2.out) ?_;rintro e t ⟨rfl,hb⟩;refine⟨_,rfl,?_⟩;replace a:=b1 a hb;replace HB:=b2 hb;(try clear hb)))
    go_ret
    exact⟨er,bel⟩
   ·obtain rfl:=qj1 H
    go_enter Tryz.func101,Tryz.ntmps101
    go_wp2_with (first|((with_reducible refine gd 1 ?_);refine bx w 1 #[.int .i64 b,.int .i64 c,.int .i64 d,.int .i64 g,.int .i64 i] 79 ?_;clear HB;intro k u a j HB;obtain⟨_,_,_,_,_,_,_,_,_,_⟩:=cf5 a.out)|((with_reducible refine gc 100 ?_);refine gl 8 Tryz.func100 (spec_GoalsOf.calls b c d g i l m true _ A2.out) ?_;rintro e v ⟨rfl,hb⟩;refine⟨_,rfl,?_⟩;replace a:=b1 a hb;replace HB:=b2 hb;(try clear hb)))
    go_ret
    exact⟨er,bel⟩
 ·obtain rfl:=qj1 H
  go_enter Tryz.func101,Tryz.ntmps101
  go_wp2_with (first|((with_reducible refine gd 1 ?_);refine bx w 1 #[.int .i64 b,.int .i64 c,.int .i64 d,.int .i64 g,.int .i64 i] 79 ?_;clear HB;intro k x a j HB;obtain⟨_,_,_,_,_,_,_,_,_,_⟩:=cf5 a.out)|((with_reducible refine gc 100 ?_);refine gl 8 Tryz.func100 (spec_GoalsOf.calls b c d g i l m false _ A2.out) ?_;rintro e y ⟨rfl,hb⟩;refine⟨_,rfl,?_⟩;replace a:=b1 a hb;replace HB:=b2 hb;(try clear hb)))
  go_ret
  exact⟨er,bel⟩
def spec_AddRows.f(a:Int)(b:Int)(c:Int)(d:Int)(e:Int)(g:Int)(h:Int)(i:Int)(j:Int)(k:Int)(l:Int)(m:Int)(n:Int)(o:Int):Option (Int×Int×Int×Int×Int×Int×Int):=some (wrap64 (a+i),wrap64 (b+j),wrap64 (c+k),wrap64 (d+l),wrap64 (e+m),wrap64 (g+n),wrap64 (h+o))
theorem spec_AddRows.calls(i:Int)(j:Int)(k:Int)(l:Int)(m:Int)(n:Int)(o:Int)(p:Int)(q:Int)(r:Int)(s:Int)(t:Int)(u:Int)(v:Int)(r1:Int)(r2:Int)(r3:Int)(r4:Int)(r5:Int)(r6:Int)(r7:Int)(w:World)(h:spec_AddRows.f i j k l m n o p q r s t u v=some (r1,r2,r3,r4,r5,r6,r7)):Calls Tryz.prog 102 #[.agg #[.int .i64 i,.int .i64 j,.int .i64 k,.int .i64 l,.int .i64 m,.int .i64 n,.int .i64 o],.agg #[.int .i64 p,.int .i64 q,.int .i64 r,.int .i64 s,.int .i64 t,.int .i64 u,.int .i64 v]] w fun e w'=>e=.returned (.agg #[.int .i64 r1,.int .i64 r2,.int .i64 r3,.int .i64 r4,.int .i64 r5,.int .i64 r6,.int .i64 r7])∧Below w.heap.size w w':=by
 have K:=Tryz.underlying112
 have HB:=qb w
 have H:=h
 unfold spec_AddRows.f at H
 clear h
 obtain⟨rfl,rfl,rfl,rfl,rfl,rfl,rfl⟩:=qj7 H
 go_enter Tryz.func102,Tryz.ntmps102
 go_wp2_with (first|((with_reducible refine gd 2 ?_);refine bx w 2 #[.int .i64 i,.int .i64 j,.int .i64 k,.int .i64 l,.int .i64 m,.int .i64 n,.int .i64 o] 112 ?_;clear HB;intro I w3 a D HB)|((with_reducible refine gd 3 ?_);refine by_ w 3 #[.int .i64 p,.int .i64 q,.int .i64 r,.int .i64 s,.int .i64 t,.int .i64 u,.int .i64 v] 112 ?_;clear HB;intro J hg w4 b E hb HB;obtain⟨c,y⟩:=qn hg a;replace a:=b1 a hb;clear hb hg)|((with_reducible refine gd 4 ?_);refine by_ w 4 #[.int .i64 0,.int .i64 0,.int .i64 0,.int .i64 0,.int .i64 0,.int .i64 0,.int .i64 0] 112 ?_;clear HB;intro B hg w5 x G hb HB;obtain⟨d,z⟩:=qn hg a;obtain⟨g,A⟩:=qn hg b;replace a:=b1 a hb;replace b:=b1 b hb;clear hb hg;obtain⟨_,_⟩:=qo c;obtain⟨_,_⟩:=qo d;obtain⟨_,_,_,_,_,_,_,_,_,_,_,_,_,_⟩:=cf7 a.out;obtain⟨_,_⟩:=qo g;obtain⟨_,_,_,_,_,_,_,_,_,_,_,_,_,_⟩:=cf7 b.out;obtain⟨_,_,_,_,_,_,_,_,_,_,_,_,_,_⟩:=cf7 x.out))
 refine bodyPost_ret (results_cell_row rfl _ _ B 112 #[.int .i64 (wrap64 (i+p)),.int .i64 (wrap64 (j+q)),.int .i64 (wrap64 (k+r)),.int .i64 (wrap64 (l+s)),.int .i64 (wrap64 (m+t)),.int .i64 (wrap64 (n+u)),.int .i64 (wrap64 (o+v))] (0,0) _ rfl (bz x) Tryz.underlying112 rfl (by kernel_rfl)) rfl ?_
 exact⟨er,bel⟩
end Go.Proofs.YtgalpgakdcfilaaGreat.L
