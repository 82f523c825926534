-- Written by a program of this session (wip/xp.py).
import Derived.Test.YtgalpgakdcfilaaGreatL0
namespace Go.Proofs.YtgalpgakdcfilaaGreat.L
open Go.RowKit Go.Proofs.YtgalpgakdcfilaaGreatW.PrintWords Go.Proofs.YtgalpgakdcfilaaGreatW.PrintLast Go.Proofs.YtgalpgakdcfilaaGreatW.PrintMore
attribute [local go_sem] max2_int min2_int max_two min_two max_three min_three max_four min_four
set_option linter.unusedVariables false
set_option linter.unusedSimpArgs false
set_option maxHeartbeats 8000000
set_option maxRecDepth 100000
def laws_szTeam.f(a:ByteArray)(b:Int)(c:Int)(a1:Int):Option (Int):=if(wrap64 (a1-(a.size:Int)))<0 then(some (-1))else(some (wrap64 (a1-(a.size:Int))))
theorem laws_szTeam.calls(b:ByteArray)(c:Int)(d:Int)(a1:Int)(r:Int)(w:World)(h:laws_szTeam.f b c d a1=some r):Calls Tryz.prog 45 #[.agg #[.string b,.int .i64 c,.int .i64 d],.int .i64 a1] w fun e w'=>e=.returned (.int .i64 r)∧Below w.heap.size w w':=by
 have k:=Tryz.underlying82
 have HB:=qb w
 have H:=h
 unfold laws_szTeam.f at H
 clear h
 replace H:=i1 H;obtain⟨j,H⟩|⟨j,H⟩:=H
 ·obtain rfl:=qj1 H
  go_enter Tryz.func45,Tryz.ntmps45
  go_wp2_with (first|((with_reducible refine gd 2 ?_);refine bx w 2 #[.string b,.int .i64 c,.int .i64 d] 82 ?_;clear HB;intro i w4 a g HB;obtain⟨_,_,_,_,_,_⟩:=cf3 a.out))
  go_ret
  exact⟨er,bel⟩
 ·obtain rfl:=qj1 H
  go_enter Tryz.func45,Tryz.ntmps45
  go_wp2_with (first|((with_reducible refine gd 2 ?_);refine bx w 2 #[.string b,.int .i64 c,.int .i64 d] 82 ?_;clear HB;intro i w6 a g HB;obtain⟨_,_,_,_,_,_⟩:=cf3 a.out))
  go_ret
  exact⟨er,bel⟩
def laws_szTeamS.l0:Nat→List (S82)→Int→Int→Option (Int)
  |0,_,_,_=>none
  |k+1,x0,x1,x5=>if x5<(x0.length:Int)then(if 0≤x5 then((laws_szTeam.f ((rd_T82 x0 x5).f0) ((rd_T82 x0 x5).f1) ((rd_T82 x0 x5).f2) x1).bind fun a=>(if a<0 then(some (-1))else(laws_szTeamS.l0 k x0 a (wrap64 (x5+1)))))else(none))else(some x1)
def laws_szTeamS.f(k:Nat)(l0:List (S82))(a1:Int):Option (Int):=if(wrap64 (a1-(l0.length:Int)))<0 then(some (-1))else(laws_szTeamS.l0 k l0 (wrap64 (a1-(l0.length:Int))) 0)
theorem laws_szTeamS.calls(k:Nat)(A0:Option Addr)(c0:Nat)(l0:List (S82))(a1:Int)(r:Int)(w:World)(l:Kd.C k82 w A0 l0.length l0)(o:l0.length≤c0)(h:laws_szTeamS.f k l0 a1=some r):Calls Tryz.prog 19 #[.slice A0 l0.length c0,.int .i64 a1] w fun e w'=>e=.returned (.int .i64 r)∧Below w.heap.size w w':=by
 have u:=Tryz.underlying82
 replace l:=am l
 replace o:=am o
 have HB:=qb w
 have H:=h
 unfold laws_szTeamS.f at H
 clear h
 replace H:=i1 H;obtain⟨m,H⟩|⟨m,H⟩:=H
 ·obtain rfl:=qj1 H
  go_enter Tryz.func19,Tryz.ntmps19
  go_wp2
  go_ret
  exact⟨er,bel⟩
 ·replace H:=am H
  go_enter Tryz.func19,Tryz.ntmps19
  go_wp2
  go_loopg [1,5] k (fun kq v1 v5 w'=>∃(b:Int) (a:Int),v1=.int .i64 b∧v5=.int .i64 a∧Aside0 (laws_szTeamS.l0 kq l0 b a=some r)∧Aside0 (kq≤k)∧Aside0 (Below w.heap.size w w'))
  case atStart=>exact⟨(wrap64 (a1-(l0.length:Int))),(0),(es),(es),H,⟨Nat.le_refl _⟩,⟨bel⟩⟩
  case round=>
   clear H
   try clear m
   obtain⟨b,a,rfl,rfl,HA,p,HB⟩:=hrel
   cases gk with
   |zero=>exact absurd HA.out (by simp [laws_szTeamS.l0])
   |succ k1=>
    have H:=HA.out
    clear HA
    simp only[laws_szTeamS.l0]at H
    replace H:=i1 H;obtain⟨q,H⟩|⟨q,H⟩:=H
    ·replace H:=i0 H;obtain⟨t,H⟩:=H
     replace H:=bm H;obtain⟨j,A6,H⟩:=H
     replace H:=i1 H;obtain⟨s,H⟩|⟨s,H⟩:=H
     ·obtain rfl:=qj1 H
      have:(0≤(a:Int))=True:=ab
      have:(a<(l0.length:Int))=True:=ab
      obtain⟨n,c,d,g,i⟩:=hc3 HB.out (at_T82 l.out a asm asm)
      cases c
      go_wp2_with (first|((with_reducible refine gc 45 ?_);refine gl 23 Tryz.func45 (laws_szTeam.calls ((rd_T82 l0 a).f0) ((rd_T82 l0 a).f1) ((rd_T82 l0 a).f2) b j _ A6.out) ?_;rintro e w8 ⟨rfl,hb⟩;refine⟨_,rfl,?_⟩;replace HB:=b2 hb;(try clear hb)))
      go_ret
      exact⟨er,bel⟩
     ·replace H:=am H
      have:(0≤(a:Int))=True:=ab
      have:(a<(l0.length:Int))=True:=ab
      obtain⟨n,c,d,g,i⟩:=hc3 HB.out (at_T82 l.out a asm asm)
      cases c
      go_wp2_with (first|((with_reducible refine gc 45 ?_);refine gl 23 Tryz.func45 (laws_szTeam.calls ((rd_T82 l0 a).f0) ((rd_T82 l0 a).f1) ((rd_T82 l0 a).f2) b j _ A6.out) ?_;rintro e w9 ⟨rfl,hb⟩;refine⟨_,rfl,?_⟩;replace HB:=b2 hb;(try clear hb)))
      go_roundg k1
      case measure=>have:=p.out;omega
      case rel=>exact⟨(j),(wrap64 (a+1)),(es),(es),H,⟨by have:=p.out;omega⟩,⟨bel⟩⟩
    ·obtain rfl:=qj1 H
     go_wp2
     go_ret
     exact⟨er,bel⟩
def laws_szIntS.f(l0:List Int)(a1:Int):Option (Int):=if(wrap64 (a1-(l0.length:Int)))<0 then(some (-1))else(some (wrap64 (a1-(l0.length:Int))))
theorem laws_szIntS.calls(A0:Option Addr)(c0:Nat)(l0:List Int)(a1:Int)(r:Int)(w:World)(b:Kd.C (Kd.int .i64) w A0 l0.length l0)(a:l0.length≤c0)(h:laws_szIntS.f l0 a1=some r):Calls Tryz.prog 22 #[.slice A0 l0.length c0,.int .i64 a1] w fun e w'=>e=.returned (.int .i64 r)∧Drawn0 w w':=by
 replace b:=am b
 replace a:=am a
 have H:=h
 unfold laws_szIntS.f at H
 clear h
 replace H:=i1 H;obtain⟨c,H⟩|⟨c,H⟩:=H
 ·obtain rfl:=qj1 H
  go_enter Tryz.func22,Tryz.ntmps22
  go_wp2
  go_ret
  exact⟨es,by repeat (first|exact Drawn0.refl _|apply Drawn0.step)⟩
 ·obtain rfl:=qj1 H
  go_enter Tryz.func22,Tryz.ntmps22
  go_wp2
  go_ret
  exact⟨es,by repeat (first|exact Drawn0.refl _|apply Drawn0.step)⟩
def laws_szRules.f(c:Int)(d:Int)(e:Int)(b:List Int)(g:Bool)(a1:Int):Option (Int):=(laws_szIntS.f b a1).bind fun a=>(if a<0 then(some (-1))else(some a))
theorem laws_szRules.calls(i:Int)(j:Int)(k:Int)(g:Option Addr)(m:Nat)(a:List Int)(l:Bool)(a1:Int)(r:Int)(w:World)(c:Kd.C (Kd.int .i64) w g a.length a)(b:a.length≤m)(h:laws_szRules.f i j k a l a1=some r):Calls Tryz.prog 20 #[.agg #[.int .i64 i,.int .i64 j,.int .i64 k,.slice g a.length m,.bool l],.int .i64 a1] w fun e w'=>e=.returned (.int .i64 r)∧Below w.heap.size w w':=by
 have s:=Tryz.underlying25
 replace c:=am c
 replace b:=am b
 have HB:=qb w
 have H:=h
 unfold laws_szRules.f at H
 clear h
 replace H:=bm H;obtain⟨n,A3,H⟩:=H
 replace H:=i1 H;obtain⟨q,H⟩|⟨q,H⟩:=H
 ·obtain rfl:=qj1 H
  go_enter Tryz.func20,Tryz.ntmps20
  go_wp2_with (first|((with_reducible refine gd 2 ?_);refine bx w 2 #[.int .i64 i,.int .i64 j,.int .i64 k,.slice g a.length m,.bool l] 25 ?_;clear HB;intro p w5 d o HB;obtain⟨_,_,_,_,_,_,_,_,_,_⟩:=cf5 d.out)|((with_reducible refine gc 22 ?_);refine gl 8 Tryz.func22 (laws_szIntS.calls _ _ a a1 n _ (cb c HB) b.out A3.out) ?_;rintro e w' ⟨rfl,⟨nd,rfl⟩⟩;refine⟨_,rfl,?_⟩))
  go_ret
  exact⟨er,bel⟩
 ·obtain rfl:=qj1 H
  go_enter Tryz.func20,Tryz.ntmps20
  go_wp2_with (first|((with_reducible refine gd 2 ?_);refine bx w 2 #[.int .i64 i,.int .i64 j,.int .i64 k,.slice g a.length m,.bool l] 25 ?_;clear HB;intro p w7 d o HB;obtain⟨_,_,_,_,_,_,_,_,_,_⟩:=cf5 d.out)|((with_reducible refine gc 22 ?_);refine gl 8 Tryz.func22 (laws_szIntS.calls _ _ a a1 n _ (cb c HB) b.out A3.out) ?_;rintro e w' ⟨rfl,⟨nd,rfl⟩⟩;refine⟨_,rfl,?_⟩))
  go_ret
  exact⟨er,bel⟩
def laws_szGameS.f(l0:List (S86))(a1:Int):Option (Int):=if(wrap64 (a1-(l0.length:Int)))<0 then(some (-1))else(some (wrap64 (a1-(l0.length:Int))))
theorem laws_szGameS.calls(A0:Option Addr)(c0:Nat)(l0:List (S86))(a1:Int)(r:Int)(w:World)(b:Kd.C k86 w A0 l0.length l0)(a:l0.length≤c0)(h:laws_szGameS.f l0 a1=some r):Calls Tryz.prog 21 #[.slice A0 l0.length c0,.int .i64 a1] w fun e w'=>e=.returned (.int .i64 r)∧Drawn0 w w':=by
 replace b:=am b
 replace a:=am a
 have H:=h
 unfold laws_szGameS.f at H
 clear h
 replace H:=i1 H;obtain⟨c,H⟩|⟨c,H⟩:=H
 ·obtain rfl:=qj1 H
  go_enter Tryz.func21,Tryz.ntmps21
  go_wp2
  go_ret
  exact⟨es,by repeat (first|exact Drawn0.refl _|apply Drawn0.step)⟩
 ·obtain rfl:=qj1 H
  go_enter Tryz.func21,Tryz.ntmps21
  go_wp2
  go_ret
  exact⟨es,by repeat (first|exact Drawn0.refl _|apply Drawn0.step)⟩
def laws_szBook.f(k:Nat)(l:List (S82))(g:Int)(h:Int)(i:Int)(m:List Int)(j:Bool)(n:List (S86))(o:List Int)(p:List Int)(a1:Int):Option (Int):=(laws_szTeamS.f k l a1).bind fun a=>(if a<0 then(some (-1))else((laws_szRules.f g h i m j a).bind fun b=>(if b<0 then(some (-1))else((laws_szGameS.f n b).bind fun c=>(if c<0 then(some (-1))else((laws_szIntS.f o c).bind fun d=>(if d<0 then(some (-1))else((laws_szIntS.f p d).bind fun e=>(if e<0 then(some (-1))else(some e))))))))))
theorem laws_szBook.calls(k:Nat)(y:Option Addr)(E:Nat)(b:List (S82))(i:Int)(j:Int)(l:Int)(z:Option Addr)(G:Nat)(c:List Int)(m:Bool)(A:Option Addr)(I:Nat)(d:List (S86))(B:Option Addr)(J:Nat)(g:List Int)(D:Option Addr)(K:Nat)(n:List Int)(a1:Int)(r:Int)(w:World)(p:Kd.C k82 w y b.length b)(o:b.length≤E)(t:Kd.C (Kd.int .i64) w z c.length c)(s:c.length≤G)(x:Kd.C k86 w A d.length d)(v:d.length≤I)(O:Kd.C (Kd.int .i64) w B g.length g)(M:g.length≤J)(W:Kd.C (Kd.int .i64) w D n.length n)(U:n.length≤K)(h:laws_szBook.f k b i j l c m d g n a1=some r):Calls Tryz.prog 5 #[.agg #[.slice y b.length E,.int .i64 i,.int .i64 j,.int .i64 l,.slice z c.length G,.bool m,.slice A d.length I,.slice B g.length J,.slice D n.length K],.int .i64 a1] w fun e w'=>e=.returned (.int .i64 r)∧Below w.heap.size w w':=by
 have aj:=Tryz.underlying28
 have ai:=Tryz.underlying25
 replace p:=am p
 replace o:=am o
 replace t:=am t
 replace s:=am s
 replace x:=am x
 replace v:=am v
 replace O:=am O
 replace M:=am M
 replace W:=am W
 replace U:=am U
 have HB:=qb w
 have H:=h
 unfold laws_szBook.f at H
 clear h
 replace H:=bm H;obtain⟨q,A3,H⟩:=H
 replace H:=i1 H;obtain⟨ag,H⟩|⟨ag,H⟩:=H
 ·obtain rfl:=qj1 H
  go_enter Tryz.func5,Tryz.ntmps5
  go_wp2_with (first|((with_reducible refine gd 2 ?_);refine bx w 2 #[.slice y b.length E,.int .i64 i,.int .i64 j,.int .i64 l,.slice z c.length G,.bool m,.slice A d.length I,.slice B g.length J,.slice D n.length K] 28 ?_;clear HB;intro P w5 a L HB;obtain⟨_,_,_,_,_,_,_,_,_,_,_,_,_,_,_,_,_,_⟩:=cf9 a.out)|((with_reducible refine gc 19 ?_);refine gl 8 Tryz.func19 (laws_szTeamS.calls k _ _ b a1 q _ (cb p HB) o.out A3.out) ?_;rintro e w7 ⟨rfl,hb⟩;refine⟨_,rfl,?_⟩;replace a:=b1 a hb;replace HB:=b2 hb;(try clear hb)))
  go_ret
  exact⟨er,bel⟩
 ·replace H:=bm H;obtain⟨u,A8,H⟩:=H
  replace H:=i1 H;obtain⟨ah,H⟩|⟨ah,H⟩:=H
  ·obtain rfl:=qj1 H
   go_enter Tryz.func5,Tryz.ntmps5
   go_wp2_with (first|((with_reducible refine gd 2 ?_);refine bx w 2 #[.slice y b.length E,.int .i64 i,.int .i64 j,.int .i64 l,.slice z c.length G,.bool m,.slice A d.length I,.slice B g.length J,.slice D n.length K] 28 ?_;clear HB;intro P ak a L HB;obtain⟨_,_,_,_,_,_,_,_,_,_,_,_,_,_,_,_,_,_⟩:=cf9 a.out)|((with_reducible refine gc 19 ?_);refine gl 8 Tryz.func19 (laws_szTeamS.calls k _ _ b a1 q _ (cb p HB) o.out A3.out) ?_;rintro e al ⟨rfl,hb⟩;refine⟨_,rfl,?_⟩;replace a:=b1 a hb;replace HB:=b2 hb;(try clear hb);obtain⟨_,_,_,_,_,_,_,_,_,_,_,_,_,_,_,_,_,_⟩:=cf9 a.out)|((with_reducible refine gc 20 ?_);refine gl 14 Tryz.func20 (laws_szRules.calls i j l _ _ c m q u _ (cb t HB) s.out A8.out) ?_;rintro e an ⟨rfl,hb⟩;refine⟨_,rfl,?_⟩;replace a:=b1 a hb;replace HB:=b2 hb;(try clear hb)))
   go_ret
   exact⟨er,bel⟩
  ·replace H:=bm H;obtain⟨T,Y,H⟩:=H
   replace H:=i1 H;obtain⟨ac,H⟩|⟨ac,H⟩:=H
   ·obtain rfl:=qj1 H
    go_enter Tryz.func5,Tryz.ntmps5
    go_wp2_with (first|((with_reducible refine gd 2 ?_);refine bx w 2 #[.slice y b.length E,.int .i64 i,.int .i64 j,.int .i64 l,.slice z c.length G,.bool m,.slice A d.length I,.slice B g.length J,.slice D n.length K] 28 ?_;clear HB;intro P ao a L HB;obtain⟨_,_,_,_,_,_,_,_,_,_,_,_,_,_,_,_,_,_⟩:=cf9 a.out)|((with_reducible refine gc 19 ?_);refine gl 8 Tryz.func19 (laws_szTeamS.calls k _ _ b a1 q _ (cb p HB) o.out A3.out) ?_;rintro e ap ⟨rfl,hb⟩;refine⟨_,rfl,?_⟩;replace a:=b1 a hb;replace HB:=b2 hb;(try clear hb);obtain⟨_,_,_,_,_,_,_,_,_,_,_,_,_,_,_,_,_,_⟩:=cf9 a.out)|((with_reducible refine gc 20 ?_);refine gl 14 Tryz.func20 (laws_szRules.calls i j l _ _ c m q u _ (cb t HB) s.out A8.out) ?_;rintro e aq ⟨rfl,hb⟩;refine⟨_,rfl,?_⟩;replace a:=b1 a hb;replace HB:=b2 hb;(try clear hb);obtain⟨_,_,_,_,_,_,_,_,_,_,_,_,_,_,_,_,_,_⟩:=cf9 a.out)|((with_reducible refine gc 21 ?_);refine gl 20 Tryz.func21 (laws_szGameS.calls _ _ d u T _ (cb x HB) v.out Y.out) ?_;rintro e w' ⟨rfl,⟨nd,rfl⟩⟩;refine⟨_,rfl,?_⟩))
    go_ret
    exact⟨er,bel⟩
   ·replace H:=bm H;obtain⟨X,aa,H⟩:=H
    replace H:=i1 H;obtain⟨ad,H⟩|⟨ad,H⟩:=H
    ·obtain rfl:=qj1 H
     go_enter Tryz.func5,Tryz.ntmps5
     go_wp2_with (first|((with_reducible refine gd 2 ?_);refine bx w 2 #[.slice y b.length E,.int .i64 i,.int .i64 j,.int .i64 l,.slice z c.length G,.bool m,.slice A d.length I,.slice B g.length J,.slice D n.length K] 28 ?_;clear HB;intro P ar a L HB;obtain⟨_,_,_,_,_,_,_,_,_,_,_,_,_,_,_,_,_,_⟩:=cf9 a.out)|((with_reducible refine gc 19 ?_);refine gl 8 Tryz.func19 (laws_szTeamS.calls k _ _ b a1 q _ (cb p HB) o.out A3.out) ?_;rintro e au ⟨rfl,hb⟩;refine⟨_,rfl,?_⟩;replace a:=b1 a hb;replace HB:=b2 hb;(try clear hb);obtain⟨_,_,_,_,_,_,_,_,_,_,_,_,_,_,_,_,_,_⟩:=cf9 a.out)|((with_reducible refine gc 20 ?_);refine gl 14 Tryz.func20 (laws_szRules.calls i j l _ _ c m q u _ (cb t HB) s.out A8.out) ?_;rintro e av ⟨rfl,hb⟩;refine⟨_,rfl,?_⟩;replace a:=b1 a hb;replace HB:=b2 hb;(try clear hb);obtain⟨_,_,_,_,_,_,_,_,_,_,_,_,_,_,_,_,_,_⟩:=cf9 a.out)|((with_reducible refine gc 21 ?_);refine gl 20 Tryz.func21 (laws_szGameS.calls _ _ d u T _ (cb x HB) v.out Y.out) ?_;rintro e w' ⟨rfl,⟨nd,rfl⟩⟩;refine⟨_,rfl,?_⟩)|((with_reducible refine gc 22 ?_);refine gl 26 Tryz.func22 (laws_szIntS.calls _ _ g T X _ (ck (Kd.C_below O.out bel)) M.out aa.out) ?_;rintro e w' ⟨rfl,⟨nd,rfl⟩⟩;refine⟨_,rfl,?_⟩))
     go_ret
     exact⟨er,bel⟩
    ·replace H:=bm H;obtain⟨Z,af,H⟩:=H
     replace H:=i1 H;obtain⟨ae,H⟩|⟨ae,H⟩:=H
     ·obtain rfl:=qj1 H
      go_enter Tryz.func5,Tryz.ntmps5
      go_wp2_with (first|((with_reducible refine gd 2 ?_);refine bx w 2 #[.slice y b.length E,.int .i64 i,.int .i64 j,.int .i64 l,.slice z c.length G,.bool m,.slice A d.length I,.slice B g.length J,.slice D n.length K] 28 ?_;clear HB;intro P aw a L HB;obtain⟨_,_,_,_,_,_,_,_,_,_,_,_,_,_,_,_,_,_⟩:=cf9 a.out)|((with_reducible refine gc 19 ?_);refine gl 8 Tryz.func19 (laws_szTeamS.calls k _ _ b a1 q _ (cb p HB) o.out A3.out) ?_;rintro e ax ⟨rfl,hb⟩;refine⟨_,rfl,?_⟩;replace a:=b1 a hb;replace HB:=b2 hb;(try clear hb);obtain⟨_,_,_,_,_,_,_,_,_,_,_,_,_,_,_,_,_,_⟩:=cf9 a.out)|((with_reducible refine gc 20 ?_);refine gl 14 Tryz.func20 (laws_szRules.calls i j l _ _ c m q u _ (cb t HB) s.out A8.out) ?_;rintro e ay ⟨rfl,hb⟩;refine⟨_,rfl,?_⟩;replace a:=b1 a hb;replace HB:=b2 hb;(try clear hb);obtain⟨_,_,_,_,_,_,_,_,_,_,_,_,_,_,_,_,_,_⟩:=cf9 a.out)|((with_reducible refine gc 21 ?_);refine gl 20 Tryz.func21 (laws_szGameS.calls _ _ d u T _ (cb x HB) v.out Y.out) ?_;rintro e w' ⟨rfl,⟨nd,rfl⟩⟩;refine⟨_,rfl,?_⟩)|((with_reducible refine gc 22 ?_);refine gl 26 Tryz.func22 (laws_szIntS.calls _ _ g T X _ (ck (Kd.C_below O.out bel)) M.out aa.out) ?_;rintro e w' ⟨rfl,⟨nd,rfl⟩⟩;refine⟨_,rfl,?_⟩)|((with_reducible refine gc 22 ?_);refine gl 32 Tryz.func22 (laws_szIntS.calls _ _ n X Z _ (ck (Kd.C_below W.out bel)) U.out af.out) ?_;rintro e w' ⟨rfl,⟨nd,rfl⟩⟩;refine⟨_,rfl,?_⟩))
      go_ret
      exact⟨er,bel⟩
     ·obtain rfl:=qj1 H
      go_enter Tryz.func5,Tryz.ntmps5
      go_wp2_with (first|((with_reducible refine gd 2 ?_);refine bx w 2 #[.slice y b.length E,.int .i64 i,.int .i64 j,.int .i64 l,.slice z c.length G,.bool m,.slice A d.length I,.slice B g.length J,.slice D n.length K] 28 ?_;clear HB;intro P az a L HB;obtain⟨_,_,_,_,_,_,_,_,_,_,_,_,_,_,_,_,_,_⟩:=cf9 a.out)|((with_reducible refine gc 19 ?_);refine gl 8 Tryz.func19 (laws_szTeamS.calls k _ _ b a1 q _ (cb p HB) o.out A3.out) ?_;rintro e aA ⟨rfl,hb⟩;refine⟨_,rfl,?_⟩;replace a:=b1 a hb;replace HB:=b2 hb;(try clear hb);obtain⟨_,_,_,_,_,_,_,_,_,_,_,_,_,_,_,_,_,_⟩:=cf9 a.out)|((with_reducible refine gc 20 ?_);refine gl 14 Tryz.func20 (laws_szRules.calls i j l _ _ c m q u _ (cb t HB) s.out A8.out) ?_;rintro e aB ⟨rfl,hb⟩;refine⟨_,rfl,?_⟩;replace a:=b1 a hb;replace HB:=b2 hb;(try clear hb);obtain⟨_,_,_,_,_,_,_,_,_,_,_,_,_,_,_,_,_,_⟩:=cf9 a.out)|((with_reducible refine gc 21 ?_);refine gl 20 Tryz.func21 (laws_szGameS.calls _ _ d u T _ (cb x HB) v.out Y.out) ?_;rintro e w' ⟨rfl,⟨nd,rfl⟩⟩;refine⟨_,rfl,?_⟩)|((with_reducible refine gc 22 ?_);refine gl 26 Tryz.func22 (laws_szIntS.calls _ _ g T X _ (ck (Kd.C_below O.out bel)) M.out aa.out) ?_;rintro e w' ⟨rfl,⟨nd,rfl⟩⟩;refine⟨_,rfl,?_⟩)|((with_reducible refine gc 22 ?_);refine gl 32 Tryz.func22 (laws_szIntS.calls _ _ n X Z _ (ck (Kd.C_below W.out bel)) U.out af.out) ?_;rintro e w' ⟨rfl,⟨nd,rfl⟩⟩;refine⟨_,rfl,?_⟩))
      go_ret
      exact⟨er,bel⟩
def laws_toTeam.f(a:ByteArray)(b:Int)(c:Int):Option (ByteArray×Int×Int):=some (a,b,c)
theorem laws_toTeam.calls(i:ByteArray)(j:Int)(k:Int)(r1:ByteArray)(r2:Int)(r3:Int)(w:World)(h:laws_toTeam.f i j k=some (r1,r2,r3)):Calls Tryz.prog 46 #[.agg #[.string i,.int .i64 j,.int .i64 k]] w fun e w'=>e=.returned (.agg #[.string r1,.int .i64 r2,.int .i64 r3])∧Below w.heap.size w w':=by
 have v:=Tryz.underlying82
 have x:=Tryz.underlying83
 have HB:=qb w
 have H:=h
 unfold laws_toTeam.f at H
 clear h
 obtain⟨rfl,rfl,rfl⟩:=qj3 H
 go_enter Tryz.func46,Tryz.ntmps46
 go_wp2_with (first|((with_reducible refine gd 1 ?_);refine bx w 1 #[.string i,.int .i64 j,.int .i64 k] 82 ?_;clear HB;intro t w2 a q HB)|((with_reducible refine gd 2 ?_);refine by_ w 2 #[.string (⟨#[]⟩:ByteArray),.int .i64 0,.int .i64 0] 83 ?_;clear HB;intro p hg w3 b r hb HB;obtain⟨c,m⟩:=qn hg a;replace a:=b1 a hb;clear hb hg)|((with_reducible refine gd 3 ?_);refine by_ w 3 #[.string (⟨#[]⟩:ByteArray),.int .i64 0,.int .i64 0] 83 ?_;clear HB;intro u hg w4 l s hb HB;obtain⟨d,o⟩:=qn hg a;obtain⟨n,g⟩:=qn hg b;replace a:=b1 a hb;replace b:=b1 b hb;clear hb hg;obtain⟨_,_⟩:=qo c;obtain⟨_,_⟩:=qo d;obtain⟨_,_,_,_,_,_⟩:=cf3 a.out;obtain⟨_,_⟩:=qo g;obtain⟨_,_,_,_,_,_⟩:=cf3 l.out;obtain⟨_,_,_,_,_,_⟩:=cf3 b.out))
 refine bodyPost_ret (results_cell_row rfl _ _ p 83 #[.string i,.int .i64 j,.int .i64 k] (0,0) _ rfl (bz b) Tryz.underlying83 rfl (by kernel_rfl)) rfl ?_
 exact⟨er,bel⟩
def laws_toTeamS.l0:Nat→List (S82)→List (S83)→Int→Option ((List (S83)))
  |0,_,_,_=>none
  |k+1,x0,x3,x4=>if x4<(x0.length:Int)then(if 0≤x4 then((laws_toTeam.f ((rd_T82 x0 x4).f0) ((rd_T82 x0 x4).f1) ((rd_T82 x0 x4).f2)).bind fun a=>(if x4<(x3.length:Int)then(laws_toTeamS.l0 k x0 (x3.set (x4:Int).toNat (⟨a.1,a.2.1,a.2.2⟩:S83)) (wrap64 (x4+1)))else(none)))else(none))else(some x3)
def laws_toTeamS.f(k:Nat)(l0:List (S82)):Option ((List (S83))):=if 0≤(l0.length:Int)then(if((l0.length:Int):Int).toNat≤8796093022208 then(laws_toTeamS.l0 k l0 (List.replicate ((l0.length:Int):Int).toNat z83) 0)else(none))else(none)
theorem laws_toTeamS.calls(k:Nat)(A0:Option Addr)(c0:Nat)(l0:List (S82))(r:List (S83))(w:World)(W:Kd.C k82 w A0 l0.length l0)(ad:l0.length≤c0)(h:laws_toTeamS.f k l0=some r):Calls Tryz.prog 23 #[.slice A0 l0.length c0] w fun e w'=>∃ap:Value,e=.returned (ap)∧Kd.R k83 83 w' w.heap.size (fun _=>True) ap r∧Below w.heap.size w w':=by
 have aH:=Tryz.underlying82
 have aI:=Tryz.underlying83
 replace W:=am W
 replace ad:=am ad
 have HB:=qb w
 have H:=h
 unfold laws_toTeamS.f at H
 clear h
 by_cases c2:0≤(l0.length:Int)
 ·rw[if_pos c2]at H
  have af:=eq_true c2
  have ag:decide (0≤(l0.length:Int))=true:=decide_eq_true c2
  clear c2
  replace H:=i0 H;obtain⟨J,H⟩:=H
  have ah:=eq_true (of_decide_eq_true J)
  generalize hy115:(List.replicate ((l0.length:Int):Int).toNat z83:List (S83))=ar at H
  have u:=am hy115.symm
  clear hy115
  replace H:=am H
  go_enter Tryz.func23,Tryz.ntmps23
  go_wp2_with (first|((with_reducible refine gate_dst (N:=7) rfl ?_);refine Kd.R_make k83 _ 83 rfl (N:=7) rfl 31 _ _ rfl (l0.length:Int) rfl rfl Tryz.underlying31 (.agg #[(.string ⟨#[]⟩),(.int .i64 0),(.int .i64 0)]) 32 info83 rfl (by decide) (by omega) z83 (ok:=fun _=>True) (okp:=fun _=>True) (k83_mkM _ _ _ z83) (fun _ hk=>hk) trivial (asm) (Nat.le_trans (Nat.mul_le_mul_right _ (asm:(l0.length:Int).toNat≤8796093022208)) (by omega)) (Below.refl _ _) (Nat.le_refl _) ?_;intro aq w4 x hb hg_ hnew_;clear hg_ hnew_;(first|rw[←u.out]at x|(simp only[Int.reduceToNat]at x;rw[←u.out]at x));have U:=am (Kd.R_lower x (below_size bel));replace HB:=b2 hb;clear hb x))
  go_loopg [4] k (fun kq v4 w'=>∃(b:List (S83)) (a:Int),v4=.int .i64 a∧Aside0 (laws_toTeamS.l0 kq l0 b a=some r)∧Aside0 (kq≤k)∧Aside0 (Kd.R k83 83 w' w.heap.size (fun _=>True) aq b)∧Aside0 (Below w.heap.size w w'))
  case atStart=>exact⟨(ar),(0),(es),H,⟨Nat.le_refl _⟩,⟨rk U.out⟩,⟨bel⟩⟩
  case round=>
   clear H
   try clear c2;try clear af;try clear ag;try clear ah;try clear J
   obtain⟨b,a,rfl,HA,ae,c,HB⟩:=hrel
   cases gk with
   |zero=>exact absurd HA.out (by simp [laws_toTeamS.l0])
   |succ k1=>
    have H:=HA.out
    clear HA
    simp only[laws_toTeamS.l0]at H
    replace H:=i1 H;obtain⟨ai,H⟩|⟨ai,H⟩:=H
    ·replace H:=i0 H;obtain⟨aC,H⟩:=H
     replace H:=bm H;obtain⟨⟨n,o,p⟩,A8,H⟩:=H;dsimp only at H
     replace H:=i0 H;obtain⟨aD,H⟩:=H
     generalize hy122:(b.set (a:Int).toNat (⟨n,o,p⟩:S83):List (S83))=T at H
     have X:=am hy122.symm
     clear hy122
     replace H:=am H
     have:(0≤(a:Int))=True:=ab
     have:(a<(l0.length:Int))=True:=ab
     obtain⟨aA,aj,al,an,ao⟩:=hc3 HB.out (at_T82 W.out a asm asm)
     cases aj
     go_wp2_with (first|((with_reducible refine gc 46 ?_);refine gl 20 Tryz.func46 (laws_toTeam.calls ((rd_T82 l0 a).f0) ((rd_T82 l0 a).f1) ((rd_T82 l0 a).f2) n o p _ A8.out) ?_;rintro e q ⟨rfl,hb⟩;refine⟨_,rfl,?_⟩;replace c:=rb c hb;replace HB:=b2 hb;(try clear hb);have Z:0≤(a:Int):=asm;have aa:(a:Int)<((b.length:Int):Int):=asm;obtain⟨d,K,L,M,ak,aG,G⟩:=Kd.R_form c.out (by omega);(first|cases L|(injection L with ea_ en_ ec_;(first|subst ea_|(injection ea_ with ea_;subst ea_));subst ec_;clear en_));have s:=am M;have aB:=am G;clear M ak G;obtain⟨aE,Y,O,i,l⟩:=Kd.R_elem c.out z83 (a:Int) Z aa;obtain rfl:=k83_openM O;have ax:q.cell? ⟨d,(a:Int).toNat*3,none⟩=some (.string ((rd_T83 b a).f0)):=i 0 _ rfl;have ay:q.cell? ⟨d,(a:Int).toNat*3+1,none⟩=some (.int .i64 ((rd_T83 b a).f1)):=i 1 _ rfl;have az:q.cell? ⟨d,(a:Int).toNat*3+2,none⟩=some (.int .i64 ((rd_T83 b a).f2)):=i 2 _ rfl;have au:q.frozen? ⟨d,(a:Int).toNat*3,none⟩=false:=l 0;have av:q.frozen? ⟨d,(a:Int).toNat*3+1,none⟩=false:=l 1;have aw:q.frozen? ⟨d,(a:Int).toNat*3+2,none⟩=false:=l 2;clear Y i l;(try clear O);replace Z:=eq_true Z;replace aa:=eq_true aa;have I:=am (show Kd.R k83 83 q w.heap.size (fun _=>True) (.slice (some ⟨d,0,none⟩) b.length K) b from(rk c.out));obtain⟨aF,v,P,g,m⟩:=Kd.R_elem I.out z83 (a:Int) (asm) (by have h_:(a:Int)<((b.length:Int):Int):=asm;first|exact h_|(have e_:=(Kd.R_reads' c.out).1;omega)|simpa using h_);obtain rfl:=k83_openM P;have t:=Kd.R_seg I.out (a:Int) (asm) (by have h_:(a:Int)<((b.length:Int):Int):=asm;first|exact h_|(have e_:=(Kd.R_reads' c.out).1;omega)|simpa using h_) (seg:=[.string n,.int .i64 o,.int .i64 p]) (j:=0) v g (show 3≤3 from by decide) (x':=(⟨n,o,p⟩:S83)) (k83_mkM _ _ _ (⟨n,o,p⟩:S83)) (fun _ hk=>hk);have B:=g 0 _ rfl;(try simp only[show(k83).sz=3 from rfl,Nat.mul_one,Nat.add_zero]at B);have y:=m 0;(try simp only[show(k83).sz=3 from rfl,Nat.mul_one,Nat.add_zero]at y);have D:=g 1 _ rfl;(try simp only[show(k83).sz=3 from rfl,Nat.mul_one,Nat.add_zero]at D);have z:=m 1;(try simp only[show(k83).sz=3 from rfl,Nat.mul_one,Nat.add_zero]at z);have E:=g 2 _ rfl;(try simp only[show(k83).sz=3 from rfl,Nat.mul_one,Nat.add_zero]at E);have A:=m 2;(try simp only[show(k83).sz=3 from rfl,Nat.mul_one,Nat.add_zero]at A);clear v g m P)|((with_reducible refine gs 83 21 ?_);refine sv 83 21 ?_;intro ac hw;have hg:q.grownBy ac (some d):=(by rw[hw];exact t.2);have hp_:Kd.R k83 83 ac w.heap.size (fun _=>True) (.slice (some ⟨d,0,none⟩) b.length K) T:=(by rw[hw,X.out];exact t.1);clear t;replace c:=am (hp_);replace HB:=am ((by rw[hw];exact below_set (below_set (below_set (HB.out) s.out) s.out) s.out:Below w.heap.size w ac));clear hg hw hp_))
     go_roundg k1
     case measure=>have:=ae.out;omega
     case rel=>exact⟨(T),(wrap64 (a+1)),(es),H,⟨by have:=ae.out;omega⟩,⟨rk c.out⟩,⟨bel⟩⟩
    ·obtain rfl:=qj1 H
     go_wp2
     go_ret
     exact⟨_,er,rk c.out,bel⟩
 ·rw[if_neg c2]at H
  exact absurd H (by simp)
def laws_toIntS.l0:Nat→List Int→List Int→Int→Option (List Int)
  |0,_,_,_=>none
  |k+1,x0,x3,x4=>if x4<(x0.length:Int)then(if 0≤x4 then(if x4<(x3.length:Int)then(laws_toIntS.l0 k x0 (x3.set (x4:Int).toNat (rd x0 x4)) (wrap64 (x4+1)))else(none))else(none))else(some x3)
def laws_toIntS.f(k:Nat)(l0:List Int):Option (List Int):=if 0≤(l0.length:Int)then(if((l0.length:Int):Int).toNat≤35184372088832 then(laws_toIntS.l0 k l0 (List.replicate ((l0.length:Int):Int).toNat 0) 0)else(none))else(none)
theorem laws_toIntS.calls(k:Nat)(A0:Option Addr)(c0:Nat)(l0:List Int)(r:List Int)(w:World)(n:Kd.C (Kd.int .i64) w A0 l0.length l0)(q:l0.length≤c0)(h:laws_toIntS.f k l0=some r):Calls Tryz.prog 26 #[.slice A0 l0.length c0] w fun e w'=>∃G:Value,e=.returned (G)∧Kd.R (Kd.int .i64) 3 w' w.heap.size (fun _=>True) G r∧Below w.heap.size w w':=by
 replace n:=am n
 replace q:=am q
 have HB:=qb w
 have H:=h
 unfold laws_toIntS.f at H
 clear h
 by_cases c2:0≤(l0.length:Int)
 ·rw[if_pos c2]at H
  have u:=eq_true c2
  have v:decide (0≤(l0.length:Int))=true:=decide_eq_true c2
  clear c2
  replace H:=i0 H;obtain⟨j,H⟩:=H
  have x:=eq_true (of_decide_eq_true j)
  generalize hy123:(List.replicate ((l0.length:Int):Int).toNat 0:List Int)=J at H
  have g:=am hy123.symm
  clear hy123
  replace H:=am H
  go_enter Tryz.func26,Tryz.ntmps26
  go_wp2_with (first|((with_reducible refine gate_dst (N:=7) rfl ?_);refine Kd.R_make (Kd.int .i64) _ 3 rfl (N:=7) rfl 23 _ _ rfl (l0.length:Int) rfl rfl Tryz.underlying23 (.int .i64 0) 8 info3 rfl (by decide) (by omega) 0 (ok:=fun _=>True) (okp:=fun _=>True) rfl (fun _ hk=>hk) trivial (asm) (Nat.le_trans (Nat.mul_le_mul_right _ (asm:(l0.length:Int).toNat≤35184372088832)) (by omega)) (Below.refl _ _) (Nat.le_refl _) ?_;intro I w4 i hb hg_ hnew_;clear hg_ hnew_;(first|rw[←g.out]at i|(simp only[Int.reduceToNat]at i;rw[←g.out]at i));have m:=am (Kd.R_lower i (below_size bel));replace HB:=b2 hb;clear hb i))
  go_loopg [4] k (fun kq v4 w'=>∃(c:List Int) (a:Int),v4=.int .i64 a∧Aside0 (laws_toIntS.l0 kq l0 c a=some r)∧Aside0 (kq≤k)∧Aside0 (Kd.R (Kd.int .i64) 3 w' w.heap.size (fun _=>True) I c)∧Aside0 (Below w.heap.size w w'))
  case atStart=>exact⟨(J),(0),(es),H,⟨Nat.le_refl _⟩,⟨rk m.out⟩,⟨bel⟩⟩
  case round=>
   clear H
   try clear c2;try clear u;try clear v;try clear x;try clear j
   obtain⟨c,a,rfl,HA,t,b,HB⟩:=hrel
   cases gk with
   |zero=>exact absurd HA.out (by simp [laws_toIntS.l0])
   |succ k1=>
    have H:=HA.out
    clear HA
    simp only[laws_toIntS.l0]at H
    replace H:=i1 H;obtain⟨y,H⟩|⟨y,H⟩:=H
    ·replace H:=i0 H;obtain⟨U,H⟩:=H
     replace H:=i0 H;obtain⟨W,H⟩:=H
     generalize hy127:(c.set (a:Int).toNat (rd l0 a):List Int)=l at H
     have o:=am hy127.symm
     clear hy127
     replace H:=am H
     have:(0≤(a:Int))=True:=ab
     have:(a<(l0.length:Int))=True:=ab
     obtain⟨L,z,E⟩:=hc1 HB.out (Kd.at_int n.out a asm asm)
     cases z
     have p9:0≤(a:Int):=asm
     have q9:(a:Int)<((c.length:Int):Int):=asm
     obtain⟨D,M,A,B,O,Y,s⟩:=Kd.R_form b.out (by omega)
     (first|cases A|(injection A with ea_ en_ ec_;(first|subst ea_|(injection ea_ with ea_;subst ea_));subst ec_;clear en_))
     have K:=am B
     have X:=am s
     clear B O s
     obtain⟨T,P⟩:=Kd.R_celln 0 b.out (a:Int) p9 q9
     replace p9:=eq_true p9
     replace q9:=eq_true q9
     have d:=Kd.R_putg b.out (a:Int) (rd l0 a)
     go_wp2_with (first|((with_reducible refine gs 3 20 ?_);refine sv 3 20 ?_;intro p hw;have hg:wr.grownBy p (some D):=(by rw[hw];exact d.2);have hp_:Kd.R (Kd.int .i64) 3 p w.heap.size (fun _=>True) (.slice (some ⟨D,0,none⟩) c.length M) l:=(by rw[hw,o.out];exact d.1);clear d;replace b:=am (hp_);replace HB:=am ((by rw[hw];exact below_set (HB.out) K.out:Below w.heap.size w p));clear hg hw hp_))
     go_roundg k1
     case measure=>have:=t.out;omega
     case rel=>exact⟨(l),(wrap64 (a+1)),(es),H,⟨by have:=t.out;omega⟩,⟨rk b.out⟩,⟨bel⟩⟩
    ·obtain rfl:=qj1 H
     go_wp2
     go_ret
     exact⟨_,er,rk b.out,bel⟩
 ·rw[if_neg c2]at H
  exact absurd H (by simp)
def laws_toRules.f(k:Nat)(a:Int)(b:Int)(c:Int)(e:List Int)(d:Bool):Option (Int×Int×Int×List Int×Bool):=(laws_toIntS.f k e).bind fun g=>(some (a,b,c,g,d))
theorem laws_toRules.calls(k:Nat)(n:Int)(o:Int)(p:Int)(r:Option Addr)(t:Nat)(d:List Int)(q:Bool)(r1:Int)(r2:Int)(r3:Int)(r4:List Int)(r5:Bool)(w:World)(i:Kd.C (Kd.int .i64) w r d.length d)(g:d.length≤t)(h:laws_toRules.f k n o p d q=some (r1,r2,r3,r4,r5)):Calls Tryz.prog 24 #[.agg #[.int .i64 n,.int .i64 o,.int .i64 p,.slice r d.length t,.bool q]] w fun e w'=>∃G:Value,e=.returned (.agg #[.int .i64 r1,.int .i64 r2,.int .i64 r3,G,.bool r5])∧Kd.R (Kd.int .i64) 3 w' w.heap.size (fun _=>True) G r4∧Below w.heap.size w w':=by
 have O:=Tryz.underlying25
 have P:=Tryz.underlying32
 replace i:=am i
 replace g:=am g
 have HB:=qb w
 have H:=h
 unfold laws_toRules.f at H
 clear h
 replace H:=bm H;obtain⟨u,A2,H⟩:=H
 obtain⟨rfl,rfl,rfl,rfl,rfl⟩:=qj5 H
 go_enter Tryz.func24,Tryz.ntmps24
 go_wp2_with (first|((with_reducible refine gd 1 ?_);refine bx w 1 #[.int .i64 n,.int .i64 o,.int .i64 p,.slice r d.length t,.bool q] 25 ?_;clear HB;intro L w3 a I HB)|((with_reducible refine gd 2 ?_);refine by_ w 2 #[.int .i64 0,.int .i64 0,.int .i64 0,.slice none 0 0,.bool false] 32 ?_;clear HB;intro z hg w4 b J hb HB;obtain⟨j,v⟩:=qn hg a;replace a:=b1 a hb;clear hb hg)|((with_reducible refine gd 3 ?_);refine by_ w 3 #[.int .i64 0,.int .i64 0,.int .i64 0,.slice none 0 0,.bool false] 32 ?_;clear HB;intro M hg w5 c K hb HB;obtain⟨l,y⟩:=qn hg a;obtain⟨x,m⟩:=qn hg b;replace a:=b1 a hb;replace b:=b1 b hb;clear hb hg;obtain⟨_,_⟩:=qo j;obtain⟨_,_⟩:=qo l;obtain⟨_,_,_,_,_,_,_,_,_,_⟩:=cf5 a.out;obtain⟨_,_⟩:=qo m;obtain⟨_,_,_,_,_,_,_,_,_,_⟩:=cf5 c.out)|((with_reducible refine gc 26 ?_);refine gl 15 Tryz.func26 (laws_toIntS.calls k _ _ d u _ (Kd.C_below i.out bel) g.out A2.out) ?_;rintro e U ⟨T,rfl,E,hb⟩;refine⟨_,rfl,?_⟩;have s:=am (Kd.R_lower E (below_size bel));replace a:=b1 a hb;replace b:=b1 b hb;replace c:=bq c hb;replace HB:=b2 hb;(try clear hb);(try clear E);obtain⟨A,B,D⟩:=Kd.R_slice s.out;subst D;obtain⟨_,_,_,_,_,_,_,_,_,_⟩:=cf5 c.out;obtain⟨_,_,_,_,_,_,_,_,_,_⟩:=cf5 a.out;obtain⟨_,_,_,_,_,_,_,_,_,_⟩:=cf5 b.out))
 refine bodyPost_ret (results_cell_row rfl _ _ z 32 #[.int .i64 n,.int .i64 o,.int .i64 p,.slice A u.length B,.bool q] (0,0) _ rfl (bz b) Tryz.underlying32 rfl (by kernel_rfl)) rfl ?_
 exact⟨_,er,(kf (Kd.R_types (Kd.R_types s.out c.out (by decide)) b.out (by decide)) (fun _ hk=>trivial)),bel⟩
def laws_toGame.f(a:Int)(b:Int)(c:Int)(d:Int)(e:Int):Option (Int×Int×Int×Int×Int):=some (a,b,c,d,e)
theorem laws_toGame.calls(i:Int)(j:Int)(k:Int)(l:Int)(m:Int)(r1:Int)(r2:Int)(r3:Int)(r4:Int)(r5:Int)(w:World)(h:laws_toGame.f i j k l m=some (r1,r2,r3,r4,r5)):Calls Tryz.prog 47 #[.agg #[.int .i64 i,.int .i64 j,.int .i64 k,.int .i64 l,.int .i64 m]] w fun e w'=>e=.returned (.agg #[.int .i64 r1,.int .i64 r2,.int .i64 r3,.int .i64 r4,.int .i64 r5])∧Below w.heap.size w w':=by
 have z:=Tryz.underlying86
 have y:=Tryz.underlying79
 have HB:=qb w
 have H:=h
 unfold laws_toGame.f at H
 clear h
 obtain⟨rfl,rfl,rfl,rfl,rfl⟩:=qj5 H
 go_enter Tryz.func47,Tryz.ntmps47
 go_wp2_with (first|((with_reducible refine gd 1 ?_);refine bx w 1 #[.int .i64 i,.int .i64 j,.int .i64 k,.int .i64 l,.int .i64 m] 86 ?_;clear HB;intro v w2 a s HB)|((with_reducible refine gd 2 ?_);refine by_ w 2 #[.int .i64 0,.int .i64 0,.int .i64 0,.int .i64 0,.int .i64 0] 79 ?_;clear HB;intro r hg w3 b t hb HB;obtain⟨c,o⟩:=qn hg a;replace a:=b1 a hb;clear hb hg)|((with_reducible refine gd 3 ?_);refine by_ w 3 #[.int .i64 0,.int .i64 0,.int .i64 0,.int .i64 0,.int .i64 0] 79 ?_;clear HB;intro x hg w4 n u hb HB;obtain⟨d,q⟩:=qn hg a;obtain⟨p,g⟩:=qn hg b;replace a:=b1 a hb;replace b:=b1 b hb;clear hb hg;obtain⟨_,_⟩:=qo c;obtain⟨_,_⟩:=qo d;obtain⟨_,_,_,_,_,_,_,_,_,_⟩:=cf5 a.out;obtain⟨_,_⟩:=qo g;obtain⟨_,_,_,_,_,_,_,_,_,_⟩:=cf5 n.out;obtain⟨_,_,_,_,_,_,_,_,_,_⟩:=cf5 b.out))
 refine bodyPost_ret (results_cell_row rfl _ _ r 79 #[.int .i64 i,.int .i64 j,.int .i64 k,.int .i64 l,.int .i64 m] (0,0) _ rfl (bz b) Tryz.underlying79 rfl (by kernel_rfl)) rfl ?_
 exact⟨er,bel⟩
def laws_toGameS.l0:Nat→List (S86)→List (S79)→Int→Option ((List (S79)))
  |0,_,_,_=>none
  |k+1,x0,x3,x4=>if x4<(x0.length:Int)then(if 0≤x4 then((laws_toGame.f ((rd_T86 x0 x4).f0) ((rd_T86 x0 x4).f1) ((rd_T86 x0 x4).f2) ((rd_T86 x0 x4).f3) ((rd_T86 x0 x4).f4)).bind fun a=>(if x4<(x3.length:Int)then(laws_toGameS.l0 k x0 (x3.set (x4:Int).toNat (⟨a.1,a.2.1,a.2.2.1,a.2.2.2.1,a.2.2.2.2⟩:S79)) (wrap64 (x4+1)))else(none)))else(none))else(some x3)
def laws_toGameS.f(k:Nat)(l0:List (S86)):Option ((List (S79))):=if 0≤(l0.length:Int)then(if((l0.length:Int):Int).toNat≤7036874417766 then(laws_toGameS.l0 k l0 (List.replicate ((l0.length:Int):Int).toNat z79) 0)else(none))else(none)
theorem laws_toGameS.calls(k:Nat)(A0:Option Addr)(c0:Nat)(l0:List (S86))(r:List (S79))(w:World)(ad:Kd.C k86 w A0 l0.length l0)(aj:l0.length≤c0)(h:laws_toGameS.f k l0=some r):Calls Tryz.prog 25 #[.slice A0 l0.length c0] w fun e w'=>∃az:Value,e=.returned (az)∧Kd.R k79 79 w' w.heap.size (fun _=>True) az r∧Below w.heap.size w w':=by
 have aU:=Tryz.underlying86
 have aT:=Tryz.underlying79
 replace ad:=am ad
 replace aj:=am aj
 have HB:=qb w
 have H:=h
 unfold laws_toGameS.f at H
 clear h
 by_cases c2:0≤(l0.length:Int)
 ·rw[if_pos c2]at H
  have al:=eq_true c2
  have an:decide (0≤(l0.length:Int))=true:=decide_eq_true c2
  clear c2
  replace H:=i0 H;obtain⟨T,H⟩:=H
  have ao:=eq_true (of_decide_eq_true T)
  generalize hy137:(List.replicate ((l0.length:Int):Int).toNat z79:List (S79))=aB at H
  have x:=am hy137.symm
  clear hy137
  replace H:=am H
  go_enter Tryz.func25,Tryz.ntmps25
  go_wp2_with (first|((with_reducible refine gate_dst (N:=7) rfl ?_);refine Kd.R_make k79 _ 79 rfl (N:=7) rfl 33 _ _ rfl (l0.length:Int) rfl rfl Tryz.underlying33 (.agg #[(.int .i64 0),(.int .i64 0),(.int .i64 0),(.int .i64 0),(.int .i64 0)]) 40 info79 rfl (by decide) (by omega) z79 (ok:=fun _=>True) (okp:=fun _=>True) (k79_mkM _ _ _ z79) (fun _ hk=>hk) trivial (asm) (Nat.le_trans (Nat.mul_le_mul_right _ (asm:(l0.length:Int).toNat≤7036874417766)) (by omega)) (Below.refl _ _) (Nat.le_refl _) ?_;intro aA w4 z hb hg_ hnew_;clear hg_ hnew_;(first|rw[←x.out]at z|(simp only[Int.reduceToNat]at z;rw[←x.out]at z));have ac:=am (Kd.R_lower z (below_size bel));replace HB:=b2 hb;clear hb z))
  go_loopg [4] k (fun kq v4 w'=>∃(b:List (S79)) (a:Int),v4=.int .i64 a∧Aside0 (laws_toGameS.l0 kq l0 b a=some r)∧Aside0 (kq≤k)∧Aside0 (Kd.R k79 79 w' w.heap.size (fun _=>True) aA b)∧Aside0 (Below w.heap.size w w'))
  case atStart=>exact⟨(aB),(0),(es),H,⟨Nat.le_refl _⟩,⟨rk ac.out⟩,⟨bel⟩⟩
  case round=>
   clear H
   try clear c2;try clear al;try clear an;try clear ao;try clear T
   obtain⟨b,a,rfl,HA,ak,d,HB⟩:=hrel
   cases gk with
   |zero=>exact absurd HA.out (by simp [laws_toGameS.l0])
   |succ k1=>
    have H:=HA.out
    clear HA
    simp only[laws_toGameS.l0]at H
    replace H:=i1 H;obtain⟨ap,H⟩|⟨ap,H⟩:=H
    ·replace H:=i0 H;obtain⟨aO,H⟩:=H
     replace H:=bm H;obtain⟨⟨p,q,s,t,u⟩,A8,H⟩:=H;dsimp only at H
     replace H:=i0 H;obtain⟨aP,H⟩:=H
     generalize hy146:(b.set (a:Int).toNat (⟨p,q,s,t,u⟩:S79):List (S79))=aa at H
     have ae:=am hy146.symm
     clear hy146
     replace H:=am H
     have:(0≤(a:Int))=True:=ab
     have:(a<(l0.length:Int))=True:=ab
     obtain⟨aM,aq,au,av,aw,ax,ay⟩:=hc5 HB.out (at_T86 ad.out a asm asm)
     cases aq
     go_wp2_with (first|((with_reducible refine gc 47 ?_);refine gl 20 Tryz.func47 (laws_toGame.calls ((rd_T86 l0 a).f0) ((rd_T86 l0 a).f1) ((rd_T86 l0 a).f2) ((rd_T86 l0 a).f3) ((rd_T86 l0 a).f4) p q s t u _ A8.out) ?_;rintro e n ⟨rfl,hb⟩;refine⟨_,rfl,?_⟩;replace d:=rb d hb;replace HB:=b2 hb;(try clear hb);have ag:0≤(a:Int):=asm;have ah:(a:Int)<((b.length:Int):Int):=asm;obtain⟨c,U,W,X,ar,aS,O⟩:=Kd.R_form d.out (by omega);(first|cases W|(injection W with ea_ en_ ec_;(first|subst ea_|(injection ea_ with ea_;subst ea_));subst ec_;clear en_));have o:=am X;have aN:=am O;clear X ar O;obtain⟨aQ,af,Y,i,l⟩:=Kd.R_elem d.out z79 (a:Int) ag ah;obtain rfl:=k79_openM Y;have aH:n.cell? ⟨c,(a:Int).toNat*5,none⟩=some (.int .i64 ((rd_T79 b a).f0)):=i 0 _ rfl;have aI:n.cell? ⟨c,(a:Int).toNat*5+1,none⟩=some (.int .i64 ((rd_T79 b a).f1)):=i 1 _ rfl;have aJ:n.cell? ⟨c,(a:Int).toNat*5+2,none⟩=some (.int .i64 ((rd_T79 b a).f2)):=i 2 _ rfl;have aK:n.cell? ⟨c,(a:Int).toNat*5+3,none⟩=some (.int .i64 ((rd_T79 b a).f3)):=i 3 _ rfl;have aL:n.cell? ⟨c,(a:Int).toNat*5+4,none⟩=some (.int .i64 ((rd_T79 b a).f4)):=i 4 _ rfl;have aC:n.frozen? ⟨c,(a:Int).toNat*5,none⟩=false:=l 0;have aD:n.frozen? ⟨c,(a:Int).toNat*5+1,none⟩=false:=l 1;have aE:n.frozen? ⟨c,(a:Int).toNat*5+2,none⟩=false:=l 2;have aF:n.frozen? ⟨c,(a:Int).toNat*5+3,none⟩=false:=l 3;have aG:n.frozen? ⟨c,(a:Int).toNat*5+4,none⟩=false:=l 4;clear af i l;(try clear Y);replace ag:=eq_true ag;replace ah:=eq_true ah;have P:=am (show Kd.R k79 79 n w.heap.size (fun _=>True) (.slice (some ⟨c,0,none⟩) b.length U) b from(rk d.out));obtain⟨aR,y,Z,g,m⟩:=Kd.R_elem P.out z79 (a:Int) (asm) (by have h_:(a:Int)<((b.length:Int):Int):=asm;first|exact h_|(have e_:=(Kd.R_reads' d.out).1;omega)|simpa using h_);obtain rfl:=k79_openM Z;have v:=Kd.R_seg P.out (a:Int) (asm) (by have h_:(a:Int)<((b.length:Int):Int):=asm;first|exact h_|(have e_:=(Kd.R_reads' d.out).1;omega)|simpa using h_) (seg:=[.int .i64 p,.int .i64 q,.int .i64 s,.int .i64 t,.int .i64 u]) (j:=0) y g (show 5≤5 from by decide) (x':=(⟨p,q,s,t,u⟩:S79)) (k79_mkM _ _ _ (⟨p,q,s,t,u⟩:S79)) (fun _ hk=>hk);have I:=g 0 _ rfl;(try simp only[show(k79).sz=5 from rfl,Nat.mul_one,Nat.add_zero]at I);have A:=m 0;(try simp only[show(k79).sz=5 from rfl,Nat.mul_one,Nat.add_zero]at A);have J:=g 1 _ rfl;(try simp only[show(k79).sz=5 from rfl,Nat.mul_one,Nat.add_zero]at J);have B:=m 1;(try simp only[show(k79).sz=5 from rfl,Nat.mul_one,Nat.add_zero]at B);have K:=g 2 _ rfl;(try simp only[show(k79).sz=5 from rfl,Nat.mul_one,Nat.add_zero]at K);have D:=m 2;(try simp only[show(k79).sz=5 from rfl,Nat.mul_one,Nat.add_zero]at D);have L:=g 3 _ rfl;(try simp only[show(k79).sz=5 from rfl,Nat.mul_one,Nat.add_zero]at L);have E:=m 3;(try simp only[show(k79).sz=5 from rfl,Nat.mul_one,Nat.add_zero]at E);have M:=g 4 _ rfl;(try simp only[show(k79).sz=5 from rfl,Nat.mul_one,Nat.add_zero]at M);have G:=m 4;(try simp only[show(k79).sz=5 from rfl,Nat.mul_one,Nat.add_zero]at G);clear y g m Z)|((with_reducible refine gs 79 21 ?_);refine sv 79 21 ?_;intro ai hw;have hg:n.grownBy ai (some c):=(by rw[hw];exact v.2);have hp_:Kd.R k79 79 ai w.heap.size (fun _=>True) (.slice (some ⟨c,0,none⟩) b.length U) aa:=(by rw[hw,ae.out];exact v.1);clear v;replace d:=am (hp_);replace HB:=am ((by rw[hw];exact below_set (below_set (below_set (below_set (below_set (HB.out) o.out) o.out) o.out) o.out) o.out:Below w.heap.size w ai));clear hg hw hp_))
     go_roundg k1
     case measure=>have:=ak.out;omega
     case rel=>exact⟨(aa),(wrap64 (a+1)),(es),H,⟨by have:=ak.out;omega⟩,⟨rk d.out⟩,⟨bel⟩⟩
    ·obtain rfl:=qj1 H
     go_wp2
     go_ret
     exact⟨_,er,rk d.out,bel⟩
 ·rw[if_neg c2]at H
  exact absurd H (by simp)
def laws_toBook.f(k:Nat)(g:List (S82))(b:Int)(c:Int)(d:Int)(h:List Int)(e:Bool)(i:List (S86))(j:List Int)(l:List Int):Option ((List (S83))×Int×Int×Int×List Int×Bool×(List (S79))×List Int×List Int):=(laws_toTeamS.f k g).bind fun m=>((laws_toRules.f k b c d h e).bind fun a=>((laws_toGameS.f k i).bind fun n=>((laws_toIntS.f k j).bind fun o=>((laws_toIntS.f k l).bind fun p=>(some (m,a.1,a.2.1,a.2.2.1,a.2.2.2.1,a.2.2.2.2,n,o,p))))))
theorem laws_toBook.calls(k:Nat)(M:Option Addr)(X:Nat)(m:List (S82))(I:Int)(J:Int)(K:Int)(O:Option Addr)(Y:Nat)(n:List Int)(L:Bool)(P:Option Addr)(Z:Nat)(o:List (S86))(T:Option Addr)(aa:Nat)(p:List Int)(U:Option Addr)(ac:Nat)(q:List Int)(r1:List (S83))(r2:Int)(r3:Int)(r4:Int)(r5:List Int)(r6:Bool)(r7:List (S79))(r8:List Int)(r9:List Int)(w:World)(x:Kd.C k82 w M m.length m)(r:m.length≤X)(y:Kd.C (Kd.int .i64) w O n.length n)(s:n.length≤Y)(z:Kd.C k86 w P o.length o)(t:o.length≤Z)(A:Kd.C (Kd.int .i64) w T p.length p)(u:p.length≤aa)(B:Kd.C (Kd.int .i64) w U q.length q)(v:q.length≤ac)(h:laws_toBook.f k m I J K n L o p q=some (r1,r2,r3,r4,r5,r6,r7,r8,r9)):Calls Tryz.prog 7 #[.agg #[.slice M m.length X,.int .i64 I,.int .i64 J,.int .i64 K,.slice O n.length Y,.bool L,.slice P o.length Z,.slice T p.length aa,.slice U q.length ac]] w fun e w'=>∃aL ad v6_ ae af:Value,e=.returned (.agg #[aL,.int .i64 r2,.int .i64 r3,.int .i64 r4,ad,.bool r6,v6_,ae,af])∧Kd.R k83 83 w' w.heap.size (fun _=>True) aL r1∧Kd.R (Kd.int .i64) 3 w' w.heap.size (fun k_=>some k_≠(ae:Value).ownBlock∧some k_≠(af:Value).ownBlock) ad r5∧Kd.R k79 79 w' w.heap.size (fun _=>True) v6_ r7∧Kd.R (Kd.int .i64) 3 w' w.heap.size (fun k_=>some k_≠(ad:Value).ownBlock∧some k_≠(af:Value).ownBlock) ae r8∧Kd.R (Kd.int .i64) 3 w' w.heap.size (fun k_=>some k_≠(ad:Value).ownBlock∧some k_≠(ae:Value).ownBlock) af r9∧Below w.heap.size w w':=by
 have aS:=Tryz.underlying28
 have aU:=Tryz.underlying35
 have aR:=Tryz.underlying25
 have aT:=Tryz.underlying32
 replace x:=am x
 replace r:=am r
 replace y:=am y
 replace s:=am s
 replace z:=am z
 replace t:=am t
 replace A:=am A
 replace u:=am u
 replace B:=am B
 replace v:=am v
 have HB:=qb w
 have H:=h
 unfold laws_toBook.f at H
 clear h
 replace H:=bm H;obtain⟨ag,A2,H⟩:=H
 replace H:=bm H;obtain⟨⟨ah,ai,aj,ak,al⟩,A3,H⟩:=H;dsimp only at H
 replace H:=bm H;obtain⟨an,A4,H⟩:=H
 replace H:=bm H;obtain⟨ao,A5,H⟩:=H
 replace H:=bm H;obtain⟨ap,A6,H⟩:=H
 obtain⟨rfl,rfl,rfl,rfl,rfl,rfl,rfl,rfl,rfl⟩:=qj9 H
 go_enter Tryz.func7,Tryz.ntmps7
 go_wp2_with (first|((with_reducible refine gd 1 ?_);refine bx w 1 #[.slice M m.length X,.int .i64 I,.int .i64 J,.int .i64 K,.slice O n.length Y,.bool L,.slice P o.length Z,.slice T p.length aa,.slice U q.length ac] 28 ?_;clear HB;intro aP w7 b aM HB)|((with_reducible refine gd 2 ?_);refine by_ w 2 #[.slice none 0 0,.int .i64 0,.int .i64 0,.int .i64 0,.slice none 0 0,.bool false,.slice none 0 0,.slice none 0 0,.slice none 0 0] 35 ?_;clear HB;intro av hg w8 c aN hb HB;obtain⟨D,aq⟩:=qn hg b;replace b:=b1 b hb;clear hb hg)|((with_reducible refine gd 3 ?_);refine by_ w 3 #[.slice none 0 0,.int .i64 0,.int .i64 0,.int .i64 0,.slice none 0 0,.bool false,.slice none 0 0,.slice none 0 0,.slice none 0 0] 35 ?_;clear HB;intro aQ hg w9 a aO hb HB;obtain⟨E,au⟩:=qn hg b;obtain⟨ar,G⟩:=qn hg c;replace b:=b1 b hb;replace c:=b1 c hb;clear hb hg;obtain⟨_,_⟩:=qo D;obtain⟨_,_⟩:=qo E;obtain⟨_,_,_,_,_,_,_,_,_,_,_,_,_,_,_,_,_,_⟩:=cf9 b.out)|((with_reducible refine gc 23 ?_);refine gl 6 Tryz.func23 (laws_toTeamS.calls k _ _ m ag _ (cb x HB) r.out A2.out) ?_;rintro e a0 ⟨aV,rfl,i,hb⟩;refine⟨_,rfl,?_⟩;have d:=am (Kd.R_lower i (below_size bel));replace b:=b1 b hb;replace c:=b1 c hb;replace a:=b1 a hb;replace HB:=b2 hb;(try clear hb);(try clear i);obtain⟨aw,aB,aG⟩:=Kd.R_slice d.out;subst aG;obtain⟨_,_⟩:=qo G;obtain⟨_,_,_,_,_,_,_,_,_,_,_,_,_,_,_,_,_,_⟩:=cf9 a.out;obtain⟨_,_,_,_,_,_,_,_,_,_,_,_,_,_,_,_,_,_⟩:=cf9 b.out)|((with_reducible refine gc 24 ?_);refine gl 10 Tryz.func24 (laws_toRules.calls k I J K _ _ n L ah ai aj ak al _ (Kd.C_below y.out bel) s.out A3.out) ?_;rintro e a1 ⟨aW,rfl,i,hb⟩;refine⟨_,rfl,?_⟩;have g:=am (Kd.R_lower i (below_size bel));replace d:=am (Kd.R_below (kf (Kd.R_types d.out a.out (by decide)) (fun _ h_=>h_.1)) hb);replace b:=b1 b hb;replace c:=b1 c hb;replace a:=bq a hb;replace HB:=b2 hb;(try clear hb);(try clear i);obtain⟨_,_,_,_,_,_,_,_,_,_,_,_,_,_,_,_,_,_⟩:=cf9 a.out;obtain⟨ax,aC,aH⟩:=Kd.R_slice g.out;subst aH;obtain⟨_,_,_,_,_,_,_,_,_,_,_,_,_,_,_,_,_,_⟩:=cf9 b.out)|((with_reducible refine gc 25 ?_);refine gl 14 Tryz.func25 (laws_toGameS.calls k _ _ o an _ (Kd.C_below z.out bel) t.out A4.out) ?_;rintro e a2 ⟨aX,rfl,i,hb⟩;refine⟨_,rfl,?_⟩;have j:=am (Kd.R_lower i (below_size bel));replace d:=am (Kd.R_below (kf (Kd.R_types d.out a.out (by decide)) (fun _ h_=>h_.1)) hb);replace g:=am (Kd.R_below (kf (Kd.R_types g.out a.out (by decide)) (fun _ h_=>h_.1)) hb);replace b:=b1 b hb;replace c:=b1 c hb;replace a:=bq a hb;replace HB:=b2 hb;(try clear hb);(try clear i);obtain⟨ay,aD,aI⟩:=Kd.R_slice j.out;subst aI;obtain⟨_,_,_,_,_,_,_,_,_,_,_,_,_,_,_,_,_,_⟩:=cf9 a.out;obtain⟨_,_,_,_,_,_,_,_,_,_,_,_,_,_,_,_,_,_⟩:=cf9 b.out)|((with_reducible refine gc 26 ?_);refine gl 18 Tryz.func26 (laws_toIntS.calls k _ _ p ao _ (Kd.C_below A.out bel) u.out A5.out) ?_;rintro e a3 ⟨aY,rfl,i,hb⟩;refine⟨_,rfl,?_⟩;have l:=am (Kd.R_lower (Kd.R_new' i (Kd.R_lt (kf (Kd.R_types g.out a.out (by decide)) (fun _ h_=>h_.1)))) (below_size bel));replace d:=am (Kd.R_below (kf (Kd.R_types d.out a.out (by decide)) (fun _ h_=>h_.1)) hb);replace g:=am (Kd.R_elder' (kf (Kd.R_types g.out a.out (by decide)) (fun _ h_=>h_.1)) (Kd.R_base i) hb);replace j:=am (Kd.R_below (kf (Kd.R_types j.out a.out (by decide)) (fun _ h_=>h_.1)) hb);replace b:=b1 b hb;replace c:=b1 c hb;replace a:=bq a hb;replace HB:=b2 hb;(try clear hb);(try clear i);obtain⟨az,aE,aJ⟩:=Kd.R_slice l.out;subst aJ;obtain⟨_,_,_,_,_,_,_,_,_,_,_,_,_,_,_,_,_,_⟩:=cf9 a.out;obtain⟨_,_,_,_,_,_,_,_,_,_,_,_,_,_,_,_,_,_⟩:=cf9 b.out)|((with_reducible refine gc 26 ?_);refine gl 22 Tryz.func26 (laws_toIntS.calls k _ _ q ap _ (Kd.C_below B.out bel) v.out A6.out) ?_;rintro e a4 ⟨aZ,rfl,i,hb⟩;refine⟨_,rfl,?_⟩;have W:=am (Kd.R_lower (Kd.R_new' (Kd.R_new' i (Kd.R_lt (kf (Kd.R_types g.out a.out (by decide)) (fun _ h_=>h_.1)))) (Kd.R_lt (kf (Kd.R_types l.out a.out (by decide)) (fun _ h_=>h_.1)))) (below_size bel));replace d:=am (Kd.R_below (kf (Kd.R_types d.out a.out (by decide)) (fun _ h_=>h_.1)) hb);replace g:=am (Kd.R_elder' (kf (Kd.R_types g.out a.out (by decide)) (fun _ h_=>h_.1)) (Kd.R_base i) hb);replace j:=am (Kd.R_below (kf (Kd.R_types j.out a.out (by decide)) (fun _ h_=>h_.1)) hb);replace l:=am (Kd.R_elder' (kf (Kd.R_types l.out a.out (by decide)) (fun _ h_=>h_.1)) (Kd.R_base i) hb);replace b:=b1 b hb;replace c:=b1 c hb;replace a:=bq a hb;replace HB:=b2 hb;(try clear hb);(try clear i);obtain⟨aA,aF,aK⟩:=Kd.R_slice W.out;subst aK;obtain⟨_,_,_,_,_,_,_,_,_,_,_,_,_,_,_,_,_,_⟩:=cf9 a.out;obtain⟨_,_,_,_,_,_,_,_,_,_,_,_,_,_,_,_,_,_⟩:=cf9 c.out))
 refine bodyPost_ret (results_cell_row rfl _ _ av 35 #[.slice aw ag.length aB,.int .i64 ah,.int .i64 ai,.int .i64 aj,.slice ax ak.length aC,.bool al,.slice ay an.length aD,.slice az ao.length aE,.slice aA ap.length aF] (0,0) _ rfl (bz c) Tryz.underlying35 rfl (by kernel_rfl)) rfl ?_
 exact⟨_,_,_,_,_,er,(kf (Kd.R_types (Kd.R_types d.out a.out (by decide)) c.out (by decide)) (fun _ hk=>trivial)),(kf (Kd.R_types (Kd.R_types g.out a.out (by decide)) c.out (by decide)) (fun _ hk=>⟨hk.1.1.1.2,hk.1.1.2⟩)),(kf (Kd.R_types (Kd.R_types j.out a.out (by decide)) c.out (by decide)) (fun _ hk=>trivial)),(kf (Kd.R_types (Kd.R_types l.out a.out (by decide)) c.out (by decide)) (fun _ hk=>⟨hk.1.1.1.2,hk.1.1.2⟩)),(kf (Kd.R_types (Kd.R_types W.out a.out (by decide)) c.out (by decide)) (fun _ hk=>⟨hk.1.1.1.2,hk.1.1.2⟩)),bel⟩
end Go.Proofs.YtgalpgakdcfilaaGreat.L
