-- Written by a program of this session (wip/xp.py).
import Derived.Test.YtgalpgakdcfilaaGreatL0
import Derived.Test.YtgalpgakdcfilaaGreatL5
namespace Go.Proofs.YtgalpgakdcfilaaGreat.L
open Go.RowKit Go.Proofs.YtgalpgakdcfilaaGreatW.PrintWords Go.Proofs.YtgalpgakdcfilaaGreatW.PrintLast Go.Proofs.YtgalpgakdcfilaaGreatW.PrintMore
attribute [local go_sem] max2_int min2_int max_two min_two max_three min_three max_four min_four
set_option linter.unusedVariables false
set_option linter.unusedSimpArgs false
set_option maxHeartbeats 8000000
set_option maxRecDepth 100000
def laws_eqBook.f(k:Nat)(j:List (S83))(a:Int)(b:Int)(c:Int)(l:List Int)(d:Bool)(m:List (S79))(n:List Int)(o:List Int)(p:List (S83))(e:Int)(g:Int)(h:Int)(q:List Int)(i:Bool)(r:List (S79))(s:List Int)(t:List Int):Option (Bool):=(laws_eqTeamS.f k j p).bind fun u=>(if u=true then((laws_eqRules.f k a b c l d e g h q i).bind fun v=>(if v=true then((laws_eqGameS.f k m r).bind fun w=>(if w=true then((laws_eqIntS.f k n s).bind fun x=>(if x=true then((laws_eqIntS.f k o t).bind fun y=>(if y=true then(some true)else(some false)))else(some false)))else(some false)))else(some false)))else(some false))
theorem laws_eqBook.calls(k:Nat)(W:Option Addr)(ah:Nat)(d:List (S83))(q:Int)(s:Int)(t:Int)(X:Option Addr)(ai:Nat)(i:List Int)(u:Bool)(Y:Option Addr)(aj:Nat)(m:List (S79))(Z:Option Addr)(ak:Nat)(o:List Int)(aa:Option Addr)(al:Nat)(A:List Int)(ac:Option Addr)(an:Nat)(g:List (S83))(v:Int)(x:Int)(y:Int)(ad:Option Addr)(ao:Nat)(j:List Int)(z:Bool)(ae:Option Addr)(ap:Nat)(n:List (S79))(af:Option Addr)(aq:Nat)(p:List Int)(ag:Option Addr)(ar:Nat)(B:List Int)(r:Bool)(w:World)(G:Kd.C k83 w W d.length d)(D:d.length≤ah)(L:Kd.C (Kd.int .i64) w X i.length i)(J:i.length≤ai)(T:Kd.C k79 w Y m.length m)(O:m.length≤aj)(ay:Kd.C (Kd.int .i64) w Z o.length o)(aw:o.length≤ak)(aE:Kd.C (Kd.int .i64) w aa A.length A)(aC:A.length≤al)(I:Kd.C k83 w ac g.length g)(E:g.length≤an)(M:Kd.C (Kd.int .i64) w ad j.length j)(K:j.length≤ao)(U:Kd.C k79 w ae n.length n)(P:n.length≤ap)(az:Kd.C (Kd.int .i64) w af p.length p)(ax:p.length≤aq)(aF:Kd.C (Kd.int .i64) w ag B.length B)(aD:B.length≤ar)(h:laws_eqBook.f k d q s t i u m o A g v x y j z n p B=some r):Calls Tryz.prog 10 #[.agg #[.slice W d.length ah,.int .i64 q,.int .i64 s,.int .i64 t,.slice X i.length ai,.bool u,.slice Y m.length aj,.slice Z o.length ak,.slice aa A.length al],.agg #[.slice ac g.length an,.int .i64 v,.int .i64 x,.int .i64 y,.slice ad j.length ao,.bool z,.slice ae n.length ap,.slice af p.length aq,.slice ag B.length ar]] w fun e w'=>e=.returned (.bool r)∧Below w.heap.size w w':=by
 have aI:=Tryz.underlying35
 have aH:=Tryz.underlying32
 replace G:=am G
 replace D:=am D
 replace L:=am L
 replace J:=am J
 replace T:=am T
 replace O:=am O
 replace ay:=am ay
 replace aw:=am aw
 replace aE:=am aE
 replace aC:=am aC
 replace I:=am I
 replace E:=am E
 replace M:=am M
 replace K:=am K
 replace U:=am U
 replace P:=am P
 replace az:=am az
 replace ax:=am ax
 replace aF:=am aF
 replace aD:=am aD
 have HB:=qb w
 have H:=h
 unfold laws_eqBook.f at H
 clear h
 replace H:=bm H;obtain⟨aJ,A3,H⟩:=H
 replace H:=ib H;obtain⟨rfl,H⟩|⟨rfl,H⟩:=H
 ·replace H:=bm H;obtain⟨aK,A5,H⟩:=H
  replace H:=ib H;obtain⟨rfl,H⟩|⟨rfl,H⟩:=H
  ·replace H:=bm H;obtain⟨aL,A7,H⟩:=H
   replace H:=ib H;obtain⟨rfl,H⟩|⟨rfl,H⟩:=H
   ·replace H:=bm H;obtain⟨aM,A9,H⟩:=H
    replace H:=ib H;obtain⟨rfl,H⟩|⟨rfl,H⟩:=H
    ·replace H:=bm H;obtain⟨aN,aG,H⟩:=H
     replace H:=ib H;obtain⟨rfl,H⟩|⟨rfl,H⟩:=H
     ·obtain rfl:=qj1 H
      go_enter Tryz.func10,Tryz.ntmps10
      go_wp2_with (first|((with_reducible refine gd 2 ?_);refine bx w 2 #[.slice W d.length ah,.int .i64 q,.int .i64 s,.int .i64 t,.slice X i.length ai,.bool u,.slice Y m.length aj,.slice Z o.length ak,.slice aa A.length al] 35 ?_;clear HB;intro aA aO a au HB)|((with_reducible refine gd 3 ?_);refine by_ w 3 #[.slice ac g.length an,.int .i64 v,.int .i64 x,.int .i64 y,.slice ad j.length ao,.bool z,.slice ae n.length ap,.slice af p.length aq,.slice ag B.length ar] 35 ?_;clear HB;intro aB hg aP b av hb HB;obtain⟨c,l⟩:=qn hg a;replace a:=b1 a hb;clear hb hg;obtain⟨_,_⟩:=qo c;obtain⟨_,_,_,_,_,_,_,_,_,_,_,_,_,_,_,_,_,_⟩:=cf9 a.out;obtain⟨_,_,_,_,_,_,_,_,_,_,_,_,_,_,_,_,_,_⟩:=cf9 b.out)|((with_reducible refine gc 27 ?_);refine gl 9 Tryz.func27 (laws_eqTeamS.calls k _ _ d _ _ g true _ (cb G HB) D.out (cb I HB) E.out A3.out) ?_;rintro e aQ ⟨rfl,hb⟩;refine⟨_,rfl,?_⟩;replace a:=b1 a hb;replace b:=b1 b hb;replace HB:=b2 hb;(try clear hb);obtain⟨_,_,_,_,_,_,_,_,_,_,_,_,_,_,_,_,_,_⟩:=cf9 a.out;obtain⟨_,_,_,_,_,_,_,_,_,_,_,_,_,_,_,_,_,_⟩:=cf9 b.out)|((with_reducible refine gc 28 ?_);refine gl 15 Tryz.func28 (laws_eqRules.calls k q s t _ _ i u v x y _ _ j z true _ (cb L HB) J.out (cb M HB) K.out A5.out) ?_;rintro e aR ⟨rfl,hb⟩;refine⟨_,rfl,?_⟩;replace a:=b1 a hb;replace b:=b1 b hb;replace HB:=b2 hb;(try clear hb);obtain⟨_,_,_,_,_,_,_,_,_,_,_,_,_,_,_,_,_,_⟩:=cf9 a.out;obtain⟨_,_,_,_,_,_,_,_,_,_,_,_,_,_,_,_,_,_⟩:=cf9 b.out)|((with_reducible refine gc 29 ?_);refine gl 21 Tryz.func29 (laws_eqGameS.calls k _ _ m _ _ n true _ (cb T HB) O.out (cb U HB) P.out A7.out) ?_;rintro e aS ⟨rfl,hb⟩;refine⟨_,rfl,?_⟩;replace a:=b1 a hb;replace b:=b1 b hb;replace HB:=b2 hb;(try clear hb);obtain⟨_,_,_,_,_,_,_,_,_,_,_,_,_,_,_,_,_,_⟩:=cf9 a.out;obtain⟨_,_,_,_,_,_,_,_,_,_,_,_,_,_,_,_,_,_⟩:=cf9 b.out)|((with_reducible refine gc 9 ?_);refine gl 27 Tryz.func9 (laws_eqIntS.calls k _ _ o _ _ p true _ (cb ay HB) aw.out (cb az HB) ax.out A9.out) ?_;rintro e w' ⟨rfl,⟨nd,rfl⟩⟩;refine⟨_,rfl,?_⟩)|((with_reducible refine gc 9 ?_);refine gl 33 Tryz.func9 (laws_eqIntS.calls k _ _ A _ _ B true _ (ck (Kd.C_below aE.out bel)) aC.out (ck (Kd.C_below aF.out bel)) aD.out aG.out) ?_;rintro e w' ⟨rfl,⟨nd,rfl⟩⟩;refine⟨_,rfl,?_⟩))
      go_ret
      exact⟨er,bel⟩
     ·obtain rfl:=qj1 H
      go_enter Tryz.func10,Tryz.ntmps10
      go_wp2_with (first|((with_reducible refine gd 2 ?_);refine bx w 2 #[.slice W d.length ah,.int .i64 q,.int .i64 s,.int .i64 t,.slice X i.length ai,.bool u,.slice Y m.length aj,.slice Z o.length ak,.slice aa A.length al] 35 ?_;clear HB;intro aA aT a au HB)|((with_reducible refine gd 3 ?_);refine by_ w 3 #[.slice ac g.length an,.int .i64 v,.int .i64 x,.int .i64 y,.slice ad j.length ao,.bool z,.slice ae n.length ap,.slice af p.length aq,.slice ag B.length ar] 35 ?_;clear HB;intro aB hg aU b av hb HB;obtain⟨c,l⟩:=qn hg a;replace a:=b1 a hb;clear hb hg;obtain⟨_,_⟩:=qo c;obtain⟨_,_,_,_,_,_,_,_,_,_,_,_,_,_,_,_,_,_⟩:=cf9 a.out;obtain⟨_,_,_,_,_,_,_,_,_,_,_,_,_,_,_,_,_,_⟩:=cf9 b.out)|((with_reducible refine gc 27 ?_);refine gl 9 Tryz.func27 (laws_eqTeamS.calls k _ _ d _ _ g true _ (cb G HB) D.out (cb I HB) E.out A3.out) ?_;rintro e aV ⟨rfl,hb⟩;refine⟨_,rfl,?_⟩;replace a:=b1 a hb;replace b:=b1 b hb;replace HB:=b2 hb;(try clear hb);obtain⟨_,_,_,_,_,_,_,_,_,_,_,_,_,_,_,_,_,_⟩:=cf9 a.out;obtain⟨_,_,_,_,_,_,_,_,_,_,_,_,_,_,_,_,_,_⟩:=cf9 b.out)|((with_reducible refine gc 28 ?_);refine gl 15 Tryz.func28 (laws_eqRules.calls k q s t _ _ i u v x y _ _ j z true _ (cb L HB) J.out (cb M HB) K.out A5.out) ?_;rintro e aW ⟨rfl,hb⟩;refine⟨_,rfl,?_⟩;replace a:=b1 a hb;replace b:=b1 b hb;replace HB:=b2 hb;(try clear hb);obtain⟨_,_,_,_,_,_,_,_,_,_,_,_,_,_,_,_,_,_⟩:=cf9 a.out;obtain⟨_,_,_,_,_,_,_,_,_,_,_,_,_,_,_,_,_,_⟩:=cf9 b.out)|((with_reducible refine gc 29 ?_);refine gl 21 Tryz.func29 (laws_eqGameS.calls k _ _ m _ _ n true _ (cb T HB) O.out (cb U HB) P.out A7.out) ?_;rintro e aX ⟨rfl,hb⟩;refine⟨_,rfl,?_⟩;replace a:=b1 a hb;replace b:=b1 b hb;replace HB:=b2 hb;(try clear hb);obtain⟨_,_,_,_,_,_,_,_,_,_,_,_,_,_,_,_,_,_⟩:=cf9 a.out;obtain⟨_,_,_,_,_,_,_,_,_,_,_,_,_,_,_,_,_,_⟩:=cf9 b.out)|((with_reducible refine gc 9 ?_);refine gl 27 Tryz.func9 (laws_eqIntS.calls k _ _ o _ _ p true _ (cb ay HB) aw.out (cb az HB) ax.out A9.out) ?_;rintro e w' ⟨rfl,⟨nd,rfl⟩⟩;refine⟨_,rfl,?_⟩)|((with_reducible refine gc 9 ?_);refine gl 33 Tryz.func9 (laws_eqIntS.calls k _ _ A _ _ B false _ (ck (Kd.C_below aE.out bel)) aC.out (ck (Kd.C_below aF.out bel)) aD.out aG.out) ?_;rintro e w' ⟨rfl,⟨nd,rfl⟩⟩;refine⟨_,rfl,?_⟩))
      go_ret
      exact⟨er,bel⟩
    ·obtain rfl:=qj1 H
     go_enter Tryz.func10,Tryz.ntmps10
     go_wp2_with (first|((with_reducible refine gd 2 ?_);refine bx w 2 #[.slice W d.length ah,.int .i64 q,.int .i64 s,.int .i64 t,.slice X i.length ai,.bool u,.slice Y m.length aj,.slice Z o.length ak,.slice aa A.length al] 35 ?_;clear HB;intro aA aY a au HB)|((with_reducible refine gd 3 ?_);refine by_ w 3 #[.slice ac g.length an,.int .i64 v,.int .i64 x,.int .i64 y,.slice ad j.length ao,.bool z,.slice ae n.length ap,.slice af p.length aq,.slice ag B.length ar] 35 ?_;clear HB;intro aB hg aZ b av hb HB;obtain⟨c,l⟩:=qn hg a;replace a:=b1 a hb;clear hb hg;obtain⟨_,_⟩:=qo c;obtain⟨_,_,_,_,_,_,_,_,_,_,_,_,_,_,_,_,_,_⟩:=cf9 a.out;obtain⟨_,_,_,_,_,_,_,_,_,_,_,_,_,_,_,_,_,_⟩:=cf9 b.out)|((with_reducible refine gc 27 ?_);refine gl 9 Tryz.func27 (laws_eqTeamS.calls k _ _ d _ _ g true _ (cb G HB) D.out (cb I HB) E.out A3.out) ?_;rintro e a0 ⟨rfl,hb⟩;refine⟨_,rfl,?_⟩;replace a:=b1 a hb;replace b:=b1 b hb;replace HB:=b2 hb;(try clear hb);obtain⟨_,_,_,_,_,_,_,_,_,_,_,_,_,_,_,_,_,_⟩:=cf9 a.out;obtain⟨_,_,_,_,_,_,_,_,_,_,_,_,_,_,_,_,_,_⟩:=cf9 b.out)|((with_reducible refine gc 28 ?_);refine gl 15 Tryz.func28 (laws_eqRules.calls k q s t _ _ i u v x y _ _ j z true _ (cb L HB) J.out (cb M HB) K.out A5.out) ?_;rintro e a1 ⟨rfl,hb⟩;refine⟨_,rfl,?_⟩;replace a:=b1 a hb;replace b:=b1 b hb;replace HB:=b2 hb;(try clear hb);obtain⟨_,_,_,_,_,_,_,_,_,_,_,_,_,_,_,_,_,_⟩:=cf9 a.out;obtain⟨_,_,_,_,_,_,_,_,_,_,_,_,_,_,_,_,_,_⟩:=cf9 b.out)|((with_reducible refine gc 29 ?_);refine gl 21 Tryz.func29 (laws_eqGameS.calls k _ _ m _ _ n true _ (cb T HB) O.out (cb U HB) P.out A7.out) ?_;rintro e a2 ⟨rfl,hb⟩;refine⟨_,rfl,?_⟩;replace a:=b1 a hb;replace b:=b1 b hb;replace HB:=b2 hb;(try clear hb);obtain⟨_,_,_,_,_,_,_,_,_,_,_,_,_,_,_,_,_,_⟩:=cf9 a.out;obtain⟨_,_,_,_,_,_,_,_,_,_,_,_,_,_,_,_,_,_⟩:=cf9 b.out)|((with_reducible refine gc 9 ?_);refine gl 27 Tryz.func9 (laws_eqIntS.calls k _ _ o _ _ p false _ (cb ay HB) aw.out (cb az HB) ax.out A9.out) ?_;rintro e w' ⟨rfl,⟨nd,rfl⟩⟩;refine⟨_,rfl,?_⟩))
     go_ret
     exact⟨er,bel⟩
   ·obtain rfl:=qj1 H
    go_enter Tryz.func10,Tryz.ntmps10
    go_wp2_with (first|((with_reducible refine gd 2 ?_);refine bx w 2 #[.slice W d.length ah,.int .i64 q,.int .i64 s,.int .i64 t,.slice X i.length ai,.bool u,.slice Y m.length aj,.slice Z o.length ak,.slice aa A.length al] 35 ?_;clear HB;intro aA a3 a au HB)|((with_reducible refine gd 3 ?_);refine by_ w 3 #[.slice ac g.length an,.int .i64 v,.int .i64 x,.int .i64 y,.slice ad j.length ao,.bool z,.slice ae n.length ap,.slice af p.length aq,.slice ag B.length ar] 35 ?_;clear HB;intro aB hg a4 b av hb HB;obtain⟨c,l⟩:=qn hg a;replace a:=b1 a hb;clear hb hg;obtain⟨_,_⟩:=qo c;obtain⟨_,_,_,_,_,_,_,_,_,_,_,_,_,_,_,_,_,_⟩:=cf9 a.out;obtain⟨_,_,_,_,_,_,_,_,_,_,_,_,_,_,_,_,_,_⟩:=cf9 b.out)|((with_reducible refine gc 27 ?_);refine gl 9 Tryz.func27 (laws_eqTeamS.calls k _ _ d _ _ g true _ (cb G HB) D.out (cb I HB) E.out A3.out) ?_;rintro e a5 ⟨rfl,hb⟩;refine⟨_,rfl,?_⟩;replace a:=b1 a hb;replace b:=b1 b hb;replace HB:=b2 hb;(try clear hb);obtain⟨_,_,_,_,_,_,_,_,_,_,_,_,_,_,_,_,_,_⟩:=cf9 a.out;obtain⟨_,_,_,_,_,_,_,_,_,_,_,_,_,_,_,_,_,_⟩:=cf9 b.out)|((with_reducible refine gc 28 ?_);refine gl 15 Tryz.func28 (laws_eqRules.calls k q s t _ _ i u v x y _ _ j z true _ (cb L HB) J.out (cb M HB) K.out A5.out) ?_;rintro e a6 ⟨rfl,hb⟩;refine⟨_,rfl,?_⟩;replace a:=b1 a hb;replace b:=b1 b hb;replace HB:=b2 hb;(try clear hb);obtain⟨_,_,_,_,_,_,_,_,_,_,_,_,_,_,_,_,_,_⟩:=cf9 a.out;obtain⟨_,_,_,_,_,_,_,_,_,_,_,_,_,_,_,_,_,_⟩:=cf9 b.out)|((with_reducible refine gc 29 ?_);refine gl 21 Tryz.func29 (laws_eqGameS.calls k _ _ m _ _ n false _ (cb T HB) O.out (cb U HB) P.out A7.out) ?_;rintro e a7 ⟨rfl,hb⟩;refine⟨_,rfl,?_⟩;replace a:=b1 a hb;replace b:=b1 b hb;replace HB:=b2 hb;(try clear hb)))
    go_ret
    exact⟨er,bel⟩
  ·obtain rfl:=qj1 H
   go_enter Tryz.func10,Tryz.ntmps10
   go_wp2_with (first|((with_reducible refine gd 2 ?_);refine bx w 2 #[.slice W d.length ah,.int .i64 q,.int .i64 s,.int .i64 t,.slice X i.length ai,.bool u,.slice Y m.length aj,.slice Z o.length ak,.slice aa A.length al] 35 ?_;clear HB;intro aA a8 a au HB)|((with_reducible refine gd 3 ?_);refine by_ w 3 #[.slice ac g.length an,.int .i64 v,.int .i64 x,.int .i64 y,.slice ad j.length ao,.bool z,.slice ae n.length ap,.slice af p.length aq,.slice ag B.length ar] 35 ?_;clear HB;intro aB hg a9 b av hb HB;obtain⟨c,l⟩:=qn hg a;replace a:=b1 a hb;clear hb hg;obtain⟨_,_⟩:=qo c;obtain⟨_,_,_,_,_,_,_,_,_,_,_,_,_,_,_,_,_,_⟩:=cf9 a.out;obtain⟨_,_,_,_,_,_,_,_,_,_,_,_,_,_,_,_,_,_⟩:=cf9 b.out)|((with_reducible refine gc 27 ?_);refine gl 9 Tryz.func27 (laws_eqTeamS.calls k _ _ d _ _ g true _ (cb G HB) D.out (cb I HB) E.out A3.out) ?_;rintro e ba ⟨rfl,hb⟩;refine⟨_,rfl,?_⟩;replace a:=b1 a hb;replace b:=b1 b hb;replace HB:=b2 hb;(try clear hb);obtain⟨_,_,_,_,_,_,_,_,_,_,_,_,_,_,_,_,_,_⟩:=cf9 a.out;obtain⟨_,_,_,_,_,_,_,_,_,_,_,_,_,_,_,_,_,_⟩:=cf9 b.out)|((with_reducible refine gc 28 ?_);refine gl 15 Tryz.func28 (laws_eqRules.calls k q s t _ _ i u v x y _ _ j z false _ (cb L HB) J.out (cb M HB) K.out A5.out) ?_;rintro e bc ⟨rfl,hb⟩;refine⟨_,rfl,?_⟩;replace a:=b1 a hb;replace b:=b1 b hb;replace HB:=b2 hb;(try clear hb)))
   go_ret
   exact⟨er,bel⟩
 ·obtain rfl:=qj1 H
  go_enter Tryz.func10,Tryz.ntmps10
  go_wp2_with (first|((with_reducible refine gd 2 ?_);refine bx w 2 #[.slice W d.length ah,.int .i64 q,.int .i64 s,.int .i64 t,.slice X i.length ai,.bool u,.slice Y m.length aj,.slice Z o.length ak,.slice aa A.length al] 35 ?_;clear HB;intro aA bd a au HB)|((with_reducible refine gd 3 ?_);refine by_ w 3 #[.slice ac g.length an,.int .i64 v,.int .i64 x,.int .i64 y,.slice ad j.length ao,.bool z,.slice ae n.length ap,.slice af p.length aq,.slice ag B.length ar] 35 ?_;clear HB;intro aB hg be b av hb HB;obtain⟨c,l⟩:=qn hg a;replace a:=b1 a hb;clear hb hg;obtain⟨_,_⟩:=qo c;obtain⟨_,_,_,_,_,_,_,_,_,_,_,_,_,_,_,_,_,_⟩:=cf9 a.out;obtain⟨_,_,_,_,_,_,_,_,_,_,_,_,_,_,_,_,_,_⟩:=cf9 b.out)|((with_reducible refine gc 27 ?_);refine gl 9 Tryz.func27 (laws_eqTeamS.calls k _ _ d _ _ g false _ (cb G HB) D.out (cb I HB) E.out A3.out) ?_;rintro e bf ⟨rfl,hb⟩;refine⟨_,rfl,?_⟩;replace a:=b1 a hb;replace b:=b1 b hb;replace HB:=b2 hb;(try clear hb)))
  go_ret
  exact⟨er,bel⟩
def laws_markIntS.l0:Nat→List Int→Int→Int→Option (Int×List Int)
  |0,_,_,_=>none
  |k+1,x0,x1,x5=>if x5<(x0.length:Int)then(if 0≤x5 then(laws_markIntS.l0 k (x0.set (x5:Int).toNat x1) (wrap64 (x1+1)) (wrap64 (x5+1)))else(none))else(some (x1,x0))
def laws_markIntS.f(k:Nat)(l0:List Int)(a1:Int):Option (Int×List Int):=laws_markIntS.l0 k l0 a1 0
theorem laws_markIntS.calls(k:Nat)(d:Nat→Prop)(b:Value)(l0:List Int)(a1:Int)(r1:Int)(r2:List Int)(w0 w:World)(hB:Below w0.heap.size w0 w)(I:Kd.R (Kd.int .i64) 3 w w0.heap.size d b l0)(h:laws_markIntS.f k l0 a1=some (r1,r2)):Calls Tryz.prog 12 #[b,.int .i64 a1] w fun e w'=>e=.returned (.int .i64 r1)∧Kd.R (Kd.int .i64) 3 w' w0.heap.size (fun k_=>(d k_∨w.heap.size≤k_)) b r2∧Below w0.heap.size w0 w'∧Kept w w' (fun k_=>d k_):=by
 have z:=am (show Kd.R (Kd.int .i64) 3 w w0.heap.size (fun k_=>(d k_∨w.heap.size≤k_)) b l0 from Kd.R_mono I (fun k_ hk=>(.inl hk)))
 have HK:=am (Kept.refl w (fun k_=>d k_))
 have P:=am hB.size
 have HB:=am hB
 clear hB
 have H:=h
 unfold laws_markIntS.f at H
 clear h
 replace H:=am H
 go_enter Tryz.func12,Tryz.ntmps12
 go_wp2
 go_loopg [1,5] k (fun kq v1 v5 w'=>∃(g:List Int) (i:Int) (c:Int),v1=.int .i64 i∧v5=.int .i64 c∧Aside0 (laws_markIntS.l0 kq g i c=some (r1,r2))∧Aside0 (kq≤k)∧Aside0 (Kd.R (Kd.int .i64) 3 w' w0.heap.size (fun k_=>(d k_∨w.heap.size≤k_)) b g)∧Aside0 (Kept w w' (fun k_=>d k_))∧Aside0 (Below w0.heap.size w0 w'))
 case atStart=>exact⟨(l0),(a1),(0),(es),(es),H,⟨Nat.le_refl _⟩,⟨rk z.out⟩,⟨by repeat (first|(with_reducible first|exact HK.out|apply Kept.alloc|apply Kept.drewN|apply Kept.drew)|exact HK.out)⟩,⟨bel⟩⟩
 case round=>
  clear H
  obtain⟨g,i,c,rfl,rfl,HA,p,a,HK,HB⟩:=hrel
  cases gk with
  |zero=>exact absurd HA.out (by simp [laws_markIntS.l0])
  |succ k1=>
   have H:=HA.out
   clear HA
   simp only[laws_markIntS.l0]at H
   replace H:=i1 H;obtain⟨q,H⟩|⟨q,H⟩:=H
   ·replace H:=i0 H;obtain⟨K,H⟩:=H
    generalize hy191:(g.set (c:Int).toNat i:List Int)=l at H
    have n:=am hy191.symm
    clear hy191
    replace H:=am H
    obtain⟨L,A,B⟩:=Kd.R_slice a.out
    subst B
    have p5:0≤(c:Int):=asm
    have q5:(c:Int)<((g.length:Int):Int):=asm
    obtain⟨j,U,r,s,E,T,o⟩:=Kd.R_form a.out (by omega)
    (first|cases r|(injection r with ea_ en_ ec_;(first|subst ea_|(injection ea_ with ea_;subst ea_));subst ec_;clear en_))
    have x:=am s
    have O:=am o
    clear s E o
    have y:=am (show(d j∨w.heap.size≤j)from(a.out.1 _ rfl))
    obtain⟨J,G⟩:=Kd.R_celln 0 a.out (c:Int) p5 q5
    replace p5:=eq_true p5
    replace q5:=eq_true q5
    have m:=Kd.R_putg a.out (c:Int) i
    go_wp2_with (first|((with_reducible refine gs 3 15 ?_);refine sv 3 15 ?_;intro w8 hw;have hg:wr.grownBy w8 (some j):=(by rw[hw];exact m.2);have hp_:Kd.R (Kd.int .i64) 3 w8 w0.heap.size (fun k_=>(d k_∨w.heap.size≤k_)) (.slice (some ⟨j,0,none⟩) g.length A) l:=(by rw[hw,n.out];exact m.1);clear m;have t:=am (hp_);have u:=am ((by rw[hw];exact below_set (HB.out) x.out:Below w0.heap.size w0 w8));have v:=am (Kept.of_grown (S:=(fun k_=>d k_)) hg (by repeat (first|(with_reducible first|exact HK.out|apply Kept.alloc|apply Kept.drewN|apply Kept.drew)|exact HK.out)) (fun k_ e_=>(a.out.1 k_ e_)));clear a;clear HB;clear HK;have a:=t;have HB:=u;have HK:=v;clear t u v;clear hg hw hp_))
    go_roundg k1
    case measure=>have:=p.out;omega
    case rel=>exact⟨(l),(wrap64 (i+1)),(wrap64 (c+1)),(es),(es),H,⟨by have:=p.out;omega⟩,⟨rk a.out⟩,⟨by repeat (first|(with_reducible first|exact HK.out|apply Kept.alloc|apply Kept.drewN|apply Kept.drew)|exact HK.out)⟩,⟨bel⟩⟩
   ·obtain⟨rfl,rfl⟩:=qj2 H
    obtain⟨M,W,D⟩:=Kd.R_slice a.out
    subst D
    go_wp2
    go_ret
    exact⟨er,rk a.out,bel,by repeat (first|(with_reducible first|exact HK.out|apply Kept.alloc|apply Kept.drewN|apply Kept.drew)|exact HK.out)⟩
def laws_markText.l0:Nat→Int→ByteArray→Option (ByteArray)
  |0,_,_=>none
  |k+1,x0,x3=>if x0>0 then((some (([(wrap64 (48+(Int.tmod x0 10)))%256]:List Int):List Int)).bind fun a=>(if(strOfNums a).size+x3.size≤9223372036854775807 then(laws_markText.l0 k (wrap64 (Int.tdiv x0 10)) ((strOfNums a)++x3))else(none)))else(if 1+x3.size≤9223372036854775807 then(some ((⟨#[109]⟩:ByteArray)++x3))else(none))
def laws_markText.f(k:Nat)(a0:Int):Option (ByteArray):=if a0≤0 then(some (⟨#[109,48]⟩:ByteArray))else(laws_markText.l0 k a0 (⟨#[]⟩:ByteArray))
theorem laws_markText.calls(k:Nat)(a0:Int)(r:ByteArray)(w:World)(h:laws_markText.f k a0=some r):Calls Tryz.prog 50 #[.int .i64 a0] w fun e w'=>e=.returned (.string r)∧Below w.heap.size w w':=by
 have HB:=qb w
 have H:=h
 unfold laws_markText.f at H
 clear h
 replace H:=i1 H;obtain⟨i,H⟩|⟨i,H⟩:=H
 ·obtain rfl:=qj1 H
  go_enter Tryz.func50,Tryz.ntmps50
  go_wp2
  go_ret
  exact⟨er,bel⟩
 ·replace H:=am H
  go_enter Tryz.func50,Tryz.ntmps50
  go_wp2
  go_loopg [0,3] k (fun kq v0 v3 w'=>∃(b:Int) (a:ByteArray),v0=.int .i64 b∧v3=.string a∧Aside0 (laws_markText.l0 kq b a=some r)∧Aside0 (kq≤k)∧Aside0 (Below w.heap.size w w'))
  case atStart=>exact⟨(a0),((⟨#[]⟩:ByteArray)),(es),(es),H,⟨Nat.le_refl _⟩,⟨bel⟩⟩
  case round=>
   clear H
   try clear i
   obtain⟨b,a,rfl,rfl,HA,l,HB⟩:=hrel
   cases gk with
   |zero=>exact absurd HA.out (by simp [laws_markText.l0])
   |succ k1=>
    have H:=HA.out
    clear HA
    simp only[laws_markText.l0]at H
    replace H:=i1 H;obtain⟨m,H⟩|⟨m,H⟩:=H
    ·replace H:=bs H;obtain⟨c,d,H⟩:=H
     by_cases c4:(strOfNums c).size+a.size≤9223372036854775807
     ·rw[if_pos c4]at H
      have n:=eq_true c4
      have o:decide ((strOfNums c).size+a.size≤9223372036854775807)=true:=decide_eq_true c4
      try have p:(9223372036854775807<(strOfNums c).size+a.size)=False:=eq_false (Nat.not_lt.2 c4)
      replace H:=am H
      go_wp2_with (first|((with_reducible refine gate_dst (N:=12) rfl ?_);refine Kd.R_lit (Kd.int .u8) _ 5 ?hg (N:=12) ?hd (xs:=([(wrap64 (48+(Int.tmod b 10)))%256]:List Int)) (inner:=[.int .u8 ((wrap64 (48+(Int.tmod b 10)))%256)]) (ok:=fun _=>True) (okp:=fun _=>True) ?hr ?hp (fun _ hk=>hk) trivial (Below.refl _ _) (Nat.le_refl _) (by simp) ?_;(case hd=>rfl);(case hg=>rfl);(case hr=>first|(go_simp;done)|(go_simp;rfl));(case hp=>exact(Reps.one (show Kd.M (Kd.int .u8) _ _ _ ((wrap64 (48+(Int.tmod b 10)))%256) [.int .u8 ((wrap64 (48+(Int.tmod b 10)))%256)]from rfl) (Reps.none _ _)));intro v w5 g hb hg_ hnew_;clear hg_ hnew_;(first|rw[←d.out]at g|(simp only[Int.reduceToNat]at g;rw[←d.out]at g));have j:=am (Kd.R_lower g (below_size bel));replace HB:=b2 hb;clear hb g;have u:=own_string (P:=Tryz.prog) Tryz.underlying106 Tryz.underlying5 Tryz.underlying9 (Kd.own_of_R j.out)))
      go_roundg k1
      case measure=>have:=l.out;omega
      case rel=>exact⟨(wrap64 (Int.tdiv b 10)),((strOfNums c)++a),(es),(es),H,⟨by have:=l.out;omega⟩,⟨bel⟩⟩
     ·rw[if_neg c4]at H
      exact absurd H (by simp)
    ·by_cases c8:1+a.size≤9223372036854775807
     ·rw[if_pos c8]at H
      have q:=eq_true c8
      have s:decide (1+a.size≤9223372036854775807)=true:=decide_eq_true c8
      try have t:(9223372036854775807<1+a.size)=False:=eq_false (Nat.not_lt.2 c8)
      obtain rfl:=qj1 H
      go_wp2
      go_ret
      exact⟨er,bel⟩
     ·rw[if_neg c8]at H
      exact absurd H (by simp)
def laws_markTeamS.l0:Nat→List (S83)→Int→Int→Option (Int×(List (S83)))
  |0,_,_,_=>none
  |k+1,x0,x1,x5=>if x5<(x0.length:Int)then((laws_markText.f k x1).bind fun c=>(if 0≤x5 then((some (x0.set (x5:Int).toNat (⟨c,(rd_T83 x0 x5).f1,(rd_T83 x0 x5).f2⟩:S83):List (S83))).bind fun a=>((some (a.set (x5:Int).toNat (⟨(rd_T83 a x5).f0,wrap64 (x1+1),(rd_T83 a x5).f2⟩:S83):List (S83))).bind fun b=>(laws_markTeamS.l0 k (b.set (x5:Int).toNat (⟨(rd_T83 b x5).f0,(rd_T83 b x5).f1,wrap64 ((wrap64 (x1+1))+1)⟩:S83)) (wrap64 ((wrap64 ((wrap64 (x1+1))+1))+1)) (wrap64 (x5+1)))))else(none)))else(some (x1,x0))
def laws_markTeamS.f(k:Nat)(l0:List (S83))(a1:Int):Option (Int×(List (S83))):=laws_markTeamS.l0 k l0 a1 0
theorem laws_markTeamS.calls(k:Nat)(l:Nat→Prop)(m:Value)(l0:List (S83))(a1:Int)(r1:Int)(r2:List (S83))(w0 w:World)(hB:Below w0.heap.size w0 w)(aS:Kd.R k83 83 w w0.heap.size l m l0)(h:laws_markTeamS.f k l0 a1=some (r1,r2)):Calls Tryz.prog 30 #[m,.int .i64 a1] w fun e w'=>e=.returned (.int .i64 r1)∧Kd.R k83 83 w' w0.heap.size (fun k_=>(l k_∨w.heap.size≤k_)) m r2∧Below w0.heap.size w0 w'∧Kept w w' (fun k_=>l k_):=by
 have aG:=am (show Kd.R k83 83 w w0.heap.size (fun k_=>(l k_∨w.heap.size≤k_)) m l0 from Kd.R_mono aS (fun k_ hk=>(.inl hk)))
 have HK:=am (Kept.refl w (fun k_=>l k_))
 have bc:=am hB.size
 have HB:=am hB
 clear hB
 have H:=h
 unfold laws_markTeamS.f at H
 clear h
 replace H:=am H
 go_enter Tryz.func30,Tryz.ntmps30
 go_wp2
 go_loopg [1,5] k (fun kq v1 v5 w'=>∃(c:List (S83)) (g:Int) (a:Int),v1=.int .i64 g∧v5=.int .i64 a∧Aside0 (laws_markTeamS.l0 kq c g a=some (r1,r2))∧Aside0 (kq≤k)∧Aside0 (Kd.R k83 83 w' w0.heap.size (fun k_=>(l k_∨w.heap.size≤k_)) m c)∧Aside0 (Kept w w' (fun k_=>l k_))∧Aside0 (Below w0.heap.size w0 w'))
 case atStart=>exact⟨(l0),(a1),(0),(es),(es),H,⟨Nat.le_refl _⟩,⟨rk aG.out⟩,⟨by repeat (first|(with_reducible first|exact HK.out|apply Kept.alloc|apply Kept.drewN|apply Kept.drew)|exact HK.out)⟩,⟨bel⟩⟩
 case round=>
  clear H
  obtain⟨c,g,a,rfl,rfl,HA,au,b,HK,HB⟩:=hrel
  cases gk with
  |zero=>exact absurd HA.out (by simp [laws_markTeamS.l0])
  |succ k1=>
   have H:=HA.out
   clear HA
   simp only[laws_markTeamS.l0]at H
   replace H:=i1 H;obtain⟨av,H⟩|⟨av,H⟩:=H
   ·replace H:=bm H;obtain⟨G,A4,H⟩:=H
    replace H:=i0 H;obtain⟨a4,H⟩:=H
    replace H:=bs H;obtain⟨n,an,H⟩:=H
    replace H:=bs H;obtain⟨i,ao,H⟩:=H
    generalize hy198:(i.set (a:Int).toNat (⟨(rd_T83 i a).f0,(rd_T83 i a).f1,wrap64 ((wrap64 (g+1))+1)⟩:S83):List (S83))=ak at H
    have ap:=am hy198.symm
    clear hy198
    replace H:=am H
    obtain⟨a9,I,aH⟩:=Kd.R_slice b.out
    subst aH
    go_wp2_with (first|((with_reducible refine gc 50 ?_);refine gl 15 Tryz.func50 (laws_markText.calls k1 g G _ A4.out) ?_;rintro e t ⟨rfl,hb⟩;refine⟨_,rfl,?_⟩;replace b:=rb b hb;replace HK:=am (Kept.below (S:=(fun k_=>l k_)) (by repeat (first|(with_reducible first|exact HK.out|apply Kept.alloc|apply Kept.drewN|apply Kept.drew)|exact HK.out)) hb);replace HB:=b2 hb;(try clear hb);have p6:0≤(a:Int):=asm;have q6:(a:Int)<((c.length:Int):Int):=asm;obtain⟨d,bh,ax,ay,aI,bg,ar⟩:=Kd.R_form b.out (by omega);(first|cases ax|(injection ax with ea_ en_ ec_;(first|subst ea_|(injection ea_ with ea_;subst ea_));subst ec_;clear en_));have al:=am ay;have ba:=am ar;clear ay aI ar;have aF:=am (show(l d∨w.heap.size≤d)from(b.out.1 _ rfl));obtain⟨bd,aC,az,y,B⟩:=Kd.R_elem b.out z83 (a:Int) p6 q6;obtain rfl:=k83_openM az;have aT:t.cell? ⟨d,(a:Int).toNat*3,none⟩=some (.string ((rd_T83 c a).f0)):=y 0 _ rfl;have aU:t.cell? ⟨d,(a:Int).toNat*3+1,none⟩=some (.int .i64 ((rd_T83 c a).f1)):=y 1 _ rfl;have aV:t.cell? ⟨d,(a:Int).toNat*3+2,none⟩=some (.int .i64 ((rd_T83 c a).f2)):=y 2 _ rfl;have aJ:t.frozen? ⟨d,(a:Int).toNat*3,none⟩=false:=B 0;have aK:t.frozen? ⟨d,(a:Int).toNat*3+1,none⟩=false:=B 1;have aL:t.frozen? ⟨d,(a:Int).toNat*3+2,none⟩=false:=B 2;clear aC y B;(try clear az);replace p6:=eq_true p6;replace q6:=eq_true q6;have ae:=am (show Kd.R k83 83 t w0.heap.size (fun k_=>(l k_∨w.heap.size≤k_)) (.slice (some ⟨d,0,none⟩) c.length I) c from(rk b.out));obtain⟨a5,M,ah,u,T⟩:=Kd.R_elem ae.out z83 (a:Int) (asm) (by have h_:(a:Int)<((c.length:Int):Int):=asm;first|exact h_|(have e_:=(Kd.R_reads' b.out).1;omega)|simpa using h_);obtain rfl:=k83_openM ah;have J:=Kd.R_seg ae.out (a:Int) (asm) (by have h_:(a:Int)<((c.length:Int):Int):=asm;first|exact h_|(have e_:=(Kd.R_reads' b.out).1;omega)|simpa using h_) (seg:=[.string G]) (j:=0) M u (show 1≤3 from by decide) (x':=(⟨G,(rd_T83 c a).f1,(rd_T83 c a).f2⟩:S83)) (k83_mkM _ _ _ (⟨G,(rd_T83 c a).f1,(rd_T83 c a).f2⟩:S83)) (fun _ hk=>hk);have aa:=u 0 _ rfl;(try simp only[show(k83).sz=3 from rfl,Nat.mul_one,Nat.add_zero]at aa);have X:=T 0;(try simp only[show(k83).sz=3 from rfl,Nat.mul_one,Nat.add_zero]at X);clear M u T ah)|((with_reducible refine gs 9 17 ?_);refine sv 9 17 ?_;intro o hw;have hg:t.grownBy o (some d):=(by rw[hw];exact J.2);have hp_:Kd.R k83 83 o w0.heap.size (fun k_=>(l k_∨w.heap.size≤k_)) (.slice (some ⟨d,0,none⟩) c.length I) n:=(by rw[hw,an.out];exact J.1);clear J;have q:=am (hp_);have r:=am ((by rw[hw];exact below_set (HB.out) al.out:Below w0.heap.size w0 o));have s:=am (Kept.of_grown (S:=(fun k_=>l k_)) hg (by repeat (first|(with_reducible first|exact HK.out|apply Kept.alloc|apply Kept.drewN|apply Kept.drew)|exact HK.out)) (fun k_ e_=>(b.out.1 k_ e_)));clear b;clear HB;clear HK;have b:=q;have HB:=r;have HK:=s;clear q r s;clear hg hw hp_;have:(0≤(a:Int))=True:=ab;have:((a:Int)<((c.length:Int):Int))=True:=ab;obtain⟨be,aD,aA,z,D⟩:=Kd.R_elem b.out z83 (a:Int) asm asm;obtain rfl:=k83_openM aA;have aW:o.cell? ⟨d,(a:Int).toNat*3,none⟩=some (.string ((rd_T83 n a).f0)):=z 0 _ rfl;have aX:o.cell? ⟨d,(a:Int).toNat*3+1,none⟩=some (.int .i64 ((rd_T83 n a).f1)):=z 1 _ rfl;have aY:o.cell? ⟨d,(a:Int).toNat*3+2,none⟩=some (.int .i64 ((rd_T83 n a).f2)):=z 2 _ rfl;have aM:o.frozen? ⟨d,(a:Int).toNat*3,none⟩=false:=D 0;have aN:o.frozen? ⟨d,(a:Int).toNat*3+1,none⟩=false:=D 1;have aO:o.frozen? ⟨d,(a:Int).toNat*3+2,none⟩=false:=D 2;clear aD z D;(try clear aA);have af:=am (show Kd.R k83 83 o w0.heap.size (fun k_=>(l k_∨w.heap.size≤k_)) (.slice (some ⟨d,0,none⟩) c.length I) n from(rk b.out));obtain⟨a6,O,ai,v,U⟩:=Kd.R_elem af.out z83 (a:Int) (asm) (by have h_:(a:Int)<((c.length:Int):Int):=asm;first|exact h_|(have e_:=(Kd.R_reads' b.out).1;omega)|simpa using h_);obtain rfl:=k83_openM ai;have K:=Kd.R_seg af.out (a:Int) (asm) (by have h_:(a:Int)<((c.length:Int):Int):=asm;first|exact h_|(have e_:=(Kd.R_reads' b.out).1;omega)|simpa using h_) (seg:=[.int .i64 (wrap64 (g+1))]) (j:=1) O v (show 2≤3 from by decide) (x':=(⟨(rd_T83 n a).f0,wrap64 (g+1),(rd_T83 n a).f2⟩:S83)) (k83_mkM _ _ _ (⟨(rd_T83 n a).f0,wrap64 (g+1),(rd_T83 n a).f2⟩:S83)) (fun _ hk=>hk);have ac:=v 1 _ rfl;(try simp only[show(k83).sz=3 from rfl,Nat.mul_one,Nat.add_zero]at ac);have Y:=U 1;(try simp only[show(k83).sz=3 from rfl,Nat.mul_one,Nat.add_zero]at Y);clear O v U ai)|((with_reducible refine gs 3 24 ?_);refine sv 3 24 ?_;intro p hw;have hg:o.grownBy p (some d):=(by rw[hw];exact K.2);have hp_:Kd.R k83 83 p w0.heap.size (fun k_=>(l k_∨w.heap.size≤k_)) (.slice (some ⟨d,0,none⟩) c.length I) i:=(by rw[hw,ao.out];exact K.1);clear K;have q:=am (hp_);have r:=am ((by rw[hw];exact below_set (HB.out) al.out:Below w0.heap.size w0 p));have s:=am (Kept.of_grown (S:=(fun k_=>l k_)) hg (by repeat (first|(with_reducible first|exact HK.out|apply Kept.alloc|apply Kept.drewN|apply Kept.drew)|exact HK.out)) (fun k_ e_=>(b.out.1 k_ e_)));clear b;clear HB;clear HK;have b:=q;have HB:=r;have HK:=s;clear q r s;clear hg hw hp_;have:(0≤(a:Int))=True:=ab;have:((a:Int)<((c.length:Int):Int))=True:=ab;obtain⟨bf,aE,aB,A,E⟩:=Kd.R_elem b.out z83 (a:Int) asm asm;obtain rfl:=k83_openM aB;have aZ:p.cell? ⟨d,(a:Int).toNat*3,none⟩=some (.string ((rd_T83 i a).f0)):=A 0 _ rfl;have a0:p.cell? ⟨d,(a:Int).toNat*3+1,none⟩=some (.int .i64 ((rd_T83 i a).f1)):=A 1 _ rfl;have a2:p.cell? ⟨d,(a:Int).toNat*3+2,none⟩=some (.int .i64 ((rd_T83 i a).f2)):=A 2 _ rfl;have aP:p.frozen? ⟨d,(a:Int).toNat*3,none⟩=false:=E 0;have aQ:p.frozen? ⟨d,(a:Int).toNat*3+1,none⟩=false:=E 1;have aR:p.frozen? ⟨d,(a:Int).toNat*3+2,none⟩=false:=E 2;clear aE A E;(try clear aB);have ag:=am (show Kd.R k83 83 p w0.heap.size (fun k_=>(l k_∨w.heap.size≤k_)) (.slice (some ⟨d,0,none⟩) c.length I) i from(rk b.out));obtain⟨a7,P,aj,x,W⟩:=Kd.R_elem ag.out z83 (a:Int) (asm) (by have h_:(a:Int)<((c.length:Int):Int):=asm;first|exact h_|(have e_:=(Kd.R_reads' b.out).1;omega)|simpa using h_);obtain rfl:=k83_openM aj;have L:=Kd.R_seg ag.out (a:Int) (asm) (by have h_:(a:Int)<((c.length:Int):Int):=asm;first|exact h_|(have e_:=(Kd.R_reads' b.out).1;omega)|simpa using h_) (seg:=[.int .i64 (wrap64 ((wrap64 (g+1))+1))]) (j:=2) P x (show 3≤3 from by decide) (x':=(⟨(rd_T83 i a).f0,(rd_T83 i a).f1,wrap64 ((wrap64 (g+1))+1)⟩:S83)) (k83_mkM _ _ _ (⟨(rd_T83 i a).f0,(rd_T83 i a).f1,wrap64 ((wrap64 (g+1))+1)⟩:S83)) (fun _ hk=>hk);have ad:=x 2 _ rfl;(try simp only[show(k83).sz=3 from rfl,Nat.mul_one,Nat.add_zero]at ad);have Z:=W 2;(try simp only[show(k83).sz=3 from rfl,Nat.mul_one,Nat.add_zero]at Z);clear P x W aj)|((with_reducible refine gs 3 31 ?_);refine sv 3 31 ?_;intro aq hw;have hg:p.grownBy aq (some d):=(by rw[hw];exact L.2);have hp_:Kd.R k83 83 aq w0.heap.size (fun k_=>(l k_∨w.heap.size≤k_)) (.slice (some ⟨d,0,none⟩) c.length I) ak:=(by rw[hw,ap.out];exact L.1);clear L;have q:=am (hp_);have r:=am ((by rw[hw];exact below_set (HB.out) al.out:Below w0.heap.size w0 aq));have s:=am (Kept.of_grown (S:=(fun k_=>l k_)) hg (by repeat (first|(with_reducible first|exact HK.out|apply Kept.alloc|apply Kept.drewN|apply Kept.drew)|exact HK.out)) (fun k_ e_=>(b.out.1 k_ e_)));clear b;clear HB;clear HK;have b:=q;have HB:=r;have HK:=s;clear q r s;clear hg hw hp_))
    go_roundg k1
    case measure=>have:=au.out;omega
    case rel=>exact⟨(ak),(wrap64 ((wrap64 ((wrap64 (g+1))+1))+1)),(wrap64 (a+1)),(es),(es),H,⟨by have:=au.out;omega⟩,⟨rk b.out⟩,⟨by repeat (first|(with_reducible first|exact HK.out|apply Kept.alloc|apply Kept.drewN|apply Kept.drew)|exact HK.out)⟩,⟨bel⟩⟩
   ·obtain⟨rfl,rfl⟩:=qj2 H
    obtain⟨a3,a8,aw⟩:=Kd.R_slice b.out
    subst aw
    go_wp2
    go_ret
    exact⟨er,rk b.out,bel,by repeat (first|(with_reducible first|exact HK.out|apply Kept.alloc|apply Kept.drewN|apply Kept.drew)|exact HK.out)⟩
def laws_markRules.f(k:Nat)(c:Int)(d:Int)(e:Int)(b:List Int)(g:Bool)(a1:Int):Option (Int×List Int):=(laws_markIntS.f k b a1).bind fun a=>(some (a.1,a.2))
theorem laws_markRules.calls(k:Nat)(j:Int)(l:Int)(m:Int)(b:Nat→Prop)(c:Value)(g:List Int)(n:Bool)(a1:Int)(r1:Int)(r2:List Int)(w0 w:World)(hB:Below w0.heap.size w0 w)(r:Kd.R (Kd.int .i64) 3 w w0.heap.size b c g)(h:laws_markRules.f k j l m g n a1=some (r1,r2)):Calls Tryz.prog 31 #[.agg #[.int .i64 j,.int .i64 l,.int .i64 m,c,.bool n],.int .i64 a1] w fun e w'=>e=.returned (.int .i64 r1)∧Kd.R (Kd.int .i64) 3 w' w0.heap.size (fun k_=>(b k_∨w.heap.size≤k_)) c r2∧Below w0.heap.size w0 w'∧Kept w w' (fun k_=>b k_):=by
 have D:=Tryz.underlying32
 have a:=am (show Kd.R (Kd.int .i64) 3 w w0.heap.size (fun k_=>(b k_∨w.heap.size≤k_)) c g from Kd.R_mono r (fun k_ hk=>(.inl hk)))
 have HK:=am (Kept.refl w (fun k_=>b k_))
 have E:=am hB.size
 have HB:=am hB
 clear hB
 have H:=h
 unfold laws_markRules.f at H
 clear h
 replace H:=bm H;obtain⟨⟨y,z⟩,A3,H⟩:=H;dsimp only at H
 obtain⟨rfl,rfl⟩:=qj2 H
 obtain⟨p,q,B⟩:=Kd.R_slice a.out
 subst B
 go_enter Tryz.func31,Tryz.ntmps31
 go_wp2_with (first|((with_reducible refine gd 2 ?_);refine bv 2 #[.int .i64 j,.int .i64 l,.int .i64 m,.slice p g.length q,.bool n] 32 ?_;intro o hg w5 hbox hb;have d:=am (hbox);have i:=am ((by rw[hg];exact(by first|exact HK.out.1|exact(show Kept w _ (fun k_=>b k_)from by repeat (first|(with_reducible first|exact HK.out|apply Kept.alloc|apply Kept.drewN|apply Kept.drew)|exact HK.out)).1):w.heap.size≤o));have A:=am ((bsz hg:w0.heap.size≤o));replace a:=rb a hb;replace HK:=am (Kept.below (S:=(fun k_=>b k_)) (by repeat (first|(with_reducible first|exact HK.out|apply Kept.alloc|apply Kept.drewN|apply Kept.drew)|exact HK.out)) hb);replace HB:=b2 hb;clear hb hbox hg;obtain⟨_,_,_,_,_,_,_,_,_,_⟩:=cf5 d.out)|((with_reducible refine gc 12 ?_);refine gl 8 Tryz.func12 (laws_markIntS.calls k (fun k_=>some k_=(.slice p g.length q:Value).ownBlock) (.slice p g.length q) g a1 y z w0 _ bel (Kd.R_tight rfl a.out) A3.out) ?_;rintro e w7 ⟨rfl,s,hb,hkp⟩;refine⟨_,rfl,?_⟩;have t:=am (Kd.R_reok rfl s (fun k_ e_=>a.out.1 k_ e_));have u:=am (blk_kept (bk d.out) hkp (fun hs_=>(fun e_=>(Kd.R_ne a.out d.out (by decide)) e_) hs_));have v:=am (Kept.then_ (S:=(fun k_=>b k_)) (by repeat (first|(with_reducible first|exact HK.out|apply Kept.alloc|apply Kept.drewN|apply Kept.drew|refine Kept.setCell ?_ (.inr i.out) _)|exact HK.out)) hkp (fun k_ hs_=>(fun e_=>(a.out.1 k_ e_.symm)) hs_));have x:=am (hb);clear a;clear d;clear HK;clear HB;have a:=t;have d:=u;have HK:=v;have HB:=x;clear t u v x;(try clear hb);(try clear hkp);(try clear s)))
 go_ret
 exact⟨er,rk a.out,bel,by repeat (first|(with_reducible first|exact HK.out|apply Kept.alloc|apply Kept.drewN|apply Kept.drew|refine Kept.setCell ?_ (.inr i.out) _)|exact HK.out)⟩
end Go.Proofs.YtgalpgakdcfilaaGreat.L
