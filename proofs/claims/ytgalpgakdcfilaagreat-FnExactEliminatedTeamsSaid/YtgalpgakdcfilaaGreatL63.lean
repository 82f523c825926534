-- Written by a program of this session (wip/xp.py).
import Derived.Test.YtgalpgakdcfilaaGreatL0
import Derived.Test.YtgalpgakdcfilaaGreatL59
import Derived.Test.YtgalpgakdcfilaaGreatL1
import Derived.Test.YtgalpgakdcfilaaGreatL5
import Derived.Test.YtgalpgakdcfilaaGreatL9
import Derived.Test.YtgalpgakdcfilaaGreatL11
import Derived.Test.YtgalpgakdcfilaaGreatL35
namespace Go.Proofs.YtgalpgakdcfilaaGreat.L
open Go.RowKit Go.Proofs.YtgalpgakdcfilaaGreatW.PrintWords Go.Proofs.YtgalpgakdcfilaaGreatW.PrintLast Go.Proofs.YtgalpgakdcfilaaGreatW.PrintMore
attribute [local go_sem] max2_int min2_int max_two min_two max_three min_three max_four min_four
set_option linter.unusedVariables false
set_option linter.unusedSimpArgs false
set_option maxHeartbeats 8000000
set_option maxRecDepth 100000
def impl_EliminatedTeams.l0:Nat→List Int→Int→Int→List (S83)→Int→Int→Int→List Int→Bool→List (S79)→List Int→List Int→Option (List Int)
  |0,_,_,_,_,_,_,_,_,_,_,_,_=>none
  |k+1,x3,n,l,a,b,c,d,e,g,h,i,j=>if l<n then((impl_LeadVerdict.f k a b c d e g h i j l).bind fun m=>(if m.2.2.2=true then(if m.1=true then(impl_EliminatedTeams.l0 k x3 n (wrap64 (l+1)) a b c d e g h i j)else(if x3.length<17592186044416 then(impl_EliminatedTeams.l0 k (x3++[l]) n (wrap64 (l+1)) a b c d e g h i j)else(none)))else(impl_EliminatedTeams.l0 k x3 n (wrap64 (l+1)) a b c d e g h i j)))else(some x3)
def impl_EliminatedTeams.f(k:Nat)(a:List (S83))(b:Int)(c:Int)(d:Int)(g:List Int)(e:Bool)(h:List (S79))(i:List Int)(j:List Int):Option (List Int):=impl_EliminatedTeams.l0 k (([]:List Int)) (a.length:Int) 0 a b c d g e h i j
theorem impl_EliminatedTeams.calls(k:Nat)(Y:Option Addr)(ae:Nat)(n:List (S83))(u:Int)(v:Int)(x:Int)(Z:Option Addr)(af:Nat)(p:List Int)(y:Bool)(aa:Option Addr)(ag:Nat)(q:List (S79))(ac:Option Addr)(ah:Nat)(s:List Int)(ad:Option Addr)(ai:Nat)(t:List Int)(r:List Int)(w:World)(G:Kd.C k83 w Y n.length n)(z:n.length≤ae)(I:Kd.C (Kd.int .i64) w Z p.length p)(A:p.length≤af)(J:Kd.C k79 w aa q.length q)(B:q.length≤ag)(K:Kd.C (Kd.int .i64) w ac s.length s)(D:s.length≤ah)(L:Kd.C (Kd.int .i64) w ad t.length t)(E:t.length≤ai)(h:impl_EliminatedTeams.f k n u v x p y q s t=some r):Calls Tryz.prog 8 #[.agg #[.slice Y n.length ae,.int .i64 u,.int .i64 v,.int .i64 x,.slice Z p.length af,.bool y,.slice aa q.length ag,.slice ac s.length ah,.slice ad t.length ai]] w fun e w'=>∃bi:Value,e=.returned (bi)∧Kd.R (Kd.int .i64) 3 w' w.heap.size (fun _=>True) bi r∧Below w.heap.size w w':=by
 have bD:=Tryz.underlying35
 have bE:=Tryz.underlying43
 replace G:=am G
 replace z:=am z
 replace I:=am I
 replace A:=am A
 replace J:=am J
 replace B:=am B
 replace K:=am K
 replace D:=am D
 replace L:=am L
 replace E:=am E
 have HB:=qb w
 have H:=h
 unfold impl_EliminatedTeams.f at H
 clear h
 obtain⟨aW,T⟩:∃y_:List Int,y_=(([]:List Int)):=⟨_,rfl⟩
 replace H:(impl_EliminatedTeams.l0 k aW (n.length:Int) 0 n u v x p y q s t)=some r:=by first|(rw[T];with_reducible exact H)|(have aX:=(Option.bind_some _ _).symm.trans H;rw[T];with_reducible exact aX)|(have aX:=(Option.bind_some _ _).symm.trans H;with_reducible exact aX)|with_reducible exact H|(rw[T];exact H)|exact H
 have ap:=am T
 clear T
 replace H:=am H
 go_enter Tryz.func8,Tryz.ntmps8
 go_wp2_with (first|((with_reducible refine gd 1 ?_);refine bx w 1 #[.slice Y n.length ae,.int .i64 u,.int .i64 v,.int .i64 x,.slice Z p.length af,.bool y,.slice aa q.length ag,.slice ac s.length ah,.slice ad t.length ai] 35 ?_;clear HB;intro au w2 a bl HB)|((with_reducible refine gate_dst (N:=7) rfl ?_);refine Kd.R_lit (Kd.int .i64) _ 3 ?hg (N:=7) ?hd (xs:=([]:List Int)) (inner:=[]) (ok:=fun _=>True) (okp:=fun _=>True) ?hr ?hp (fun _ hk=>hk) trivial (Below.refl _ _) (Nat.le_refl _) (by simp) ?_;(case hd=>rfl);(case hg=>rfl);(case hr=>first|(go_simp;done)|(go_simp;rfl));(case hp=>exact(Reps.none _ _));intro bG w3 av hb hg_ hnew_;clear hg_ hnew_;(first|rw[←ap.out]at av|(simp only[Int.reduceToNat]at av;rw[←ap.out]at av));have aY:=am (Kd.R_lower av (below_size bel));replace a:=b1 a hb;replace HB:=b2 hb;clear hb av;obtain⟨aw,ax,ay,az,aA,aC,aD,aE,aG,aH,aI,aJ,aK,aM,aN,aQ,aR,aT⟩:=cf9 a.out))
 go_loopg [3,11] k (fun kq v3 bn w'=>∃(U:List Int) (l:Int),bn=.int .i64 l∧Aside0 (impl_EliminatedTeams.l0 kq U (n.length:Int) l n u v x p y q s t=some r)∧Aside0 (kq≤k)∧Aside0 (Kd.R (Kd.int .i64) 3 w' w.heap.size (fun _=>True) v3 U)∧Aside0 (w'.heap[au]? =some (.cells #[(.slice Y n.length ae),.int .i64 u,.int .i64 v,.int .i64 x,(.slice Z p.length af),.bool y,(.slice aa q.length ag),(.slice ac s.length ah),(.slice ad t.length ai)] 35 (0,0)))∧Aside0 (Below w.heap.size w w'))
 case atStart=>exact⟨(aW),(0),(es),H,⟨Nat.le_refl _⟩,⟨rk aY.out⟩,⟨bk a.out⟩,⟨bel⟩⟩
 case round=>
  clear H
  try clear aw;try clear ax;try clear ay;try clear az;try clear aA;try clear aC;try clear aD;try clear aE;try clear aG;try clear aH;try clear aI;try clear aJ;try clear aK;try clear aM;try clear aN;try clear aQ;try clear aR;try clear aT
  obtain⟨U,l,rfl,HA,ak,c,a,HB⟩:=hrel
  cases gk with
  |zero=>exact absurd HA.out (by simp [impl_EliminatedTeams.l0])
  |succ k1=>
   have H:=HA.out
   clear HA
   simp only[impl_EliminatedTeams.l0]at H
   replace H:=i1 H;obtain⟨a3,H⟩|⟨a3,H⟩:=H
   ·replace H:=bm H;obtain⟨⟨bh,W,X,bF⟩,A7,H⟩:=H;dsimp only at H
    replace H:=ib H;obtain⟨rfl,H⟩|⟨rfl,H⟩:=H
    ·replace H:=ib H;obtain⟨rfl,H⟩|⟨rfl,H⟩:=H
     ·replace H:=am H
      obtain⟨_,_,_,_,_,_,_,_,_,_,_,_,_,_,_,_,_,_⟩:=cf9 a.out
      go_wp2_with (first|((with_reducible refine gc 15 ?_);refine gl 17 Tryz.func15 (impl_LeadVerdict.calls k1 _ _ n u v x _ _ p y _ _ q _ _ s _ _ t l true W X true _ (cb G HB) z.out (cb I HB) A.out (cb J HB) B.out (cb K HB) D.out (cb L HB) E.out A7.out) ?_;rintro e bI ⟨aU,aV,rfl,O,P,hb⟩;refine⟨_,rfl,?_⟩;have i:=am (Kd.R_lower (Kd.R_new' O (Kd.R_lt (rk c.out))) (below_size bel));have j:=am (Kd.R_lower (Kd.R_new' P (Kd.R_lt (rk c.out))) (below_size bel));replace c:=am (Kd.R_mono (Kd.R_told (Kd.R_told (Kd.R_old (rk c.out) hb) (Kd.R_base O)) (Kd.R_base P)) (fun _ h_=>h_.1));replace a:=b1 a hb;replace HB:=b2 hb;(try clear hb);(try clear O);(try clear P))|((with_reducible refine gd 5 ?_);refine by_ w 5 #[.bool false,.slice none 0 0,.slice none 0 0] 43 ?_;clear HB;intro aj hg bJ d ao hb HB;obtain⟨M,m⟩:=qn hg a;replace c:=rb c hb;replace i:=rb i hb;replace j:=rb j hb;replace a:=b1 a hb;clear hb hg;obtain⟨_,_⟩:=qo m;obtain⟨_,_,_,_,_,_⟩:=cf3 d.out;obtain⟨bo,bw,a4⟩:=Kd.R_slice i.out;subst a4;obtain⟨bp,bA,a5⟩:=Kd.R_slice j.out;subst a5))
      go_roundg k1
      case measure=>have:=ak.out;omega
      case rel=>exact⟨(U),(wrap64 (l+1)),(es),H,⟨by have:=ak.out;omega⟩,⟨(kf (Kd.R_types c.out d.out (by decide)) (fun _ hk=>trivial))⟩,⟨bk a.out⟩,⟨bel⟩⟩
     ·replace H:=i0 H;obtain⟨a2,H⟩:=H
      have a0:=am (of_decide_eq_true a2)
      clear a2
      generalize hy848:(U++[l]:List Int)=bj at H
      have a1:=am hy848.symm
      clear hy848
      replace H:=am H
      obtain⟨_,_,_,_,_,_,_,_,_,_,_,_,_,_,_,_,_,_⟩:=cf9 a.out
      go_wp2_with (first|((with_reducible refine gc 15 ?_);refine gl 17 Tryz.func15 (impl_LeadVerdict.calls k1 _ _ n u v x _ _ p y _ _ q _ _ s _ _ t l false W X true _ (cb G HB) z.out (cb I HB) A.out (cb J HB) B.out (cb K HB) D.out (cb L HB) E.out A7.out) ?_;rintro e bK ⟨aU,aV,rfl,O,P,hb⟩;refine⟨_,rfl,?_⟩;have i:=am (Kd.R_lower (Kd.R_new' O (Kd.R_lt (rk c.out))) (below_size bel));have j:=am (Kd.R_lower (Kd.R_new' P (Kd.R_lt (rk c.out))) (below_size bel));replace c:=am (Kd.R_mono (Kd.R_told (Kd.R_told (Kd.R_old (rk c.out) hb) (Kd.R_base O)) (Kd.R_base P)) (fun _ h_=>h_.1));replace a:=b1 a hb;replace HB:=b2 hb;(try clear hb);(try clear O);(try clear P))|((with_reducible refine gd 5 ?_);refine by_ w 5 #[.bool false,.slice none 0 0,.slice none 0 0] 43 ?_;clear HB;intro aj hg bL d ao hb HB;obtain⟨M,m⟩:=qn hg a;replace c:=rb c hb;replace i:=rb i hb;replace j:=rb j hb;replace a:=b1 a hb;clear hb hg;obtain⟨_,_⟩:=qo m;obtain⟨_,_,_,_,_,_⟩:=cf3 d.out;obtain⟨al,aq,a6⟩:=Kd.R_slice i.out;subst a6;obtain⟨an,ar,a7⟩:=Kd.R_slice j.out;subst a7)|((with_reducible refine gate_builtin (b:=.append) (xs:=#[.tmp 26,.tmp 28]) rfl ?_);at_builtin;refine Kd.R_append (Kd.int .i64) (w0:=w) w.heap.size rfl (.tmp 26) (.tmp 28) 23 3 (.int .i64 0) 8 rfl Tryz.underlying23 info3 rfl (by decide) (by omega) u3 U l [.int .i64 l] (fun k_=>some k_≠(.slice al W.length aq:Value).ownBlock∧some k_≠(.slice an X.length ar:Value).ownBlock) (fun _=>False) rfl (by first|(go_simp;done)|(go_simp;rfl)) ?aP (fun _ hk=>hk.elim) ?aF ?aO ?aB ?aS ?aL ?_;(case aP=>exact rfl);(case aB=>exact bel);(case aF=>exact(fun k_ hk=>⟨Kd.fresh' (Kd.R_lt (kf (Kd.R_types i.out d.out (by decide)) (fun _ h_=>h_.1))) k_ hk,Kd.fresh' (Kd.R_lt (kf (Kd.R_types j.out d.out (by decide)) (fun _ h_=>h_.1))) k_ hk⟩));(case aO=>exact(kf (Kd.R_types c.out d.out (by decide)) (fun _ hk=>⟨hk.1.1.2,hk.1.2⟩)));(case aS=>exact(below_size bel));(case aL=>have:=a0.out;omega);intro bH bM ho hb hg hat;rw[←a1.out]at ho;have ba:=am (blk_grown (g:=au) (o:=.cells #[.slice Y n.length ae,.int .i64 u,.int .i64 v,.int .i64 x,.slice Z p.length af,.bool y,.slice aa q.length ag,.slice ac s.length ah,.slice ad t.length ai] 35 (0,0)) (bk a.out) hg (Kd.R_ne c.out a.out (by decide)));have bc:=am (Kd.R_after (ok:=(fun k_=>some k_≠(.slice an X.length ar:Value).ownBlock)) (kf (Kd.R_types i.out d.out (by decide)) (fun _ hk=>⟨hk.1.1,hk.1.2⟩)) hg hat);have bd:=am (Kd.R_after (ok:=(fun k_=>some k_≠(.slice al W.length aq:Value).ownBlock)) (kf (Kd.R_types j.out d.out (by decide)) (fun _ hk=>⟨hk.1.1,hk.1.2⟩)) hg hat);have be:=am (blk_grown (g:=aj) (o:=.cells #[.bool false,.slice al W.length aq,.slice an X.length ar] 43 (0,0)) (bz d) hg (Kd.R_ne c.out d.out (by decide)));have bf:=am (hb);have bg:=am (ho);clear a;clear i;clear j;clear d;clear HB;clear c;have a:=ba;have i:=bc;have j:=bd;have d:=be;have HB:=bf;have aZ:=bg;clear ba bc bd be bf bg;clear ho hb hg hat))
      go_roundg k1
      case measure=>have:=ak.out;omega
      case rel=>exact⟨(bj),(wrap64 (l+1)),(es),H,⟨by have:=ak.out;omega⟩,⟨by(with_reducible repeat (first|apply Kd.R_alloc|apply Kd.R_drewN|apply Kd.R_drew));exact Kd.R_mono aZ.out (fun _ hk=>trivial)⟩,⟨bk a.out⟩,⟨bel⟩⟩
    ·replace H:=am H
     obtain⟨_,_,_,_,_,_,_,_,_,_,_,_,_,_,_,_,_,_⟩:=cf9 a.out
     go_wp2_with (first|((with_reducible refine gc 15 ?_);refine gl 17 Tryz.func15 (impl_LeadVerdict.calls k1 _ _ n u v x _ _ p y _ _ q _ _ s _ _ t l bh W X false _ (cb G HB) z.out (cb I HB) A.out (cb J HB) B.out (cb K HB) D.out (cb L HB) E.out A7.out) ?_;rintro e bN ⟨aU,aV,rfl,O,P,hb⟩;refine⟨_,rfl,?_⟩;have i:=am (Kd.R_lower (Kd.R_new' O (Kd.R_lt (rk c.out))) (below_size bel));have j:=am (Kd.R_lower (Kd.R_new' P (Kd.R_lt (rk c.out))) (below_size bel));replace c:=am (Kd.R_mono (Kd.R_told (Kd.R_told (Kd.R_old (rk c.out) hb) (Kd.R_base O)) (Kd.R_base P)) (fun _ h_=>h_.1));replace a:=b1 a hb;replace HB:=b2 hb;(try clear hb);(try clear O);(try clear P))|((with_reducible refine gd 5 ?_);refine by_ w 5 #[.bool false,.slice none 0 0,.slice none 0 0] 43 ?_;clear HB;intro aj hg bO d ao hb HB;obtain⟨M,m⟩:=qn hg a;replace c:=rb c hb;replace i:=rb i hb;replace j:=rb j hb;replace a:=b1 a hb;clear hb hg;obtain⟨_,_⟩:=qo m;obtain⟨_,_,_,_,_,_⟩:=cf3 d.out;obtain⟨br,bB,a8⟩:=Kd.R_slice i.out;subst a8;obtain⟨bu,bC,a9⟩:=Kd.R_slice j.out;subst a9))
     go_roundg k1
     case measure=>have:=ak.out;omega
     case rel=>exact⟨(U),(wrap64 (l+1)),(es),H,⟨by have:=ak.out;omega⟩,⟨(kf (Kd.R_types c.out d.out (by decide)) (fun _ hk=>trivial))⟩,⟨bk a.out⟩,⟨bel⟩⟩
   ·obtain rfl:=qj1 H
    go_wp2
    go_ret
    exact⟨_,er,rk c.out,bel⟩
def laws_FnExactEliminatedTeams.f(k:Nat)(h:List (S82))(c:Int)(d:Int)(e:Int)(i:List Int)(g:Bool)(j:List (S86))(l:List Int)(m:List Int):Option Bool:=((laws_szBook.f k h c d e i g j l m 1048576).bind fun t1=>(if t1<0 then(some true)else((laws_toBook.f k h c d e i g j l m).bind fun b3=>((spec_EliminatedTeams.f k b3.1 b3.2.1 b3.2.2.1 b3.2.2.2.1 b3.2.2.2.2.1 b3.2.2.2.2.2.1 b3.2.2.2.2.2.2.1 b3.2.2.2.2.2.2.2.1 b3.2.2.2.2.2.2.2.2).bind fun q=>((laws_toBook.f k h c d e i g j l m).bind fun b5=>((impl_EliminatedTeams.f k b5.1 b5.2.1 b5.2.2.1 b5.2.2.2.1 b5.2.2.2.2.1 b5.2.2.2.2.2.1 b5.2.2.2.2.2.2.1 b5.2.2.2.2.2.2.2.1 b5.2.2.2.2.2.2.2.2).bind fun r=>((laws_eqIntS.f k r q).bind fun x=>(if x=true then((laws_toBook.f k h c d e i g j l m).bind fun a=>((laws_eqBook.f k b5.1 b5.2.1 b5.2.2.1 b5.2.2.2.1 b5.2.2.2.2.1 b5.2.2.2.2.2.1 b5.2.2.2.2.2.2.1 b5.2.2.2.2.2.2.2.1 b5.2.2.2.2.2.2.2.2 a.1 a.2.1 a.2.2.1 a.2.2.2.1 a.2.2.2.2.1 a.2.2.2.2.2.1 a.2.2.2.2.2.2.1 a.2.2.2.2.2.2.2.1 a.2.2.2.2.2.2.2.2).bind fun s=>(if s=true then((laws_markBook.f k b5.1 b5.2.1 b5.2.2.1 b5.2.2.2.1 b5.2.2.2.2.1 b5.2.2.2.2.2.1 b5.2.2.2.2.2.2.1 b5.2.2.2.2.2.2.2.1 b5.2.2.2.2.2.2.2.2 1).bind fun w=>(if w.1<0 then(some false)else((laws_eqIntS.f k r q).bind fun t=>(if t=true then((laws_markIntS.f k r 1).bind fun n=>((laws_heldIntS.f k n.2 1).bind fun o=>(if o<0 then(some false)else(if o=n.1 then((laws_toBook.f k h c d e i g j l m).bind fun b=>((impl_EliminatedTeams.f k b.1 b.2.1 b.2.2.1 b.2.2.2.1 b.2.2.2.2.1 b.2.2.2.2.2.1 b.2.2.2.2.2.2.1 b.2.2.2.2.2.2.2.1 b.2.2.2.2.2.2.2.2).bind fun u=>((laws_eqIntS.f k u q).bind fun v=>(if v=true then((laws_heldIntS.f k n.2 1).bind fun p=>(if p<0 then(some false)else(if p=n.1 then(some true)else(some false))))else(some false)))))else(some false)))))else(some false)))))else(some false))))else(some false)))))))))
set_option maxHeartbeats 16000000 in
theorem laws_FnExactEliminatedTeams.calls(k:Nat)(aB:Option Addr)(aG:Nat)(K:List (S82))(ah:Int)(ai:Int)(aj:Int)(aC:Option Addr)(aH:Nat)(L:List Int)(ak:Bool)(aD:Option Addr)(aI:Nat)(M:List (S86))(aE:Option Addr)(aJ:Nat)(O:List Int)(aF:Option Addr)(aK:Nat)(P:List Int)(r:Bool)(w:World)(ac:Kd.C k82 w aB K.length K)(W:K.length≤aG)(ad:Kd.C (Kd.int .i64) w aC L.length L)(X:L.length≤aH)(ae:Kd.C k86 w aD M.length M)(Y:M.length≤aI)(af:Kd.C (Kd.int .i64) w aE O.length O)(Z:O.length≤aJ)(ag:Kd.C (Kd.int .i64) w aF P.length P)(aa:P.length≤aK)(h:laws_FnExactEliminatedTeams.f k K ah ai aj L ak M O P=some r)(hr_:r=true:=by rfl):Calls Tryz.prog 3 #[.agg #[.slice aB K.length aG,.int .i64 ah,.int .i64 ai,.int .i64 aj,.slice aC L.length aH,.bool ak,.slice aD M.length aI,.slice aE O.length aJ,.slice aF P.length aK]] w fun e w'=>e=.returned (.bool r)∧Below w.heap.size w w':=by
 replace ac:=am ac
 replace W:=am W
 replace ad:=am ad
 replace X:=am X
 replace ae:=am ae
 replace Y:=am Y
 replace af:=am af
 replace Z:=am Z
 replace ag:=am ag
 replace aa:=am aa
 have HB:=qb w
 have aA:=am (Nat.zero_le w.heap.size)
 subst hr_
 have H:=h
 unfold laws_FnExactEliminatedTeams.f at H
 clear h
 replace H:=bm H;obtain⟨t1,cj,H⟩:=H
 replace H:=i1 H;obtain⟨cv,H⟩|⟨cv,H⟩:=H
 ·have HE:=am (Option.some.inj H)
  clear H
  go_enter Tryz.func3,Tryz.ntmps3
  go_wp2_with (first|((with_reducible refine gd 1 ?_);refine by_ w 1 #[.slice aB K.length aG,.int .i64 ah,.int .i64 ai,.int .i64 aj,.slice aC L.length aH,.bool ak,.slice aD M.length aI,.slice aE O.length aJ,.slice aF P.length aK] 28 ?_;clear HB;intro an hg dA n _ hb HB;replace aA:=hm aA hb;clear hb hg;obtain⟨a,b,c,d,g,i,j,l,m⟩:=cc9 n.out)|((with_reducible refine gc 5 ?_);refine gl 13 Tryz.func5 (laws_szBook.calls k _ _ K ah ai aj _ _ L ak _ _ M _ _ O _ _ P 1048576 t1 _ (cb ac HB) W.out (cb ad HB) X.out (cb ae HB) Y.out (cb af HB) Z.out (cb ag HB) aa.out cj.out) ?_;rintro e W1 ⟨rfl,hb⟩;refine⟨_,rfl,?_⟩;replace n:=b1 n hb;clear a b c d g i j l m;obtain⟨a,b,c,d,g,i,j,l,m⟩:=cc9 n.out;replace aA:=hm aA hb;replace HB:=b2 hb;clear hb))
  go_ret
  exact⟨by first|exact congrArg (fun b_=>Ending.returned (.bool b_)) HE.out|rfl,bel⟩
 ·replace H:=bm H;obtain⟨⟨t3,cA,cB,cC,cD,cM,cO,cP,cQ⟩,cn,H⟩:=H;dsimp only at H
  have HN:=am H
  clear H
  go_enter Tryz.func3,Tryz.ntmps3
  go_wp2_with (first|((with_reducible refine gd 1 ?_);refine by_ w 1 #[.slice aB K.length aG,.int .i64 ah,.int .i64 ai,.int .i64 aj,.slice aC L.length aH,.bool ak,.slice aD M.length aI,.slice aE O.length aJ,.slice aF P.length aK] 28 ?_;clear HB;intro an hg dA n _ hb HB;replace aA:=hm aA hb;clear hb hg;obtain⟨a,b,c,d,g,i,j,l,m⟩:=cc9 n.out)|((with_reducible refine gc 5 ?_);refine gl 13 Tryz.func5 (laws_szBook.calls k _ _ K ah ai aj _ _ L ak _ _ M _ _ O _ _ P 1048576 t1 _ (cb ac HB) W.out (cb ad HB) X.out (cb ae HB) Y.out (cb af HB) Z.out (cb ag HB) aa.out cj.out) ?_;rintro e W1 ⟨rfl,hb⟩;refine⟨_,rfl,?_⟩;replace n:=b1 n hb;clear a b c d g i j l m;obtain⟨a,b,c,d,g,i,j,l,m⟩:=cc9 n.out;replace aA:=hm aA hb;replace HB:=b2 hb;clear hb)|((with_reducible refine gc 7 ?_);refine gl 17 Tryz.func7 (laws_toBook.calls k _ _ K ah ai aj _ _ L ak _ _ M _ _ O _ _ P t3 cA cB cC cD cM cO cP cQ _ (cb ac HB) W.out (cb ad HB) X.out (cb ae HB) Y.out (cb af HB) Z.out (cb ag HB) aa.out cn.out) ?_;rintro e W3 ⟨v4,ep,eq,et,eu,rfl,U,aw,ax,ay,az,hb⟩;refine⟨_,rfl,?_⟩;obtain⟨n3,m3,hn_,hm_,T⟩:=mk_rowR2 U bel;have dT:0≤n3:=Nat.le_trans aA.out (Nat.le_of_eq hn_.symm);have ek:n3≤m3:=Nat.le_trans (Nat.le_of_eq hn_) (Nat.le_trans (below_size hb) (Nat.le_of_eq hm_.symm));have cs:=am (show m3≤W3.heap.size from Nat.le_of_eq hm_);have dN:an<n3:=(by rw[hn_];exact blk_lt n.out);clear U;have aq:=row_inR aw bel hn_ hm_;clear aw;have ar:=row_inR ax bel hn_ hm_;clear ax;have au:=row_inR ay bel hn_ hm_;clear ay;have av:=row_inR az bel hn_ hm_;clear az;clear hn_ hm_;replace n:=b1 n hb;clear a b c d g i j l m;obtain⟨a,b,c,d,g,i,j,l,m⟩:=cc9 n.out;replace HB:=b2 hb;clear hb;have b6:=am T;clear T;have a8:=am aq;clear aq;have a9:=am ar;clear ar;have ba:=am au;clear au;have bc:=am av;clear av;obtain⟨eb,ef,eo_⟩:=Kd.R_slice b6.out;subst eo_;obtain⟨dB,dH,eo_⟩:=Kd.R_slice a8.out;subst eo_;obtain⟨dC,dI,eo_⟩:=Kd.R_slice a9.out;subst eo_;obtain⟨dD,dJ,eo_⟩:=Kd.R_slice ba.out;subst eo_;obtain⟨dE,dK,eo_⟩:=Kd.R_slice bc.out;subst eo_))
  have H:=HN.out
  clear HN
  replace H:=bm H;obtain⟨bl,co,H⟩:=H
  replace H:=bm H;obtain⟨⟨a6,bf,bg,bh,aL,bi,a7,aM,aN⟩,cp,H⟩:=H;dsimp only at H
  have HN:=am H
  clear H
  go_wp2_with (first|(go_at_call 6;refine cm (spec_EliminatedTeams.calls k _ _ t3 cA cB cC _ _ cD cM _ _ cO _ _ cP _ _ cQ bl _ (rc b6) (rn b6) (rc a8) (rn a8) (rc a9) (rn a9) (rc ba) (rn ba) (rc bc) (rn bc) co.out) ?_;rintro e W4 ⟨ev,rfl,U,hb⟩;obtain⟨n4,m4,hn_,hm_,T⟩:=mk_rowR2 U bel;have dU:m3≤n4:=Nat.le_trans cs.out (Nat.le_of_eq hn_.symm);have el:n4≤m4:=Nat.le_trans (Nat.le_of_eq hn_) (Nat.le_trans (below_size hb) (Nat.le_of_eq hm_.symm));have ct:=am (show m4≤W4.heap.size from Nat.le_of_eq hm_);clear U;clear hn_ hm_;replace n:=b1 n hb;clear a b c d g i j l m;obtain⟨a,b,c,d,g,i,j,l,m⟩:=cc9 n.out;replace HB:=b2 hb;clear hb;have o:=am T;clear T;obtain⟨dF,dL,eo_⟩:=Kd.R_slice o.out;subst eo_)|((with_reducible refine gc 7 ?_);refine gl 20 Tryz.func7 (laws_toBook.calls k _ _ K ah ai aj _ _ L ak _ _ M _ _ O _ _ P a6 bf bg bh aL bi a7 aM aN _ (cb ac HB) W.out (cb ad HB) X.out (cb ae HB) Y.out (cb af HB) Z.out (cb ag HB) aa.out cp.out) ?_;rintro e W5 ⟨ew,ex,ey,ez,eA,rfl,U,aw,ax,ay,az,hb⟩;refine⟨_,rfl,?_⟩;obtain⟨n5,m5,hn_,hm_,T⟩:=mk_rowR2 U bel;have dV:m4≤n5:=Nat.le_trans ct.out (Nat.le_of_eq hn_.symm);have em:n5≤m5:=Nat.le_trans (Nat.le_of_eq hn_) (Nat.le_trans (below_size hb) (Nat.le_of_eq hm_.symm));have a2:=am (show m5≤W5.heap.size from Nat.le_of_eq hm_);clear U;have aq:=row_inR aw bel hn_ hm_;clear aw;have ar:=row_inR ax bel hn_ hm_;clear ax;have au:=row_inR ay bel hn_ hm_;clear ay;have av:=row_inR az bel hn_ hm_;clear az;clear hn_ hm_;replace o:=rb o hb;replace n:=b1 n hb;clear a b c d g i j l m;obtain⟨a,b,c,d,g,i,j,l,m⟩:=cc9 n.out;replace HB:=b2 hb;clear hb;have D:=am T;clear T;have E:=am aq;clear aq;have G:=am ar;clear ar;have I:=am au;clear au;have J:=am av;clear av;obtain⟨bo,br,eo_⟩:=Kd.R_slice D.out;subst eo_;obtain⟨aZ,a3,eo_⟩:=Kd.R_slice E.out;subst eo_;obtain⟨bp,bu,eo_⟩:=Kd.R_slice G.out;subst eo_;obtain⟨a0,a4,eo_⟩:=Kd.R_slice I.out;subst eo_;obtain⟨a1,a5,eo_⟩:=Kd.R_slice J.out;subst eo_)|((with_reducible refine gd 5 ?_);refine bv 5 #[.slice none 0 0,.int .i64 0,.int .i64 0,.int .i64 0,.slice none 0 0,.bool false,.slice none 0 0,.slice none 0 0,.slice none 0 0] 35 ?_;intro ao hg eC hbox hb;have G5:=am hg;have X5:=am hbox;have B5:=am hb;clear hg hbox hb;obtain⟨p,q,s,t,u,v,x,y,z,b7,b8,b9,ca,cc,cd,ce,cf,cg⟩:=cf9 X5.out)|((with_reducible refine gs 35 5 ?_);refine sv 35 5 ?_;intro eD hw;have hb:=bs9 B5.out (Nat.le_of_eq G5.out.symm) hw;have B:=am (pt9 X5.out hw);clear p q s t u v x y z b7 b8 b9 ca cc cd ce cf cg hw;have dP:m5≤ao:=(by rw[G5.out];exact a2.out);replace o:=rb o hb;replace D:=rb D hb;replace E:=rb E hb;replace G:=rb G hb;replace I:=rb I hb;replace J:=rb J hb;replace n:=b1 n hb;clear a b c d g i j l m;obtain⟨a,b,c,d,g,i,j,l,m⟩:=cc9 n.out;replace a2:=hm a2 hb;replace HB:=b2 hb;clear hb;obtain⟨p,q,s,t,u,v,x,y,z⟩:=cc9 B.out))
  have H:=HN.out
  clear HN
  replace H:=bm H;obtain⟨bn,cq,H⟩:=H
  have HN:=am H
  clear H
  go_wp2_with (first|(go_at_call 8;refine cm (impl_EliminatedTeams.calls k _ _ a6 bf bg bh _ _ aL bi _ _ a7 _ _ aM _ _ aN bn _ (rc D) (rn D) (rc E) (rn E) (rc G) (rn G) (rc I) (rn I) (rc J) (rn J) cq.out) ?_;rintro e W7 ⟨eB,rfl,U,hb⟩;obtain⟨n7,m7,hn_,hm_,T⟩:=mk_rowR2 U bel;have dW:m5≤n7:=Nat.le_trans a2.out (Nat.le_of_eq hn_.symm);have en:n7≤m7:=Nat.le_trans (Nat.le_of_eq hn_) (Nat.le_trans (below_size hb) (Nat.le_of_eq hm_.symm));have cu:=am (show m7≤W7.heap.size from Nat.le_of_eq hm_);have dO:ao<n7:=(by rw[hn_];exact blk_lt B.out);clear U;clear hn_ hm_;replace o:=rb o hb;replace D:=rb D hb;replace E:=rb E hb;replace G:=rb G hb;replace I:=rb I hb;replace J:=rb J hb;replace n:=b1 n hb;clear a b c d g i j l m;obtain⟨a,b,c,d,g,i,j,l,m⟩:=cc9 n.out;replace B:=b1 B hb;clear p q s t u v x y z;obtain⟨p,q,s,t,u,v,x,y,z⟩:=cc9 B.out;replace HB:=b2 hb;clear hb;have A:=am T;clear T;obtain⟨dG,dM,eo_⟩:=Kd.R_slice A.out;subst eo_))
  have H:=HN.out
  clear HN
  replace H:=bm H;obtain⟨eo,bS,H⟩:=H
  replace H:=nt H;obtain⟨rfl,H⟩:=H
  have HN:=am H
  clear H
  go_wp2_with (first|(go_at_call 9;refine cm (laws_eqIntS.calls k _ _ bn _ _ bl true _ (rc A) (rn A) (rc o) (rn o) bS.out) ?_;rintro e w' ⟨rfl,⟨nd,rfl⟩⟩))
  have H:=HN.out
  clear HN
  replace H:=bm H;obtain⟨⟨bw,bA,bB,bC,bD,bE,bF,bG,bH⟩,bT,H⟩:=H;dsimp only at H
  replace H:=bm H;obtain⟨dX,bU,H⟩:=H
  replace H:=nt H;obtain⟨rfl,H⟩:=H
  have HN:=am H
  clear H
  go_region_held3 (fun w'=>w'.cell? ⟨an,0,none⟩=some (.slice aB K.length aG)∧w'.cell? ⟨an,1,none⟩=some (.int .i64 ah)∧w'.cell? ⟨an,2,none⟩=some (.int .i64 ai)∧w'.cell? ⟨an,3,none⟩=some (.int .i64 aj)∧w'.cell? ⟨an,4,none⟩=some (.slice aC L.length aH)∧w'.cell? ⟨an,5,none⟩=some (.bool ak)∧w'.cell? ⟨an,6,none⟩=some (.slice aD M.length aI)∧w'.cell? ⟨an,7,none⟩=some (.slice aE O.length aJ)∧w'.cell? ⟨an,8,none⟩=some (.slice aF P.length aK)∧w'.cell? ⟨ao,0,none⟩=some (.slice bo a6.length br)∧w'.cell? ⟨ao,1,none⟩=some (.int .i64 bf)∧w'.cell? ⟨ao,2,none⟩=some (.int .i64 bg)∧w'.cell? ⟨ao,3,none⟩=some (.int .i64 bh)∧w'.cell? ⟨ao,4,none⟩=some (.slice aZ aL.length a3)∧w'.cell? ⟨ao,5,none⟩=some (.bool bi)∧w'.cell? ⟨ao,6,none⟩=some (.slice bp a7.length bu)∧w'.cell? ⟨ao,7,none⟩=some (.slice a0 aM.length a4)∧w'.cell? ⟨ao,8,none⟩=some (.slice a1 aN.length a5)) (go_keep) (first|(go_at_call 7;refine cm (laws_toBook.calls k _ _ K ah ai aj _ _ L ak _ _ M _ _ O _ _ P bw bA bB bC bD bE bF bG bH _ (cb ac HB) W.out (cb ad HB) X.out (cb ae HB) Y.out (cb af HB) Z.out (cb ag HB) aa.out bT.out) ?_;rintro e db ⟨d0,d1,d2,d3,d4,rfl,U,aw,ax,ay,az,hb⟩;skip;obtain⟨cx,ch,hn_,hm_,T⟩:=mk_rowR2 U bel;have dx:m7≤cx:=Nat.le_trans cu.out (Nat.le_of_eq hn_.symm);have dQ:cx≤ch:=Nat.le_trans (Nat.le_of_eq hn_) (Nat.le_trans (below_size hb) (Nat.le_of_eq hm_.symm));have al:=am (show ch≤db.heap.size from Nat.le_of_eq hm_);clear U;have aq:=row_inR aw bel hn_ hm_;clear aw;have ar:=row_inR ax bel hn_ hm_;clear ax;have au:=row_inR ay bel hn_ hm_;clear ay;have av:=row_inR az bel hn_ hm_;clear az;clear hn_ hm_;replace o:=rb o hb;replace D:=rb D hb;replace E:=rb E hb;replace G:=rb G hb;replace I:=rb I hb;replace J:=rb J hb;replace A:=rb A hb;replace n:=b1 n hb;clear a b c d g i j l m;obtain⟨a,b,c,d,g,i,j,l,m⟩:=cc9 n.out;replace B:=b1 B hb;clear p q s t u v x y z;obtain⟨p,q,s,t,u,v,x,y,z⟩:=cc9 B.out;replace HB:=b2 hb;clear hb;have aO:=am T;clear T;have aP:=am aq;clear aq;have aQ:=am ar;clear ar;have aR:=am au;clear au;have aS:=am av;clear av;obtain⟨cR,dl,eo_⟩:=Kd.R_slice aO.out;subst eo_;obtain⟨cS,dm,eo_⟩:=Kd.R_slice aP.out;subst eo_;obtain⟨cT,dn,eo_⟩:=Kd.R_slice aQ.out;subst eo_;obtain⟨cU,dp,eo_⟩:=Kd.R_slice aR.out;subst eo_;obtain⟨cV,dq,eo_⟩:=Kd.R_slice aS.out;subst eo_)|(go_at_call 10;refine cm (laws_eqBook.calls k _ _ a6 bf bg bh _ _ aL bi _ _ a7 _ _ aM _ _ aN _ _ bw bA bB bC _ _ bD bE _ _ bF _ _ bG _ _ bH true _ (rc D) (rn D) (rc E) (rn E) (rc G) (rn G) (rc I) (rn I) (rc J) (rn J) (rc aO) (rn aO) (rc aP) (rn aP) (rc aQ) (rn aQ) (rc aR) (rn aR) (rc aS) (rn aS) bU.out) ?_;rintro e ec ⟨rfl,hb⟩;skip;replace o:=rb o hb;replace D:=rb D hb;replace E:=rb E hb;replace G:=rb G hb;replace I:=rb I hb;replace J:=rb J hb;replace A:=rb A hb;replace n:=b1 n hb;clear a b c d g i j l m;obtain⟨a,b,c,d,g,i,j,l,m⟩:=cc9 n.out;replace B:=b1 B hb;clear p q s t u v x y z;obtain⟨p,q,s,t,u,v,x,y,z⟩:=cc9 B.out;replace al:=hm al hb;replace HB:=b2 hb;clear hb))
  have H:=HN.out
  clear HN
  replace H:=bm H;obtain⟨⟨cE,cF,cG,cH,cI,cJ⟩,bV,H⟩:=H;dsimp only at H
  replace H:=nl H;obtain⟨de,H⟩:=H
  have HN:=am H
  clear H
  go_wp2_with (first|((with_reducible refine gc 11 ?_);refine gl 34 Tryz.func11 (laws_markBook.calls k (fun k_=>some k_=(.slice bo a6.length br:Value).ownBlock∧((n5≤k_∧k_<m5)∧True)) _ a6 bf bg bh (fun k_=>some k_=(.slice aZ aL.length a3:Value).ownBlock∧((n5≤k_∧k_<m5)∧some k_≠(.slice a0 aM.length a4:Value).ownBlock∧some k_≠(.slice a1 aN.length a5:Value).ownBlock)) _ aL bi (fun k_=>some k_=(.slice bp a7.length bu:Value).ownBlock∧((n5≤k_∧k_<m5)∧True)) _ a7 (fun k_=>some k_=(.slice a0 aM.length a4:Value).ownBlock∧((n5≤k_∧k_<m5)∧some k_≠(.slice aZ aL.length a3:Value).ownBlock∧some k_≠(.slice a1 aN.length a5:Value).ownBlock)) _ aM (fun k_=>some k_=(.slice a1 aN.length a5:Value).ownBlock∧((n5≤k_∧k_<m5)∧some k_≠(.slice aZ aL.length a3:Value).ownBlock∧some k_≠(.slice a0 aM.length a4:Value).ownBlock)) _ aN 1 cE cF cG cH cI cJ w _ bel (rt2 D) (rt2 E) (fun k_ h_ ap=>h_.2.2.1 ap.1) (fun k_ h_ ap=>h_.2.2.2 ap.1) (rt2 G) (rt2 I) (fun k_ h_ ap=>h_.2.2.1 ap.1) (fun k_ h_ ap=>h_.2.2.2 ap.1) (rt2 J) (fun k_ h_ ap=>h_.2.2.1 ap.1) (fun k_ h_ ap=>h_.2.2.2 ap.1) bV.out) ?_;rintro e ed ⟨rfl,bj,eg,eh,ei,ej,hb,hk⟩;refine⟨_,rfl,?_⟩;replace o:=rs o hk;replace A:=rs A hk;replace n:=kb n hk;clear a b c d g i j l m;obtain⟨a,b,c,d,g,i,j,l,m⟩:=cc9 n.out;replace B:=kb B hk;clear p q s t u v x y z;obtain⟨p,q,s,t,u,v,x,y,z⟩:=cc9 B.out;replace HB:=am hb;replace al:=am (Nat.le_trans al.out hk.1);clear hb hk))
  have H:=HN.out
  clear HN
  replace H:=bm H;obtain⟨dY,bW,H⟩:=H
  replace H:=nt H;obtain⟨rfl,H⟩:=H
  have HN:=am H
  clear H
  go_wp2_with (first|(go_at_call 9;refine cm (laws_eqIntS.calls k _ _ bn _ _ bl true _ (rc A) (rn A) (rc o) (rn o) bW.out) ?_;rintro e w' ⟨rfl,⟨nd,rfl⟩⟩))
  have H:=HN.out
  clear HN
  replace H:=bm H;obtain⟨⟨cK,be⟩,bX,H⟩:=H;dsimp only at H
  have HN:=am H
  clear H
  go_wp2_with (first|(go_at_call 12;refine cm (laws_markIntS.calls k (fun k_=>n7≤k_∧k_<m7) _ bn 1 cK be w _ bel ((Kd.R_mono (ok:=fun k_=>(n7≤k_∧k_<m7)∧True) (by(with_reducible repeat (first|apply Kd.R_alloc|apply Kd.R_drewN|apply Kd.R_drew));exact A.out) (fun _ h_=>h_.1))) bX.out) ?_;rintro e ee ⟨rfl,bj,hb,hk⟩;replace o:=rs o hk;have bd:=(Kd.R_reads' bj).1;rw[bd]at bj;(try rw[bd]);replace A:=am bj;replace n:=kb n hk;clear a b c d g i j l m;obtain⟨a,b,c,d,g,i,j,l,m⟩:=cc9 n.out;replace B:=kb B hk;clear p q s t u v x y z;obtain⟨p,q,s,t,u,v,x,y,z⟩:=cc9 B.out;clear bd;replace HB:=am hb;replace al:=am (Nat.le_trans al.out hk.1);clear hb hk))
  have H:=HN.out
  clear HN
  replace H:=bm H;obtain⟨cL,bY,H⟩:=H
  replace H:=nl H;obtain⟨df,H⟩:=H
  replace H:=ne_ H;obtain⟨dg,dh,H⟩:=H
  replace H:=bm H;obtain⟨⟨bI,bJ,bK,bL,bM,bN,bO,bP,bQ⟩,bZ,H⟩:=H;dsimp only at H
  have HN:=am H
  clear H
  go_wp2_with (first|(go_at_call 13;refine cm (laws_heldIntS.calls k _ _ be 1 cL _ (rc A) (rn A) bY.out) ?_;rintro e w' ⟨rfl,⟨nd,rfl⟩⟩)|((with_reducible refine gc 7 ?_);refine gl 55 Tryz.func7 (laws_toBook.calls k _ _ K ah ai aj _ _ L ak _ _ M _ _ O _ _ P bI bJ bK bL bM bN bO bP bQ _ (cb ac HB) W.out (cb ad HB) X.out (cb ae HB) Y.out (cb af HB) Z.out (cb ag HB) aa.out bZ.out) ?_;rintro e dc ⟨d5,d6,d7,d8,d9,rfl,U,aw,ax,ay,az,hb⟩;refine⟨_,rfl,?_⟩;obtain⟨cy,ci,hn_,hm_,T⟩:=mk_rowR2 U bel;have dy:ch≤cy:=Nat.le_trans al.out (Nat.le_of_eq hn_.symm);have dR:cy≤ci:=Nat.le_trans (Nat.le_of_eq hn_) (Nat.le_trans (below_size hb) (Nat.le_of_eq hm_.symm));have b5:=am (show ci≤dc.heap.size from Nat.le_of_eq hm_);clear U;have aq:=row_inR aw bel hn_ hm_;clear aw;have ar:=row_inR ax bel hn_ hm_;clear ax;have au:=row_inR ay bel hn_ hm_;clear ay;have av:=row_inR az bel hn_ hm_;clear az;clear hn_ hm_;replace o:=rb o hb;replace A:=rb A hb;replace n:=b1 n hb;clear a b c d g i j l m;obtain⟨a,b,c,d,g,i,j,l,m⟩:=cc9 n.out;replace B:=b1 B hb;clear p q s t u v x y z;obtain⟨p,q,s,t,u,v,x,y,z⟩:=cc9 B.out;replace HB:=b2 hb;clear hb;have aT:=am T;clear T;have aU:=am aq;clear aq;have aV:=am ar;clear ar;have aW:=am au;clear au;have aX:=am av;clear av;obtain⟨cW,dr,eo_⟩:=Kd.R_slice aT.out;subst eo_;obtain⟨cX,ds,eo_⟩:=Kd.R_slice aU.out;subst eo_;obtain⟨cY,dt,eo_⟩:=Kd.R_slice aV.out;subst eo_;obtain⟨cZ,du,eo_⟩:=Kd.R_slice aW.out;subst eo_;obtain⟨c0,dv,eo_⟩:=Kd.R_slice aX.out;subst eo_))
  have H:=HN.out
  clear HN
  replace H:=bm H;obtain⟨bR,b0,H⟩:=H
  have HN:=am H
  clear H
  go_wp2_with (first|(go_at_call 8;refine cm (impl_EliminatedTeams.calls k _ _ bI bJ bK bL _ _ bM bN _ _ bO _ _ bP _ _ bQ bR _ (rc aT) (rn aT) (rc aU) (rn aU) (rc aV) (rn aV) (rc aW) (rn aW) (rc aX) (rn aX) b0.out) ?_;rintro e dd ⟨ea,rfl,U,hb⟩;obtain⟨cz,cw,hn_,hm_,T⟩:=mk_rowR2 U bel;have dz:ci≤cz:=Nat.le_trans b5.out (Nat.le_of_eq hn_.symm);have dS:cz≤cw:=Nat.le_trans (Nat.le_of_eq hn_) (Nat.le_trans (below_size hb) (Nat.le_of_eq hm_.symm));have da:=am (show cw≤dd.heap.size from Nat.le_of_eq hm_);clear U;clear hn_ hm_;replace o:=rb o hb;replace A:=rb A hb;replace n:=b1 n hb;clear a b c d g i j l m;obtain⟨a,b,c,d,g,i,j,l,m⟩:=cc9 n.out;replace B:=b1 B hb;clear p q s t u v x y z;obtain⟨p,q,s,t,u,v,x,y,z⟩:=cc9 B.out;replace HB:=b2 hb;clear hb;have aY:=am T;clear T;obtain⟨c1,dw,eo_⟩:=Kd.R_slice aY.out;subst eo_))
  have H:=HN.out
  clear HN
  replace H:=bm H;obtain⟨dZ,b3,H⟩:=H
  replace H:=nt H;obtain⟨rfl,H⟩:=H
  have HN:=am H
  clear H
  go_wp2_with (first|(go_at_call 9;refine cm (laws_eqIntS.calls k _ _ bR _ _ bl true _ (rc aY) (rn aY) (rc o) (rn o) b3.out) ?_;rintro e w' ⟨rfl,⟨nd,rfl⟩⟩))
  have H:=HN.out
  clear HN
  replace H:=bm H;obtain⟨cN,b4,H⟩:=H
  replace H:=nl H;obtain⟨di,H⟩:=H
  replace H:=ne_ H;obtain⟨dj,dk,H⟩:=H
  have HE:=am (Option.some.inj H)
  clear H
  go_wp2_with (first|(go_at_call 13;refine cm (laws_heldIntS.calls k _ _ be 1 cN _ (rc A) (rn A) b4.out) ?_;rintro e w' ⟨rfl,⟨nd,rfl⟩⟩))
  go_ret
  exact⟨by first|exact congrArg (fun b_=>Ending.returned (.bool b_)) HE.out|rfl,bel⟩
end Go.Proofs.YtgalpgakdcfilaaGreat.L
