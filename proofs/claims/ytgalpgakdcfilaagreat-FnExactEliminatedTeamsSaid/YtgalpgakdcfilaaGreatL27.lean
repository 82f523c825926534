-- Written by a program of this session (wip/xp.py).
import Derived.Test.YtgalpgakdcfilaaGreatL0
import Derived.Test.YtgalpgakdcfilaaGreatL24
import Derived.Test.YtgalpgakdcfilaaGreatL11
namespace Go.Proofs.YtgalpgakdcfilaaGreat.L
open Go.RowKit Go.Proofs.YtgalpgakdcfilaaGreatW.PrintWords Go.Proofs.YtgalpgakdcfilaaGreatW.PrintLast Go.Proofs.YtgalpgakdcfilaaGreatW.PrintMore
attribute [local go_sem] max2_int min2_int max_two min_two max_three min_three max_four min_four
set_option linter.unusedVariables false
set_option linter.unusedSimpArgs false
set_option maxHeartbeats 8000000
set_option maxRecDepth 100000
mutual
def spec_l18Net.l0:Nat→Int→List Int→Int→List (S79)→Int→Int→Int→List (S71)→Option (Int×(List (S71))×Int)
  |0,_,_,_,_,_,_,_,_=>none
  |k+1,x1,x6,x7,d,e,c,a,b=>if c<e then(if 0≤c then(if c<(d.length:Int)then((spec_IsOpen.f ((rd_T79 d c).f0) ((rd_T79 d c).f1) ((rd_T79 d c).f2) ((rd_T79 d c).f3) ((rd_T79 d c).f4)).bind fun h=>(if h=true then(if((rd_T79 d c).f0)=x1 then(spec_l18Net.l0 k x1 x6 x7 d e (wrap64 (c+1)) a b)else(if((rd_T79 d c).f1)=x1 then(spec_l18Net.l0 k x1 x6 x7 d e (wrap64 (c+1)) a b)else((some (([(⟨0,a,2⟩:S71),(⟨a,wrap64 (2+((rd_T79 d c).f0)),2⟩:S71),(⟨a,wrap64 (2+((rd_T79 d c).f1)),2⟩:S71)]:List (S71)):List (S71))).bind fun g=>(if b.length+g.length<5864062014805 then(spec_l18Net.l0 k x1 x6 x7 d e (wrap64 (c+1)) (wrap64 (a+1)) (b++g))else(none)))))else(spec_l18Net.l0 k x1 x6 x7 d e (wrap64 (c+1)) a b)))else(none))else(none))else(spec_l18Net.l1 k x1 x7 x6 (x6.length:Int) 0 a b)
def spec_l18Net.l1:Nat→Int→Int→List Int→Int→Int→Int→List (S71)→Option (Int×(List (S71))×Int)
  |0,_,_,_,_,_,_,_=>none
  |k+1,x1,x7,d,e,c,b,a=>if c<e then(if 0≤c then(if c<(d.length:Int)then(if c=x1 then(spec_l18Net.l1 k x1 x7 d e (wrap64 (c+1)) b a)else(if(rd d c)>x7 then(some (0,([]:List (S71)),c))else(if a.length<5864062014805 then(spec_l18Net.l1 k x1 x7 d e (wrap64 (c+1)) b (a++[(⟨wrap64 (2+c),1,wrap64 (x7-(rd d c))⟩:S71)]))else(none))))else(none))else(none))else(some (b,a,(-1)))
end
def spec_l18Net.f(k:Nat)(b:List (S83))(c:Int)(d:Int)(e:Int)(h:List Int)(g:Bool)(a:List (S79))(i:List Int)(j:List Int)(a1:Int):Option (Int×(List (S71))×Int):=(spec_l18Points.f k b c d e h g a i j).bind fun l=>((spec_l18Best.f k b c d e h g a i j a1).bind fun m=>(spec_l18Net.l0 k a1 l m a (a.length:Int) 0 (wrap64 (2+(b.length:Int))) ([]:List (S71))))
theorem spec_l18Net.calls(k:Nat)(aa:Option Addr)(ah:Nat)(z:List (S83))(P:Int)(T:Int)(U:Int)(ac:Option Addr)(ai:Nat)(D:List Int)(W:Bool)(aw:Option Addr)(aj:Nat)(m:List (S79))(ad:Option Addr)(ak:Nat)(E:List Int)(ae:Option Addr)(al:Nat)(G:List Int)(a1:Int)(r1:Int)(r2:List (S71))(r3:Int)(w:World)(aE:Kd.C k83 w aa z.length z)(ay:z.length≤ah)(aG:Kd.C (Kd.int .i64) w ac D.length D)(az:D.length≤ai)(J:Kd.C k79 w aw m.length m)(aA:m.length≤aj)(aH:Kd.C (Kd.int .i64) w ad E.length E)(aC:E.length≤ak)(aI:Kd.C (Kd.int .i64) w ae G.length G)(aD:G.length≤al)(h:spec_l18Net.f k z P T U D W m E G a1=some (r1,r2,r3)):Calls Tryz.prog 34 #[.agg #[.slice aa z.length ah,.int .i64 P,.int .i64 T,.int .i64 U,.slice ac D.length ai,.bool W,.slice aw m.length aj,.slice ad E.length ak,.slice ae G.length al],.int .i64 a1] w fun e w'=>∃dp:Value,e=.returned (.tuple #[.agg #[.int .i64 r1,dp],.int .i64 r3])∧Kd.R k71 71 w' w.heap.size (fun _=>True) dp r2∧Below w.heap.size w w':=by
 have dA:=Tryz.underlying35
 have dB:=Tryz.underlying65
 have dD:=Tryz.underlying79
 have dC:=Tryz.underlying71
 replace aE:=am aE
 replace ay:=am ay
 replace aG:=am aG
 replace az:=am az
 replace J:=am J
 replace aA:=am aA
 replace aH:=am aH
 replace aC:=am aC
 replace aI:=am aI
 replace aD:=am aD
 have HB:=qb w
 have H:=h
 unfold spec_l18Net.f at H
 clear h
 replace H:=bm H;obtain⟨y,A3,H⟩:=H
 replace H:=bm H;obtain⟨av,A4,H⟩:=H
 replace H:=am H
 go_enter Tryz.func34,Tryz.ntmps34
 go_wp2_with (first|((with_reducible refine gd 2 ?_);refine bx w 2 #[.slice aa z.length ah,.int .i64 P,.int .i64 T,.int .i64 U,.slice ac D.length ai,.bool W,.slice aw m.length aj,.slice ad E.length ak,.slice ae G.length al] 35 ?_;clear HB;intro aK w5 d dr HB)|((with_reducible refine gd 4 ?_);refine by_ w 4 #[.int .i64 0,.slice none 0 0] 65 ?_;clear HB;intro Y hg w6 j ds hb HB;obtain⟨b4,ag⟩:=qn hg d;replace d:=b1 d hb;clear hb hg;obtain⟨_,_⟩:=qo b4;obtain⟨b6,b7,b8,b9,ca,cc,cd,ce,cf,cg,ch,ci,cj,cn,co,cp,cq,cs⟩:=cf9 d.out)|((with_reducible refine gc 54 ?_);refine gl 14 Tryz.func54 (spec_l18Points.calls k _ _ z P T U _ _ D W _ _ m _ _ E _ _ G y _ (cb aE HB) ay.out (cb aG HB) az.out (cb J HB) aA.out (cb aH HB) aC.out (cb aI HB) aD.out A3.out) ?_;rintro e w9 ⟨dq,rfl,dl,hb⟩;refine⟨_,rfl,?_⟩;have af:=am (Kd.R_lower dl (below_size bel));replace d:=b1 d hb;replace j:=b1 j hb;replace HB:=b2 hb;(try clear hb);(try clear dl);obtain⟨aT,aU,aV,aW,aX,aY,aZ,a0,a2,br,bu,bw,bA,bB,bC,bD,bE,bF⟩:=cf9 d.out)|((with_reducible refine gc 55 ?_);refine gl 17 Tryz.func55 (spec_l18Best.calls k _ _ z P T U _ _ D W _ _ m _ _ E _ _ G a1 av _ (cb aE HB) ay.out (cb aG HB) az.out (cb J HB) aA.out (cb aH HB) aC.out (cb aI HB) aD.out A4.out) ?_;rintro e dL ⟨rfl,hb⟩;refine⟨_,rfl,?_⟩;replace af:=rb af hb;replace d:=b1 d hb;replace j:=b1 j hb;replace HB:=b2 hb;(try clear hb);obtain⟨a3,a4,a5,a6,a7,a8,a9,ba,bc,bG,bH,bI,bJ,bK,bL,bM,bN,bO⟩:=cf9 d.out)|((with_reducible refine gd 8 ?_);refine by_ w 8 #[.int .i64 0,.slice none 0 0] 65 ?_;clear HB;intro aM hg dM l dt hb HB;obtain⟨cL,A⟩:=qn hg d;obtain⟨b5,B⟩:=qn hg j;replace af:=rb af hb;replace d:=b1 d hb;replace j:=b1 j hb;clear hb hg;obtain⟨_,_⟩:=qo A;obtain⟨_,_⟩:=qo B;obtain⟨bd,be,bP,bQ⟩:=cf2 l.out;obtain⟨bf,bg,bh,bi,bj,bl,bn,bo,bp,bR,bS,bT,bU,bV,bW,bX,bY,bZ⟩:=cf9 d.out))
 go_loopg [26] k (fun kq dy w'=>∃(i:Int) (c:Int) (r:List (S71)) (u397001:Value),dy=.int .i64 i∧Aside0 (spec_l18Net.l0 kq a1 y av m (m.length:Int) i c r=some (r1,r2,r3))∧Aside0 (kq≤k)∧Aside0 (Kd.R (Kd.int .i64) 3 w' w.heap.size (fun _=>True) dq y)∧Aside0 (Kd.R k71 71 w' w.heap.size (fun _=>True) u397001 r)∧Aside0 (w'.heap[aK]? =some (.cells #[(.slice aa z.length ah),.int .i64 P,.int .i64 T,.int .i64 U,(.slice ac D.length ai),.bool W,(.slice aw m.length aj),(.slice ad E.length ak),(.slice ae G.length al)] 35 (0,0)))∧Aside0 (w'.heap[Y]? =some (.cells #[.int .i64 0,(.slice none 0 0)] 65 (0,0)))∧Aside0 (w'.heap[aM]? =some (.cells #[.int .i64 c,u397001] 65 (0,0)))∧Aside0 (Below w.heap.size w w'))
 case atStart=>exact⟨(0),(wrap64 (2+(z.length:Int))),(([]:List (S71))),(.slice none 0 0),(es),H,⟨Nat.le_refl _⟩,⟨(kf (Kd.R_types af.out l.out (by decide)) (fun _ hk=>trivial))⟩,⟨qk⟩,⟨bk d.out⟩,⟨bk j.out⟩,⟨(bz l)⟩,⟨bel⟩⟩
 case round=>
  clear H
  try clear aT;try clear aU;try clear aV;try clear aW;try clear aX;try clear aY;try clear aZ;try clear a0;try clear a2;try clear a3;try clear a4;try clear a5;try clear a6;try clear a7;try clear a8;try clear a9;try clear ba;try clear bc;try clear bd;try clear be;try clear bf;try clear bg;try clear bh;try clear bi;try clear bj;try clear bl;try clear bn;try clear bo;try clear bp;try clear b6;try clear b7;try clear b8;try clear b9;try clear ca;try clear cc;try clear cd;try clear ce;try clear cf;try clear br;try clear bu;try clear bw;try clear bA;try clear bB;try clear bC;try clear bD;try clear bE;try clear bF;try clear bG;try clear bH;try clear bI;try clear bJ;try clear bK;try clear bL;try clear bM;try clear bN;try clear bO;try clear bP;try clear bQ;try clear bR;try clear bS;try clear bT;try clear bU;try clear bV;try clear bW;try clear bX;try clear bY;try clear bZ;try clear cg;try clear ch;try clear ci;try clear cj;try clear cn;try clear co;try clear cp;try clear cq;try clear cs
  obtain⟨i,c,r,u397001,rfl,HA,Z,q,a,d,j,l,HB⟩:=hrel
  cases gk with
  |zero=>exact absurd HA.out (by simp [spec_l18Net.l0])
  |succ k1=>
   have H:=HA.out
   clear HA
   simp only[spec_l18Net.l0]at H
   replace H:=i1 H;obtain⟨cx,H⟩|⟨cx,H⟩:=H
   ·replace H:=i0 H;obtain⟨du,H⟩:=H
    replace H:=i0 H;obtain⟨dv,H⟩:=H
    replace H:=bm H;obtain⟨dE,cF,H⟩:=H
    replace H:=ib H;obtain⟨rfl,H⟩|⟨rfl,H⟩:=H
    ·replace H:=ie H;obtain⟨cO,cP,H⟩|⟨⟨dI,cO,cP⟩,H⟩:=H
     ·replace H:=am H
      have:(0≤(i:Int))=True:=ab
      have:(i<(m.length:Int))=True:=ab
      obtain⟨aJ,an,ao,ap,aq,ar,au⟩:=hc5 HB.out (at_T79 J.out i asm asm)
      cases an
      go_wp2_with (first|((with_reducible refine gd 10 ?_);refine by_ w 10 #[.int .i64 0,.int .i64 0,.int .i64 0,.int .i64 0,.int .i64 0] 79 ?_;clear HB;intro aN hg dN n b3 hb HB;obtain⟨K,s⟩:=qn hg d;obtain⟨L,t⟩:=qn hg j;obtain⟨O,u⟩:=qn hg l;replace q:=rb q hb;replace a:=rb a hb;replace d:=b1 d hb;replace j:=b1 j hb;replace l:=b1 l hb;clear hb hg;obtain⟨_,_⟩:=qo s;obtain⟨_,_⟩:=qo t;obtain⟨_,_⟩:=qo u;obtain⟨_,_,_,_,_,_,_,_,_,_⟩:=cf5 n.out)|((with_reducible refine gc 56 ?_);refine gl 31 Tryz.func56 (spec_IsOpen.calls ((rd_T79 m i).f0) ((rd_T79 m i).f1) ((rd_T79 m i).f2) ((rd_T79 m i).f3) ((rd_T79 m i).f4) true _ cF.out) ?_;rintro e dO ⟨rfl,hb⟩;refine⟨_,rfl,?_⟩;replace q:=am (Kd.R_below (kf (Kd.R_types q.out n.out (by decide)) (fun _ h_=>h_.1)) hb);replace a:=am (Kd.R_below (kf (Kd.R_types a.out n.out (by decide)) (fun _ h_=>h_.1)) hb);replace d:=b1 d hb;replace j:=b1 j hb;replace l:=b1 l hb;replace n:=bq n hb;replace HB:=b2 hb;(try clear hb);obtain⟨_,_,_,_,_,_,_,_,_,_⟩:=cf5 n.out))
      go_roundg k1
      case measure=>have:=Z.out;omega
      case rel=>exact⟨(wrap64 (i+1)),(c),(r),(u397001),(es),H,⟨by have:=Z.out;omega⟩,⟨rk q.out⟩,⟨rk a.out⟩,⟨bk d.out⟩,⟨bk j.out⟩,⟨bk l.out⟩,⟨bel⟩⟩
     ·replace H:=ie H;obtain⟨cQ,cR,H⟩|⟨⟨dJ,cQ,cR⟩,H⟩:=H
      ·replace H:=am H
       have:(0≤(i:Int))=True:=ab
       have:(i<(m.length:Int))=True:=ab
       obtain⟨aJ,an,ao,ap,aq,ar,au⟩:=hc5 HB.out (at_T79 J.out i asm asm)
       cases an
       go_wp2_with (first|((with_reducible refine gd 10 ?_);refine by_ w 10 #[.int .i64 0,.int .i64 0,.int .i64 0,.int .i64 0,.int .i64 0] 79 ?_;clear HB;intro aN hg dP n b3 hb HB;obtain⟨K,s⟩:=qn hg d;obtain⟨L,t⟩:=qn hg j;obtain⟨O,u⟩:=qn hg l;replace q:=rb q hb;replace a:=rb a hb;replace d:=b1 d hb;replace j:=b1 j hb;replace l:=b1 l hb;clear hb hg;obtain⟨_,_⟩:=qo s;obtain⟨_,_⟩:=qo t;obtain⟨_,_⟩:=qo u;obtain⟨_,_,_,_,_,_,_,_,_,_⟩:=cf5 n.out)|((with_reducible refine gc 56 ?_);refine gl 31 Tryz.func56 (spec_IsOpen.calls ((rd_T79 m i).f0) ((rd_T79 m i).f1) ((rd_T79 m i).f2) ((rd_T79 m i).f3) ((rd_T79 m i).f4) true _ cF.out) ?_;rintro e dQ ⟨rfl,hb⟩;refine⟨_,rfl,?_⟩;replace q:=am (Kd.R_below (kf (Kd.R_types q.out n.out (by decide)) (fun _ h_=>h_.1)) hb);replace a:=am (Kd.R_below (kf (Kd.R_types a.out n.out (by decide)) (fun _ h_=>h_.1)) hb);replace d:=b1 d hb;replace j:=b1 j hb;replace l:=b1 l hb;replace n:=bq n hb;replace HB:=b2 hb;(try clear hb);obtain⟨_,_,_,_,_,_,_,_,_,_⟩:=cf5 n.out))
       go_roundg k1
       case measure=>have:=Z.out;omega
       case rel=>exact⟨(wrap64 (i+1)),(c),(r),(u397001),(es),H,⟨by have:=Z.out;omega⟩,⟨rk q.out⟩,⟨rk a.out⟩,⟨bk d.out⟩,⟨bk j.out⟩,⟨bk l.out⟩,⟨bel⟩⟩
      ·replace H:=bs H;obtain⟨cE,cv,H⟩:=H
       replace H:=i0 H;obtain⟨c1,H⟩:=H
       have cJ:=am (of_decide_eq_true c1)
       clear c1
       generalize hy403:(r++cE:List (S71))=cH at H
       have cM:=am hy403.symm
       clear hy403
       replace H:=am H
       have:(0≤(i:Int))=True:=ab
       have:(i<(m.length:Int))=True:=ab
       obtain⟨aJ,an,ao,ap,aq,ar,au⟩:=hc5 HB.out (at_T79 J.out i asm asm)
       cases an
       go_wp2_with (first|((with_reducible refine gd 10 ?_);refine by_ w 10 #[.int .i64 0,.int .i64 0,.int .i64 0,.int .i64 0,.int .i64 0] 79 ?_;clear HB;intro aN hg dR n b3 hb HB;obtain⟨K,s⟩:=qn hg d;obtain⟨L,t⟩:=qn hg j;obtain⟨O,u⟩:=qn hg l;replace q:=rb q hb;replace a:=rb a hb;replace d:=b1 d hb;replace j:=b1 j hb;replace l:=b1 l hb;clear hb hg;obtain⟨_,_⟩:=qo s;obtain⟨_,_⟩:=qo t;obtain⟨_,_⟩:=qo u;obtain⟨_,_,_,_,_,_,_,_,_,_⟩:=cf5 n.out)|((with_reducible refine gc 56 ?_);refine gl 31 Tryz.func56 (spec_IsOpen.calls ((rd_T79 m i).f0) ((rd_T79 m i).f1) ((rd_T79 m i).f2) ((rd_T79 m i).f3) ((rd_T79 m i).f4) true _ cF.out) ?_;rintro e dS ⟨rfl,hb⟩;refine⟨_,rfl,?_⟩;replace q:=am (Kd.R_below (kf (Kd.R_types q.out n.out (by decide)) (fun _ h_=>h_.1)) hb);replace a:=am (Kd.R_below (kf (Kd.R_types a.out n.out (by decide)) (fun _ h_=>h_.1)) hb);replace d:=b1 d hb;replace j:=b1 j hb;replace l:=b1 l hb;replace n:=bq n hb;replace HB:=b2 hb;(try clear hb);obtain⟨_,_,_,_,_,_,_,_,_,_⟩:=cf5 n.out;obtain⟨_,_⟩:=qo A;obtain⟨_,_⟩:=qo B;obtain⟨_,_,_,_⟩:=cf2 l.out)|((with_reducible refine gate_dst (N:=62) rfl ?_);refine Kd.R_lit k71 _ 71 ?hg (N:=62) ?hd (xs:=([(⟨0,c,2⟩:S71),(⟨c,wrap64 (2+((rd_T79 m i).f0)),2⟩:S71),(⟨c,wrap64 (2+((rd_T79 m i).f1)),2⟩:S71)]:List (S71))) (inner:=[.int .i64 0,.int .i64 c,.int .i64 2,.int .i64 c,.int .i64 (wrap64 (2+((rd_T79 m i).f0))),.int .i64 2,.int .i64 c,.int .i64 (wrap64 (2+((rd_T79 m i).f1))),.int .i64 2]) (ok:=fun _=>True) (okp:=fun _=>True) ?hr ?hp (fun _ hk=>hk) trivial (Below.refl _ _) (Nat.le_refl _) (by simp) ?_;(case hd=>rfl);(case hg=>rfl);(case hr=>first|(go_simp;done)|(go_simp;rfl));(case hp=>exact(Reps.c3 (show Kd.M k71 _ _ _ (⟨0,c,2⟩:S71) [.int .i64 0,.int .i64 c,.int .i64 2]from(k71_mkM _ _ _ (⟨0,c,2⟩:S71))) (Reps.c3 (show Kd.M k71 _ _ _ (⟨c,wrap64 (2+((rd_T79 m i).f0)),2⟩:S71) [.int .i64 c,.int .i64 (wrap64 (2+((rd_T79 m i).f0))),.int .i64 2]from(k71_mkM _ _ _ (⟨c,wrap64 (2+((rd_T79 m i).f0)),2⟩:S71))) (Reps.c3 (show Kd.M k71 _ _ _ (⟨c,wrap64 (2+((rd_T79 m i).f1)),2⟩:S71) [.int .i64 c,.int .i64 (wrap64 (2+((rd_T79 m i).f1))),.int .i64 2]from(k71_mkM _ _ _ (⟨c,wrap64 (2+((rd_T79 m i).f1)),2⟩:S71))) (Reps.none _ _)))));intro dF dT ax hb hg_ hnew_;clear hg_ hnew_;(first|rw[←cv.out]at ax|(simp only[Int.reduceToNat]at ax;rw[←cv.out]at ax));have X:=am (Kd.R_lower (Kd.R_new' ax (Kd.R_lt (rk a.out))) (below_size bel));replace q:=rb q hb;replace a:=am (Kd.R_elder' (rk a.out) (Kd.R_base ax) hb);replace d:=b1 d hb;replace j:=b1 j hb;replace l:=b1 l hb;replace n:=b1 n hb;replace HB:=b2 hb;clear hb ax;obtain⟨cW,db,dg⟩:=Kd.R_slice X.out;subst dg)|((with_reducible refine gate_builtin (b:=.append) (xs:=#[.tmp 46,.tmp 62]) rfl ?_);at_builtin;refine Kd.R_append_rows k71 (w0:=w) w.heap.size rfl (.tmp 46) (.tmp 62) 63 71 (.agg #[(.int .i64 0),(.int .i64 0),(.int .i64 0)]) 24 rfl Tryz.underlying63 info71 rfl (by decide) (by omega) u397001 r cE _ _ _ (fun k_=>some k_≠(.slice cW cE.length db:Value).ownBlock) (fun _=>False) rfl rfl ?aO ?aR (fun _ _ h=>h) (fun _ h=>h.elim) ?aF ?aB ?aS ?aL ?_;(case aR=>exact ck (Kd.R_reads' X.out).2.2);(case aB=>exact bel);(case aF=>exact(fun k_ hk=>Kd.fresh' (Kd.R_lt (rk X.out)) k_ hk));(case aO=>exact(by(with_reducible repeat (first|apply Kd.R_alloc|apply Kd.R_drewN|apply Kd.R_drew));exact Kd.R_mono a.out (fun _ hk=>hk.2)));(case aS=>exact(below_size bel));(case aL=>have:=cJ.out;omega);intro dG dU ho hb hg hat;rw[←cM.out]at ho;have cy:=am (Kd.R_over' (rk q.out) (Kd.R_typed (rk a.out)) (by decide) hg);have cz:=am (blk_grown (g:=aK) (o:=.cells #[.slice aa z.length ah,.int .i64 P,.int .i64 T,.int .i64 U,.slice ac D.length ai,.bool W,.slice (some aJ) m.length aj,.slice ad E.length ak,.slice ae G.length al] 35 (0,0)) (bk d.out) hg (Kd.R_ne a.out d.out (by decide)));have cA:=am (blk_grown (g:=Y) (o:=.cells #[.int .i64 0,.slice none 0 0] 65 (0,0)) (bk j.out) hg (Kd.R_ne a.out j.out (by decide)));have cB:=am (blk_grown (g:=aM) (o:=.cells #[.int .i64 c,u397001] 65 (0,0)) (bk l.out) hg (Kd.R_ne a.out l.out (by decide)));have cC:=am (blk_grown (g:=aN) (o:=.cells #[.int .i64 ((rd_T79 m i).f0),.int .i64 ((rd_T79 m i).f1),.int .i64 ((rd_T79 m i).f2),.int .i64 ((rd_T79 m i).f3),.int .i64 ((rd_T79 m i).f4)] 79 (0,0)) (bk n.out) hg (Kd.R_ne a.out n.out (by decide)));have cD:=am (Kd.R_after (ok:=(fun _=>True)) (rk X.out) hg hat);have dm:=am (hb);have dn:=am (ho);clear q;clear d;clear j;clear l;clear n;clear X;clear HB;clear a;have q:=cy;have d:=cz;have j:=cA;have l:=cB;have n:=cC;have X:=cD;have HB:=dm;have ct:=dn;clear cy cz cA cB cC cD dm dn;clear ho hb hg hat;obtain⟨cX,dc,dh⟩:=Kd.R_slice ct.out;subst dh;obtain⟨_,_,_,_⟩:=cf2 l.out))
       go_roundg k1
       case measure=>have:=Z.out;omega
       case rel=>exact⟨(wrap64 (i+1)),(wrap64 (c+1)),(cH),(.slice cX cH.length dc),(es),H,⟨by have:=Z.out;omega⟩,⟨(kf (Kd.R_types q.out l.out (by decide)) (fun _ hk=>trivial))⟩,⟨(kf (Kd.R_types ct.out l.out (by decide)) (fun _ hk=>trivial))⟩,⟨bk d.out⟩,⟨bk j.out⟩,⟨(bz l)⟩,⟨bel⟩⟩
    ·replace H:=am H
     have:(0≤(i:Int))=True:=ab
     have:(i<(m.length:Int))=True:=ab
     obtain⟨aJ,an,ao,ap,aq,ar,au⟩:=hc5 HB.out (at_T79 J.out i asm asm)
     cases an
     go_wp2_with (first|((with_reducible refine gd 10 ?_);refine by_ w 10 #[.int .i64 0,.int .i64 0,.int .i64 0,.int .i64 0,.int .i64 0] 79 ?_;clear HB;intro aN hg dV n b3 hb HB;obtain⟨K,s⟩:=qn hg d;obtain⟨L,t⟩:=qn hg j;obtain⟨O,u⟩:=qn hg l;replace q:=rb q hb;replace a:=rb a hb;replace d:=b1 d hb;replace j:=b1 j hb;replace l:=b1 l hb;clear hb hg;obtain⟨_,_⟩:=qo s;obtain⟨_,_⟩:=qo t;obtain⟨_,_⟩:=qo u;obtain⟨_,_,_,_,_,_,_,_,_,_⟩:=cf5 n.out)|((with_reducible refine gc 56 ?_);refine gl 31 Tryz.func56 (spec_IsOpen.calls ((rd_T79 m i).f0) ((rd_T79 m i).f1) ((rd_T79 m i).f2) ((rd_T79 m i).f3) ((rd_T79 m i).f4) false _ cF.out) ?_;rintro e dW ⟨rfl,hb⟩;refine⟨_,rfl,?_⟩;replace q:=am (Kd.R_below (kf (Kd.R_types q.out n.out (by decide)) (fun _ h_=>h_.1)) hb);replace a:=am (Kd.R_below (kf (Kd.R_types a.out n.out (by decide)) (fun _ h_=>h_.1)) hb);replace d:=b1 d hb;replace j:=b1 j hb;replace l:=b1 l hb;replace n:=bq n hb;replace HB:=b2 hb;(try clear hb)))
     go_roundg k1
     case measure=>have:=Z.out;omega
     case rel=>exact⟨(wrap64 (i+1)),(c),(r),(u397001),(es),H,⟨by have:=Z.out;omega⟩,⟨rk q.out⟩,⟨rk a.out⟩,⟨bk d.out⟩,⟨bk j.out⟩,⟨bk l.out⟩,⟨bel⟩⟩
   ·replace H:=am H
    obtain⟨cY,dd,di⟩:=Kd.R_slice q.out
    subst di
    go_wp2
    go_loopg [72] k1 (fun kq dz w'=>∃(p:Int) (x:Int) (v:List (S71)) (u397001:Value),dz=.int .i64 p∧Aside0 (spec_l18Net.l1 kq a1 av y (y.length:Int) p c v=some (r1,r2,r3))∧Aside0 (kq≤k1)∧Aside0 (Kd.R (Kd.int .i64) 3 w' w.heap.size (fun _=>True) (.slice cY y.length dd) y)∧Aside0 (Kd.R k71 71 w' w.heap.size (fun _=>True) u397001 v)∧Aside0 (w'.heap[aK]? =some (.cells #[(.slice aa z.length ah),.int .i64 P,.int .i64 T,.int .i64 U,(.slice ac D.length ai),.bool W,(.slice aw m.length aj),(.slice ad E.length ak),(.slice ae G.length al)] 35 (0,0)))∧Aside0 (w'.heap[Y]? =some (.cells #[.int .i64 x,(.slice none 0 0)] 65 (0,0)))∧Aside0 (w'.heap[aM]? =some (.cells #[.int .i64 c,u397001] 65 (0,0)))∧Aside0 (Below w.heap.size w w'))
    case atStart=>exact⟨(0),(0),(r),(u397001),(es),H,⟨Nat.le_refl _⟩,⟨rk q.out⟩,⟨rk a.out⟩,⟨bk d.out⟩,⟨bk j.out⟩,⟨bk l.out⟩,⟨bel⟩⟩
    case round=>
     clear H
     try clear cx;try clear aT;try clear aU;try clear aV;try clear aW;try clear aX;try clear aY;try clear aZ;try clear a0;try clear a2;try clear a3;try clear a4;try clear a5;try clear a6;try clear a7;try clear a8;try clear a9;try clear ba;try clear bc;try clear bd;try clear be;try clear bf;try clear bg;try clear bh;try clear bi;try clear bj;try clear bl;try clear bn;try clear bo;try clear bp;try clear b6;try clear b7;try clear b8;try clear b9;try clear ca;try clear cc;try clear cd;try clear ce;try clear cf;try clear br;try clear bu;try clear bw;try clear bA;try clear bB;try clear bC;try clear bD;try clear bE;try clear bF;try clear bG;try clear bH;try clear bI;try clear bJ;try clear bK;try clear bL;try clear bM;try clear bN;try clear bO;try clear bP;try clear bQ;try clear bR;try clear bS;try clear bT;try clear bU;try clear bV;try clear bW;try clear bX;try clear bY;try clear bZ;try clear cg;try clear ch;try clear ci;try clear cj;try clear cn;try clear co;try clear cp;try clear cq;try clear cs
     obtain⟨p,x,v,u397001,rfl,HA,cG,I,a,d,j,l,HB⟩:=hrel
     cases gk with
     |zero=>exact absurd HA.out (by simp [spec_l18Net.l1])
     |succ k2=>
      have H:=HA.out
      clear HA
      simp only[spec_l18Net.l1]at H
      replace H:=i1 H;obtain⟨cS,H⟩|⟨cS,H⟩:=H
      ·replace H:=i0 H;obtain⟨dw,H⟩:=H
       replace H:=i0 H;obtain⟨dx,H⟩:=H
       replace H:=ie H;obtain⟨cT,cU,H⟩|⟨⟨dK,cT,cU⟩,H⟩:=H
       ·replace H:=am H
        have:(0≤(p:Int))=True:=ab
        have:(p<(y.length:Int))=True:=ab
        obtain⟨cw,aQ,b0⟩:=Kd.at_int (Kd.R_reads' I.out).2.2 p asm asm
        cases aQ
        go_wp2
        go_roundg k2
        case measure=>have:=Z.out;have:=cG.out;omega
        case rel=>exact⟨(wrap64 (p+1)),(x),(v),(u397001),(es),H,⟨by have:=Z.out;have:=cG.out;omega⟩,⟨rk I.out⟩,⟨rk a.out⟩,⟨bk d.out⟩,⟨bk j.out⟩,⟨bk l.out⟩,⟨bel⟩⟩
       ·replace H:=i1 H;obtain⟨cV,H⟩|⟨cV,H⟩:=H
        ·obtain⟨rfl,rfl,rfl⟩:=qj3 H
         have:(0≤(p:Int))=True:=ab
         have:(p<(y.length:Int))=True:=ab
         obtain⟨cw,aQ,b0⟩:=Kd.at_int (Kd.R_reads' I.out).2.2 p asm asm
         cases aQ
         obtain⟨_,_⟩:=qo ag
         obtain⟨_,_⟩:=qo b5
         obtain⟨_,_,_,_⟩:=cf2 j.out
         go_wp2
         refine bodyPost_ret (results_ct rfl _ _ Y 65 #[.int .i64 0,.slice none 0 0] (0,0) _ rfl (bz j) Tryz.underlying65 rfl (by kernel_rfl)) rfl ?_
         exact⟨_,er,qk,bel⟩
        ·replace H:=i0 H;obtain⟨da,H⟩:=H
         have cK:=am (of_decide_eq_true da)
         clear da
         generalize hy407:(v++[(⟨wrap64 (2+p),1,wrap64 (av-(rd y p))⟩:S71)]:List (S71))=cI at H
         have cN:=am hy407.symm
         clear hy407
         replace H:=am H
         have:(0≤(p:Int))=True:=ab
         have:(p<(y.length:Int))=True:=ab
         obtain⟨cw,aQ,b0⟩:=Kd.at_int (Kd.R_reads' I.out).2.2 p asm asm
         cases aQ
         obtain⟨_,_⟩:=qo A
         obtain⟨_,_⟩:=qo B
         obtain⟨_,_,_,_⟩:=cf2 l.out
         go_wp2_with (first|((with_reducible refine gate_builtin (b:=.append) (xs:=#[.tmp 86,.tmp 93]) rfl ?_);at_builtin;refine Kd.R_append k71 (w0:=w) w.heap.size rfl (.tmp 86) (.tmp 93) 63 71 (.agg #[(.int .i64 0),(.int .i64 0),(.int .i64 0)]) 24 rfl Tryz.underlying63 info71 rfl (by decide) (by omega) u397001 v (⟨wrap64 (2+p),1,wrap64 (av-(rd y p))⟩:S71) [.int .i64 (wrap64 (2+p)),.int .i64 1,.int .i64 (wrap64 (av-(rd y p)))] (fun _=>True) (fun _=>False) rfl rfl ?aP (fun _ hk=>hk.elim) ?aF ?aO ?aB ?aS ?aL ?_;(case aP=>exact k71_mkM _ _ _ (⟨wrap64 (2+p),1,wrap64 (av-(rd y p))⟩:S71));(case aB=>exact bel);(case aF=>exact(fun _ _=>trivial));(case aO=>exact(rk a.out));(case aS=>exact(below_size bel));(case aL=>have:=cK.out;omega);intro dH dX ho hb hg hat;rw[←cN.out]at ho;have cy:=am (Kd.R_over' (rk I.out) (Kd.R_typed (rk a.out)) (by decide) hg);have cz:=am (blk_grown (g:=aK) (o:=.cells #[.slice aa z.length ah,.int .i64 P,.int .i64 T,.int .i64 U,.slice ac D.length ai,.bool W,.slice aw m.length aj,.slice ad E.length ak,.slice ae G.length al] 35 (0,0)) (bk d.out) hg (Kd.R_ne a.out d.out (by decide)));have cA:=am (blk_grown (g:=Y) (o:=.cells #[.int .i64 x,.slice none 0 0] 65 (0,0)) (bk j.out) hg (Kd.R_ne a.out j.out (by decide)));have cB:=am (blk_grown (g:=aM) (o:=.cells #[.int .i64 c,u397001] 65 (0,0)) (bk l.out) hg (Kd.R_ne a.out l.out (by decide)));have cC:=am (hb);have cD:=am (ho);clear I;clear d;clear j;clear l;clear HB;clear a;have I:=cy;have d:=cz;have j:=cA;have l:=cB;have HB:=cC;have cu:=cD;clear cy cz cA cB cC cD;clear ho hb hg hat;obtain⟨cZ,de,dj⟩:=Kd.R_slice cu.out;subst dj;obtain⟨_,_,_,_⟩:=cf2 l.out))
         go_roundg k2
         case measure=>have:=Z.out;have:=cG.out;omega
         case rel=>exact⟨(wrap64 (p+1)),(x),(cI),(.slice cZ cI.length de),(es),H,⟨by have:=Z.out;have:=cG.out;omega⟩,⟨(kf (Kd.R_types I.out l.out (by decide)) (fun _ hk=>trivial))⟩,⟨(kf (Kd.R_types cu.out l.out (by decide)) (fun _ hk=>trivial))⟩,⟨bk d.out⟩,⟨bk j.out⟩,⟨(bz l)⟩,⟨bel⟩⟩
      ·obtain⟨rfl,rfl,rfl⟩:=qj3 H
       obtain⟨_,_⟩:=qo A
       obtain⟨_,_⟩:=qo B
       obtain⟨_,_,_,_⟩:=cf2 l.out
       obtain⟨_,_⟩:=qo ag
       obtain⟨_,_,_,_⟩:=cf2 j.out
       obtain⟨c0,df,dk⟩:=Kd.R_slice a.out
       subst dk
       go_wp2
       refine bodyPost_ret (results_ct rfl _ _ Y 65 #[.int .i64 c,.slice c0 v.length df] (0,0) _ rfl (bz j) Tryz.underlying65 rfl (by kernel_rfl)) rfl ?_
       exact⟨_,er,(kf (Kd.R_types a.out j.out (by decide)) (fun _ hk=>trivial)),bel⟩
mutual
def spec_NetOk.j0:Nat→Bool→Int→List (S71)→Option (Bool)
  |0,_,_,_=>none
  |k+1,c,b,a=>if c=true then(some false)else(spec_NetOk.l0 k a (a.length:Int) 0 b a)
def spec_NetOk.l0:Nat→List (S71)→Int→Int→Int→List (S71)→Option (Bool)
  |0,_,_,_,_,_=>none
  |k+1,c,i,b,a,d=>if b<i then(if 0≤b then(if b<(c.length:Int)then((spec_l01In.f ((rd_T71 c b).f0) 0 (wrap64 (a-1))).bind fun e=>(if e=true then((spec_l01In.f ((rd_T71 c b).f1) 0 (wrap64 (a-1))).bind fun g=>(if g=true then(if((rd_T71 c b).f0)=((rd_T71 c b).f1)then(some false)else((spec_l01In.f ((rd_T71 c b).f2) 0 1000).bind fun h=>(if h=true then(spec_NetOk.l0 k c i (wrap64 (b+1)) a d)else(some false))))else(some false)))else(some false)))else(none))else(none))else(some true)
end
def spec_NetOk.f(k:Nat)(a:Int)(b:List (S71)):Option (Bool):=(spec_l01In.f a 2 40).bind fun c=>(if c=true then(spec_NetOk.j0 k (decide ((b.length:Int)>120)) a b)else(spec_NetOk.j0 k true a b))
theorem spec_NetOk.calls(k:Nat)(g:Int)(u:Option Addr)(v:Nat)(c:List (S71))(r:Bool)(w:World)(l:Kd.C k71 w u c.length c)(z:c.length≤v)(h:spec_NetOk.f k g c=some r):Calls Tryz.prog 60 #[.agg #[.int .i64 g,.slice u c.length v]] w fun e w'=>e=.returned (.bool r)∧Below w.heap.size w w':=by
 have ac:=Tryz.underlying65
 have ad:=Tryz.underlying71
 replace l:=am l
 replace z:=am z
 have HB:=qb w
 have H:=h
 unfold spec_NetOk.f at H
 clear h
 have J:=am H
 clear H
 go_enter Tryz.func60,Tryz.ntmps60
 go_upto_region 1 with (first|((with_reducible refine gd 1 ?_);refine bx w 1 #[.int .i64 g,.slice u c.length v] 65 ?_;clear HB;intro A w3 b W HB))
 (try simp only[Act.put,List.setIfInBounds_toArray,List.set_cons_zero,List.set_cons_succ])
 go_cut [14] (fun Z wc=>∃(kq:Nat) (x:Bool),Z=.bool x∧Aside0 (spec_NetOk.j0 kq x g c=some r)∧Aside0 (kq≤k)∧Aside0 (wc.heap[A]? =some (.cells #[.int .i64 g,(.slice u c.length v)] 65 (0,0)))∧Aside0 (Below w.heap.size w wc))
 case first=>
  have H:=J.out
  clear J
  replace H:=bm H;obtain⟨ae,A4,H⟩:=H
  replace H:=ib H;obtain⟨rfl,H⟩|⟨rfl,H⟩:=H
  ·replace H:=am H
   obtain⟨_,_,_,_⟩:=cf2 b.out
   go_wp2_with (first|((with_reducible refine gc 53 ?_);refine gl 7 Tryz.func53 (spec_l01In.calls g 2 40 true _ A4.out) ?_;rintro e w' ⟨rfl,⟨nd,rfl⟩⟩;refine⟨_,rfl,?_⟩))
   go_meet
   case rel=>exact⟨_,(decide ((c.length:Int)>120)),(es),H,⟨by first|omega|exact Nat.le_refl _⟩,⟨bk b.out⟩,⟨bel⟩⟩
  ·replace H:=am H
   obtain⟨_,_,_,_⟩:=cf2 b.out
   go_wp2_with (first|((with_reducible refine gc 53 ?_);refine gl 7 Tryz.func53 (spec_l01In.calls g 2 40 false _ A4.out) ?_;rintro e w' ⟨rfl,⟨nd,rfl⟩⟩;refine⟨_,rfl,?_⟩))
   go_meet
   case rel=>exact⟨_,(true),(es),H,⟨by first|omega|exact Nat.le_refl _⟩,⟨bk b.out⟩,⟨bel⟩⟩
 case rest=>
  clear J
  obtain⟨kq,x,rfl,HA,P,b,HB⟩:=hcut
  cases kq with
  |zero=>exact absurd HA.out (by simp [spec_NetOk.j0])
  |succ U=>
   have H:=HA.out
   clear HA
   simp only[spec_NetOk.j0]at H
   replace H:=ib H;obtain⟨rfl,H⟩|⟨rfl,H⟩:=H
   ·obtain rfl:=qj1 H
    go_wp2
    go_ret
    exact⟨er,bel⟩
   ·replace H:=am H
    obtain⟨D,E,G,I⟩:=cf2 b.out
    go_wp2
    go_loopg [18] U (fun kq aa w'=>∃(a:Int),aa=.int .i64 a∧Aside0 (spec_NetOk.l0 kq c (c.length:Int) a g c=some r)∧Aside0 (kq≤U)∧Aside0 (w'.heap[A]? =some (.cells #[.int .i64 g,(.slice u c.length v)] 65 (0,0)))∧Aside0 (Below w.heap.size w w'))
    case atStart=>exact⟨(0),(es),H,⟨Nat.le_refl _⟩,⟨bk b.out⟩,⟨bel⟩⟩
    case round=>
     clear H
     try clear D;try clear E;try clear G;try clear I
     obtain⟨a,rfl,HA,T,b,HB⟩:=hrel
     cases gk with
     |zero=>exact absurd HA.out (by simp [spec_NetOk.l0])
     |succ k2=>
      have H:=HA.out
      clear HA
      simp only[spec_NetOk.l0]at H
      replace H:=i1 H;obtain⟨K,H⟩|⟨K,H⟩:=H
      ·replace H:=i0 H;obtain⟨X,H⟩:=H
       replace H:=i0 H;obtain⟨Y,H⟩:=H
       replace H:=bm H;obtain⟨af,y,H⟩:=H
       replace H:=ib H;obtain⟨rfl,H⟩|⟨rfl,H⟩:=H
       ·replace H:=bm H;obtain⟨ag,B,H⟩:=H
        replace H:=ib H;obtain⟨rfl,H⟩|⟨rfl,H⟩:=H
        ·replace H:=ie H;obtain⟨L,M,H⟩|⟨⟨ai,L,M⟩,H⟩:=H
         ·obtain rfl:=qj1 H
          have:(0≤(a:Int))=True:=ab
          have:(a<(c.length:Int))=True:=ab
          obtain⟨s,m,n,o,p⟩:=hc3 HB.out (at_T71 l.out a asm asm)
          cases m
          go_wp2_with (first|((with_reducible refine gd 4 ?_);refine by_ w 4 #[.int .i64 0,.int .i64 0,.int .i64 0] 71 ?_;clear HB;intro t hg aj i q hb HB;obtain⟨j,d⟩:=qn hg b;replace b:=b1 b hb;clear hb hg;obtain⟨_,_⟩:=qo d;obtain⟨_,_,_,_,_,_⟩:=cf3 i.out;obtain⟨_,_,_,_⟩:=cf2 b.out)|((with_reducible refine gc 53 ?_);refine gl 27 Tryz.func53 (spec_l01In.calls ((rd_T71 c a).f0) 0 (wrap64 (g-1)) true _ y.out) ?_;rintro e w' ⟨rfl,⟨nd,rfl⟩⟩;refine⟨_,rfl,?_⟩)|(go_at_call 53;refine cm1 (spec_l01In.calls ((rd_T71 c a).f1) 0 (wrap64 (g-1)) true _ B.out) ?_;intro nd))
          go_ret
          exact⟨er,bel⟩
         ·replace H:=bm H;obtain⟨ah,O,H⟩:=H
          replace H:=ib H;obtain⟨rfl,H⟩|⟨rfl,H⟩:=H
          ·replace H:=am H
           have:(0≤(a:Int))=True:=ab
           have:(a<(c.length:Int))=True:=ab
           obtain⟨s,m,n,o,p⟩:=hc3 HB.out (at_T71 l.out a asm asm)
           cases m
           go_wp2_with (first|((with_reducible refine gd 4 ?_);refine by_ w 4 #[.int .i64 0,.int .i64 0,.int .i64 0] 71 ?_;clear HB;intro t hg ak i q hb HB;obtain⟨j,d⟩:=qn hg b;replace b:=b1 b hb;clear hb hg;obtain⟨_,_⟩:=qo d;obtain⟨_,_,_,_,_,_⟩:=cf3 i.out;obtain⟨_,_,_,_⟩:=cf2 b.out)|((with_reducible refine gc 53 ?_);refine gl 27 Tryz.func53 (spec_l01In.calls ((rd_T71 c a).f0) 0 (wrap64 (g-1)) true _ y.out) ?_;rintro e w' ⟨rfl,⟨nd,rfl⟩⟩;refine⟨_,rfl,?_⟩)|(go_at_call 53;refine cm1 (spec_l01In.calls ((rd_T71 c a).f1) 0 (wrap64 (g-1)) true _ B.out) ?_;intro nd)|(go_at_call 53;refine cm1 (spec_l01In.calls ((rd_T71 c a).f2) 0 1000 true _ O.out) ?_;intro nd))
           go_roundg k2
           case measure=>have:=P.out;have:=T.out;omega
           case rel=>exact⟨(wrap64 (a+1)),(es),H,⟨by have:=P.out;have:=T.out;omega⟩,⟨bk b.out⟩,⟨bel⟩⟩
          ·obtain rfl:=qj1 H
           have:(0≤(a:Int))=True:=ab
           have:(a<(c.length:Int))=True:=ab
           obtain⟨s,m,n,o,p⟩:=hc3 HB.out (at_T71 l.out a asm asm)
           cases m
           go_wp2_with (first|((with_reducible refine gd 4 ?_);refine by_ w 4 #[.int .i64 0,.int .i64 0,.int .i64 0] 71 ?_;clear HB;intro t hg al i q hb HB;obtain⟨j,d⟩:=qn hg b;replace b:=b1 b hb;clear hb hg;obtain⟨_,_⟩:=qo d;obtain⟨_,_,_,_,_,_⟩:=cf3 i.out;obtain⟨_,_,_,_⟩:=cf2 b.out)|((with_reducible refine gc 53 ?_);refine gl 27 Tryz.func53 (spec_l01In.calls ((rd_T71 c a).f0) 0 (wrap64 (g-1)) true _ y.out) ?_;rintro e w' ⟨rfl,⟨nd,rfl⟩⟩;refine⟨_,rfl,?_⟩)|(go_at_call 53;refine cm1 (spec_l01In.calls ((rd_T71 c a).f1) 0 (wrap64 (g-1)) true _ B.out) ?_;intro nd)|(go_at_call 53;refine cm1 (spec_l01In.calls ((rd_T71 c a).f2) 0 1000 false _ O.out) ?_;intro nd))
           go_ret
           exact⟨er,bel⟩
        ·obtain rfl:=qj1 H
         have:(0≤(a:Int))=True:=ab
         have:(a<(c.length:Int))=True:=ab
         obtain⟨s,m,n,o,p⟩:=hc3 HB.out (at_T71 l.out a asm asm)
         cases m
         go_wp2_with (first|((with_reducible refine gd 4 ?_);refine by_ w 4 #[.int .i64 0,.int .i64 0,.int .i64 0] 71 ?_;clear HB;intro t hg an i q hb HB;obtain⟨j,d⟩:=qn hg b;replace b:=b1 b hb;clear hb hg;obtain⟨_,_⟩:=qo d;obtain⟨_,_,_,_,_,_⟩:=cf3 i.out;obtain⟨_,_,_,_⟩:=cf2 b.out)|((with_reducible refine gc 53 ?_);refine gl 27 Tryz.func53 (spec_l01In.calls ((rd_T71 c a).f0) 0 (wrap64 (g-1)) true _ y.out) ?_;rintro e w' ⟨rfl,⟨nd,rfl⟩⟩;refine⟨_,rfl,?_⟩)|(go_at_call 53;refine cm1 (spec_l01In.calls ((rd_T71 c a).f1) 0 (wrap64 (g-1)) false _ B.out) ?_;intro nd))
         go_ret
         exact⟨er,bel⟩
       ·obtain rfl:=qj1 H
        have:(0≤(a:Int))=True:=ab
        have:(a<(c.length:Int))=True:=ab
        obtain⟨s,m,n,o,p⟩:=hc3 HB.out (at_T71 l.out a asm asm)
        cases m
        go_wp2_with (first|((with_reducible refine gd 4 ?_);refine by_ w 4 #[.int .i64 0,.int .i64 0,.int .i64 0] 71 ?_;clear HB;intro t hg ao i q hb HB;obtain⟨j,d⟩:=qn hg b;replace b:=b1 b hb;clear hb hg;obtain⟨_,_⟩:=qo d;obtain⟨_,_,_,_,_,_⟩:=cf3 i.out;obtain⟨_,_,_,_⟩:=cf2 b.out)|((with_reducible refine gc 53 ?_);refine gl 27 Tryz.func53 (spec_l01In.calls ((rd_T71 c a).f0) 0 (wrap64 (g-1)) false _ y.out) ?_;rintro e w' ⟨rfl,⟨nd,rfl⟩⟩;refine⟨_,rfl,?_⟩))
        go_ret
        exact⟨er,bel⟩
      ·obtain rfl:=qj1 H
       go_wp2
       go_ret
       exact⟨er,bel⟩
def spec_l17Ends.f(k:Nat)(a:Int)(b:List (S71))(a1:Int)(a2:Int):Option (Bool):=(spec_NetOk.f k a b).bind fun c=>(if c=true then((spec_l01In.f a1 0 (wrap64 (a-1))).bind fun d=>(if d=true then((spec_l01In.f a2 0 (wrap64 (a-1))).bind fun e=>(if e=true then(some (a1 != a2))else(some false)))else(some false)))else(some false))
theorem spec_l17Ends.calls(k:Nat)(b:Int)(i:Option Addr)(j:Nat)(c:List (S71))(a1:Int)(a2:Int)(r:Bool)(w:World)(g:Kd.C k71 w i c.length c)(d:c.length≤j)(h:spec_l17Ends.f k b c a1 a2=some r):Calls Tryz.prog 57 #[.agg #[.int .i64 b,.slice i c.length j],.int .i64 a1,.int .i64 a2] w fun e w'=>e=.returned (.bool r)∧Below w.heap.size w w':=by
 have n:=Tryz.underlying65
 replace g:=am g
 replace d:=am d
 have HB:=qb w
 have H:=h
 unfold spec_l17Ends.f at H
 clear h
 replace H:=bm H;obtain⟨o,A4,H⟩:=H
 replace H:=ib H;obtain⟨rfl,H⟩|⟨rfl,H⟩:=H
 ·replace H:=bm H;obtain⟨p,A6,H⟩:=H
  replace H:=ib H;obtain⟨rfl,H⟩|⟨rfl,H⟩:=H
  ·replace H:=bm H;obtain⟨q,A8,H⟩:=H
   replace H:=ib H;obtain⟨rfl,H⟩|⟨rfl,H⟩:=H
   ·obtain rfl:=qj1 H
    go_enter Tryz.func57,Tryz.ntmps57
    go_wp2_with (first|((with_reducible refine gd 3 ?_);refine bx w 3 #[.int .i64 b,.slice i c.length j] 65 ?_;clear HB;intro m s a l HB;obtain⟨_,_,_,_⟩:=cf2 a.out)|((with_reducible refine gc 60 ?_);refine gl 8 Tryz.func60 (spec_NetOk.calls k b _ _ c true _ (cb g HB) d.out A4.out) ?_;rintro e t ⟨rfl,hb⟩;refine⟨_,rfl,?_⟩;replace a:=b1 a hb;replace HB:=b2 hb;(try clear hb);obtain⟨_,_,_,_⟩:=cf2 a.out)|(go_at_call 53;refine cm1 (spec_l01In.calls a1 0 (wrap64 (b-1)) true _ A6.out) ?_;intro nd)|(go_at_call 53;refine cm1 (spec_l01In.calls a2 0 (wrap64 (b-1)) true _ A8.out) ?_;intro nd))
    go_ret
    exact⟨er,bel⟩
   ·obtain rfl:=qj1 H
    go_enter Tryz.func57,Tryz.ntmps57
    go_wp2_with (first|((with_reducible refine gd 3 ?_);refine bx w 3 #[.int .i64 b,.slice i c.length j] 65 ?_;clear HB;intro m u a l HB;obtain⟨_,_,_,_⟩:=cf2 a.out)|((with_reducible refine gc 60 ?_);refine gl 8 Tryz.func60 (spec_NetOk.calls k b _ _ c true _ (cb g HB) d.out A4.out) ?_;rintro e v ⟨rfl,hb⟩;refine⟨_,rfl,?_⟩;replace a:=b1 a hb;replace HB:=b2 hb;(try clear hb);obtain⟨_,_,_,_⟩:=cf2 a.out)|(go_at_call 53;refine cm1 (spec_l01In.calls a1 0 (wrap64 (b-1)) true _ A6.out) ?_;intro nd)|(go_at_call 53;refine cm1 (spec_l01In.calls a2 0 (wrap64 (b-1)) false _ A8.out) ?_;intro nd))
    go_ret
    exact⟨er,bel⟩
  ·obtain rfl:=qj1 H
   go_enter Tryz.func57,Tryz.ntmps57
   go_wp2_with (first|((with_reducible refine gd 3 ?_);refine bx w 3 #[.int .i64 b,.slice i c.length j] 65 ?_;clear HB;intro m x a l HB;obtain⟨_,_,_,_⟩:=cf2 a.out)|((with_reducible refine gc 60 ?_);refine gl 8 Tryz.func60 (spec_NetOk.calls k b _ _ c true _ (cb g HB) d.out A4.out) ?_;rintro e y ⟨rfl,hb⟩;refine⟨_,rfl,?_⟩;replace a:=b1 a hb;replace HB:=b2 hb;(try clear hb);obtain⟨_,_,_,_⟩:=cf2 a.out)|(go_at_call 53;refine cm1 (spec_l01In.calls a1 0 (wrap64 (b-1)) false _ A6.out) ?_;intro nd))
   go_ret
   exact⟨er,bel⟩
 ·obtain rfl:=qj1 H
  go_enter Tryz.func57,Tryz.ntmps57
  go_wp2_with (first|((with_reducible refine gd 3 ?_);refine bx w 3 #[.int .i64 b,.slice i c.length j] 65 ?_;clear HB;intro m z a l HB;obtain⟨_,_,_,_⟩:=cf2 a.out)|((with_reducible refine gc 60 ?_);refine gl 8 Tryz.func60 (spec_NetOk.calls k b _ _ c false _ (cb g HB) d.out A4.out) ?_;rintro e A ⟨rfl,hb⟩;refine⟨_,rfl,?_⟩;replace a:=b1 a hb;replace HB:=b2 hb;(try clear hb)))
  go_ret
  exact⟨er,bel⟩
end Go.Proofs.YtgalpgakdcfilaaGreat.L
