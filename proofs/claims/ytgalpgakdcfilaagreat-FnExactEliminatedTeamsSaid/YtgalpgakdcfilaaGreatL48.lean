-- Written by a program of this session (wip/xp.py).
import Derived.Test.YtgalpgakdcfilaaGreatL0
import Derived.Test.YtgalpgakdcfilaaGreatL44
namespace Go.Proofs.YtgalpgakdcfilaaGreat.L
open Go.RowKit Go.Proofs.YtgalpgakdcfilaaGreatW.PrintWords Go.Proofs.YtgalpgakdcfilaaGreatW.PrintLast Go.Proofs.YtgalpgakdcfilaaGreatW.PrintMore
attribute [local go_sem] max2_int min2_int max_two min_two max_three min_three max_four min_four
set_option linter.unusedVariables false
set_option linter.unusedSimpArgs false
set_option maxHeartbeats 8000000
set_option maxRecDepth 100000
def impl_plays.f(a:Int)(b:Int)(c:Int)(d:Int)(e:Int)(a1:Int):Option (Bool):=if a=a1 then(some true)else(some (b==a1))
theorem impl_plays.calls(b:Int)(c:Int)(d:Int)(g:Int)(i:Int)(a1:Int)(r:Bool)(w:World)(h:impl_plays.f b c d g i a1=some r):Calls Tryz.prog 68 #[.agg #[.int .i64 b,.int .i64 c,.int .i64 d,.int .i64 g,.int .i64 i],.int .i64 a1] w fun e w'=>e=.returned (.bool r)∧Below w.heap.size w w':=by
 have n:=Tryz.underlying79
 have HB:=qb w
 have H:=h
 unfold impl_plays.f at H
 clear h
 replace H:=ie H;obtain⟨l,m,H⟩|⟨⟨c3,l,m⟩,H⟩:=H
 ·obtain rfl:=qj1 H
  go_enter Tryz.func68,Tryz.ntmps68
  go_wp2_with (first|((with_reducible refine gd 2 ?_);refine bx w 2 #[.int .i64 b,.int .i64 c,.int .i64 d,.int .i64 g,.int .i64 i] 79 ?_;clear HB;intro k w4 a j HB;obtain⟨_,_,_,_,_,_,_,_,_,_⟩:=cf5 a.out))
  go_ret
  exact⟨er,bel⟩
 ·obtain rfl:=qj1 H
  go_enter Tryz.func68,Tryz.ntmps68
  go_wp2_with (first|((with_reducible refine gd 2 ?_);refine bx w 2 #[.int .i64 b,.int .i64 c,.int .i64 d,.int .i64 g,.int .i64 i] 79 ?_;clear HB;intro k w6 a j HB;obtain⟨_,_,_,_,_,_,_,_,_,_⟩:=cf5 a.out))
  go_ret
  exact⟨er,bel⟩
def impl_others.l0:Nat→Int→List (S79)→List Int→Int→Int→List (S83)→Int→Int→Int→List Int→Bool→List (S79)→List Int→List Int→Option ((List (S79)))
  |0,_,_,_,_,_,_,_,_,_,_,_,_,_,_=>none
  |k+1,x1,x5,c,n,b,d,e,g,h,i,j,a,l,m=>if b<n then(if 0≤b then(if b<(c.length:Int)then(if 0≤(rd c b)then(if(rd c b)<(a.length:Int)then((impl_plays.f ((rd_T79 a (rd c b)).f0) ((rd_T79 a (rd c b)).f1) ((rd_T79 a (rd c b)).f2) ((rd_T79 a (rd c b)).f3) ((rd_T79 a (rd c b)).f4) x1).bind fun o=>(if o=true then(impl_others.l0 k x1 x5 c n (wrap64 (b+1)) d e g h i j a l m)else(if x5.length<3518437208883 then(impl_others.l0 k x1 (x5++[(⟨(rd_T79 a (rd c b)).f0,(rd_T79 a (rd c b)).f1,(rd_T79 a (rd c b)).f2,(rd_T79 a (rd c b)).f3,(rd_T79 a (rd c b)).f4⟩:S79)]) c n (wrap64 (b+1)) d e g h i j a l m)else(none))))else(none))else(none))else(none))else(none))else(some x5)
def impl_others.f(k:Nat)(h:List (S83))(c:Int)(d:Int)(e:Int)(i:List Int)(g:Bool)(a:List (S79))(j:List Int)(l:List Int)(a1:Int):Option ((List (S79))):=(impl_OpenGames.f k a).bind fun b=>(impl_others.l0 k a1 (([]:List (S79))) b (b.length:Int) 0 h c d e i g a j l)
theorem impl_others.calls(k:Nat)(A:Option Addr)(G:Nat)(m:List (S83))(t:Int)(u:Int)(v:Int)(B:Option Addr)(I:Nat)(n:List Int)(x:Bool)(Z:Option Addr)(J:Nat)(d:List (S79))(D:Option Addr)(K:Nat)(p:List Int)(E:Option Addr)(L:Nat)(q:List Int)(a1:Int)(r:List (S79))(w:World)(ag:Kd.C k83 w A m.length m)(aa:m.length≤G)(ah:Kd.C (Kd.int .i64) w B n.length n)(ac:n.length≤I)(s:Kd.C k79 w Z d.length d)(W:d.length≤J)(ai:Kd.C (Kd.int .i64) w D p.length p)(ad:p.length≤K)(aj:Kd.C (Kd.int .i64) w E q.length q)(ae:q.length≤L)(h:impl_others.f k m t u v n x d p q a1=some r):Calls Tryz.prog 42 #[.agg #[.slice A m.length G,.int .i64 t,.int .i64 u,.int .i64 v,.slice B n.length I,.bool x,.slice Z d.length J,.slice D p.length K,.slice E q.length L],.int .i64 a1] w fun e w'=>∃bf:Value,e=.returned (bf)∧Kd.R k79 79 w' w.heap.size (fun _=>True) bf r∧Below w.heap.size w w':=by
 have bw:=Tryz.underlying35
 have bA:=Tryz.underlying79
 replace ag:=am ag
 replace aa:=am aa
 replace ah:=am ah
 replace ac:=am ac
 replace s:=am s
 replace W:=am W
 replace ai:=am ai
 replace ad:=am ad
 replace aj:=am aj
 replace ae:=am ae
 have HB:=qb w
 have H:=h
 unfold impl_others.f at H
 clear h
 obtain⟨aX,y⟩:∃y_:List (S79),y_=(([]:List (S79))):=⟨_,rfl⟩
 replace H:((impl_OpenGames.f k d).bind fun c=>(impl_others.l0 k a1 aX c (c.length:Int) 0 m t u v n x d p q))=some r:=by first|(rw[y];with_reducible exact H)|(have aY:=(Option.bind_some _ _).symm.trans H;rw[y];with_reducible exact aY)|(have aY:=(Option.bind_some _ _).symm.trans H;with_reducible exact aY)|with_reducible exact H|(rw[y];exact H)|exact H
 have ak:=am y
 clear y
 replace H:=bm H;obtain⟨c,A3,H⟩:=H
 replace H:=am H
 go_enter Tryz.func42,Tryz.ntmps42
 go_wp2_with (first|((with_reducible refine gd 2 ?_);refine bx w 2 #[.slice A m.length G,.int .i64 t,.int .i64 u,.int .i64 v,.slice B n.length I,.bool x,.slice Z d.length J,.slice D p.length K,.slice E q.length L] 35 ?_;clear HB;intro ao w4 i bi HB)|((with_reducible refine gate_dst (N:=8) rfl ?_);refine Kd.R_lit k79 _ 79 ?hg (N:=8) ?hd (xs:=([]:List (S79))) (inner:=[]) (ok:=fun _=>True) (okp:=fun _=>True) ?hr ?hp (fun _ hk=>hk) trivial (Below.refl _ _) (Nat.le_refl _) (by simp) ?_;(case hd=>rfl);(case hg=>rfl);(case hr=>first|(go_simp;done)|(go_simp;rfl));(case hp=>exact(Reps.none _ _));intro bC w5 ap hb hg_ hnew_;clear hg_ hnew_;(first|rw[←ak.out]at ap|(simp only[Int.reduceToNat]at ap;rw[←ak.out]at ap));have X:=am (Kd.R_lower ap (below_size bel));replace i:=b1 i hb;replace HB:=b2 hb;clear hb ap;obtain⟨az,aA,aC,aD,aE,aG,aH,aI,aJ,aK,aM,aN,aQ,aR,aT,aU,aV,aW⟩:=cf9 i.out)|((with_reducible refine gc 43 ?_);refine gl 11 Tryz.func43 (impl_OpenGames.calls k _ _ d c _ (cb s HB) W.out A3.out) ?_;rintro e w8 ⟨bD,rfl,a9,hb⟩;refine⟨_,rfl,?_⟩;have af:=am (Kd.R_lower a9 (below_size bel));replace X:=rb X hb;replace i:=b1 i hb;replace HB:=b2 hb;(try clear hb);(try clear a9);obtain⟨bh,bp,br⟩:=Kd.R_slice af.out;subst br))
 go_loopg [5,13] k (fun kq v5 bu w'=>∃(z:List (S79)) (a:Int),bu=.int .i64 a∧Aside0 (impl_others.l0 kq a1 z c (c.length:Int) a m t u v n x d p q=some r)∧Aside0 (kq≤k)∧Aside0 (Kd.R k79 79 w' w.heap.size (fun _=>True) v5 z)∧Aside0 (Kd.R (Kd.int .i64) 3 w' w.heap.size (fun _=>True) (.slice bh c.length bp) c)∧Aside0 (w'.heap[ao]? =some (.cells #[(.slice A m.length G),.int .i64 t,.int .i64 u,.int .i64 v,(.slice B n.length I),.bool x,(.slice Z d.length J),(.slice D p.length K),(.slice E q.length L)] 35 (0,0)))∧Aside0 (Below w.heap.size w w'))
 case atStart=>exact⟨(aX),(0),(es),H,⟨Nat.le_refl _⟩,⟨rk X.out⟩,⟨rk af.out⟩,⟨bk i.out⟩,⟨bel⟩⟩
 case round=>
  clear H
  try clear az;try clear aA;try clear aC;try clear aD;try clear aE;try clear aG;try clear aH;try clear aI;try clear aJ;try clear aK;try clear aM;try clear aN;try clear aQ;try clear aR;try clear aT;try clear aU;try clear aV;try clear aW
  obtain⟨z,a,rfl,HA,ay,l,j,i,HB⟩:=hrel
  cases gk with
  |zero=>exact absurd HA.out (by simp [impl_others.l0])
  |succ k1=>
   have H:=HA.out
   clear HA
   simp only[impl_others.l0]at H
   replace H:=i1 H;obtain⟨a5,H⟩|⟨a5,H⟩:=H
   ·replace H:=i0 H;obtain⟨bj,H⟩:=H
    replace H:=i0 H;obtain⟨bl,H⟩:=H
    replace H:=i0 H;obtain⟨bn,H⟩:=H
    replace H:=i0 H;obtain⟨bo,H⟩:=H
    replace H:=bm H;obtain⟨bB,a6,H⟩:=H
    replace H:=ib H;obtain⟨rfl,H⟩|⟨rfl,H⟩:=H
    ·replace H:=am H
     have:(0≤(a:Int))=True:=ab
     have:(a<(c.length:Int))=True:=ab
     obtain⟨a3,al,aq⟩:=Kd.at_int (Kd.R_reads' j.out).2.2 a asm asm
     cases al
     obtain⟨_,_,_,_,_,_,_,_,_,_,_,_,_,_,_,_,_,_⟩:=cf9 i.out
     have:(0≤((rd c a):Int))=True:=ab
     have:((rd c a)<(d.length:Int))=True:=ab
     obtain⟨Y,an,ar,au,av,aw,ax⟩:=hc5 HB.out (at_T79 s.out (rd c a) asm asm)
     cases an
     go_wp2_with (first|((with_reducible refine gc 68 ?_);refine gl 23 Tryz.func68 (impl_plays.calls ((rd_T79 d (rd c a)).f0) ((rd_T79 d (rd c a)).f1) ((rd_T79 d (rd c a)).f2) ((rd_T79 d (rd c a)).f3) ((rd_T79 d (rd c a)).f4) a1 true _ a6.out) ?_;rintro e bF ⟨rfl,hb⟩;refine⟨_,rfl,?_⟩;replace l:=rb l hb;replace j:=rb j hb;replace i:=b1 i hb;replace HB:=b2 hb;(try clear hb)))
     go_roundg k1
     case measure=>have:=ay.out;omega
     case rel=>exact⟨(z),(wrap64 (a+1)),(es),H,⟨by have:=ay.out;omega⟩,⟨rk l.out⟩,⟨rk j.out⟩,⟨bk i.out⟩,⟨bel⟩⟩
    ·replace H:=i0 H;obtain⟨a7,H⟩:=H
     have a0:=am (of_decide_eq_true a7)
     clear a7
     generalize hy651:(z++[(⟨(rd_T79 d (rd c a)).f0,(rd_T79 d (rd c a)).f1,(rd_T79 d (rd c a)).f2,(rd_T79 d (rd c a)).f3,(rd_T79 d (rd c a)).f4⟩:S79)]:List (S79))=bg at H
     have a2:=am hy651.symm
     clear hy651
     replace H:=am H
     have:(0≤(a:Int))=True:=ab
     have:(a<(c.length:Int))=True:=ab
     obtain⟨a3,al,aq⟩:=Kd.at_int (Kd.R_reads' j.out).2.2 a asm asm
     cases al
     obtain⟨_,_,_,_,_,_,_,_,_,_,_,_,_,_,_,_,_,_⟩:=cf9 i.out
     have:(0≤((rd c a):Int))=True:=ab
     have:((rd c a)<(d.length:Int))=True:=ab
     obtain⟨Y,an,ar,au,av,aw,ax⟩:=hc5 HB.out (at_T79 s.out (rd c a) asm asm)
     cases an
     go_wp2_with (first|((with_reducible refine gc 68 ?_);refine gl 23 Tryz.func68 (impl_plays.calls ((rd_T79 d (rd c a)).f0) ((rd_T79 d (rd c a)).f1) ((rd_T79 d (rd c a)).f2) ((rd_T79 d (rd c a)).f3) ((rd_T79 d (rd c a)).f4) a1 false _ a6.out) ?_;rintro e bG ⟨rfl,hb⟩;refine⟨_,rfl,?_⟩;replace l:=rb l hb;replace j:=rb j hb;replace i:=b1 i hb;replace HB:=b2 hb;(try clear hb);obtain⟨_,_,_,_,_,_,_,_,_,_,_,_,_,_,_,_,_,_⟩:=cf9 i.out;have:(0≤((rd c a):Int))=True:=ab;have:((rd c a)<(d.length:Int))=True:=ab;obtain⟨a4,a8,M,O,P,T,U⟩:=at_T79 s.out (rd c a) asm asm;obtain rfl:Y=a4:=(by injection a8);replace M:=hcl HB.out M;replace O:=hcl HB.out O;replace P:=hcl HB.out P;replace T:=hcl HB.out T;replace U:=hcl HB.out U)|((with_reducible refine gate_builtin (b:=.append) (xs:=#[.tmp 25,.tmp 31]) rfl ?_);at_builtin;refine Kd.R_append k79 (w0:=w) w.heap.size rfl (.tmp 25) (.tmp 31) 33 79 (.agg #[(.int .i64 0),(.int .i64 0),(.int .i64 0),(.int .i64 0),(.int .i64 0)]) 40 rfl Tryz.underlying33 info79 rfl (by decide) (by omega) u5 z (⟨(rd_T79 d (rd c a)).f0,(rd_T79 d (rd c a)).f1,(rd_T79 d (rd c a)).f2,(rd_T79 d (rd c a)).f3,(rd_T79 d (rd c a)).f4⟩:S79) [.int .i64 ((rd_T79 d (rd c a)).f0),.int .i64 ((rd_T79 d (rd c a)).f1),.int .i64 ((rd_T79 d (rd c a)).f2),.int .i64 ((rd_T79 d (rd c a)).f3),.int .i64 ((rd_T79 d (rd c a)).f4)] (fun _=>True) (fun _=>False) rfl rfl ?aP (fun _ hk=>hk.elim) ?aF ?aO ?aB ?aS ?aL ?_;(case aP=>exact k79_mkM _ _ _ (⟨(rd_T79 d (rd c a)).f0,(rd_T79 d (rd c a)).f1,(rd_T79 d (rd c a)).f2,(rd_T79 d (rd c a)).f3,(rd_T79 d (rd c a)).f4⟩:S79));(case aB=>exact bel);(case aF=>exact(fun _ _=>trivial));(case aO=>exact(rk l.out));(case aS=>exact(below_size bel));(case aL=>have:=a0.out;omega);intro bE bH ho hb hg hat;rw[←a2.out]at ho;have ba:=am (Kd.R_over' (rk j.out) (Kd.R_typed (rk l.out)) (by decide) hg);have bc:=am (blk_grown (g:=ao) (o:=.cells #[.slice A m.length G,.int .i64 t,.int .i64 u,.int .i64 v,.slice B n.length I,.bool x,.slice (some Y) d.length J,.slice D p.length K,.slice E q.length L] 35 (0,0)) (bk i.out) hg (Kd.R_ne l.out i.out (by decide)));have bd:=am (hb);have be:=am (ho);clear j;clear i;clear HB;clear l;have j:=ba;have i:=bc;have HB:=bd;have aZ:=be;clear ba bc bd be;clear ho hb hg hat))
     go_roundg k1
     case measure=>have:=ay.out;omega
     case rel=>exact⟨(bg),(wrap64 (a+1)),(es),H,⟨by have:=ay.out;omega⟩,⟨rk aZ.out⟩,⟨rk j.out⟩,⟨bk i.out⟩,⟨bel⟩⟩
   ·obtain rfl:=qj1 H
    go_wp2
    go_ret
    exact⟨_,er,rk l.out,bel⟩
def impl_GoalsOf.f(d:Int)(e:Int)(b:Int)(c:Int)(a:Int):Option (Int×Int×Bool):=if a=1 then(some (b,c,true))else(if a=2 then(some (3,0,true))else(if a=3 then(some (0,3,true))else(some (0,0,false))))
theorem impl_GoalsOf.calls(b:Int)(c:Int)(d:Int)(g:Int)(i:Int)(r1:Int)(r2:Int)(r3:Bool)(w:World)(h:impl_GoalsOf.f b c d g i=some (r1,r2,r3)):Calls Tryz.prog 109 #[.agg #[.int .i64 b,.int .i64 c,.int .i64 d,.int .i64 g,.int .i64 i]] w fun e w'=>e=.returned (.tuple #[.int .i64 r1,.int .i64 r2,.bool r3])∧Below w.heap.size w w':=by
 have aq:=Tryz.underlying79
 have HB:=qb w
 have H:=h
 unfold impl_GoalsOf.f at H
 clear h
 replace H:=ie H;obtain⟨l,m,H⟩|⟨⟨c2,l,m⟩,H⟩:=H
 ·obtain⟨rfl,rfl,rfl⟩:=qj3 H
  go_enter Tryz.func109,Tryz.ntmps109
  go_wp2_with (first|((with_reducible refine gd 1 ?_);refine bx w 1 #[.int .i64 b,.int .i64 c,.int .i64 d,.int .i64 g,.int .i64 i] 79 ?_;clear HB;intro k w3 a j HB;obtain⟨T,U,W,X,Y,af,ag,ah,ai,aj⟩:=cf5 a.out)|go_quiet (fail))
  go_ret3
  exact⟨er,bel⟩
 ·replace H:=ie H;obtain⟨n,o,H⟩|⟨⟨c5,n,o⟩,H⟩:=H
  ·obtain⟨rfl,rfl,rfl⟩:=qj3 H
   go_enter Tryz.func109,Tryz.ntmps109
   go_wp2_with (first|((with_reducible refine gd 1 ?_);refine bx w 1 #[.int .i64 b,.int .i64 c,.int .i64 d,.int .i64 g,.int .i64 i] 79 ?_;clear HB;intro k w6 a j HB;obtain⟨Z,aa,ac,ad,ae,ak,al,an,ao,ap⟩:=cf5 a.out)|go_quiet (fail))
   go_ret3
   exact⟨er,bel⟩
  ·replace H:=ie H;obtain⟨p,q,H⟩|⟨⟨c8,p,q⟩,H⟩:=H
   ·obtain⟨rfl,rfl,rfl⟩:=qj3 H
    go_enter Tryz.func109,Tryz.ntmps109
    go_wp2_with (first|((with_reducible refine gd 1 ?_);refine bx w 1 #[.int .i64 b,.int .i64 c,.int .i64 d,.int .i64 g,.int .i64 i] 79 ?_;clear HB;intro k w9 a j HB;obtain⟨r,s,t,u,v,D,E,G,I,J⟩:=cf5 a.out)|go_quiet (fail))
    go_ret3
    exact⟨er,bel⟩
   ·obtain⟨rfl,rfl,rfl⟩:=qj3 H
    go_enter Tryz.func109,Tryz.ntmps109
    go_wp2_with (first|((with_reducible refine gd 1 ?_);refine bx w 1 #[.int .i64 b,.int .i64 c,.int .i64 d,.int .i64 g,.int .i64 i] 79 ?_;clear HB;intro k ar a j HB;obtain⟨x,y,z,A,B,K,L,M,O,P⟩:=cf5 a.out)|go_quiet (fail))
    go_ret3
    exact⟨er,bel⟩
def impl_rankerOf_1.f(a:Int)(b:Int)(c:Int)(d:Int)(e:Int):Option (Bool):=some true
theorem impl_rankerOf_1.calls(a:Int)(b:Int)(c:Int)(d:Int)(g:Int)(r:Bool)(w:World)(h:impl_rankerOf_1.f a b c d g=some r):Calls Tryz.prog 98 #[.agg #[.int .i64 a,.int .i64 b,.int .i64 c,.int .i64 d,.int .i64 g]] w fun e w'=>e=.returned (.bool r)∧Below w.heap.size w w':=by
 have l:=Tryz.underlying79
 have HB:=qb w
 have H:=h
 unfold impl_rankerOf_1.f at H
 clear h
 obtain rfl:=qj1 H
 go_enter Tryz.func98,Tryz.ntmps98
 go_wp2_with (first|((with_reducible refine gd 1 ?_);refine bx w 1 #[.int .i64 a,.int .i64 b,.int .i64 c,.int .i64 d,.int .i64 g] 79 ?_;clear HB;intro k w2 i j HB))
 go_ret
 exact⟨er,bel⟩
def tb.fld(r:S112):Nat→Int
  |0=>r.f0
  |1=>r.f1
  |2=>r.f2
  |3=>r.f3
  |4=>r.f4
  |5=>r.f5
  |_=>r.f6
def tb.put(r:S112)(n:Int):Nat→S112
  |0=>⟨n,r.f1,r.f2,r.f3,r.f4,r.f5,r.f6⟩
  |1=>⟨r.f0,n,r.f2,r.f3,r.f4,r.f5,r.f6⟩
  |2=>⟨r.f0,r.f1,n,r.f3,r.f4,r.f5,r.f6⟩
  |3=>⟨r.f0,r.f1,r.f2,n,r.f4,r.f5,r.f6⟩
  |4=>⟨r.f0,r.f1,r.f2,r.f3,n,r.f5,r.f6⟩
  |5=>⟨r.f0,r.f1,r.f2,r.f3,r.f4,n,r.f6⟩
  |_=>⟨r.f0,r.f1,r.f2,r.f3,r.f4,r.f5,n⟩
def tb.add(x:List S112)(i:Int)(j:Nat)(v:Int):List S112:=x.set i.toNat (tb.put (rd_T112 x i) (wrap64 (tb.fld (rd_T112 x i) j+v)) j)
theorem tb.add_len(x:List S112)(i:Int)(j:Nat)(v:Int):(tb.add x i j v).length=x.length:=by simp [tb.add]
theorem tb.cell{W:World}{base go co n:Nat}{ok:Nat→Prop}{x:List S112}(HO:Kd.R k112 112 W base ok (.slice (some ⟨go,0,none⟩) n co) x)(hn:x.length=n){i:Int}(p:0≤i)(q:i<(n:Int))(j:Nat)(hj:j<7):W.cell? ⟨go,i.toNat*7+j,none⟩=some (.int .i64 (tb.fld (rd_T112 x i) j))∧W.frozen? ⟨go,i.toNat*7+j,none⟩=false:=by
 subst hn
 obtain⟨ce,hcl,hM,hcc,hfr⟩:=Kd.R_elem HO z112 i p q
 obtain rfl:=k112_openM hM
 match j,hj with
 |0,_=>exact⟨hcc 0 _ rfl,hfr 0⟩
 |1,_=>exact⟨hcc 1 _ rfl,hfr 1⟩
 |2,_=>exact⟨hcc 2 _ rfl,hfr 2⟩
 |3,_=>exact⟨hcc 3 _ rfl,hfr 3⟩
 |4,_=>exact⟨hcc 4 _ rfl,hfr 4⟩
 |5,_=>exact⟨hcc 5 _ rfl,hfr 5⟩
 |6,_=>exact⟨hcc 6 _ rfl,hfr 6⟩
theorem tb.seg{W:World}{base go co n:Nat}{ok:Nat→Prop}{x:List S112}(HO:Kd.R k112 112 W base ok (.slice (some ⟨go,0,none⟩) n co) x)(hn:x.length=n){i:Int}(p:0≤i)(q:i<(n:Int))(j:Nat)(hj:j<7)(v:Int):Kd.R k112 112 (W.setCell ⟨go,i.toNat*7+j,none⟩ (.int .i64 (wrap64 (tb.fld (rd_T112 x i) j+v)))) base ok (.slice (some ⟨go,0,none⟩) n co) (tb.add x i j v)∧W.grownBy (W.setCell ⟨go,i.toNat*7+j,none⟩ (.int .i64 (wrap64 (tb.fld (rd_T112 x i) j+v)))) (some go):=by
 subst hn
 obtain⟨ce,hcl,hM,hcc,hfr⟩:=Kd.R_elem HO z112 i p q
 obtain rfl:=k112_openM hM
 match j,hj with
 |0,_=>exact Kd.R_seg HO i p q (seg:=[.int .i64 (wrap64 (tb.fld (rd_T112 x i) 0+v))]) (j:=0) hcl hcc (show 1≤7 from by decide) (x':=tb.put (rd_T112 x i) (wrap64 (tb.fld (rd_T112 x i) 0+v)) 0) (k112_mkM _ _ _ _) (fun _ hk=>hk)
 |1,_=>exact Kd.R_seg HO i p q (seg:=[.int .i64 (wrap64 (tb.fld (rd_T112 x i) 1+v))]) (j:=1) hcl hcc (show 2≤7 from by decide) (x':=tb.put (rd_T112 x i) (wrap64 (tb.fld (rd_T112 x i) 1+v)) 1) (k112_mkM _ _ _ _) (fun _ hk=>hk)
 |2,_=>exact Kd.R_seg HO i p q (seg:=[.int .i64 (wrap64 (tb.fld (rd_T112 x i) 2+v))]) (j:=2) hcl hcc (show 3≤7 from by decide) (x':=tb.put (rd_T112 x i) (wrap64 (tb.fld (rd_T112 x i) 2+v)) 2) (k112_mkM _ _ _ _) (fun _ hk=>hk)
 |3,_=>exact Kd.R_seg HO i p q (seg:=[.int .i64 (wrap64 (tb.fld (rd_T112 x i) 3+v))]) (j:=3) hcl hcc (show 4≤7 from by decide) (x':=tb.put (rd_T112 x i) (wrap64 (tb.fld (rd_T112 x i) 3+v)) 3) (k112_mkM _ _ _ _) (fun _ hk=>hk)
 |4,_=>exact Kd.R_seg HO i p q (seg:=[.int .i64 (wrap64 (tb.fld (rd_T112 x i) 4+v))]) (j:=4) hcl hcc (show 5≤7 from by decide) (x':=tb.put (rd_T112 x i) (wrap64 (tb.fld (rd_T112 x i) 4+v)) 4) (k112_mkM _ _ _ _) (fun _ hk=>hk)
 |5,_=>exact Kd.R_seg HO i p q (seg:=[.int .i64 (wrap64 (tb.fld (rd_T112 x i) 5+v))]) (j:=5) hcl hcc (show 6≤7 from by decide) (x':=tb.put (rd_T112 x i) (wrap64 (tb.fld (rd_T112 x i) 5+v)) 5) (k112_mkM _ _ _ _) (fun _ hk=>hk)
 |6,_=>exact Kd.R_seg HO i p q (seg:=[.int .i64 (wrap64 (tb.fld (rd_T112 x i) 6+v))]) (j:=6) hcl hcc (show 7≤7 from by decide) (x':=tb.put (rd_T112 x i) (wrap64 (tb.fld (rd_T112 x i) 6+v)) 6) (k112_mkM _ _ _ _) (fun _ hk=>hk)
structure tb.S (w W:World) (go co n:Nat) (x:List S112) (g1:Nat) (c1:Array Value) (t1:TypeId) (g2:Nat) (c2:Array Value) (t2:TypeId):Prop where
  r:Kd.R k112 112 W w.heap.size (fun _=>True) (.slice (some ⟨go,0,none⟩) n co) x
  l:x.length=n
  a:W.heap[g1]? =some (.cells c1 t1 (0,0))
  b:W.heap[g2]? =some (.cells c2 t2 (0,0))
  c:Below w.heap.size w W
  g:w.heap.size≤go
  m:112≠t1
  k:112≠t2
section
variable {w W:World} {go co n:Nat} {x:List S112} {g1:Nat} {c1:Array Value} {t1:TypeId} {g2:Nat} {c2:Array Value} {t2:TypeId}
theorem tb.S.put(h:tb.S w W go co n x g1 c1 t1 g2 c2 t2){i:Int}(p:0≤i)(q:i<(n:Int))(j:Nat)(hj:j<7)(v:Int):tb.S w (W.setCell ⟨go,i.toNat*7+j,none⟩ (.int .i64 (wrap64 (tb.fld (rd_T112 x i) j+v)))) go co n (tb.add x i j v) g1 c1 t1 g2 c2 t2:=
  have s:=tb.seg h.r h.l p q j hj v
  ⟨s.1,(tb.add_len ..).trans h.l,blk_grown h.a s.2 (Kd.R_ne h.r h.a h.m),blk_grown h.b s.2 (Kd.R_ne h.r h.b h.k),below_set h.c h.g,h.g,h.m,h.k⟩
theorem tb.S.drew(h:tb.S w W go co n x g1 c1 t1 g2 c2 t2):tb.S w W.drew go co n x g1 c1 t1 g2 c2 t2:=⟨Kd.R_drew h.r,h.l,blk_drew h.a,blk_drew h.b,below_drew1 h.c,h.g,h.m,h.k⟩
theorem tb.out(h:tb.S w W go co n x g1 c1 t1 g2 c2 t2):∃W',W'=W∧Aside0 (tb.S w W' go co n x g1 c1 t1 g2 c2 t2):=⟨W,rfl,⟨h⟩⟩
theorem tb.cl(h:Aside0 (tb.S w W go co n x g1 c1 t1 g2 c2 t2)){i:Int}(p:Aside0 (0≤i))(q:Aside0 (i<(n:Int)))(j:Nat)(hj:j<7:=by decide):W.cell? ⟨go,i.toNat*7+j,none⟩=some (.int .i64 (tb.fld (rd_T112 x i) j))∧W.frozen? ⟨go,i.toNat*7+j,none⟩=false:=tb.cell h.out.r h.out.l p.out q.out j hj
theorem tb.cl0(h:Aside0 (tb.S w W go co n x g1 c1 t1 g2 c2 t2)){i:Int}(p:Aside0 (0≤i))(q:Aside0 (i<(n:Int))):W.cell? ⟨go,i.toNat*7,none⟩=some (.int .i64 (tb.fld (rd_T112 x i) 0))∧W.frozen? ⟨go,i.toNat*7,none⟩=false:=tb.cell h.out.r h.out.l p.out q.out 0 (by decide)
variable {P:Program} {ops:Array Oper} {rest:List Oper} {o:Oper} {a:Act} {Q:Exit→Act→World→Prop}
theorem tb.st(S:Aside0 (tb.S w W go co n x g1 c1 t1 g2 c2 t2)){i:Int}(p:Aside0 (0≤i))(q:Aside0 (i<(n:Int)))(j:Nat)(v:Int){s:Tmp}{u:Operand}(h:∀W',Aside0 (tb.S w W' go co n (tb.add x i j v) g1 c1 t1 g2 c2 t2)→wpList P ops Q rest a W')(hj:j<7:=by decide)(_ho:o.op=.store 3 (.tmp s) u:=by rfl)(hg:o.guard=none:=by rfl)(hN:o.dst=none:=by rfl)(hr:(execOp a.eval o).run P W=.ok .skip (W.setCell ⟨go,i.toNat*7+j,none⟩ (.int .i64 (wrap64 (tb.fld (rd_T112 x i) j+v)))):=by first|(go_simp;done)|(go_simp;rfl)):wpList P ops Q (o::rest) a W:=store_event hg _ho hN hr fun w' e=>h w' ⟨e ▸ S.out.put p.out q.out j hj v⟩
end
mutual
def impl_tableOf_impl_rankerOf_1.l0:Nat→List (S112)→List (S79)→Int→Int→Int→Int→Int→List Int→Bool→Option ((List (S112)))
  |0,_,_,_,_,_,_,_,_,_=>none
  |k+1,x9,b,j,a,d,e,g,h,i=>if a<j then(if 0≤a then(if a<(b.length:Int)then((impl_GoalsOf.f ((rd_T79 b a).f0) ((rd_T79 b a).f1) ((rd_T79 b a).f2) ((rd_T79 b a).f3) ((rd_T79 b a).f4)).bind fun c=>(if c.2.2=true then((impl_rankerOf_1.f ((rd_T79 b a).f0) ((rd_T79 b a).f1) ((rd_T79 b a).f2) ((rd_T79 b a).f3) ((rd_T79 b a).f4)).bind fun l=>(impl_tableOf_impl_rankerOf_1.j1 k x9 c.1 c.2.1 b j a (!l) d e g h i ((rd_T79 b a).f0) ((rd_T79 b a).f1) ((rd_T79 b a).f2) ((rd_T79 b a).f3) ((rd_T79 b a).f4)))else(impl_tableOf_impl_rankerOf_1.j1 k x9 c.1 c.2.1 b j a true d e g h i ((rd_T79 b a).f0) ((rd_T79 b a).f1) ((rd_T79 b a).f2) ((rd_T79 b a).f3) ((rd_T79 b a).f4))))else(none))else(none))else(some x9)
def impl_tableOf_impl_rankerOf_1.j1:Nat→List (S112)→Int→Int→List (S79)→Int→Int→Bool→Int→Int→Int→List Int→Bool→Int→Int→Int→Int→Int→Option ((List (S112)))
  |0,_,_,_,_,_,_,_,_,_,_,_,_,_,_,_,_,_=>none
  |k+1,x9,i,j,l,m,n,r,c,d,e,g,h,a,b,o,p,q=>if r=true then(impl_tableOf_impl_rankerOf_1.l0 k x9 l m (wrap64 (n+1)) c d e g h)else(if 0≤a then(if a<(x9.length:Int)then(if 0≤b then(if b<(x9.length:Int)then(if i>j then(impl_tableOf_impl_rankerOf_1.l0 k (tb.add (tb.add (tb.add (tb.add (tb.add (tb.add (tb.add (tb.add (tb.add (tb.add x9 a 0 1) b 0 1) a 4 i) a 5 j) b 4 j) b 5 i) a 1 1) b 3 1) a 6 c) b 6 e) l m (wrap64 (n+1)) c d e g h)else(if i<j then(impl_tableOf_impl_rankerOf_1.l0 k (tb.add (tb.add (tb.add (tb.add (tb.add (tb.add (tb.add (tb.add (tb.add (tb.add x9 a 0 1) b 0 1) a 4 i) a 5 j) b 4 j) b 5 i) b 1 1) a 3 1) b 6 c) a 6 e) l m (wrap64 (n+1)) c d e g h)else(impl_tableOf_impl_rankerOf_1.l0 k (tb.add (tb.add (tb.add (tb.add (tb.add (tb.add (tb.add (tb.add (tb.add (tb.add x9 a 0 1) b 0 1) a 4 i) a 5 j) b 4 j) b 5 i) a 2 1) b 2 1) a 6 d) b 6 d) l m (wrap64 (n+1)) c d e g h)))else(none))else(none))else(none))else(none))
end
def impl_tableOf_impl_rankerOf_1.f(k:Nat)(a:Int)(b:Int)(c:Int)(e:List Int)(d:Bool)(a1:Int)(l2:List (S79)):Option ((List (S112))):=if 0≤a1 then(if(a1:Int).toNat≤5026338869833 then(impl_tableOf_impl_rankerOf_1.l0 k (List.replicate (a1:Int).toNat z112) l2 (l2.length:Int) 0 a b c e d)else(none))else(none)
theorem impl_tableOf_impl_rankerOf_1.calls(k:Nat)(n:Int)(o:Int)(p:Int)(A:Option Addr)(B:Nat)(m:List Int)(s:Bool)(a1:Int)(A2:Option Addr)(c2:Nat)(l2:List (S79))(r:List (S112))(w:World)(J:Kd.C (Kd.int .i64) w A m.length m)(G:m.length≤B)(ax:Kd.C k79 w A2 l2.length l2)(aE:l2.length≤c2)(h:impl_tableOf_impl_rankerOf_1.f k n o p m s a1 l2=some r):Calls Tryz.prog 97 #[.agg #[.int .i64 n,.int .i64 o,.int .i64 p,.slice A m.length B,.bool s],.int .i64 a1,.slice A2 l2.length c2,.func (.func 98) #[] #[]] w fun e w'=>∃aJ:Value,e=.returned (aJ)∧Kd.R k112 112 w' w.heap.size (fun _=>True) aJ r∧Below w.heap.size w w':=by
 have bd:=Tryz.underlying32
 have be:=Tryz.underlying79
 replace J:=am J
 replace G:=am G
 replace ax:=am ax
 replace aE:=am aE
 have HB:=qb w
 have H:=h
 unfold impl_tableOf_impl_rankerOf_1.f at H
 clear h
 by_cases c5:0≤a1
 ·rw[if_pos c5]at H
  have ao:=eq_true c5
  have ap:decide (0≤a1)=true:=decide_eq_true c5
  clear c5
  replace H:=i0 H;obtain⟨P,H⟩:=H
  have aq:=eq_true (of_decide_eq_true P)
  generalize hy657:(List.replicate (a1:Int).toNat z112:List (S112))=aT at H
  have K:=am hy657.symm
  clear hy657
  replace H:=am H
  go_enter Tryz.func97,Tryz.ntmps97
  go_wp2_with (first|((with_reducible refine gd 4 ?_);refine bx w 4 #[.int .i64 n,.int .i64 o,.int .i64 p,.slice A m.length B,.bool s] 32 ?_;clear HB;intro T w7 d aW HB)|((with_reducible refine gate_dst (N:=18) rfl ?_);refine Kd.R_make k112 _ 112 rfl (N:=18) rfl 109 _ _ rfl a1 rfl rfl Tryz.underlying109 (.agg #[(.int .i64 0),(.int .i64 0),(.int .i64 0),(.int .i64 0),(.int .i64 0),(.int .i64 0),(.int .i64 0)]) 56 info112 rfl (by decide) (by omega) z112 (ok:=fun _=>True) (okp:=fun _=>True) (k112_mkM _ _ _ z112) (fun _ hk=>hk) trivial (asm) (Nat.le_trans (Nat.mul_le_mul_right _ (asm:a1.toNat≤5026338869833)) (by omega)) (Below.refl _ _) (Nat.le_refl _) ?_;intro au w8 ag hb hg_ hnew_;clear hg_ hnew_;(first|rw[←K.out]at ag|(simp only[Int.reduceToNat]at ag;rw[←K.out]at ag));have aw:=am (Kd.R_lower ag (below_size bel));replace d:=b1 d hb;replace HB:=b2 hb;clear hb ag))
  go_loopg [21] k (fun kq ba w'=>∃(t:List (S112)) (b:Int),ba=.int .i64 b∧Aside0 (impl_tableOf_impl_rankerOf_1.l0 kq t l2 (l2.length:Int) b n o p m s=some r)∧Aside0 (kq≤k)∧Aside0 (Kd.R k112 112 w' w.heap.size (fun _=>True) au t)∧Aside0 (w'.heap[T]? =some (.cells #[.int .i64 n,.int .i64 o,.int .i64 p,(.slice A m.length B),.bool s] 32 (0,0)))∧Aside0 (Below w.heap.size w w'))
  case atStart=>exact⟨(aT),(0),(es),H,⟨Nat.le_refl _⟩,⟨rk aw.out⟩,⟨bk d.out⟩,⟨bel⟩⟩
  case round=>
   clear H
   try clear c2;try clear c5;try clear ao;try clear ap;try clear aq;try clear P
   obtain⟨t,b,rfl,HA,y,i,d,HB⟩:=hrel
   cases gk with
   |zero=>exact absurd HA.out (by simp [impl_tableOf_impl_rankerOf_1.l0])
   |succ k1=>
    have H:=HA.out
    clear HA
    simp only[impl_tableOf_impl_rankerOf_1.l0]at H
    replace H:=i1 H;obtain⟨L,H⟩|⟨L,H⟩:=H
    ·replace H:=i0 H;obtain⟨az,H⟩:=H
     replace H:=i0 H;obtain⟨aA,H⟩:=H
     replace H:=bm H;obtain⟨⟨j,l,aI⟩,aU,H⟩:=H;dsimp only at H
     have I:=am H
     clear H
     have:(0≤(b:Int))=True:=ab
     have:(b<(l2.length:Int))=True:=ab
     obtain⟨aY,aH,ah,ai,aj,ak,al⟩:=hc5 HB.out (at_T79 ax.out b asm asm)
     cases aH
     go_upto_region 6 with (first|((with_reducible refine gd 11 ?_);refine by_ w 11 #[.int .i64 0,.int .i64 0,.int .i64 0,.int .i64 0,.int .i64 0] 79 ?_;clear HB;intro aD hg bg g aX hb HB;obtain⟨ay,v⟩:=qn hg d;replace i:=rb i hb;replace d:=b1 d hb;clear hb hg;obtain⟨_,_⟩:=qo v;obtain⟨U,W,X,Y,Z,aa,ac,ad,ae,af⟩:=cf5 g.out)|((with_reducible refine gc 109 ?_);refine gl 27 Tryz.func109 (impl_GoalsOf.calls ((rd_T79 l2 b).f0) ((rd_T79 l2 b).f1) ((rd_T79 l2 b).f2) ((rd_T79 l2 b).f3) ((rd_T79 l2 b).f4) j l aI _ aU.out) ?_;rintro e bh ⟨rfl,hb⟩;refine⟨_,rfl,?_⟩;replace i:=am (Kd.R_below (kf (Kd.R_types i.out g.out (by decide)) (fun _ h_=>h_.1)) hb);replace d:=b1 d hb;replace g:=bq g hb;replace HB:=b2 hb;(try clear hb)))
     (try simp only[Act.put,List.setIfInBounds_toArray,List.set_cons_zero,List.set_cons_succ])
     go_cut [38] (fun bc wc=>∃(kq:Nat) (u:Bool),bc=.bool u∧Aside0 (impl_tableOf_impl_rankerOf_1.j1 kq t j l l2 (l2.length:Int) b u n o p m s ((rd_T79 l2 b).f0) ((rd_T79 l2 b).f1) ((rd_T79 l2 b).f2) ((rd_T79 l2 b).f3) ((rd_T79 l2 b).f4)=some r)∧Aside0 (kq≤k1)∧Aside0 (Kd.R k112 112 wc w.heap.size (fun _=>True) au t)∧Aside0 (wc.heap[T]? =some (.cells #[.int .i64 n,.int .i64 o,.int .i64 p,(.slice A m.length B),.bool s] 32 (0,0)))∧Aside0 (wc.heap[aD]? =some (.cells #[.int .i64 ((rd_T79 l2 b).f0),.int .i64 ((rd_T79 l2 b).f1),.int .i64 ((rd_T79 l2 b).f2),.int .i64 ((rd_T79 l2 b).f3),.int .i64 ((rd_T79 l2 b).f4)] 79 (0,0)))∧Aside0 (Below w.heap.size w wc))
     case first=>
      have H:=I.out
      clear I
      replace H:=ib H;obtain⟨rfl,H⟩|⟨rfl,H⟩:=H
      ·replace H:=bm H;obtain⟨ar,aV,H⟩:=H
       replace H:=am H
       obtain⟨_,_⟩:=qo v
       obtain⟨_,_,_,_,_,_,_,_,_,_⟩:=cf5 g.out
       go_wp2_with (first|(go_at_call 98;refine cm2 (impl_rankerOf_1.calls ((rd_T79 l2 b).f0) ((rd_T79 l2 b).f1) ((rd_T79 l2 b).f2) ((rd_T79 l2 b).f3) ((rd_T79 l2 b).f4) ar _ aV.out) ?_;intro bi hb;replace i:=rb i hb;replace d:=b1 d hb;replace g:=b1 g hb;replace HB:=b2 hb;clear hb))
       go_meet
       case rel=>exact⟨_,(!ar),(es),H,⟨by have:=y.out;first|omega|exact Nat.le_refl _⟩,⟨rk i.out⟩,⟨bk d.out⟩,⟨bk g.out⟩,⟨bel⟩⟩
      ·replace H:=am H
       go_wp2
       go_meet
       case rel=>exact⟨_,(true),(es),H,⟨by have:=y.out;first|omega|exact Nat.le_refl _⟩,⟨rk i.out⟩,⟨bk d.out⟩,⟨bk g.out⟩,⟨bel⟩⟩
     case rest=>
      clear I
      try clear c2;try clear c5;try clear ao;try clear ap;try clear aq;try clear P;try clear L;try clear az;try clear aA;try clear U;try clear W;try clear X;try clear Y;try clear Z;try clear aa;try clear ac;try clear ad;try clear ae;try clear af;try clear ah;try clear ai;try clear aj;try clear ak;try clear al
      obtain⟨kq,u,rfl,HA,q,i,d,g,HB⟩:=hcut
      cases kq with
      |zero=>exact absurd HA.out (by simp [impl_tableOf_impl_rankerOf_1.j1])
      |succ D=>
       have H:=HA.out
       clear HA
       simp only[impl_tableOf_impl_rankerOf_1.j1]at H
       by_cases an:u=true
       ·subst an
        have H1:(impl_tableOf_impl_rankerOf_1.l0 D t l2 (l2.length:Int) (wrap64 (b+1)) n o p m s)=some r:=by rw[if_pos rfl]at H;exact H
        clear H
        have H:=H1
        clear H1
        replace H:=am H
        go_wp2
        go_roundg D
        case measure=>have:=y.out;have:=q.out;omega
        case rel=>exact⟨(t),(wrap64 (b+1)),(es),H,⟨by have:=y.out;have:=q.out;omega⟩,⟨rk i.out⟩,⟨bk d.out⟩,⟨bel⟩⟩
       ·replace an:=Bool.eq_false_iff.mpr an
        subst an
        have H1:=H
        rw[if_neg (show ¬(false=true) by decide)]at H1
        clear H
        have H:=H1
        clear H1
        replace H:=i0 H;obtain⟨M,H⟩:=H
        replace H:=i0 H;obtain⟨O,H⟩:=H
        replace H:=i0 H;obtain⟨aB,H⟩:=H
        replace H:=i0 H;obtain⟨aC,H⟩:=H
        obtain⟨a5,a6,a7,a8,a9,aZ,a0,a2,a3,a4⟩:=cf5 g.out
        have e4:0<t.length:=by
         have h1:=of_decide_eq_true M
         have h2:=of_decide_eq_true O
         omega
        obtain⟨go,co,eo,gb,gl,cl,HG⟩:=Kd.R_form i.out e4
        subst eo
        have e0:=of_decide_eq_true M
        have e1:=of_decide_eq_true O
        have e2:=of_decide_eq_true aB
        have e3:=of_decide_eq_true aC
        have E0:=am e0
        have E1:=am e1
        have E2:=am e2
        have E3:=am e3
        replace e0:=eq_true e0
        replace e1:=eq_true e1
        replace e2:=eq_true e2
        replace e3:=eq_true e3
        have HL:=am H
        clear H
        go_wp2
        go_region
        obtain⟨bf,e_,S0⟩:=tb.out (tb.S.drew ⟨i.out,rfl,d.out,g.out,HB.out,gb,by decide,by decide⟩)
        rw[←e_]
        clear e_ i d g HB a5 a6 a7 a8 a9 aZ a0 a2 a3 a4 HG cl gl
        obtain⟨_,_⟩:=tb.cl0 S0 E0 E1
        by_cases aF:j>l
        ·have z:decide (l<j)=true:=decide_eq_true aF
         go_wp2_with (first|((with_reducible refine gs 3 53 ?_);refine tb.st S0 E0 E1 0 1 ?_;intro aK S1;clear S0;obtain⟨_,_⟩:=tb.cl0 S1 E2 E3)|((with_reducible refine gs 3 60 ?_);refine tb.st S1 E2 E3 0 1 ?_;intro aL S2;clear S1;obtain⟨_,_⟩:=tb.cl S2 E0 E1 4)|((with_reducible refine gs 3 68 ?_);refine tb.st S2 E0 E1 4 j ?_;intro aM S3;clear S2;obtain⟨_,_⟩:=tb.cl S3 E0 E1 5)|((with_reducible refine gs 3 76 ?_);refine tb.st S3 E0 E1 5 l ?_;intro aN S4;clear S3;obtain⟨_,_⟩:=tb.cl S4 E2 E3 4)|((with_reducible refine gs 3 84 ?_);refine tb.st S4 E2 E3 4 l ?_;intro aO S5;clear S4;obtain⟨_,_⟩:=tb.cl S5 E2 E3 5)|((with_reducible refine gs 3 92 ?_);refine tb.st S5 E2 E3 5 j ?_;intro aP S6;clear S5;obtain⟨_,_⟩:=tb.cl S6 E0 E1 1)|((with_reducible refine gs 3 135 ?_);refine tb.st S6 E0 E1 1 1 ?_;intro aQ S7;clear S6;obtain⟨_,_⟩:=tb.cl S7 E2 E3 3)|((with_reducible refine gs 3 142 ?_);refine tb.st S7 E2 E3 3 1 ?_;intro aR S8;clear S7))
         obtain⟨_,_⟩:=tb.cl S8 E0 E1 6
         obtain⟨_,_,_,_,_,_,_,_,_,_⟩:=cf5 S8.out.a
         go_region
         obtain⟨aS,e_,S9⟩:=tb.out (S8.out.put E0.out E1.out 6 (by decide) n).drew
         rw[←e_]
         clear e_ S8
         obtain⟨_,_⟩:=tb.cl S9 E2 E3 6
         obtain⟨_,_,_,_,_,_,_,_,_,_⟩:=cf5 S9.out.a
         go_wp2
         go_region
         obtain⟨av,e_,x⟩:=tb.out (S9.out.put E2.out E3.out 6 (by decide) p).drew
         rw[←e_]
         clear e_ S9
         have H:=HL.out
         rw[if_pos (of_decide_eq_true z)]at H
         replace H:=am H
         go_wp2
         go_roundg D
         case measure=>have:=y.out;have:=q.out;omega
         case rel=>exact⟨_,(wrap64 (b+1)),(es),H,⟨by have:=y.out;have:=q.out;omega⟩,⟨x.out.r⟩,⟨x.out.a⟩,⟨x.out.c⟩⟩
        ·have z:decide (l<j)=false:=decide_eq_false aF
         by_cases aG:j<l
         ·have E:decide (j<l)=true:=decide_eq_true aG
          go_wp2_with (first|((with_reducible refine gs 3 53 ?_);refine tb.st S0 E0 E1 0 1 ?_;intro aK S1;clear S0;obtain⟨_,_⟩:=tb.cl0 S1 E2 E3)|((with_reducible refine gs 3 60 ?_);refine tb.st S1 E2 E3 0 1 ?_;intro aL S2;clear S1;obtain⟨_,_⟩:=tb.cl S2 E0 E1 4)|((with_reducible refine gs 3 68 ?_);refine tb.st S2 E0 E1 4 j ?_;intro aM S3;clear S2;obtain⟨_,_⟩:=tb.cl S3 E0 E1 5)|((with_reducible refine gs 3 76 ?_);refine tb.st S3 E0 E1 5 l ?_;intro aN S4;clear S3;obtain⟨_,_⟩:=tb.cl S4 E2 E3 4)|((with_reducible refine gs 3 84 ?_);refine tb.st S4 E2 E3 4 l ?_;intro aO S5;clear S4;obtain⟨_,_⟩:=tb.cl S5 E2 E3 5)|((with_reducible refine gs 3 92 ?_);refine tb.st S5 E2 E3 5 j ?_;intro aP S6;clear S5;obtain⟨_,_⟩:=tb.cl S6 E2 E3 1)|((with_reducible refine gs 3 171 ?_);refine tb.st S6 E2 E3 1 1 ?_;intro aQ S7;clear S6;obtain⟨_,_⟩:=tb.cl S7 E0 E1 3)|((with_reducible refine gs 3 178 ?_);refine tb.st S7 E0 E1 3 1 ?_;intro aR S8;clear S7))
          obtain⟨_,_⟩:=tb.cl S8 E2 E3 6
          obtain⟨_,_,_,_,_,_,_,_,_,_⟩:=cf5 S8.out.a
          go_region
          obtain⟨aS,e_,S9⟩:=tb.out (S8.out.put E2.out E3.out 6 (by decide) n).drew
          rw[←e_]
          clear e_ S8
          obtain⟨_,_⟩:=tb.cl S9 E0 E1 6
          obtain⟨_,_,_,_,_,_,_,_,_,_⟩:=cf5 S9.out.a
          go_wp2
          go_region
          obtain⟨av,e_,x⟩:=tb.out (S9.out.put E0.out E1.out 6 (by decide) p).drew
          rw[←e_]
          clear e_ S9
          have H:=HL.out
          rw[if_neg (of_decide_eq_false z)]at H
          rw[if_pos (of_decide_eq_true E)]at H
          replace H:=am H
          go_wp2
          go_roundg D
          case measure=>have:=y.out;have:=q.out;omega
          case rel=>exact⟨_,(wrap64 (b+1)),(es),H,⟨by have:=y.out;have:=q.out;omega⟩,⟨x.out.r⟩,⟨x.out.a⟩,⟨x.out.c⟩⟩
         ·have E:decide (j<l)=false:=decide_eq_false aG
          go_wp2_with (first|((with_reducible refine gs 3 53 ?_);refine tb.st S0 E0 E1 0 1 ?_;intro aK S1;clear S0;obtain⟨_,_⟩:=tb.cl0 S1 E2 E3)|((with_reducible refine gs 3 60 ?_);refine tb.st S1 E2 E3 0 1 ?_;intro aL S2;clear S1;obtain⟨_,_⟩:=tb.cl S2 E0 E1 4)|((with_reducible refine gs 3 68 ?_);refine tb.st S2 E0 E1 4 j ?_;intro aM S3;clear S2;obtain⟨_,_⟩:=tb.cl S3 E0 E1 5)|((with_reducible refine gs 3 76 ?_);refine tb.st S3 E0 E1 5 l ?_;intro aN S4;clear S3;obtain⟨_,_⟩:=tb.cl S4 E2 E3 4)|((with_reducible refine gs 3 84 ?_);refine tb.st S4 E2 E3 4 l ?_;intro aO S5;clear S4;obtain⟨_,_⟩:=tb.cl S5 E2 E3 5)|((with_reducible refine gs 3 92 ?_);refine tb.st S5 E2 E3 5 j ?_;intro aP S6;clear S5;obtain⟨_,_⟩:=tb.cl S6 E0 E1 2)|((with_reducible refine gs 3 99 ?_);refine tb.st S6 E0 E1 2 1 ?_;intro aQ S7;clear S6;obtain⟨_,_⟩:=tb.cl S7 E2 E3 2)|((with_reducible refine gs 3 106 ?_);refine tb.st S7 E2 E3 2 1 ?_;intro aR S8;clear S7))
          obtain⟨_,_⟩:=tb.cl S8 E0 E1 6
          obtain⟨_,_,_,_,_,_,_,_,_,_⟩:=cf5 S8.out.a
          go_region
          obtain⟨aS,e_,S9⟩:=tb.out (S8.out.put E0.out E1.out 6 (by decide) o).drew
          rw[←e_]
          clear e_ S8
          obtain⟨_,_⟩:=tb.cl S9 E2 E3 6
          obtain⟨_,_,_,_,_,_,_,_,_,_⟩:=cf5 S9.out.a
          go_wp2
          go_region
          obtain⟨av,e_,x⟩:=tb.out (S9.out.put E2.out E3.out 6 (by decide) o).drew
          rw[←e_]
          clear e_ S9
          have H:=HL.out
          rw[if_neg (of_decide_eq_false z)]at H
          rw[if_neg (of_decide_eq_false E)]at H
          replace H:=am H
          go_wp2
          go_roundg D
          case measure=>have:=y.out;have:=q.out;omega
          case rel=>exact⟨_,(wrap64 (b+1)),(es),H,⟨by have:=y.out;have:=q.out;omega⟩,⟨x.out.r⟩,⟨x.out.a⟩,⟨x.out.c⟩⟩
    ·obtain rfl:=qj1 H
     go_wp2
     go_ret
     exact⟨_,er,rk i.out,bel⟩
 ·rw[if_neg c5]at H
  exact absurd H (by simp)
def impl_rankerOf.f(k:Nat)(e:List (S83))(a:Int)(b:Int)(c:Int)(g:List Int)(d:Bool)(h:List (S79))(i:List Int)(j:List Int):Option (List (S112)):=impl_tableOf_impl_rankerOf_1.f k a b c g d (e.length:Int) h
def impl_rankerOf.T1:Bool×List (List Nat×List Nat):=(true,[([],[]),([],[]),([1],[1]),([],[]),([3],[3]),([4],[4]),([],[]),([6],[6]),([2,5,7],[2,5,7]),([0,8],[0,8]),([9,8,0,1,2,3,4,5,6,7,8,9],[9])])
def impl_rankerOf.B1:List Nat:=[0,0,2,0,8,24,0,64,254,511,1023]
theorem impl_rankerOf.tab1:rtab .any (opsOf Tryz.f81 1)=impl_rankerOf.T1:=by kernel_rfl
theorem impl_rankerOf.bits1:waitsOk impl_rankerOf.T1.2 impl_rankerOf.B1=true:=by kernel_rfl
theorem impl_rankerOf.calls(k:Nat)(E:Option Addr)(J:Nat)(l:List (S83))(q:Int)(s:Int)(t:Int)(y:Option Addr)(A:Nat)(m:List Int)(u:Bool)(z:Option Addr)(B:Nat)(o:List (S79))(G:Option Addr)(L:Nat)(v:List Int)(I:Option Addr)(M:Nat)(x:List Int)(r:List (S112))(w:World)(aa:Kd.C k83 w E l.length l)(W:l.length≤J)(T:Kd.C (Kd.int .i64) w y m.length m)(O:m.length≤A)(U:Kd.C k79 w z o.length o)(P:o.length≤B)(ac:Kd.C (Kd.int .i64) w G v.length v)(X:v.length≤L)(ad:Kd.C (Kd.int .i64) w I x.length x)(Y:x.length≤M)(h:impl_rankerOf.f k l q s t m u o v x=some r):Calls Tryz.prog 81 #[.agg #[.slice E l.length J,.int .i64 q,.int .i64 s,.int .i64 t,.slice y m.length A,.bool u,.slice z o.length B,.slice G v.length L,.slice I x.length M]] w fun e w'=>∃aF:Value,e=.returned (.agg #[.slice E l.length J,.int .i64 q,.int .i64 s,.int .i64 t,.slice y m.length A,.bool u,.slice z o.length B,.slice G v.length L,.slice I x.length M,aF])∧Kd.R k112 112 w' w.heap.size (fun _=>True) aF r∧Below w.heap.size w w':=by
 have a6:=Tryz.underlying35
 have aU:=Tryz.underlying115
 have a5:=Tryz.underlying32
 replace aa:=am aa
 replace W:=am W
 replace T:=am T
 replace O:=am O
 replace U:=am U
 replace P:=am P
 replace ac:=am ac
 replace X:=am X
 replace ad:=am ad
 replace Y:=am Y
 have HB:=qb w
 have A2:=am (show impl_tableOf_impl_rankerOf_1.f k q s t m u (l.length:Int) o=some r from h)
 clear h
 go_enter Tryz.func81,Tryz.ntmps81
 try go_wp2_with (first|((with_reducible refine gd 1 ?_);refine bx w 1 #[.slice E l.length J,.int .i64 q,.int .i64 s,.int .i64 t,.slice y m.length A,.bool u,.slice z o.length B,.slice G v.length L,.slice I x.length M] 35 ?_;clear HB;intro j w8 g aG HB)|((with_reducible refine gd 2 ?_);refine by_ w 2 #[.slice none 0 0,.int .i64 0,.int .i64 0,.int .i64 0,.slice none 0 0,.bool false,.slice none 0 0,.slice none 0 0,.slice none 0 0,.slice none 0 0] 115 ?_;clear HB;intro b hg w9 c aH hb HB;obtain⟨a,d⟩:=qn hg g;replace g:=b1 g hb;clear hb hg))
 replace g:=am (blk_drew g.out)
 replace c:=am (blk_drew c.out)
 replace HB:=am (below_drew1 HB.out)
 refine start_ (n:=11) (S:=fun w'=>w'.cell? ⟨j,0,none⟩=some (.slice E l.length J)∧w'.cell? ⟨j,1,none⟩=some (.int .i64 q)∧w'.cell? ⟨j,2,none⟩=some (.int .i64 s)∧w'.cell? ⟨j,3,none⟩=some (.int .i64 t)∧w'.cell? ⟨j,4,none⟩=some (.slice y m.length A)∧w'.cell? ⟨j,5,none⟩=some (.bool u)∧w'.cell? ⟨j,6,none⟩=some (.slice z o.length B)∧w'.cell? ⟨j,7,none⟩=some (.slice G v.length L)∧w'.cell? ⟨j,8,none⟩=some (.slice I x.length M)) (ds:=[]) (lb 11 0) (by kernel_rfl) rfl rfl (cc9 g.out) (fun hHeld=>?_);refine with_tabW impl_rankerOf.tab1 impl_rankerOf.bits1 (fun HT_ HW_=>?_)
 generalize w9.drew=a8 at g c HB hHeld⊢
 refine pu HT_ 1 4 (lb 11 2) ?_
 refine pu HT_ 3 6 (lb 11 10) ?_
 refine pu HT_ 6 9 (lb 11 74) ?_
 refine tk HT_ HW_ hHeld 0 3 (lb 11 75) ?_
 refine tk HT_ HW_ hHeld 2 5 (lb 11 79) ?_
 refine tk HT_ HW_ hHeld 4 7 (lb 11 95) ?_
 refine pu HT_ 5 8 (lb 11 127) ?_
 refine tk HT_ HW_ hHeld 7 10 (lb 11 255) ?_
 refine on HT_ 8 11 (lb 11 511) fun K hK=>?_
 refine goes_ Tryz.func97 (by kernel_rfl) rfl #[.agg #[.int .i64 q,.int .i64 s,.int .i64 t,.slice y m.length A,.bool u],.int .i64 (l.length:Int),.slice z o.length B,.func (.func 98) #[] #[]] (by rfl) rfl rfl ga ?_
 refine cm (impl_tableOf_impl_rankerOf_1.calls k q s t _ _ m u (l.length:Int) _ _ o r _ (cb T HB) O.out (cb U HB) P.out A2.out) ?_
 rintro e D ⟨a7,rfl,aE,hb⟩
 refine⟨_,rfl,?_⟩
 have Z:=am (Kd.R_lower (base':=w.heap.size) aE (below_size bel))
 replace g:=b1 g hb
 replace c:=b1 c hb
 replace HB:=b2 hb
 (try clear hb)
 (try clear aE)
 obtain⟨af,ag,ae⟩:=Kd.R_slice Z.out
 (first|subst ae|(injection ae with f1_ f2_ f3_;have aI:=f1_.symm;have aJ:=f3_.symm;clear f1_ f2_ f3_;subst aI;subst aJ))
 refine hK.out _ _ (cc9 g.out) (fun hHeld=>?_)
 clear hK K
 refine nm 11 ?_
 refine pu HT_ 9 12 (lb 11 1023) ?_
 refine one_ (i:=10) (N:=none) (lb 11 2047) rfl rfl (one_of HT_.out (by kernel_rfl)) (by decide) (fun K hK=>?_)
 have aV:D.cell? ⟨b,0,none⟩=some (.slice none 0 0):=qc c 0
 have aK:=blk_frozen c.out 0
 have au:=a.out
 have ah:=d.out
 have aW:D.cell? ⟨b,1,none⟩=some (.int .i64 0):=qc c 1
 have aL:=blk_frozen c.out 1
 have av:=a.out
 have ai:=d.out
 have aX:D.cell? ⟨b,2,none⟩=some (.int .i64 0):=qc c 2
 have aM:=blk_frozen c.out 2
 have aw:=a.out
 have aj:=d.out
 have aY:D.cell? ⟨b,3,none⟩=some (.int .i64 0):=qc c 3
 have aN:=blk_frozen c.out 3
 have ax:=a.out
 have ak:=d.out
 have aZ:D.cell? ⟨b,4,none⟩=some (.slice none 0 0):=qc c 4
 have aO:=blk_frozen c.out 4
 have ay:=a.out
 have al:=d.out
 have a0:D.cell? ⟨b,5,none⟩=some (.bool false):=qc c 5
 have aP:=blk_frozen c.out 5
 have az:=a.out
 have an:=d.out
 have a1:D.cell? ⟨b,6,none⟩=some (.slice none 0 0):=qc c 6
 have aQ:=blk_frozen c.out 6
 have aA:=a.out
 have ao:=d.out
 have a2:D.cell? ⟨b,7,none⟩=some (.slice none 0 0):=qc c 7
 have aR:=blk_frozen c.out 7
 have aB:=a.out
 have ap:=d.out
 have a3:D.cell? ⟨b,8,none⟩=some (.slice none 0 0):=qc c 8
 have aS:=blk_frozen c.out 8
 have aC:=a.out
 have aq:=d.out
 have a4:D.cell? ⟨b,9,none⟩=some (.slice none 0 0):=qc c 9
 have aT:=blk_frozen c.out 9
 have aD:=a.out
 have ar:=d.out
 refine skip_ (w1:=?_) (by rfl) rfl ?_ ?_
 rotate_left
 ·go_simp
  rfl
 refine hK.out _ _ ⟨((cell_far (p:=⟨b,_,none⟩) a.out _).trans (((cell_far (p:=⟨b,_,none⟩) a.out _).trans (((cell_far (p:=⟨b,_,none⟩) a.out _).trans (((cell_far (p:=⟨b,_,none⟩) a.out _).trans (((cell_far (p:=⟨b,_,none⟩) a.out _).trans (((cell_far (p:=⟨b,_,none⟩) a.out _).trans (((cell_far (p:=⟨b,_,none⟩) a.out _).trans (((cell_far (p:=⟨b,_,none⟩) a.out _).trans (((cell_far (p:=⟨b,_,none⟩) a.out _).trans (((cell_far (p:=⟨b,_,none⟩) a.out _).trans (hHeld.1)))))))))))))))))))),((cell_far (p:=⟨b,_,none⟩) a.out _).trans (((cell_far (p:=⟨b,_,none⟩) a.out _).trans (((cell_far (p:=⟨b,_,none⟩) a.out _).trans (((cell_far (p:=⟨b,_,none⟩) a.out _).trans (((cell_far (p:=⟨b,_,none⟩) a.out _).trans (((cell_far (p:=⟨b,_,none⟩) a.out _).trans (((cell_far (p:=⟨b,_,none⟩) a.out _).trans (((cell_far (p:=⟨b,_,none⟩) a.out _).trans (((cell_far (p:=⟨b,_,none⟩) a.out _).trans (((cell_far (p:=⟨b,_,none⟩) a.out _).trans (hHeld.2.1)))))))))))))))))))),((cell_far (p:=⟨b,_,none⟩) a.out _).trans (((cell_far (p:=⟨b,_,none⟩) a.out _).trans (((cell_far (p:=⟨b,_,none⟩) a.out _).trans (((cell_far (p:=⟨b,_,none⟩) a.out _).trans (((cell_far (p:=⟨b,_,none⟩) a.out _).trans (((cell_far (p:=⟨b,_,none⟩) a.out _).trans (((cell_far (p:=⟨b,_,none⟩) a.out _).trans (((cell_far (p:=⟨b,_,none⟩) a.out _).trans (((cell_far (p:=⟨b,_,none⟩) a.out _).trans (((cell_far (p:=⟨b,_,none⟩) a.out _).trans (hHeld.2.2.1)))))))))))))))))))),((cell_far (p:=⟨b,_,none⟩) a.out _).trans (((cell_far (p:=⟨b,_,none⟩) a.out _).trans (((cell_far (p:=⟨b,_,none⟩) a.out _).trans (((cell_far (p:=⟨b,_,none⟩) a.out _).trans (((cell_far (p:=⟨b,_,none⟩) a.out _).trans (((cell_far (p:=⟨b,_,none⟩) a.out _).trans (((cell_far (p:=⟨b,_,none⟩) a.out _).trans (((cell_far (p:=⟨b,_,none⟩) a.out _).trans (((cell_far (p:=⟨b,_,none⟩) a.out _).trans (((cell_far (p:=⟨b,_,none⟩) a.out _).trans (hHeld.2.2.2.1)))))))))))))))))))),((cell_far (p:=⟨b,_,none⟩) a.out _).trans (((cell_far (p:=⟨b,_,none⟩) a.out _).trans (((cell_far (p:=⟨b,_,none⟩) a.out _).trans (((cell_far (p:=⟨b,_,none⟩) a.out _).trans (((cell_far (p:=⟨b,_,none⟩) a.out _).trans (((cell_far (p:=⟨b,_,none⟩) a.out _).trans (((cell_far (p:=⟨b,_,none⟩) a.out _).trans (((cell_far (p:=⟨b,_,none⟩) a.out _).trans (((cell_far (p:=⟨b,_,none⟩) a.out _).trans (((cell_far (p:=⟨b,_,none⟩) a.out _).trans (hHeld.2.2.2.2.1)))))))))))))))))))),((cell_far (p:=⟨b,_,none⟩) a.out _).trans (((cell_far (p:=⟨b,_,none⟩) a.out _).trans (((cell_far (p:=⟨b,_,none⟩) a.out _).trans (((cell_far (p:=⟨b,_,none⟩) a.out _).trans (((cell_far (p:=⟨b,_,none⟩) a.out _).trans (((cell_far (p:=⟨b,_,none⟩) a.out _).trans (((cell_far (p:=⟨b,_,none⟩) a.out _).trans (((cell_far (p:=⟨b,_,none⟩) a.out _).trans (((cell_far (p:=⟨b,_,none⟩) a.out _).trans (((cell_far (p:=⟨b,_,none⟩) a.out _).trans (hHeld.2.2.2.2.2.1)))))))))))))))))))),((cell_far (p:=⟨b,_,none⟩) a.out _).trans (((cell_far (p:=⟨b,_,none⟩) a.out _).trans (((cell_far (p:=⟨b,_,none⟩) a.out _).trans (((cell_far (p:=⟨b,_,none⟩) a.out _).trans (((cell_far (p:=⟨b,_,none⟩) a.out _).trans (((cell_far (p:=⟨b,_,none⟩) a.out _).trans (((cell_far (p:=⟨b,_,none⟩) a.out _).trans (((cell_far (p:=⟨b,_,none⟩) a.out _).trans (((cell_far (p:=⟨b,_,none⟩) a.out _).trans (((cell_far (p:=⟨b,_,none⟩) a.out _).trans (hHeld.2.2.2.2.2.2.1)))))))))))))))))))),((cell_far (p:=⟨b,_,none⟩) a.out _).trans (((cell_far (p:=⟨b,_,none⟩) a.out _).trans (((cell_far (p:=⟨b,_,none⟩) a.out _).trans (((cell_far (p:=⟨b,_,none⟩) a.out _).trans (((cell_far (p:=⟨b,_,none⟩) a.out _).trans (((cell_far (p:=⟨b,_,none⟩) a.out _).trans (((cell_far (p:=⟨b,_,none⟩) a.out _).trans (((cell_far (p:=⟨b,_,none⟩) a.out _).trans (((cell_far (p:=⟨b,_,none⟩) a.out _).trans (((cell_far (p:=⟨b,_,none⟩) a.out _).trans (hHeld.2.2.2.2.2.2.2.1)))))))))))))))))))),((cell_far (p:=⟨b,_,none⟩) a.out _).trans (((cell_far (p:=⟨b,_,none⟩) a.out _).trans (((cell_far (p:=⟨b,_,none⟩) a.out _).trans (((cell_far (p:=⟨b,_,none⟩) a.out _).trans (((cell_far (p:=⟨b,_,none⟩) a.out _).trans (((cell_far (p:=⟨b,_,none⟩) a.out _).trans (((cell_far (p:=⟨b,_,none⟩) a.out _).trans (((cell_far (p:=⟨b,_,none⟩) a.out _).trans (((cell_far (p:=⟨b,_,none⟩) a.out _).trans (((cell_far (p:=⟨b,_,none⟩) a.out _).trans (hHeld.2.2.2.2.2.2.2.2))))))))))))))))))))⟩ (fun hHeld=>?_)
 clear hK K
 refine done_ (done_of HT_.out (by kernel_rfl)) ?_
 try go_wp2
 refine bodyPost_ret (results_cell_row rfl _ _ b 115 #[.slice E l.length J,.int .i64 q,.int .i64 s,.int .i64 t,.slice y m.length A,.bool u,.slice z o.length B,.slice G v.length L,.slice I x.length M,.slice af r.length ag] (0,0) _ rfl (bz c) Tryz.underlying115 rfl (by kernel_rfl)) rfl ?_
 exact⟨_,er,(kf (Kd.R_types Z.out c.out (by decide)) (fun _ _=>trivial)),bel⟩
end Go.Proofs.YtgalpgakdcfilaaGreat.L
