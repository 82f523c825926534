-- Written by a program of this session (wip/xp.py).
import Derived.Test.YtgalpgakdcfilaaGreatL0
import Derived.Test.YtgalpgakdcfilaaGreatL35
import Derived.Test.YtgalpgakdcfilaaGreatL50
import Derived.Test.YtgalpgakdcfilaaGreatL54
namespace Go.Proofs.YtgalpgakdcfilaaGreat.L
open Go.RowKit Go.Proofs.YtgalpgakdcfilaaGreatW.PrintWords Go.Proofs.YtgalpgakdcfilaaGreatW.PrintLast Go.Proofs.YtgalpgakdcfilaaGreatW.PrintMore
attribute [local go_sem] max2_int min2_int max_two min_two max_three min_three max_four min_four
set_option linter.unusedVariables false
set_option linter.unusedSimpArgs false
set_option maxHeartbeats 8000000
set_option maxRecDepth 100000
def impl_FlowValue.l0:Nat→Int→List Int→Int→Int→Int→Int→List (S71)→Option (Int)
  |0,_,_,_,_,_,_,_=>none
  |k+1,x1,x2,x7,d,b,c,a=>if b<d then(if 0≤b then(if b<(a.length:Int)then(if((rd_T71 a b).f0)=x1 then(if b<(x2.length:Int)then(if((rd_T71 a b).f1)=x1 then(impl_FlowValue.l0 k x1 x2 (wrap64 ((wrap64 (x7+(rd x2 b)))-(rd x2 b))) d (wrap64 (b+1)) c a)else(impl_FlowValue.l0 k x1 x2 (wrap64 (x7+(rd x2 b))) d (wrap64 (b+1)) c a))else(none))else(if((rd_T71 a b).f1)=x1 then(if b<(x2.length:Int)then(impl_FlowValue.l0 k x1 x2 (wrap64 (x7-(rd x2 b))) d (wrap64 (b+1)) c a)else(none))else(impl_FlowValue.l0 k x1 x2 x7 d (wrap64 (b+1)) c a)))else(none))else(none))else(some x7)
def impl_FlowValue.f(k:Nat)(b:Int)(a:List (S71))(a1:Int)(l2:List Int):Option (Int):=impl_FlowValue.l0 k a1 l2 0 (mn (a.length:Int) (l2.length:Int)) 0 b a
theorem impl_FlowValue.calls(k:Nat)(p:Int)(u:Option Addr)(v:Nat)(b:List (S71))(a1:Int)(A2:Option Addr)(c2:Nat)(l2:List Int)(r:Int)(w:World)(d:Kd.C k71 w u b.length b)(y:b.length≤v)(x:Kd.C (Kd.int .i64) w A2 l2.length l2)(ah:l2.length≤c2)(h:impl_FlowValue.f k p b a1 l2=some r):Calls Tryz.prog 41 #[.agg #[.int .i64 p,.slice u b.length v],.int .i64 a1,.slice A2 l2.length c2] w fun e w'=>e=.returned (.int .i64 r)∧Below w.heap.size w w':=by
 have aA:=Tryz.underlying65
 replace d:=am d
 replace y:=am y
 replace x:=am x
 replace ah:=am ah
 have HB:=qb w
 have H:=h
 unfold impl_FlowValue.f at H
 clear h
 obtain⟨O,q⟩:∃j_:Int,(mn (b.length:Int) (l2.length:Int))=j_:=⟨_,rfl⟩
 (first|rw[q]at H|simp only[q]at H)
 (try (have au:0≤O:=by(rw[←q];unfold mn;(repeat' split)<;>omega)))
 (try (have av:0≤O:=by omega))
 have ag:(if(l2.length:Int)<(b.length:Int)then(l2.length:Int)else(b.length:Int))=O:=q
 (try have aw:(if l2.length<b.length then(l2.length:Int)else(b.length:Int))=O:=by simpa only[Int.ofNat_lt] using ag)
 replace H:=am H
 go_enter Tryz.func41,Tryz.ntmps41
 go_wp2_with (first|((with_reducible refine gd 3 ?_);refine bx w 3 #[.int .i64 p,.slice u b.length v] 65 ?_;clear HB;intro af w5 c ao HB;obtain⟨P,T,U,W⟩:=cf2 c.out))
 go_loopg [7,15] k (fun kq v7 ax w'=>∃(n:Int) (a:Int),v7=.int .i64 n∧ax=.int .i64 a∧Aside0 (impl_FlowValue.l0 kq a1 l2 n O a p b=some r)∧Aside0 (kq≤k)∧Aside0 (w'.heap[af]? =some (.cells #[.int .i64 p,(.slice u b.length v)] 65 (0,0)))∧Aside0 (Below w.heap.size w w'))
 case atStart=>exact⟨(0),(0),(es),(es),H,⟨Nat.le_refl _⟩,⟨bk c.out⟩,⟨bel⟩⟩
 case round=>
  clear H
  try clear c2;try clear P;try clear T;try clear U;try clear W
  obtain⟨n,a,rfl,rfl,HA,o,c,HB⟩:=hrel
  cases gk with
  |zero=>exact absurd HA.out (by simp [impl_FlowValue.l0])
  |succ k1=>
   have H:=HA.out
   clear HA
   simp only[impl_FlowValue.l0]at H
   replace H:=i1 H;obtain⟨ai,H⟩|⟨ai,H⟩:=H
   ·replace H:=i0 H;obtain⟨ay,H⟩:=H
    replace H:=i0 H;obtain⟨az,H⟩:=H
    replace H:=ie H;obtain⟨Y,Z,H⟩|⟨⟨c10,Y,Z⟩,H⟩:=H
    ·replace H:=i0 H;obtain⟨aq,H⟩:=H
     replace H:=ie H;obtain⟨aa,ac,H⟩|⟨⟨aB,aa,ac⟩,H⟩:=H
     ·replace H:=am H
      obtain⟨_,_,_,_⟩:=cf2 c.out
      have:(0≤(a:Int))=True:=ab
      have:(a<(b.length:Int))=True:=ab
      obtain⟨g,i,j,l,m⟩:=hc3 HB.out (at_T71 d.out a asm asm)
      cases i
      have:(0≤(a:Int))=True:=ab
      have:(a<(l2.length:Int))=True:=ab
      obtain⟨z,A,E⟩:=hc1 HB.out (Kd.at_int x.out a asm asm)
      cases A
      have:(0≤(a:Int))=True:=ab
      have:(a<(b.length:Int))=True:=ab
      obtain⟨s,B,G,I,J⟩:=hc3 HB.out (at_T71 d.out a asm asm)
      obtain rfl:g=s:=(by injection B)
      have:(0≤(a:Int))=True:=ab
      have:(a<(l2.length:Int))=True:=ab
      obtain⟨X,aj,al⟩:=hc1 HB.out (Kd.at_int x.out a asm asm)
      obtain rfl:z=X:=(by injection aj)
      go_wp2
      go_roundg k1
      case measure=>have:=o.out;omega
      case rel=>exact⟨(wrap64 ((wrap64 (n+(rd l2 a)))-(rd l2 a))),(wrap64 (a+1)),(es),(es),H,⟨by have:=o.out;omega⟩,⟨bk c.out⟩,⟨bel⟩⟩
     ·replace H:=am H
      obtain⟨_,_,_,_⟩:=cf2 c.out
      have:(0≤(a:Int))=True:=ab
      have:(a<(b.length:Int))=True:=ab
      obtain⟨g,i,j,l,m⟩:=hc3 HB.out (at_T71 d.out a asm asm)
      cases i
      have:(0≤(a:Int))=True:=ab
      have:(a<(l2.length:Int))=True:=ab
      obtain⟨z,A,E⟩:=hc1 HB.out (Kd.at_int x.out a asm asm)
      cases A
      have:(0≤(a:Int))=True:=ab
      have:(a<(b.length:Int))=True:=ab
      obtain⟨s,B,G,I,J⟩:=hc3 HB.out (at_T71 d.out a asm asm)
      obtain rfl:g=s:=(by injection B)
      go_wp2
      go_roundg k1
      case measure=>have:=o.out;omega
      case rel=>exact⟨(wrap64 (n+(rd l2 a))),(wrap64 (a+1)),(es),(es),H,⟨by have:=o.out;omega⟩,⟨bk c.out⟩,⟨bel⟩⟩
    ·replace H:=ie H;obtain⟨ad,ae,H⟩|⟨⟨aC,ad,ae⟩,H⟩:=H
     ·replace H:=i0 H;obtain⟨ar,H⟩:=H
      replace H:=am H
      obtain⟨_,_,_,_⟩:=cf2 c.out
      have:(0≤(a:Int))=True:=ab
      have:(a<(b.length:Int))=True:=ab
      obtain⟨g,i,j,l,m⟩:=hc3 HB.out (at_T71 d.out a asm asm)
      cases i
      have:(0≤(a:Int))=True:=ab
      have:(a<(b.length:Int))=True:=ab
      obtain⟨t,D,K,L,M⟩:=hc3 HB.out (at_T71 d.out a asm asm)
      obtain rfl:g=t:=(by injection D)
      have:(0≤(a:Int))=True:=ab
      have:(a<(l2.length:Int))=True:=ab
      obtain⟨ap,ak,an⟩:=hc1 HB.out (Kd.at_int x.out a asm asm)
      cases ak
      go_wp2
      go_roundg k1
      case measure=>have:=o.out;omega
      case rel=>exact⟨(wrap64 (n-(rd l2 a))),(wrap64 (a+1)),(es),(es),H,⟨by have:=o.out;omega⟩,⟨bk c.out⟩,⟨bel⟩⟩
     ·replace H:=am H
      obtain⟨_,_,_,_⟩:=cf2 c.out
      have:(0≤(a:Int))=True:=ab
      have:(a<(b.length:Int))=True:=ab
      obtain⟨g,i,j,l,m⟩:=hc3 HB.out (at_T71 d.out a asm asm)
      cases i
      have:(0≤(a:Int))=True:=ab
      have:(a<(b.length:Int))=True:=ab
      obtain⟨t,D,K,L,M⟩:=hc3 HB.out (at_T71 d.out a asm asm)
      obtain rfl:g=t:=(by injection D)
      go_wp2
      go_roundg k1
      case measure=>have:=o.out;omega
      case rel=>exact⟨(n),(wrap64 (a+1)),(es),(es),H,⟨by have:=o.out;omega⟩,⟨bk c.out⟩,⟨bel⟩⟩
   ·obtain rfl:=qj1 H
    go_wp2
    go_ret
    exact⟨by first|rfl|(simp [errW_none,errW_some]<;>rfl)|(simp only[←q];first|rfl|(simp [errW_none,errW_some]<;>rfl))|(simp [*,errW_none,errW_some]<;>rfl),bel⟩
mutual
def impl_SourceSide.j0:Nat→Int→List Int→Bool→Int→List (S71)→Option (List Bool)
  |0,_,_,_,_,_=>none
  |k+1,x1,x2,d,a,b=>if d=true then(some ([]:List Bool))else((impl_reach.f k a b x1 x2).bind fun c=>(impl_SourceSide.l0 k (([]:List Bool)) c (c.length:Int) 0))
def impl_SourceSide.l0:Nat→List Bool→List (S103)→Int→Int→Option (List Bool)
  |0,_,_,_,_=>none
  |k+1,x7,b,c,a=>if a<c then(if 0≤a then(if a<(b.length:Int)then(if x7.length<140737488355328 then(impl_SourceSide.l0 k (x7++[(rd_T103 b a).f2]) b c (wrap64 (a+1)))else(none))else(none))else(none))else(some x7)
end
def impl_SourceSide.f(k:Nat)(a:Int)(b:List (S71))(a1:Int)(l2:List Int):Option (List Bool):=(impl_NetOk.f k a b).bind fun c=>(if c=true then((impl_within.f a1 0 (wrap64 (a-1))).bind fun d=>(if d=true then(impl_SourceSide.j0 k a1 l2 ((l2.length:Int) != (b.length:Int)) a b)else(impl_SourceSide.j0 k a1 l2 true a b)))else(impl_SourceSide.j0 k a1 l2 true a b))
theorem impl_SourceSide.calls(k:Nat)(j:Int)(v:Option Addr)(x:Nat)(i:List (S71))(a1:Int)(A2:Option Addr)(c2:Nat)(l2:List Int)(r:List Bool)(w:World)(q:Kd.C k71 w v i.length i)(n:i.length≤x)(Y:Kd.C (Kd.int .i64) w A2 l2.length l2)(U:l2.length≤c2)(h:impl_SourceSide.f k j i a1 l2=some r):Calls Tryz.prog 44 #[.agg #[.int .i64 j,.slice v i.length x],.int .i64 a1,.slice A2 l2.length c2] w fun e w'=>∃ax:Value,e=.returned (ax)∧Kd.R Kd.bool 4 w' w.heap.size (fun _=>True) ax r∧Below w.heap.size w w':=by
 have aK:=Tryz.underlying65
 have aH:=Tryz.underlying103
 replace q:=am q
 replace n:=am n
 replace Y:=am Y
 replace U:=am U
 have HB:=qb w
 have H:=h
 unfold impl_SourceSide.f at H
 clear h
 have W:=am H
 clear H
 go_enter Tryz.func44,Tryz.ntmps44
 go_upto_region 1 with (first|((with_reducible refine gd 3 ?_);refine bx w 3 #[.int .i64 j,.slice v i.length x] 65 ?_;clear HB;intro D w5 a aA HB))
 (try simp only[Act.put,List.setIfInBounds_toArray,List.set_cons_zero,List.set_cons_succ])
 go_cut [28] (fun aI wc=>∃(kq:Nat) (E:Bool),aI=.bool E∧Aside0 (impl_SourceSide.j0 kq a1 l2 E j i=some r)∧Aside0 (kq≤k)∧Aside0 (wc.heap[D]? =some (.cells #[.int .i64 j,(.slice v i.length x)] 65 (0,0)))∧Aside0 (Below w.heap.size w wc))
 case first=>
  have H:=W.out
  clear W
  replace H:=bm H;obtain⟨aM,A6,H⟩:=H
  replace H:=ib H;obtain⟨rfl,H⟩|⟨rfl,H⟩:=H
  ·replace H:=bm H;obtain⟨aN,A8,H⟩:=H
   replace H:=ib H;obtain⟨rfl,H⟩|⟨rfl,H⟩:=H
   ·replace H:=am H
    obtain⟨_,_,_,_⟩:=cf2 a.out
    go_wp2_with (first|((with_reducible refine gc 71 ?_);refine gl 11 Tryz.func71 (impl_NetOk.calls k j _ _ i true _ (cb q HB) n.out A6.out) ?_;rintro e aU ⟨rfl,hb⟩;refine⟨_,rfl,?_⟩;replace a:=b1 a hb;replace HB:=b2 hb;(try clear hb);obtain⟨_,_,_,_⟩:=cf2 a.out)|(go_at_call 72;refine cm1 (impl_within.calls a1 0 (wrap64 (j-1)) true _ A8.out) ?_;intro nd))
    go_meet
    case rel=>exact⟨_,(((l2.length:Int) != (i.length:Int))),(es),H,⟨by first|omega|exact Nat.le_refl _⟩,⟨bk a.out⟩,⟨bel⟩⟩
   ·replace H:=am H
    obtain⟨_,_,_,_⟩:=cf2 a.out
    go_wp2_with (first|((with_reducible refine gc 71 ?_);refine gl 11 Tryz.func71 (impl_NetOk.calls k j _ _ i true _ (cb q HB) n.out A6.out) ?_;rintro e aV ⟨rfl,hb⟩;refine⟨_,rfl,?_⟩;replace a:=b1 a hb;replace HB:=b2 hb;(try clear hb);obtain⟨_,_,_,_⟩:=cf2 a.out)|(go_at_call 72;refine cm1 (impl_within.calls a1 0 (wrap64 (j-1)) false _ A8.out) ?_;intro nd))
    go_meet
    case rel=>exact⟨_,(true),(es),H,⟨by first|omega|exact Nat.le_refl _⟩,⟨bk a.out⟩,⟨bel⟩⟩
  ·replace H:=am H
   obtain⟨_,_,_,_⟩:=cf2 a.out
   go_wp2_with (first|((with_reducible refine gc 71 ?_);refine gl 11 Tryz.func71 (impl_NetOk.calls k j _ _ i false _ (cb q HB) n.out A6.out) ?_;rintro e aW ⟨rfl,hb⟩;refine⟨_,rfl,?_⟩;replace a:=b1 a hb;replace HB:=b2 hb;(try clear hb)))
   go_meet
   case rel=>exact⟨_,(true),(es),H,⟨by first|omega|exact Nat.le_refl _⟩,⟨bk a.out⟩,⟨bel⟩⟩
 case rest=>
  clear W
  try clear c2
  obtain⟨kq,E,rfl,HA,af,a,HB⟩:=hcut
  cases kq with
  |zero=>exact absurd HA.out (by simp [impl_SourceSide.j0])
  |succ O=>
   have H:=HA.out
   clear HA
   simp only[impl_SourceSide.j0]at H
   replace H:=ib H;obtain⟨rfl,H⟩|⟨rfl,H⟩:=H
   ·obtain rfl:=qj1 H
    go_wp2
    go_ret
    exact⟨_,er,qk,bel⟩
   ·obtain⟨P,u⟩:∃y_:List Bool,y_=(([]:List Bool)):=⟨_,rfl⟩
    replace H:((impl_reach.f O j i a1 l2).bind fun d=>(impl_SourceSide.l0 O P d (d.length:Int) 0))=some r:=by first|(rw[u];with_reducible exact H)|(have T:=(Option.bind_some _ _).symm.trans H;rw[u];with_reducible exact T)|(have T:=(Option.bind_some _ _).symm.trans H;with_reducible exact T)|with_reducible exact H|(rw[u];exact H)|exact H
    have I:=am u
    clear u
    replace H:=bm H;obtain⟨d,az,H⟩:=H
    replace H:=am H
    go_wp2_with (first|((with_reducible refine gate_dst (N:=29) rfl ?_);refine Kd.R_lit Kd.bool _ 4 ?hg (N:=29) ?hd (xs:=([]:List Bool)) (inner:=[]) (ok:=fun _=>True) (okp:=fun _=>True) ?hr ?hp (fun _ hk=>hk) trivial (Below.refl _ _) (Nat.le_refl _) (by simp) ?_;(case hd=>rfl);(case hg=>rfl);(case hr=>first|(go_simp;done)|(go_simp;rfl));(case hp=>exact(Reps.none _ _));intro aQ aX y hb hg_ hnew_;clear hg_ hnew_;(first|rw[←I.out]at y|(simp only[Int.reduceToNat]at y;rw[←I.out]at y));have A:=am (Kd.R_lower y (below_size bel));replace a:=b1 a hb;replace HB:=b2 hb;clear hb y;obtain⟨J,K,L,M⟩:=cf2 a.out)|((with_reducible refine gc 67 ?_);refine gl 33 Tryz.func67 (impl_reach.calls O j _ _ i a1 _ _ l2 d _ (cb q HB) n.out (cb Y HB) U.out az.out) ?_;rintro e aY ⟨aR,rfl,al,hb⟩;refine⟨_,rfl,?_⟩;have G:=am (Kd.R_lower al (below_size bel));replace A:=rb A hb;replace a:=b1 a hb;replace HB:=b2 hb;(try clear hb);(try clear al);obtain⟨ae,ai,ak⟩:=Kd.R_slice G.out;subst ak))
    go_loopg [7,35] O (fun kq v7 aJ w'=>∃(z:List Bool) (c:Int),aJ=.int .i64 c∧Aside0 (impl_SourceSide.l0 kq z d (d.length:Int) c=some r)∧Aside0 (kq≤O)∧Aside0 (Kd.R Kd.bool 4 w' w.heap.size (fun _=>True) v7 z)∧Aside0 (Kd.R k103 103 w' w.heap.size (fun _=>True) (.slice ae d.length ai) d)∧Aside0 (w'.heap[D]? =some (.cells #[.int .i64 j,(.slice v i.length x)] 65 (0,0)))∧Aside0 (Below w.heap.size w w'))
    case atStart=>exact⟨(P),(0),(es),H,⟨Nat.le_refl _⟩,⟨rk A.out⟩,⟨rk G.out⟩,⟨bk a.out⟩,⟨bel⟩⟩
    case round=>
     clear H
     try clear c2;try clear J;try clear K;try clear L;try clear M
     obtain⟨z,c,rfl,HA,ag,t,m,a,HB⟩:=hrel
     cases gk with
     |zero=>exact absurd HA.out (by simp [impl_SourceSide.l0])
     |succ k2=>
      have H:=HA.out
      clear HA
      simp only[impl_SourceSide.l0]at H
      replace H:=i1 H;obtain⟨ad,H⟩|⟨ad,H⟩:=H
      ·replace H:=i0 H;obtain⟨aE,H⟩:=H
       replace H:=i0 H;obtain⟨aG,H⟩:=H
       replace H:=i0 H;obtain⟨ah,H⟩:=H
       have Z:=am (of_decide_eq_true ah)
       clear ah
       generalize hy758:(z++[(rd_T103 d c).f2]:List Bool)=ay at H
       have ac:=am hy758.symm
       clear hy758
       replace H:=am H
       have:(0≤(c:Int))=True:=ab
       have:(c<(d.length:Int))=True:=ab
       obtain⟨aD,aj,an,ao,ap⟩:=at_T103 (Kd.R_reads' m.out).2.2 c asm asm
       cases aj
       go_wp2_with (first|((with_reducible refine gd 9 ?_);refine by_ w 9 #[.int .i64 0,.bool false,.bool false] 103 ?_;clear HB;intro s hg aZ l aC hb HB;obtain⟨aa,B⟩:=qn hg a;replace t:=rb t hb;replace m:=am (Kd.R_below (Kd.R_elderB (rk m.out) s (Nat.le_of_eq hg.symm)) hb);replace a:=b1 a hb;clear hb hg;obtain⟨_,_⟩:=qo B;obtain⟨_,_,_,_,_,_⟩:=cf3 l.out)|((with_reducible refine gate_builtin (b:=.append) (xs:=#[.tmp 39,.tmp 42]) rfl ?_);at_builtin;refine Kd.R_append Kd.bool (w0:=w) w.heap.size rfl (.tmp 39) (.tmp 42) 73 4 (.bool false) 1 rfl Tryz.underlying73 info4 rfl (by decide) (by omega) u7 z ((rd_T103 d c).f2) [.bool ((rd_T103 d c).f2)] (fun _=>True) (fun _=>False) rfl (by first|(go_simp;done)|(go_simp;rfl)) ?aP (fun _ hk=>hk.elim) ?aF ?aO ?aB ?aS ?aL ?_;(case aP=>exact rfl);(case aB=>exact bel);(case aF=>exact(fun _ _=>trivial));(case aO=>exact(kf (Kd.R_types t.out l.out (by decide)) (fun _ hk=>trivial)));(case aS=>exact(below_size bel));(case aL=>have:=Z.out;omega);intro aT a0 ho hb hg hat;rw[←ac.out]at ho;have aq:=am (Kd.R_over' (by exact rk (Kd.R_mono (Kd.R_far (p:=⟨s,2,none⟩) (Kd.R_far (p:=⟨s,1,none⟩) (Kd.R_far (p:=⟨s,0,none⟩) (Kd.R_mono m.out (fun k_ hk=>(⟨hk,hk.2⟩:_∧k_≠s))) (fun _ hk=>hk.2) (.int .i64 ((rd_T103 d c).f0))) (fun _ hk=>hk.2) (.bool ((rd_T103 d c).f1))) (fun _ hk=>hk.2) (.bool ((rd_T103 d c).f2))) (fun _ h_=>h_.1))) (Kd.R_typed (kf (Kd.R_types t.out l.out (by decide)) (fun _ h_=>h_.1))) (by decide) hg);have ar:=am (blk_grown (g:=D) (o:=.cells #[.int .i64 j,.slice v i.length x] 65 (0,0)) (bk a.out) hg (Kd.R_ne t.out a.out (by decide)));have au:=am (blk_grown (g:=s) (o:=.cells #[.int .i64 ((rd_T103 d c).f0),.bool ((rd_T103 d c).f1),.bool ((rd_T103 d c).f2)] 103 (0,0)) (bz l) hg (Kd.R_ne t.out l.out (by decide)));have av:=am (hb);have aw:=am (ho);clear m;clear a;clear l;clear HB;clear t;have m:=aq;have a:=ar;have l:=au;have HB:=av;have X:=aw;clear aq ar au av aw;clear ho hb hg hat))
       go_roundg k2
       case measure=>have:=af.out;have:=ag.out;omega
       case rel=>exact⟨(ay),(wrap64 (c+1)),(es),H,⟨by have:=af.out;have:=ag.out;omega⟩,⟨rk X.out⟩,⟨by(with_reducible repeat (first|apply Kd.R_alloc|apply Kd.R_drewN|apply Kd.R_drew));exact Kd.R_mono m.out (fun _ hk=>trivial)⟩,⟨bk a.out⟩,⟨bel⟩⟩
      ·obtain rfl:=qj1 H
       go_wp2
       go_ret
       exact⟨_,er,rk t.out,bel⟩
end Go.Proofs.YtgalpgakdcfilaaGreat.L
