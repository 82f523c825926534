-- Written by a program of this session (wip/xp.py).
import Derived.Test.YtgalpgakdcfilaaGreatL0
import Derived.Test.YtgalpgakdcfilaaGreatL48
import Derived.Test.YtgalpgakdcfilaaGreatL44
import Derived.Test.YtgalpgakdcfilaaGreatL35
namespace Go.Proofs.YtgalpgakdcfilaaGreat.L
open Go.RowKit Go.Proofs.YtgalpgakdcfilaaGreatW.PrintWords Go.Proofs.YtgalpgakdcfilaaGreatW.PrintLast Go.Proofs.YtgalpgakdcfilaaGreatW.PrintMore
attribute [local go_sem] max2_int min2_int max_two min_two max_three min_three max_four min_four
set_option linter.unusedVariables false
set_option linter.unusedSimpArgs false
set_option maxHeartbeats 8000000
set_option maxRecDepth 100000
def impl_points.l0:Nat→List Int→List (S112)→Int→Int→List (S83)→Int→Int→Int→List Int→Bool→List (S79)→List Int→List Int→Option (List Int)
  |0,_,_,_,_,_,_,_,_,_,_,_,_,_=>none
  |k+1,x3,x9,m,b,c,d,e,g,h,i,j,l,a=>if b<m then(if 0≤b then(if b<(x9.length:Int)then(if b<(a.length:Int)then(if x3.length<17592186044416 then(impl_points.l0 k (x3++[wrap64 (((rd_T112 x9 b).f6)-(rd a b))]) x9 m (wrap64 (b+1)) c d e g h i j l a)else(none))else(none))else(none))else(none))else(some x3)
def impl_points.f(k:Nat)(e:List (S83))(a:Int)(b:Int)(c:Int)(g:List Int)(d:Bool)(h:List (S79))(i:List Int)(j:List Int):Option (List Int):=(impl_rankerOf.f k e a b c g d h i j).bind fun l=>(impl_points.l0 k (([]:List Int)) l (l.length:Int) 0 e a b c g d h i j)
def impl_points.T5:Bool×List (List Nat×List Nat):=(true,[([],[]),([],[]),([1],[1]),([],[]),([3],[3]),([],[]),([4,5],[4,5]),([6],[6]),([2,7],[2,7]),([8],[8]),([0,9],[0,9]),([10,10,0,1,2,3,4,5,6,7,8,9,10],[0,10])])
def impl_points.B5:List Nat:=[0,0,2,0,8,0,56,120,254,510,1023,2047]
theorem impl_points.tab5:rtab .any (opsOf Tryz.f65 5)=impl_points.T5:=by kernel_rfl
theorem impl_points.bits5:waitsOk impl_points.T5.2 impl_points.B5=true:=by kernel_rfl
theorem impl_points.calls(k:Nat)(G:Option Addr)(M:Nat)(s:List (S83))(z:Int)(A:Int)(B:Int)(I:Option Addr)(O:Nat)(t:List Int)(D:Bool)(J:Option Addr)(P:Nat)(u:List (S79))(L:Option Addr)(T:Nat)(x:List Int)(Z:Option Addr)(U:Nat)(j:List Int)(r:List Int)(w:World)(ah:Kd.C k83 w G s.length s)(aa:s.length≤M)(ai:Kd.C (Kd.int .i64) w I t.length t)(ac:t.length≤O)(aj:Kd.C k79 w J u.length u)(ad:u.length≤P)(ak:Kd.C (Kd.int .i64) w L x.length x)(ae:x.length≤T)(Y:Kd.C (Kd.int .i64) w Z j.length j)(af:j.length≤U)(h:impl_points.f k s z A B t D u x j=some r):Calls Tryz.prog 65 #[.agg #[.slice G s.length M,.int .i64 z,.int .i64 A,.int .i64 B,.slice I t.length O,.bool D,.slice J u.length P,.slice L x.length T,.slice Z j.length U]] w fun e w'=>∃bj:Value,e=.returned (bj)∧Kd.R (Kd.int .i64) 3 w' w.heap.size (fun _=>True) bj r∧Below w.heap.size w w':=by
 have hfd_:∀(x0 x1 x2 x3 x4 x5 x6 x7 x8 x9:Value) (W_:World),(Instr.field 115 (.agg #[x0,x1,x2,x3,x4,x5,x6,x7,x8,x9]) 1).run Tryz.prog W_=.ok x9 W_:=fun _ _ _ _ _ _ _ _ _ _ _=>by kernel_rfl
 have bE:=Tryz.underlying35
 have bB:=Tryz.underlying112
 replace ah:=am ah
 replace aa:=am aa
 replace ai:=am ai
 replace ac:=am ac
 replace aj:=am aj
 replace ad:=am ad
 replace ak:=am ak
 replace ae:=am ae
 replace Y:=am Y
 replace af:=am af
 have HB:=qb w
 have H:=h
 unfold impl_points.f at H
 clear h
 obtain⟨aX,W⟩:∃y_:List Int,y_=(([]:List Int)):=⟨_,rfl⟩
 replace H:((impl_rankerOf.f k s z A B t D u x j).bind fun c=>(impl_points.l0 k aX c (c.length:Int) 0 s z A B t D u x j))=some r:=by first|(rw[W];with_reducible exact H)|(have aY:=(Option.bind_some _ _).symm.trans H;rw[W];with_reducible exact aY)|(have aY:=(Option.bind_some _ _).symm.trans H;with_reducible exact aY)|with_reducible exact H|(rw[W];exact H)|exact H
 have aq:=am W
 clear W
 replace H:=bm H;obtain⟨c,A2,H⟩:=H
 replace H:=am H
 go_enter Tryz.func65,Tryz.ntmps65
 go_wp2_with (first|((with_reducible refine gd 1 ?_);refine bx w 1 #[.slice G s.length M,.int .i64 z,.int .i64 A,.int .i64 B,.slice I t.length O,.bool D,.slice J u.length P,.slice L x.length T,.slice Z j.length U] 35 ?_;clear HB;intro m w3 b bo HB)|((with_reducible refine gate_dst (N:=6) rfl ?_);refine Kd.R_lit (Kd.int .i64) _ 3 ?hg (N:=6) ?hd (xs:=([]:List Int)) (inner:=[]) (ok:=fun _=>True) (okp:=fun _=>True) ?hr ?hp (fun _ hk=>hk) trivial (Below.refl _ _) (Nat.le_refl _) (by simp) ?_;(case hd=>rfl);(case hg=>rfl);(case hr=>first|(go_simp;done)|(go_simp;rfl));(case hp=>exact(Reps.none _ _));intro bF w4 ar hb hg_ hnew_;clear hg_ hnew_;(first|rw[←aq.out]at ar|(simp only[Int.reduceToNat]at ar;rw[←aq.out]at ar));have ag:=am (Kd.R_lower ar (below_size bel));replace b:=b1 b hb;replace HB:=b2 hb;clear hb ar;obtain⟨az,aA,aC,aD,aE,aG,aH,aI,aJ,aK,aM,aN,aQ,aR,aT,aU,aV,aW⟩:=cf9 b.out)|((with_reducible refine gc 81 ?_);refine gl 8 Tryz.func81 (impl_rankerOf.calls k _ _ s z A B _ _ t D _ _ u _ _ x _ _ j c _ (cb ah HB) aa.out (cb ai HB) ac.out (cb aj HB) ad.out (cb ak HB) ae.out (cb Y HB) af.out A2.out) ?_;rintro e w7 ⟨bG,rfl,ba,hb⟩;refine⟨_,rfl,?_⟩;have ap:=am (Kd.R_lower ba (below_size bel));replace ag:=rb ag hb;replace b:=b1 b hb;replace HB:=b2 hb;(try clear hb);(try clear ba);obtain⟨bn,a7,bA⟩:=Kd.R_slice ap.out;subst bA))
 go_loopg [3,11] k (fun kq v3 bC w'=>∃(X:List Int) (a:Int),bC=.int .i64 a∧Aside0 (impl_points.l0 kq X c (c.length:Int) a s z A B t D u x j=some r)∧Aside0 (kq≤k)∧Aside0 (Kd.R (Kd.int .i64) 3 w' w.heap.size (fun _=>True) v3 X)∧Aside0 (Kd.R k112 112 w' w.heap.size (fun _=>True) (.slice bn c.length a7) c)∧Aside0 (w'.heap[m]? =some (.cells #[(.slice G s.length M),.int .i64 z,.int .i64 A,.int .i64 B,(.slice I t.length O),.bool D,(.slice J u.length P),(.slice L x.length T),(.slice Z j.length U)] 35 (0,0)))∧Aside0 (Below w.heap.size w w'))
 case atStart=>exact⟨(aX),(0),(es),H,⟨Nat.le_refl _⟩,⟨rk ag.out⟩,⟨rk ap.out⟩,⟨bk b.out⟩,⟨bel⟩⟩
 case round=>
  clear H
  try clear az;try clear aA;try clear aC;try clear aD;try clear aE;try clear aG;try clear aH;try clear aI;try clear aJ;try clear aK;try clear aM;try clear aN;try clear aQ;try clear aR;try clear aT;try clear aU;try clear aV;try clear aW
  obtain⟨X,a,rfl,HA,a4,q,y,b,HB⟩:=hrel
  cases gk with
  |zero=>exact absurd HA.out (by simp [impl_points.l0])
  |succ k1=>
   have H:=HA.out
   clear HA
   simp only[impl_points.l0]at H
   replace H:=i1 H;obtain⟨a6,H⟩|⟨a6,H⟩:=H
   ·replace H:=i0 H;obtain⟨br,H⟩:=H
    replace H:=i0 H;obtain⟨bu,H⟩:=H
    replace H:=i0 H;obtain⟨bw,H⟩:=H
    replace H:=i0 H;obtain⟨a5,H⟩:=H
    have a0:=am (of_decide_eq_true a5)
    clear a5
    generalize hy670:(X++[wrap64 (((rd_T112 c a).f6)-(rd j a))]:List Int)=bl at H
    have a2:=am hy670.symm
    clear hy670
    replace H:=am H
    have:(0≤(a:Int))=True:=ab
    have:(a<(c.length:Int))=True:=ab
    obtain⟨a3,a8,bc,bd,be,bf,bg,bh,bi⟩:=at_T112 (Kd.R_reads' y.out).2.2 a asm asm
    cases a8
    try go_wp2_with (first|((with_reducible refine gd 5 ?_);refine by_ w 5 #[.int .i64 0,.int .i64 0,.int .i64 0,.int .i64 0,.int .i64 0,.int .i64 0,.int .i64 0] 112 ?_;clear HB;intro i hg bD d bp hb HB;obtain⟨a1,al⟩:=qn hg b;replace q:=rb q hb;replace y:=am (Kd.R_below (Kd.R_elderB (rk y.out) i (Nat.le_of_eq hg.symm)) hb);replace b:=b1 b hb;clear hb hg;obtain⟨_,_⟩:=qo al;obtain⟨_,_,_,_,_,_,_,_,_,_,_,_,_,_⟩:=cf7 d.out))
    obtain⟨ao,hw⟩:∃W_,W_=(((((((bD.setCell ⟨i,0,none⟩ (.int .i64 ((rd_T112 c a).f0))).setCell ⟨i,1,none⟩ (.int .i64 ((rd_T112 c a).f1))).setCell ⟨i,2,none⟩ (.int .i64 ((rd_T112 c a).f2))).setCell ⟨i,3,none⟩ (.int .i64 ((rd_T112 c a).f3))).setCell ⟨i,4,none⟩ (.int .i64 ((rd_T112 c a).f4))).setCell ⟨i,5,none⟩ (.int .i64 ((rd_T112 c a).f5))).setCell ⟨i,6,none⟩ (.int .i64 ((rd_T112 c a).f6))):=⟨_,rfl⟩
    rw[←hw]
    have au:Aside0 (Kd.R (Kd.int .i64) 3 ao w.heap.size (fun _=>True) u3 X):=⟨by rw[hw];exact(kf (Kd.R_types q.out d.out (by decide)) (fun _ hk=>trivial))⟩
    have av:Aside0 (Kd.R k112 112 ao w.heap.size (fun k_=>k_≠i) (.slice (some a3) c.length a7) c):=⟨by rw[hw];(with_reducible repeat (first|apply Kd.R_alloc|apply Kd.R_drewN|apply Kd.R_drew));exact Kd.R_mono (Kd.R_far (p:=⟨i,6,none⟩) (Kd.R_far (p:=⟨i,5,none⟩) (Kd.R_far (p:=⟨i,4,none⟩) (Kd.R_far (p:=⟨i,3,none⟩) (Kd.R_far (p:=⟨i,2,none⟩) (Kd.R_far (p:=⟨i,1,none⟩) (Kd.R_far (p:=⟨i,0,none⟩) (Kd.R_mono y.out (fun k_ hk=>(⟨hk,hk.2⟩:_∧k_≠i))) (fun _ hk=>hk.2) (.int .i64 ((rd_T112 c a).f0))) (fun _ hk=>hk.2) (.int .i64 ((rd_T112 c a).f1))) (fun _ hk=>hk.2) (.int .i64 ((rd_T112 c a).f2))) (fun _ hk=>hk.2) (.int .i64 ((rd_T112 c a).f3))) (fun _ hk=>hk.2) (.int .i64 ((rd_T112 c a).f4))) (fun _ hk=>hk.2) (.int .i64 ((rd_T112 c a).f5))) (fun _ hk=>hk.2) (.int .i64 ((rd_T112 c a).f6))) (fun _ hk=>hk.1.2)⟩
    have aw:Aside0 (ao.heap[m]? =some (.cells #[.slice G s.length M,.int .i64 z,.int .i64 A,.int .i64 B,.slice I t.length O,.bool D,.slice J u.length P,.slice L x.length T,.slice Z j.length U] 35 (0,0))):=⟨by rw[hw];exact bk b.out⟩
    have ax:Aside0 (ao.heap[i]? =some (.cells #[.int .i64 ((rd_T112 c a).f0),.int .i64 ((rd_T112 c a).f1),.int .i64 ((rd_T112 c a).f2),.int .i64 ((rd_T112 c a).f3),.int .i64 ((rd_T112 c a).f4),.int .i64 ((rd_T112 c a).f5),.int .i64 ((rd_T112 c a).f6)] 112 (0,0))):=⟨by rw[hw];exact(bz d)⟩
    have ay:Aside0 (Below w.heap.size w ao):=⟨by rw[hw];exact bel⟩
    (try clear q)
    (try clear y)
    (try clear b)
    (try clear d)
    (try clear HB)
    clear hw
    have q:=au
    have y:=av
    have b:=aw
    have d:=ax
    have HB:=ay
    clear au av aw ax ay
    replace q:=am (Kd.R_drew q.out)
    replace y:=am (Kd.R_drew y.out)
    replace b:=am (blk_drew b.out)
    replace d:=am (blk_drew d.out)
    replace HB:=am (below_drew1 HB.out)
    have:(0≤(a:Int))=True:=ab
    have:(a<(j.length:Int))=True:=ab
    obtain⟨an,a9,E⟩:=Kd.at_int Y.out a asm asm
    have l:=E
    cases a9
    replace E:=hcl HB.out E
    refine start_ (n:=12) (S:=fun w'=>w'.cell? ⟨i,0,none⟩=some (.int .i64 ((rd_T112 c a).f0))∧w'.cell? ⟨i,1,none⟩=some (.int .i64 ((rd_T112 c a).f1))∧w'.cell? ⟨i,2,none⟩=some (.int .i64 ((rd_T112 c a).f2))∧w'.cell? ⟨i,3,none⟩=some (.int .i64 ((rd_T112 c a).f3))∧w'.cell? ⟨i,4,none⟩=some (.int .i64 ((rd_T112 c a).f4))∧w'.cell? ⟨i,5,none⟩=some (.int .i64 ((rd_T112 c a).f5))∧w'.cell? ⟨i,6,none⟩=some (.int .i64 ((rd_T112 c a).f6))∧w'.cell? ⟨m,0,none⟩=some (.slice G s.length M)∧w'.cell? ⟨m,1,none⟩=some (.int .i64 z)∧w'.cell? ⟨m,2,none⟩=some (.int .i64 A)∧w'.cell? ⟨m,3,none⟩=some (.int .i64 B)∧w'.cell? ⟨m,4,none⟩=some (.slice I t.length O)∧w'.cell? ⟨m,5,none⟩=some (.bool D)∧w'.cell? ⟨m,6,none⟩=some (.slice J u.length P)∧w'.cell? ⟨m,7,none⟩=some (.slice L x.length T)∧w'.cell? ⟨m,8,none⟩=some (.slice (some an) j.length U)∧w'.cell? (an.add (a).toNat)=some (.int .i64 (rd j a))) (ds:=[]) (lb 12 0) (by kernel_rfl) rfl rfl ⟨qc d 0,qc d 1,qc d 2,qc d 3,qc d 4,qc d 5,qc d 6,qc b 0,qc b 1,qc b 2,qc b 3,qc b 4,qc b 5,qc b 6,qc b 7,qc b 8,((HB.out.cell (World.block_lt_of_cell? w _ l)).trans l)⟩ (fun hHeld=>?_);refine with_tabW impl_points.tab5 impl_points.bits5 (fun HT_ HW_=>?_)
    generalize ao.drew=bI at q y b d HB E hHeld⊢
    refine pu HT_ 0 16 (lb 12 1) ?_
    refine pu HT_ 1 17 (lb 12 3) ?_
    refine pu HT_ 3 19 (lb 12 11) ?_
    refine pu HT_ 5 21 (lb 12 43) ?_
    refine tk HT_ HW_ hHeld 2 18 (lb 12 47) ?_
    refine tk HT_ HW_ hHeld 4 20 (lb 12 63) ?_
    refine pu HT_ 6 22 (lb 12 127) ?_
    refine tk HT_ HW_ hHeld 7 23 (lb 12 255) ?_
    refine pu HT_ 8 24 (lb 12 511) ?_
    refine on HT_ 9 25 (lb 12 1023) fun K hK=>?_
    refine value_ (w1:=?_) (v:=?_) (by rfl) rfl ?_ ?_
    rotate_left 2
    ·go_simp
     constructor
     ·rfl
     ·rfl
    refine hK.out _ _ ⟨(blk_cell (blk_alloc d.out _) 0).trans rfl,(blk_cell (blk_alloc d.out _) 1).trans rfl,(blk_cell (blk_alloc d.out _) 2).trans rfl,(blk_cell (blk_alloc d.out _) 3).trans rfl,(blk_cell (blk_alloc d.out _) 4).trans rfl,(blk_cell (blk_alloc d.out _) 5).trans rfl,(blk_cell (blk_alloc d.out _) 6).trans rfl,(blk_cell (blk_alloc b.out _) 0).trans rfl,(blk_cell (blk_alloc b.out _) 1).trans rfl,(blk_cell (blk_alloc b.out _) 2).trans rfl,(blk_cell (blk_alloc b.out _) 3).trans rfl,(blk_cell (blk_alloc b.out _) 4).trans rfl,(blk_cell (blk_alloc b.out _) 5).trans rfl,(blk_cell (blk_alloc b.out _) 6).trans rfl,(blk_cell (blk_alloc b.out _) 7).trans rfl,(blk_cell (blk_alloc b.out _) 8).trans rfl,(World.cell?_alloc_lt _ _ _ (World.block_lt_of_cell? _ _ (((HB.out.cell (World.block_lt_of_cell? w _ l)).trans l)))).trans (((HB.out.cell (World.block_lt_of_cell? w _ l)).trans l))⟩ (fun hHeld=>?_)
    clear hK K
    refine nm 25 ?_
    refine on HT_ 10 26 (lb 12 2047) fun K hK=>?_
    refine Kd.R_append_step (Kd.int .i64) (w0:=w) w.heap.size (by rfl) (.tmp 16) (.tmp 25) 23 3 (.int .i64 0) 8 rfl Tryz.underlying23 info3 rfl (by decide) (by omega) u3 X (wrap64 (((rd_T112 c a).f6)-(rd j a))) [.int .i64 (wrap64 (((rd_T112 c a).f6)-(rd j a)))] (fun _=>True) (fun _=>False) rfl rfl ?aP (fun _ hk=>hk.elim) ?aF ?aO ?aB ?aS ?aL ?_
    (case aP=>exact rfl)
    (case aB=>exact bel)
    (case aF=>exact(fun _ _=>trivial))
    (case aO=>exact(rk q.out))
    (case aS=>exact(below_size bel))
    (case aL=>have:=a0.out;omega)
    intro bH bJ ho hb hg hat
    rw[←a2.out]at ho
    have au:=am (Kd.R_over' (rk y.out) (Kd.R_typed (rk q.out)) (by decide) hg)
    have av:=am (blk_grown (g:=m) (o:=.cells #[.slice G s.length M,.int .i64 z,.int .i64 A,.int .i64 B,.slice I t.length O,.bool D,.slice J u.length P,.slice L x.length T,.slice (some an) j.length U] 35 (0,0)) (bk b.out) hg (Kd.R_ne q.out b.out (by decide)))
    have aw:=am (blk_grown (g:=i) (o:=.cells #[.int .i64 ((rd_T112 c a).f0),.int .i64 ((rd_T112 c a).f1),.int .i64 ((rd_T112 c a).f2),.int .i64 ((rd_T112 c a).f3),.int .i64 ((rd_T112 c a).f4),.int .i64 ((rd_T112 c a).f5),.int .i64 ((rd_T112 c a).f6)] 112 (0,0)) (bk d.out) hg (Kd.R_ne q.out d.out (by decide)))
    have ax:=am (hb)
    have ay:=am (ho)
    clear y
    clear b
    clear d
    clear HB
    clear q
    have y:=au
    have b:=av
    have d:=aw
    have HB:=ax
    have aZ:=ay
    clear au av aw ax ay
    clear ho hb hg hat
    refine hK.out _ _ ⟨qc d 0,qc d 1,qc d 2,qc d 3,qc d 4,qc d 5,qc d 6,qc b 0,qc b 1,qc b 2,qc b 3,qc b 4,qc b 5,qc b 6,qc b 7,qc b 8,((HB.out.cell (World.block_lt_of_cell? w _ l)).trans l)⟩ (fun hHeld=>?_)
    clear hK K
    refine nm 26 ?_
    refine pu HT_ 11 3 (lb 12 4095) ?_
    refine done_ (done_of HT_.out (by kernel_rfl)) ?_
    try go_wp2
    go_roundg k1
    case measure=>have:=a4.out;omega
    case rel=>exact⟨(bl),(wrap64 (a+1)),(es),H,⟨by have:=a4.out;omega⟩,⟨rk aZ.out⟩,⟨by(with_reducible repeat (first|apply Kd.R_alloc|apply Kd.R_drewN|apply Kd.R_drew));exact Kd.R_mono y.out (fun _ hk=>trivial)⟩,⟨bk b.out⟩,⟨bel⟩⟩
   ·obtain rfl:=qj1 H
    go_wp2
    go_ret
    exact⟨_,er,rk q.out,bel⟩
def impl_best.l0:Nat→Int→Int→List Int→Int→Int→List (S83)→Int→Int→Int→List Int→Bool→List (S79)→List Int→List Int→Option (Int)
  |0,_,_,_,_,_,_,_,_,_,_,_,_,_,_=>none
  |k+1,x1,x5,c,n,b,d,e,g,h,i,j,a,l,m=>if b<n then(if 0≤b then(if b<(c.length:Int)then(if 0≤(rd c b)then(if(rd c b)<(a.length:Int)then((impl_plays.f ((rd_T79 a (rd c b)).f0) ((rd_T79 a (rd c b)).f1) ((rd_T79 a (rd c b)).f2) ((rd_T79 a (rd c b)).f3) ((rd_T79 a (rd c b)).f4) x1).bind fun o=>(if o=true then(impl_best.l0 k x1 (wrap64 (x5+2)) c n (wrap64 (b+1)) d e g h i j a l m)else(impl_best.l0 k x1 x5 c n (wrap64 (b+1)) d e g h i j a l m)))else(none))else(none))else(none))else(none))else(some x5)
def impl_best.f(k:Nat)(g:List (S83))(b:Int)(c:Int)(d:Int)(h:List Int)(e:Bool)(a:List (S79))(i:List Int)(j:List Int)(a1:Int):Option (Int):=(impl_points.f k g b c d h e a i j).bind fun l=>(if 0≤a1 then(if a1<(l.length:Int)then((impl_OpenGames.f k a).bind fun m=>(impl_best.l0 k a1 (rd l a1) m (m.length:Int) 0 g b c d h e a i j))else(none))else(none))
theorem impl_best.calls(k:Nat)(I:Option Addr)(O:Nat)(i:List (S83))(p:Int)(q:Int)(s:Int)(J:Option Addr)(P:Nat)(j:List Int)(t:Bool)(K:Option Addr)(T:Nat)(c:List (S79))(L:Option Addr)(U:Nat)(l:List Int)(M:Option Addr)(W:Nat)(m:List Int)(a1:Int)(r:Int)(w:World)(B:Kd.C k83 w I i.length i)(x:i.length≤O)(D:Kd.C (Kd.int .i64) w J j.length j)(y:j.length≤P)(n:Kd.C k79 w K c.length c)(u:c.length≤T)(E:Kd.C (Kd.int .i64) w L l.length l)(z:l.length≤U)(G:Kd.C (Kd.int .i64) w M m.length m)(A:m.length≤W)(h:impl_best.f k i p q s j t c l m a1=some r):Calls Tryz.prog 64 #[.agg #[.slice I i.length O,.int .i64 p,.int .i64 q,.int .i64 s,.slice J j.length P,.bool t,.slice K c.length T,.slice L l.length U,.slice M m.length W],.int .i64 a1] w fun e w'=>e=.returned (.int .i64 r)∧Below w.heap.size w w':=by
 have bn:=Tryz.underlying35
 have bo:=Tryz.underlying79
 replace B:=am B
 replace x:=am x
 replace D:=am D
 replace y:=am y
 replace n:=am n
 replace u:=am u
 replace E:=am E
 replace z:=am z
 replace G:=am G
 replace A:=am A
 have HB:=qb w
 have H:=h
 unfold impl_best.f at H
 clear h
 replace H:=bm H;obtain⟨aE,A3,H⟩:=H
 by_cases c4:0≤a1
 ·rw[if_pos c4]at H
  have a5:decide (0≤a1)=true:=decide_eq_true c4
  clear c4
  replace H:=i0 H;obtain⟨a6,H⟩:=H
  replace H:=bm H;obtain⟨b,A6,H⟩:=H
  replace H:=am H
  go_enter Tryz.func64,Tryz.ntmps64
  go_wp2_with (first|((with_reducible refine gd 2 ?_);refine bx w 2 #[.slice I i.length O,.int .i64 p,.int .i64 q,.int .i64 s,.slice J j.length P,.bool t,.slice K c.length T,.slice L l.length U,.slice M m.length W] 35 ?_;clear HB;intro a2 w7 d bc HB;obtain⟨aG,aH,aI,aJ,aK,aL,aM,aN,aO,aP,aQ,aR,aS,aT,aU,aV,aW,aX⟩:=cf9 d.out)|((with_reducible refine gc 65 ?_);refine gl 9 Tryz.func65 (impl_points.calls k _ _ i p q s _ _ j t _ _ c _ _ l _ _ m aE _ (cb B HB) x.out (cb D HB) y.out (cb n HB) u.out (cb E HB) z.out (cb G HB) A.out A3.out) ?_;rintro e w9 ⟨br,rfl,X,hb⟩;refine⟨_,rfl,?_⟩;have o:=am (Kd.R_lower X (below_size bel));replace d:=b1 d hb;replace HB:=b2 hb;(try clear hb);(try clear X);obtain⟨bj,bl,a9⟩:=Kd.R_slice o.out;subst a9;have:(0≤(a1:Int))=True:=ab;have:(a1<(aE.length:Int))=True:=ab;obtain⟨bd,a8,ax⟩:=Kd.at_int (Kd.R_reads' o.out).2.2 a1 asm asm;cases a8;obtain⟨ac,ad,ae,af,ag,ah,ai,aj,ak,al,an,ao,ap,aq,ar,au,av,aw⟩:=cf9 d.out)|((with_reducible refine gc 43 ?_);refine gl 15 Tryz.func43 (impl_OpenGames.calls k _ _ c b _ (cb n HB) u.out A6.out) ?_;rintro e bw ⟨bu,rfl,X,hb⟩;refine⟨_,rfl,?_⟩;have Y:=am (Kd.R_lower (Kd.R_new' X (Kd.R_lt (rk o.out))) (below_size bel));replace o:=am (Kd.R_elder' (rk o.out) (Kd.R_base X) hb);replace d:=b1 d hb;replace HB:=b2 hb;(try clear hb);(try clear X);obtain⟨a4,a7,ba⟩:=Kd.R_slice Y.out;subst ba))
  go_loopg [5,17] k (fun kq v5 bi w'=>∃(v:Int) (a:Int),v5=.int .i64 v∧bi=.int .i64 a∧Aside0 (impl_best.l0 kq a1 v b (b.length:Int) a i p q s j t c l m=some r)∧Aside0 (kq≤k)∧Aside0 (Kd.R (Kd.int .i64) 3 w' w.heap.size (fun _=>True) (.slice a4 b.length a7) b)∧Aside0 (w'.heap[a2]? =some (.cells #[(.slice I i.length O),.int .i64 p,.int .i64 q,.int .i64 s,(.slice J j.length P),.bool t,(.slice K c.length T),(.slice L l.length U),(.slice M m.length W)] 35 (0,0)))∧Aside0 (Below w.heap.size w w'))
  case atStart=>exact⟨(rd aE a1),(0),(es),(es),H,⟨Nat.le_refl _⟩,⟨by(with_reducible repeat (first|apply Kd.R_alloc|apply Kd.R_drewN|apply Kd.R_drew));exact Kd.R_mono Y.out (fun _ hk=>trivial)⟩,⟨bk d.out⟩,⟨bel⟩⟩
  case round=>
   clear H
   try clear c4;try clear a5;try clear a6;try clear ac;try clear ad;try clear ae;try clear af;try clear ag;try clear ah;try clear ai;try clear aj;try clear ak;try clear aG;try clear aH;try clear aI;try clear aJ;try clear aK;try clear aL;try clear aM;try clear aN;try clear aO;try clear al;try clear an;try clear ao;try clear ap;try clear aq;try clear ar;try clear au;try clear av;try clear aw;try clear aP;try clear aQ;try clear aR;try clear aS;try clear aT;try clear aU;try clear aV;try clear aW;try clear aX;try clear ax
   obtain⟨v,a,rfl,rfl,HA,aF,g,d,HB⟩:=hrel
   cases gk with
   |zero=>exact absurd HA.out (by simp [impl_best.l0])
   |succ k1=>
    have H:=HA.out
    clear HA
    simp only[impl_best.l0]at H
    replace H:=i1 H;obtain⟨a0,H⟩|⟨a0,H⟩:=H
    ·replace H:=i0 H;obtain⟨be,H⟩:=H
     replace H:=i0 H;obtain⟨bf,H⟩:=H
     replace H:=i0 H;obtain⟨bg,H⟩:=H
     replace H:=i0 H;obtain⟨bh,H⟩:=H
     replace H:=bm H;obtain⟨bp,a3,H⟩:=H
     replace H:=ib H;obtain⟨rfl,H⟩|⟨rfl,H⟩:=H
     ·replace H:=am H
      have:(0≤(a:Int))=True:=ab
      have:(a<(b.length:Int))=True:=ab
      obtain⟨aY,Z,ay⟩:=Kd.at_int (Kd.R_reads' g.out).2.2 a asm asm
      cases Z
      obtain⟨_,_,_,_,_,_,_,_,_,_,_,_,_,_,_,_,_,_⟩:=cf9 d.out
      have:(0≤((rd b a):Int))=True:=ab
      have:((rd b a)<(c.length:Int))=True:=ab
      obtain⟨aZ,aa,az,aA,aB,aC,aD⟩:=hc5 HB.out (at_T79 n.out (rd b a) asm asm)
      cases aa
      go_wp2_with (first|((with_reducible refine gc 68 ?_);refine gl 27 Tryz.func68 (impl_plays.calls ((rd_T79 c (rd b a)).f0) ((rd_T79 c (rd b a)).f1) ((rd_T79 c (rd b a)).f2) ((rd_T79 c (rd b a)).f3) ((rd_T79 c (rd b a)).f4) a1 true _ a3.out) ?_;rintro e bA ⟨rfl,hb⟩;refine⟨_,rfl,?_⟩;replace g:=rb g hb;replace d:=b1 d hb;replace HB:=b2 hb;(try clear hb)))
      go_roundg k1
      case measure=>have:=aF.out;omega
      case rel=>exact⟨(wrap64 (v+2)),(wrap64 (a+1)),(es),(es),H,⟨by have:=aF.out;omega⟩,⟨rk g.out⟩,⟨bk d.out⟩,⟨bel⟩⟩
     ·replace H:=am H
      have:(0≤(a:Int))=True:=ab
      have:(a<(b.length:Int))=True:=ab
      obtain⟨aY,Z,ay⟩:=Kd.at_int (Kd.R_reads' g.out).2.2 a asm asm
      cases Z
      obtain⟨_,_,_,_,_,_,_,_,_,_,_,_,_,_,_,_,_,_⟩:=cf9 d.out
      have:(0≤((rd b a):Int))=True:=ab
      have:((rd b a)<(c.length:Int))=True:=ab
      obtain⟨aZ,aa,az,aA,aB,aC,aD⟩:=hc5 HB.out (at_T79 n.out (rd b a) asm asm)
      cases aa
      go_wp2_with (first|((with_reducible refine gc 68 ?_);refine gl 27 Tryz.func68 (impl_plays.calls ((rd_T79 c (rd b a)).f0) ((rd_T79 c (rd b a)).f1) ((rd_T79 c (rd b a)).f2) ((rd_T79 c (rd b a)).f3) ((rd_T79 c (rd b a)).f4) a1 false _ a3.out) ?_;rintro e bB ⟨rfl,hb⟩;refine⟨_,rfl,?_⟩;replace g:=rb g hb;replace d:=b1 d hb;replace HB:=b2 hb;(try clear hb)))
      go_roundg k1
      case measure=>have:=aF.out;omega
      case rel=>exact⟨(v),(wrap64 (a+1)),(es),(es),H,⟨by have:=aF.out;omega⟩,⟨rk g.out⟩,⟨bk d.out⟩,⟨bel⟩⟩
    ·obtain rfl:=qj1 H
     go_wp2
     go_ret
     exact⟨er,bel⟩
 ·rw[if_neg c4]at H
  exact absurd H (by simp)
mutual
def impl_leadNet.l0:Nat→Int→Int→List (S79)→Int→Int→List (S83)→Int→Int→Int→List Int→Bool→List (S79)→List Int→List Int→Int→List (S71)→Option (Int×(List (S71))×Int)
  |0,_,_,_,_,_,_,_,_,_,_,_,_,_,_,_,_=>none
  |k+1,x1,x7,o,s,m,a,b,c,d,e,g,h,i,j,n,l=>if m<s then(if 0≤m then(if m<(o.length:Int)then((some (([(⟨0,wrap64 ((wrap64 (2+x7))+m),2⟩:S71),(⟨wrap64 ((wrap64 (2+x7))+m),wrap64 (2+((rd_T79 o m).f0)),2⟩:S71),(⟨wrap64 ((wrap64 (2+x7))+m),wrap64 (2+((rd_T79 o m).f1)),2⟩:S71)]:List (S71)):List (S71))).bind fun q=>(if l.length+q.length<5864062014805 then(impl_leadNet.l0 k x1 x7 o s (wrap64 (m+1)) a b c d e g h i j n (l++q))else(none)))else(none))else(none))else((impl_best.f k a b c d e g h i j x1).bind fun r=>((impl_points.f k a b c d e g h i j).bind fun p=>(impl_leadNet.l1 k x1 r p (p.length:Int) 0 n l)))
def impl_leadNet.l1:Nat→Int→Int→List Int→Int→Int→Int→List (S71)→Option (Int×(List (S71))×Int)
  |0,_,_,_,_,_,_,_=>none
  |k+1,x1,e,d,g,c,b,a=>if c<g then(if 0≤c then(if c<(d.length:Int)then(if c=x1 then(impl_leadNet.l1 k x1 e d g (wrap64 (c+1)) b a)else(if(rd d c)>e then(some (0,([]:List (S71)),c))else(if a.length<5864062014805 then(impl_leadNet.l1 k x1 e d g (wrap64 (c+1)) b (a++[(⟨wrap64 (2+c),1,wrap64 (e-(rd d c))⟩:S71)]))else(none))))else(none))else(none))else(some (b,a,(-1)))
end
def impl_leadNet.f(k:Nat)(a:List (S83))(c:Int)(d:Int)(e:Int)(h:List Int)(g:Bool)(i:List (S79))(j:List Int)(l:List Int)(a1:Int):Option (Int×(List (S71))×Int):=(impl_others.f k a c d e h g i j l a1).bind fun b=>(impl_leadNet.l0 k a1 (a.length:Int) b (b.length:Int) 0 a c d e h g i j l (wrap64 ((wrap64 (2+(a.length:Int)))+(b.length:Int))) ([]:List (S71)))
def impl_leadNet.T1:Bool×List (List Nat×List Nat):=(true,[([],[]),([],[]),([0,1],[0,1]),([],[]),([3],[3]),([4],[4]),([2,2,0,1,2],[2]),([5,6,0,1,2,3,4,5,6],[5])])
def impl_leadNet.B1:List Nat:=[0,0,3,0,8,24,7,127]
theorem impl_leadNet.tab1:rtab .any (opsOf Tryz.f39 1)=impl_leadNet.T1:=by kernel_rfl
theorem impl_leadNet.bits1:waitsOk impl_leadNet.T1.2 impl_leadNet.B1=true:=by kernel_rfl
theorem impl_leadNet.calls(k:Nat)(U:Option Addr)(aa:Nat)(l:List (S83))(B:Int)(D:Int)(E:Int)(W:Option Addr)(ac:Nat)(v:List Int)(G:Bool)(X:Option Addr)(ad:Nat)(x:List (S79))(Y:Option Addr)(ae:Nat)(y:List Int)(Z:Option Addr)(af:Nat)(z:List Int)(a1:Int)(r1:Int)(r2:List (S71))(r3:Int)(w:World)(ao:Kd.C k83 w U l.length l)(ai:l.length≤aa)(ap:Kd.C (Kd.int .i64) w W v.length v)(aj:v.length≤ac)(aq:Kd.C k79 w X x.length x)(ak:x.length≤ad)(ar:Kd.C (Kd.int .i64) w Y y.length y)(al:y.length≤ae)(au:Kd.C (Kd.int .i64) w Z z.length z)(an:z.length≤af)(h:impl_leadNet.f k l B D E v G x y z a1=some (r1,r2,r3)):Calls Tryz.prog 39 #[.agg #[.slice U l.length aa,.int .i64 B,.int .i64 D,.int .i64 E,.slice W v.length ac,.bool G,.slice X x.length ad,.slice Y y.length ae,.slice Z z.length af],.int .i64 a1] w fun e w'=>∃cD:Value,e=.returned (.tuple #[.agg #[.int .i64 r1,cD],.int .i64 r3])∧Kd.R k71 71 w' w.heap.size (fun _=>True) cD r2∧Below w.heap.size w w':=by
 have cU:=Tryz.underlying35
 have cV:=Tryz.underlying65
 have cX:=Tryz.underlying79
 have cW:=Tryz.underlying71
 replace ao:=am ao
 replace ai:=am ai
 replace ap:=am ap
 replace aj:=am aj
 replace aq:=am aq
 replace ak:=am ak
 replace ar:=am ar
 replace al:=am al
 replace au:=am au
 replace an:=am an
 have HB:=qb w
 have H:=h
 unfold impl_leadNet.f at H
 clear h
 replace H:=bm H;obtain⟨m,A3,H⟩:=H
 replace H:=am H
 go_enter Tryz.func39,Tryz.ntmps39
 try go_wp2_with (first|((with_reducible refine gd 2 ?_);refine bx w 2 #[.slice U l.length aa,.int .i64 B,.int .i64 D,.int .i64 E,.slice W v.length ac,.bool G,.slice X x.length ad,.slice Y y.length ae,.slice Z z.length af] 35 ?_;clear HB;intro t w4 d cH HB)|((with_reducible refine gd 4 ?_);refine by_ w 4 #[.int .i64 0,.slice none 0 0] 65 ?_;clear HB;intro ah hg w5 i cI hb HB;obtain⟨aI,av⟩:=qn hg d;replace d:=b1 d hb;clear hb hg))
 replace d:=am (blk_drew d.out)
 replace i:=am (blk_drew i.out)
 replace HB:=am (below_drew1 HB.out)
 refine start_ (n:=8) (S:=fun w'=>w'.cell? ⟨t,0,none⟩=some (.slice U l.length aa)∧w'.cell? ⟨t,1,none⟩=some (.int .i64 B)∧w'.cell? ⟨t,2,none⟩=some (.int .i64 D)∧w'.cell? ⟨t,3,none⟩=some (.int .i64 E)∧w'.cell? ⟨t,4,none⟩=some (.slice W v.length ac)∧w'.cell? ⟨t,5,none⟩=some (.bool G)∧w'.cell? ⟨t,6,none⟩=some (.slice X x.length ad)∧w'.cell? ⟨t,7,none⟩=some (.slice Y y.length ae)∧w'.cell? ⟨t,8,none⟩=some (.slice Z z.length af)) (ds:=[]) (lb 8 0) (by kernel_rfl) rfl rfl (cc9 d.out) (fun hHeld=>?_);refine with_tabW impl_leadNet.tab1 impl_leadNet.bits1 (fun HT_ HW_=>?_)
 generalize w5.drew=w6 at d i HB hHeld⊢
 refine pu HT_ 1 16 (lb 8 2) ?_
 refine pu HT_ 3 18 (lb 8 10) ?_
 refine tk HT_ HW_ hHeld 0 15 (lb 8 11) ?_
 refine tk HT_ HW_ hHeld 4 19 (lb 8 27) ?_
 refine pu HT_ 5 20 (lb 8 59) ?_
 refine on HT_ 2 17 (lb 8 63) fun K hK=>?_
 refine goes_ Tryz.func42 (by kernel_rfl) rfl #[.agg #[.slice U l.length aa,.int .i64 B,.int .i64 D,.int .i64 E,.slice W v.length ac,.bool G,.slice X x.length ad,.slice Y y.length ae,.slice Z z.length af],.int .i64 a1] (by rfl) rfl rfl ga ?_
 refine cm (impl_others.calls k _ _ l B D E _ _ v G _ _ x _ _ y _ _ z a1 m _ (cb ao HB) ai.out (cb ap HB) aj.out (cb aq HB) ak.out (cb ar HB) al.out (cb au HB) an.out A3.out) ?_
 rintro e w7 ⟨cY,rfl,bL,hb⟩
 refine⟨_,rfl,?_⟩
 have ay:=am (Kd.R_lower bL (below_size bel))
 replace d:=b1 d hb
 replace i:=b1 i hb
 replace HB:=b2 hb
 (try clear hb)
 (try clear bL)
 refine hK.out _ _ (cc9 d.out) (fun hHeld=>?_)
 clear hK K
 refine nm 17 ?_
 refine pu HT_ 6 6 (lb 8 127) ?_
 refine pu HT_ 7 7 (lb 8 255) ?_
 refine done_ (done_of HT_.out (by kernel_rfl)) ?_
 obtain⟨cG,cQ,cR⟩:=Kd.R_slice ay.out
 subst cR
 try go_wp2_with (first|((with_reducible refine gd 8 ?_);refine by_ w 8 #[.int .i64 0,.slice none 0 0] 65 ?_;clear HB;intro az hg w9 j cJ hb HB;obtain⟨aJ,J⟩:=qn hg d;obtain⟨aK,L⟩:=qn hg i;replace ay:=rb ay hb;replace d:=b1 d hb;replace i:=b1 i hb;clear hb hg;obtain⟨_,_⟩:=qo J;obtain⟨_,_⟩:=qo L;obtain⟨aC,aD,aE,aG⟩:=cf2 j.out))
 go_loopg [29] k (fun kq cS w'=>∃(c:Int) (u:List (S71)) (u690001:Value),cS=.int .i64 c∧Aside0 (impl_leadNet.l0 kq a1 (l.length:Int) m (m.length:Int) c l B D E v G x y z (wrap64 ((wrap64 (2+(l.length:Int)))+(m.length:Int))) u=some (r1,r2,r3))∧Aside0 (kq≤k)∧Aside0 (Kd.R k79 79 w' w.heap.size (fun _=>True) (.slice cG m.length cQ) m)∧Aside0 (Kd.R k71 71 w' w.heap.size (fun _=>True) u690001 u)∧Aside0 (w'.heap[t]? =some (.cells #[(.slice U l.length aa),.int .i64 B,.int .i64 D,.int .i64 E,(.slice W v.length ac),.bool G,(.slice X x.length ad),(.slice Y y.length ae),(.slice Z z.length af)] 35 (0,0)))∧Aside0 (w'.heap[ah]? =some (.cells #[.int .i64 0,(.slice none 0 0)] 65 (0,0)))∧Aside0 (w'.heap[az]? =some (.cells #[.int .i64 (wrap64 ((wrap64 (2+(l.length:Int)))+(m.length:Int))),u690001] 65 (0,0)))∧Aside0 (Below w.heap.size w w'))
 case atStart=>exact⟨(0),(([]:List (S71))),(.slice none 0 0),(es),H,⟨Nat.le_refl _⟩,⟨(kf (Kd.R_types ay.out j.out (by decide)) (fun _ hk=>trivial))⟩,⟨qk⟩,⟨bk d.out⟩,⟨bk i.out⟩,⟨(bz j)⟩,⟨bel⟩⟩
 case round=>
  clear H
  try clear aC;try clear aD;try clear aE;try clear aG
  obtain⟨c,u,u690001,rfl,HA,aT,s,a,d,i,j,HB⟩:=hrel
  cases gk with
  |zero=>exact absurd HA.out (by simp [impl_leadNet.l0])
  |succ k1=>
   have H:=HA.out
   clear HA
   simp only[impl_leadNet.l0]at H
   replace H:=i1 H;obtain⟨aZ,H⟩|⟨aZ,H⟩:=H
   ·replace H:=i0 H;obtain⟨cM,H⟩:=H
    replace H:=i0 H;obtain⟨cN,H⟩:=H
    replace H:=bs H;obtain⟨bS,aX,H⟩:=H
    replace H:=i0 H;obtain⟨cf,H⟩:=H
    have bW:=am (of_decide_eq_true cf)
    clear cf
    generalize hy695:(u++bS:List (S71))=bU at H
    have b3:=am hy695.symm
    clear hy695
    replace H:=am H
    have:(0≤(c:Int))=True:=ab
    have:(c<(m.length:Int))=True:=ab
    obtain⟨cL,cp,cw,cx,cy,cz,cA⟩:=at_T79 (Kd.R_reads' s.out).2.2 c asm asm
    cases cp
    go_wp2_with (first|((with_reducible refine gd 10 ?_);refine by_ w 10 #[.int .i64 0,.int .i64 0,.int .i64 0,.int .i64 0,.int .i64 0] 79 ?_;clear HB;intro T hg dc I cK hb HB;obtain⟨bY,aM⟩:=qn hg d;obtain⟨bZ,aN⟩:=qn hg i;obtain⟨b0,aQ⟩:=qn hg j;replace s:=am (Kd.R_below (Kd.R_elderB (rk s.out) T (Nat.le_of_eq hg.symm)) hb);replace a:=rb a hb;replace d:=b1 d hb;replace i:=b1 i hb;replace j:=b1 j hb;clear hb hg;obtain⟨_,_⟩:=qo aM;obtain⟨_,_⟩:=qo aN;obtain⟨_,_⟩:=qo aQ;obtain⟨_,_,_,_,_,_,_,_,_,_⟩:=cf5 I.out;obtain⟨_,_⟩:=qo J;obtain⟨_,_⟩:=qo L;obtain⟨_,_,_,_⟩:=cf2 j.out)|((with_reducible refine gate_dst (N:=52) rfl ?_);refine Kd.R_lit k71 _ 71 ?hg (N:=52) ?hd (xs:=([(⟨0,wrap64 ((wrap64 (2+(l.length:Int)))+c),2⟩:S71),(⟨wrap64 ((wrap64 (2+(l.length:Int)))+c),wrap64 (2+((rd_T79 m c).f0)),2⟩:S71),(⟨wrap64 ((wrap64 (2+(l.length:Int)))+c),wrap64 (2+((rd_T79 m c).f1)),2⟩:S71)]:List (S71))) (inner:=[.int .i64 0,.int .i64 (wrap64 ((wrap64 (2+(l.length:Int)))+c)),.int .i64 2,.int .i64 (wrap64 ((wrap64 (2+(l.length:Int)))+c)),.int .i64 (wrap64 (2+((rd_T79 m c).f0))),.int .i64 2,.int .i64 (wrap64 ((wrap64 (2+(l.length:Int)))+c)),.int .i64 (wrap64 (2+((rd_T79 m c).f1))),.int .i64 2]) (ok:=fun _=>True) (okp:=fun _=>True) ?hr ?hp (fun _ hk=>hk) trivial (Below.refl _ _) (Nat.le_refl _) (by simp) ?_;(case hd=>rfl);(case hg=>rfl);(case hr=>first|(go_simp;done)|(go_simp;rfl));(case hp=>exact(Reps.c3 (show Kd.M k71 _ _ _ (⟨0,wrap64 ((wrap64 (2+(l.length:Int)))+c),2⟩:S71) [.int .i64 0,.int .i64 (wrap64 ((wrap64 (2+(l.length:Int)))+c)),.int .i64 2]from(k71_mkM _ _ _ (⟨0,wrap64 ((wrap64 (2+(l.length:Int)))+c),2⟩:S71))) (Reps.c3 (show Kd.M k71 _ _ _ (⟨wrap64 ((wrap64 (2+(l.length:Int)))+c),wrap64 (2+((rd_T79 m c).f0)),2⟩:S71) [.int .i64 (wrap64 ((wrap64 (2+(l.length:Int)))+c)),.int .i64 (wrap64 (2+((rd_T79 m c).f0))),.int .i64 2]from(k71_mkM _ _ _ (⟨wrap64 ((wrap64 (2+(l.length:Int)))+c),wrap64 (2+((rd_T79 m c).f0)),2⟩:S71))) (Reps.c3 (show Kd.M k71 _ _ _ (⟨wrap64 ((wrap64 (2+(l.length:Int)))+c),wrap64 (2+((rd_T79 m c).f1)),2⟩:S71) [.int .i64 (wrap64 ((wrap64 (2+(l.length:Int)))+c)),.int .i64 (wrap64 (2+((rd_T79 m c).f1))),.int .i64 2]from(k71_mkM _ _ _ (⟨wrap64 ((wrap64 (2+(l.length:Int)))+c),wrap64 (2+((rd_T79 m c).f1)),2⟩:S71))) (Reps.none _ _)))));intro cZ dd aw hb hg_ hnew_;clear hg_ hnew_;(first|rw[←aX.out]at aw|(simp only[Int.reduceToNat]at aw;rw[←aX.out]at aw));have ag:=am (Kd.R_lower (Kd.R_new' aw (Kd.R_lt (kf (Kd.R_types a.out I.out (by decide)) (fun _ h_=>h_.1)))) (below_size bel));replace s:=am (Kd.R_below (by exact rk (Kd.R_mono (Kd.R_far (p:=⟨T,4,none⟩) (Kd.R_far (p:=⟨T,3,none⟩) (Kd.R_far (p:=⟨T,2,none⟩) (Kd.R_far (p:=⟨T,1,none⟩) (Kd.R_far (p:=⟨T,0,none⟩) (Kd.R_mono s.out (fun k_ hk=>(⟨hk,hk.2⟩:_∧k_≠T))) (fun _ hk=>hk.2) (.int .i64 ((rd_T79 m c).f0))) (fun _ hk=>hk.2) (.int .i64 ((rd_T79 m c).f1))) (fun _ hk=>hk.2) (.int .i64 ((rd_T79 m c).f2))) (fun _ hk=>hk.2) (.int .i64 ((rd_T79 m c).f3))) (fun _ hk=>hk.2) (.int .i64 ((rd_T79 m c).f4))) (fun _ h_=>h_.1))) hb);replace a:=am (Kd.R_elder' (kf (Kd.R_types a.out I.out (by decide)) (fun _ h_=>h_.1)) (Kd.R_base aw) hb);replace d:=b1 d hb;replace i:=b1 i hb;replace j:=b1 j hb;replace I:=bq I hb;replace HB:=b2 hb;clear hb aw;obtain⟨b9,ch,cq⟩:=Kd.R_slice ag.out;subst cq)|((with_reducible refine gate_builtin (b:=.append) (xs:=#[.tmp 39,.tmp 52]) rfl ?_);at_builtin;refine Kd.R_append_rows k71 (w0:=w) w.heap.size rfl (.tmp 39) (.tmp 52) 63 71 (.agg #[(.int .i64 0),(.int .i64 0),(.int .i64 0)]) 24 rfl Tryz.underlying63 info71 rfl (by decide) (by omega) u690001 u bS _ _ _ (fun k_=>some k_≠(.slice b9 bS.length ch:Value).ownBlock) (fun _=>False) rfl rfl ?aO ?aR (fun _ _ h=>h) (fun _ h=>h.elim) ?aF ?aB ?aS ?aL ?_;(case aR=>exact ck (Kd.R_reads' ag.out).2.2);(case aB=>exact bel);(case aF=>exact(fun k_ hk=>Kd.fresh' (Kd.R_lt (rk ag.out)) k_ hk));(case aO=>exact(by(with_reducible repeat (first|apply Kd.R_alloc|apply Kd.R_drewN|apply Kd.R_drew));exact Kd.R_mono a.out (fun _ hk=>hk.2)));(case aS=>exact(below_size bel));(case aL=>have:=bW.out;omega);intro c0 de ho hb hg hat;rw[←b3.out]at ho;have bM:=am (Kd.R_over' (rk s.out) (Kd.R_typed (rk a.out)) (by decide) hg);have bN:=am (blk_grown (g:=t) (o:=.cells #[.slice U l.length aa,.int .i64 B,.int .i64 D,.int .i64 E,.slice W v.length ac,.bool G,.slice X x.length ad,.slice Y y.length ae,.slice Z z.length af] 35 (0,0)) (bk d.out) hg (Kd.R_ne a.out d.out (by decide)));have bO:=am (blk_grown (g:=ah) (o:=.cells #[.int .i64 0,.slice none 0 0] 65 (0,0)) (bk i.out) hg (Kd.R_ne a.out i.out (by decide)));have bP:=am (blk_grown (g:=az) (o:=.cells #[.int .i64 (wrap64 ((wrap64 (2+(l.length:Int)))+(m.length:Int))),u690001] 65 (0,0)) (bk j.out) hg (Kd.R_ne a.out j.out (by decide)));have bQ:=am (blk_grown (g:=T) (o:=.cells #[.int .i64 ((rd_T79 m c).f0),.int .i64 ((rd_T79 m c).f1),.int .i64 ((rd_T79 m c).f2),.int .i64 ((rd_T79 m c).f3),.int .i64 ((rd_T79 m c).f4)] 79 (0,0)) (bk I.out) hg (Kd.R_ne a.out I.out (by decide)));have bR:=am (Kd.R_after (ok:=(fun _=>True)) (rk ag.out) hg hat);have cB:=am (hb);have cC:=am (ho);clear s;clear d;clear i;clear j;clear I;clear ag;clear HB;clear a;have s:=bM;have d:=bN;have i:=bO;have j:=bP;have I:=bQ;have ag:=bR;have HB:=cB;have aU:=cC;clear bM bN bO bP bQ bR cB cC;clear ho hb hg hat;obtain⟨ca,ci,cs⟩:=Kd.R_slice aU.out;subst cs;obtain⟨_,_,_,_⟩:=cf2 j.out))
    go_roundg k1
    case measure=>have:=aT.out;omega
    case rel=>exact⟨(wrap64 (c+1)),(bU),(.slice ca bU.length ci),(es),H,⟨by have:=aT.out;omega⟩,⟨(kf (Kd.R_types s.out j.out (by decide)) (fun _ hk=>trivial))⟩,⟨(kf (Kd.R_types aU.out j.out (by decide)) (fun _ hk=>trivial))⟩,⟨bk d.out⟩,⟨bk i.out⟩,⟨(bz j)⟩,⟨bel⟩⟩
   ·replace H:=bm H;obtain⟨ax,cE,H⟩:=H
    replace H:=bm H;obtain⟨O,cF,H⟩:=H
    replace H:=am H
    obtain⟨_,_⟩:=qo aI
    obtain⟨_,_⟩:=qo aJ
    obtain⟨a0,a2,a3,a4,a5,a6,a7,a8,a9,bl,bn,bo,bp,br,bu,bw,bA,bB⟩:=cf9 d.out
    go_wp2_with (first|((with_reducible refine gc 64 ?_);refine gl 58 Tryz.func64 (impl_best.calls k1 _ _ l B D E _ _ v G _ _ x _ _ y _ _ z a1 ax _ (cb ao HB) ai.out (cb ap HB) aj.out (cb aq HB) ak.out (cb ar HB) al.out (cb au HB) an.out cE.out) ?_;rintro e df ⟨rfl,hb⟩;refine⟨_,rfl,?_⟩;replace s:=rb s hb;replace a:=rb a hb;replace d:=b1 d hb;replace i:=b1 i hb;replace j:=b1 j hb;replace HB:=b2 hb;(try clear hb);obtain⟨ba,bc,bd,be,bf,bg,bh,bi,bj,bC,bD,bE,bF,bG,bH,bI,bJ,bK⟩:=cf9 d.out)|((with_reducible refine gc 65 ?_);refine gl 60 Tryz.func65 (impl_points.calls k1 _ _ l B D E _ _ v G _ _ x _ _ y _ _ z O _ (cb ao HB) ai.out (cb ap HB) aj.out (cb aq HB) ak.out (cb ar HB) al.out (cb au HB) an.out cF.out) ?_;rintro e dg ⟨c1,rfl,bL,hb⟩;refine⟨_,rfl,?_⟩;have aV:=am (Kd.R_lower bL (below_size bel));replace s:=rb s hb;replace a:=rb a hb;replace d:=b1 d hb;replace i:=b1 i hb;replace j:=b1 j hb;replace HB:=b2 hb;(try clear hb);(try clear bL);obtain⟨cc,cj,ct⟩:=Kd.R_slice aV.out;subst ct))
    go_loopg [62] k1 (fun kq cT w'=>∃(q:Int) (A:Int) (r:List (S71)) (u690001:Value),cT=.int .i64 q∧Aside0 (impl_leadNet.l1 kq a1 ax O (O.length:Int) q (wrap64 ((wrap64 (2+(l.length:Int)))+(m.length:Int))) r=some (r1,r2,r3))∧Aside0 (kq≤k1)∧Aside0 (Kd.R (Kd.int .i64) 3 w' w.heap.size (fun _=>True) (.slice cc O.length cj) O)∧Aside0 (Kd.R k71 71 w' w.heap.size (fun _=>True) u690001 r)∧Aside0 (w'.heap[t]? =some (.cells #[(.slice U l.length aa),.int .i64 B,.int .i64 D,.int .i64 E,(.slice W v.length ac),.bool G,(.slice X x.length ad),(.slice Y y.length ae),(.slice Z z.length af)] 35 (0,0)))∧Aside0 (w'.heap[ah]? =some (.cells #[.int .i64 A,(.slice none 0 0)] 65 (0,0)))∧Aside0 (w'.heap[az]? =some (.cells #[.int .i64 (wrap64 ((wrap64 (2+(l.length:Int)))+(m.length:Int))),u690001] 65 (0,0)))∧Aside0 (Below w.heap.size w w'))
    case atStart=>exact⟨(0),(0),(u),(u690001),(es),H,⟨Nat.le_refl _⟩,⟨rk aV.out⟩,⟨rk a.out⟩,⟨bk d.out⟩,⟨bk i.out⟩,⟨bk j.out⟩,⟨bel⟩⟩
    case round=>
     clear H
     try clear aZ;try clear aC;try clear aD;try clear a0;try clear a2;try clear a3;try clear a4;try clear a5;try clear a6;try clear a7;try clear a8;try clear a9;try clear ba;try clear bc;try clear bd;try clear be;try clear bf;try clear bg;try clear bh;try clear bi;try clear bj;try clear aE;try clear aG;try clear bl;try clear bn;try clear bo;try clear bp;try clear br;try clear bu;try clear bw;try clear bA;try clear bB;try clear bC;try clear bD;try clear bE;try clear bF;try clear bG;try clear bH;try clear bI;try clear bJ;try clear bK
     obtain⟨q,A,r,u690001,rfl,HA,bT,P,a,d,i,j,HB⟩:=hrel
     cases gk with
     |zero=>exact absurd HA.out (by simp [impl_leadNet.l1])
     |succ k2=>
      have H:=HA.out
      clear HA
      simp only[impl_leadNet.l1]at H
      replace H:=i1 H;obtain⟨b5,H⟩|⟨b5,H⟩:=H
      ·replace H:=i0 H;obtain⟨cO,H⟩:=H
       replace H:=i0 H;obtain⟨cP,H⟩:=H
       replace H:=ie H;obtain⟨b6,b7,H⟩|⟨⟨db,b6,b7⟩,H⟩:=H
       ·replace H:=am H
        have:(0≤(q:Int))=True:=ab
        have:(q<(O.length:Int))=True:=ab
        obtain⟨aY,aA,aH⟩:=Kd.at_int (Kd.R_reads' P.out).2.2 q asm asm
        cases aA
        go_wp2
        go_roundg k2
        case measure=>have:=aT.out;have:=bT.out;omega
        case rel=>exact⟨(wrap64 (q+1)),(A),(r),(u690001),(es),H,⟨by have:=aT.out;have:=bT.out;omega⟩,⟨rk P.out⟩,⟨rk a.out⟩,⟨bk d.out⟩,⟨bk i.out⟩,⟨bk j.out⟩,⟨bel⟩⟩
       ·replace H:=i1 H;obtain⟨b8,H⟩|⟨b8,H⟩:=H
        ·obtain⟨rfl,rfl,rfl⟩:=qj3 H
         have:(0≤(q:Int))=True:=ab
         have:(q<(O.length:Int))=True:=ab
         obtain⟨aY,aA,aH⟩:=Kd.at_int (Kd.R_reads' P.out).2.2 q asm asm
         cases aA
         obtain⟨_,_⟩:=qo av
         obtain⟨_,_⟩:=qo aK
         obtain⟨_,_,_,_⟩:=cf2 i.out
         go_wp2
         refine bodyPost_ret (results_ct rfl _ _ ah 65 #[.int .i64 0,.slice none 0 0] (0,0) _ rfl (bz i) Tryz.underlying65 rfl (by kernel_rfl)) rfl ?_
         exact⟨_,er,qk,bel⟩
        ·replace H:=i0 H;obtain⟨cg,H⟩:=H
         have bX:=am (of_decide_eq_true cg)
         clear cg
         generalize hy703:(r++[(⟨wrap64 (2+q),1,wrap64 (ax-(rd O q))⟩:S71)]:List (S71))=bV at H
         have b4:=am hy703.symm
         clear hy703
         replace H:=am H
         have:(0≤(q:Int))=True:=ab
         have:(q<(O.length:Int))=True:=ab
         obtain⟨aY,aA,aH⟩:=Kd.at_int (Kd.R_reads' P.out).2.2 q asm asm
         cases aA
         obtain⟨_,_⟩:=qo J
         obtain⟨_,_⟩:=qo L
         obtain⟨_,_,_,_⟩:=cf2 j.out
         go_wp2_with (first|((with_reducible refine gate_builtin (b:=.append) (xs:=#[.tmp 76,.tmp 83]) rfl ?_);at_builtin;refine Kd.R_append k71 (w0:=w) w.heap.size rfl (.tmp 76) (.tmp 83) 63 71 (.agg #[(.int .i64 0),(.int .i64 0),(.int .i64 0)]) 24 rfl Tryz.underlying63 info71 rfl (by decide) (by omega) u690001 r (⟨wrap64 (2+q),1,wrap64 (ax-(rd O q))⟩:S71) [.int .i64 (wrap64 (2+q)),.int .i64 1,.int .i64 (wrap64 (ax-(rd O q)))] (fun _=>True) (fun _=>False) rfl rfl ?aP (fun _ hk=>hk.elim) ?aF ?aO ?aB ?aS ?aL ?_;(case aP=>exact k71_mkM _ _ _ (⟨wrap64 (2+q),1,wrap64 (ax-(rd O q))⟩:S71));(case aB=>exact bel);(case aF=>exact(fun _ _=>trivial));(case aO=>exact(rk a.out));(case aS=>exact(below_size bel));(case aL=>have:=bX.out;omega);intro da dh ho hb hg hat;rw[←b4.out]at ho;have bM:=am (Kd.R_over' (rk P.out) (Kd.R_typed (rk a.out)) (by decide) hg);have bN:=am (blk_grown (g:=t) (o:=.cells #[.slice U l.length aa,.int .i64 B,.int .i64 D,.int .i64 E,.slice W v.length ac,.bool G,.slice X x.length ad,.slice Y y.length ae,.slice Z z.length af] 35 (0,0)) (bk d.out) hg (Kd.R_ne a.out d.out (by decide)));have bO:=am (blk_grown (g:=ah) (o:=.cells #[.int .i64 A,.slice none 0 0] 65 (0,0)) (bk i.out) hg (Kd.R_ne a.out i.out (by decide)));have bP:=am (blk_grown (g:=az) (o:=.cells #[.int .i64 (wrap64 ((wrap64 (2+(l.length:Int)))+(m.length:Int))),u690001] 65 (0,0)) (bk j.out) hg (Kd.R_ne a.out j.out (by decide)));have bQ:=am (hb);have bR:=am (ho);clear P;clear d;clear i;clear j;clear HB;clear a;have P:=bM;have d:=bN;have i:=bO;have j:=bP;have HB:=bQ;have aW:=bR;clear bM bN bO bP bQ bR;clear ho hb hg hat;obtain⟨cd,cn,cu⟩:=Kd.R_slice aW.out;subst cu;obtain⟨_,_,_,_⟩:=cf2 j.out))
         go_roundg k2
         case measure=>have:=aT.out;have:=bT.out;omega
         case rel=>exact⟨(wrap64 (q+1)),(A),(bV),(.slice cd bV.length cn),(es),H,⟨by have:=aT.out;have:=bT.out;omega⟩,⟨(kf (Kd.R_types P.out j.out (by decide)) (fun _ hk=>trivial))⟩,⟨(kf (Kd.R_types aW.out j.out (by decide)) (fun _ hk=>trivial))⟩,⟨bk d.out⟩,⟨bk i.out⟩,⟨(bz j)⟩,⟨bel⟩⟩
      ·obtain⟨rfl,rfl,rfl⟩:=qj3 H
       obtain⟨_,_⟩:=qo J
       obtain⟨_,_⟩:=qo L
       obtain⟨_,_,_,_⟩:=cf2 j.out
       obtain⟨_,_⟩:=qo av
       obtain⟨_,_,_,_⟩:=cf2 i.out
       obtain⟨ce,co,cv⟩:=Kd.R_slice a.out
       subst cv
       go_wp2
       refine bodyPost_ret (results_ct rfl _ _ ah 65 #[.int .i64 (wrap64 ((wrap64 (2+(l.length:Int)))+(m.length:Int))),.slice ce r.length co] (0,0) _ rfl (bz i) Tryz.underlying65 rfl (by kernel_rfl)) rfl ?_
       exact⟨_,er,(kf (Kd.R_types a.out i.out (by decide)) (fun _ hk=>trivial)),bel⟩
def impl_NetOk.l0:Nat→List (S71)→Int→Int→Int→List (S71)→Option (Bool)
  |0,_,_,_,_,_=>none
  |k+1,x6,x7,x8,a,b=>if x8<x7 then(if 0≤x8 then(if x8<(x6.length:Int)then((impl_within.f ((rd_T71 x6 x8).f0) 0 (wrap64 (a-1))).bind fun d=>(if d=true then((impl_within.f ((rd_T71 x6 x8).f1) 0 (wrap64 (a-1))).bind fun e=>(if e=true then(if((rd_T71 x6 x8).f0)=((rd_T71 x6 x8).f1)then(some false)else((impl_within.f ((rd_T71 x6 x8).f2) 0 1000).bind fun g=>(if g=true then(impl_NetOk.l0 k x6 x7 (wrap64 (x8+1)) a b)else(some false))))else(some false)))else(some false)))else(none))else(none))else((impl_within.f a 2 40).bind fun c=>(if c=true then(some (decide ((b.length:Int)≤120)))else(some false)))
def impl_NetOk.f(k:Nat)(b:Int)(a:List (S71)):Option (Bool):=impl_NetOk.l0 k a (a.length:Int) 0 b a
theorem impl_NetOk.calls(k:Nat)(g:Int)(u:Option Addr)(v:Nat)(c:List (S71))(r:Bool)(w:World)(l:Kd.C k71 w u c.length c)(x:c.length≤v)(h:impl_NetOk.f k g c=some r):Calls Tryz.prog 71 #[.agg #[.int .i64 g,.slice u c.length v]] w fun e w'=>e=.returned (.bool r)∧Below w.heap.size w w':=by
 have T:=Tryz.underlying65
 have U:=Tryz.underlying71
 replace l:=am l
 replace x:=am x
 have HB:=qb w
 have H:=h
 unfold impl_NetOk.f at H
 clear h
 replace H:=am H
 go_enter Tryz.func71,Tryz.ntmps71
 go_wp2_with (first|((with_reducible refine gd 1 ?_);refine bx w 1 #[.int .i64 g,.slice u c.length v] 65 ?_;clear HB;intro G w2 a M HB;obtain⟨y,z,A,B⟩:=cf2 a.out))
 go_loopg [8] k (fun kq v8 w'=>∃(b:Int),v8=.int .i64 b∧Aside0 (impl_NetOk.l0 kq c (c.length:Int) b g c=some r)∧Aside0 (kq≤k)∧Aside0 (w'.heap[G]? =some (.cells #[.int .i64 g,(.slice u c.length v)] 65 (0,0)))∧Aside0 (Below w.heap.size w w'))
 case atStart=>exact⟨(0),(es),H,⟨Nat.le_refl _⟩,⟨bk a.out⟩,⟨bel⟩⟩
 case round=>
  clear H
  try clear y;try clear z;try clear A;try clear B
  obtain⟨b,rfl,HA,K,a,HB⟩:=hrel
  cases gk with
  |zero=>exact absurd HA.out (by simp [impl_NetOk.l0])
  |succ k1=>
   have H:=HA.out
   clear HA
   simp only[impl_NetOk.l0]at H
   replace H:=i1 H;obtain⟨L,H⟩|⟨L,H⟩:=H
   ·replace H:=i0 H;obtain⟨O,H⟩:=H
    replace H:=i0 H;obtain⟨P,H⟩:=H
    replace H:=bm H;obtain⟨X,A7,H⟩:=H
    replace H:=ib H;obtain⟨rfl,H⟩|⟨rfl,H⟩:=H
    ·replace H:=bm H;obtain⟨Y,A9,H⟩:=H
     replace H:=ib H;obtain⟨rfl,H⟩|⟨rfl,H⟩:=H
     ·replace H:=ie H;obtain⟨D,E,H⟩|⟨⟨aa,D,E⟩,H⟩:=H
      ·obtain rfl:=qj1 H
       have:(0≤(b:Int))=True:=ab
       have:(b<(c.length:Int))=True:=ab
       obtain⟨s,m,n,o,p⟩:=hc3 HB.out (at_T71 l.out b asm asm)
       cases m
       go_wp2_with (first|((with_reducible refine gd 4 ?_);refine by_ w 4 #[.int .i64 0,.int .i64 0,.int .i64 0] 71 ?_;clear HB;intro t hg ac i q hb HB;obtain⟨j,d⟩:=qn hg a;replace a:=b1 a hb;clear hb hg;obtain⟨_,_⟩:=qo d;obtain⟨_,_,_,_,_,_⟩:=cf3 i.out;obtain⟨_,_,_,_⟩:=cf2 a.out)|((with_reducible refine gc 72 ?_);refine gl 17 Tryz.func72 (impl_within.calls ((rd_T71 c b).f0) 0 (wrap64 (g-1)) true _ A7.out) ?_;rintro e w' ⟨rfl,⟨nd,rfl⟩⟩;refine⟨_,rfl,?_⟩)|(go_at_call 72;refine cm1 (impl_within.calls ((rd_T71 c b).f1) 0 (wrap64 (g-1)) true _ A9.out) ?_;intro nd))
       go_ret
       exact⟨er,bel⟩
      ·replace H:=bm H;obtain⟨Z,I,H⟩:=H
       replace H:=ib H;obtain⟨rfl,H⟩|⟨rfl,H⟩:=H
       ·replace H:=am H
        have:(0≤(b:Int))=True:=ab
        have:(b<(c.length:Int))=True:=ab
        obtain⟨s,m,n,o,p⟩:=hc3 HB.out (at_T71 l.out b asm asm)
        cases m
        go_wp2_with (first|((with_reducible refine gd 4 ?_);refine by_ w 4 #[.int .i64 0,.int .i64 0,.int .i64 0] 71 ?_;clear HB;intro t hg ad i q hb HB;obtain⟨j,d⟩:=qn hg a;replace a:=b1 a hb;clear hb hg;obtain⟨_,_⟩:=qo d;obtain⟨_,_,_,_,_,_⟩:=cf3 i.out;obtain⟨_,_,_,_⟩:=cf2 a.out)|((with_reducible refine gc 72 ?_);refine gl 17 Tryz.func72 (impl_within.calls ((rd_T71 c b).f0) 0 (wrap64 (g-1)) true _ A7.out) ?_;rintro e w' ⟨rfl,⟨nd,rfl⟩⟩;refine⟨_,rfl,?_⟩)|(go_at_call 72;refine cm1 (impl_within.calls ((rd_T71 c b).f1) 0 (wrap64 (g-1)) true _ A9.out) ?_;intro nd)|(go_at_call 72;refine cm1 (impl_within.calls ((rd_T71 c b).f2) 0 1000 true _ I.out) ?_;intro nd))
        go_roundg k1
        case measure=>have:=K.out;omega
        case rel=>exact⟨(wrap64 (b+1)),(es),H,⟨by have:=K.out;omega⟩,⟨bk a.out⟩,⟨bel⟩⟩
       ·obtain rfl:=qj1 H
        have:(0≤(b:Int))=True:=ab
        have:(b<(c.length:Int))=True:=ab
        obtain⟨s,m,n,o,p⟩:=hc3 HB.out (at_T71 l.out b asm asm)
        cases m
        go_wp2_with (first|((with_reducible refine gd 4 ?_);refine by_ w 4 #[.int .i64 0,.int .i64 0,.int .i64 0] 71 ?_;clear HB;intro t hg ae i q hb HB;obtain⟨j,d⟩:=qn hg a;replace a:=b1 a hb;clear hb hg;obtain⟨_,_⟩:=qo d;obtain⟨_,_,_,_,_,_⟩:=cf3 i.out;obtain⟨_,_,_,_⟩:=cf2 a.out)|((with_reducible refine gc 72 ?_);refine gl 17 Tryz.func72 (impl_within.calls ((rd_T71 c b).f0) 0 (wrap64 (g-1)) true _ A7.out) ?_;rintro e w' ⟨rfl,⟨nd,rfl⟩⟩;refine⟨_,rfl,?_⟩)|(go_at_call 72;refine cm1 (impl_within.calls ((rd_T71 c b).f1) 0 (wrap64 (g-1)) true _ A9.out) ?_;intro nd)|(go_at_call 72;refine cm1 (impl_within.calls ((rd_T71 c b).f2) 0 1000 false _ I.out) ?_;intro nd))
        go_ret
        exact⟨er,bel⟩
     ·obtain rfl:=qj1 H
      have:(0≤(b:Int))=True:=ab
      have:(b<(c.length:Int))=True:=ab
      obtain⟨s,m,n,o,p⟩:=hc3 HB.out (at_T71 l.out b asm asm)
      cases m
      go_wp2_with (first|((with_reducible refine gd 4 ?_);refine by_ w 4 #[.int .i64 0,.int .i64 0,.int .i64 0] 71 ?_;clear HB;intro t hg af i q hb HB;obtain⟨j,d⟩:=qn hg a;replace a:=b1 a hb;clear hb hg;obtain⟨_,_⟩:=qo d;obtain⟨_,_,_,_,_,_⟩:=cf3 i.out;obtain⟨_,_,_,_⟩:=cf2 a.out)|((with_reducible refine gc 72 ?_);refine gl 17 Tryz.func72 (impl_within.calls ((rd_T71 c b).f0) 0 (wrap64 (g-1)) true _ A7.out) ?_;rintro e w' ⟨rfl,⟨nd,rfl⟩⟩;refine⟨_,rfl,?_⟩)|(go_at_call 72;refine cm1 (impl_within.calls ((rd_T71 c b).f1) 0 (wrap64 (g-1)) false _ A9.out) ?_;intro nd))
      go_ret
      exact⟨er,bel⟩
    ·obtain rfl:=qj1 H
     have:(0≤(b:Int))=True:=ab
     have:(b<(c.length:Int))=True:=ab
     obtain⟨s,m,n,o,p⟩:=hc3 HB.out (at_T71 l.out b asm asm)
     cases m
     go_wp2_with (first|((with_reducible refine gd 4 ?_);refine by_ w 4 #[.int .i64 0,.int .i64 0,.int .i64 0] 71 ?_;clear HB;intro t hg ag i q hb HB;obtain⟨j,d⟩:=qn hg a;replace a:=b1 a hb;clear hb hg;obtain⟨_,_⟩:=qo d;obtain⟨_,_,_,_,_,_⟩:=cf3 i.out;obtain⟨_,_,_,_⟩:=cf2 a.out)|((with_reducible refine gc 72 ?_);refine gl 17 Tryz.func72 (impl_within.calls ((rd_T71 c b).f0) 0 (wrap64 (g-1)) false _ A7.out) ?_;rintro e w' ⟨rfl,⟨nd,rfl⟩⟩;refine⟨_,rfl,?_⟩))
     go_ret
     exact⟨er,bel⟩
   ·replace H:=bm H;obtain⟨W,J,H⟩:=H
    replace H:=ib H;obtain⟨rfl,H⟩|⟨rfl,H⟩:=H
    ·obtain rfl:=qj1 H
     obtain⟨_,_,_,_⟩:=cf2 a.out
     go_wp2_with (first|((with_reducible refine gc 72 ?_);refine gl 44 Tryz.func72 (impl_within.calls g 2 40 true _ J.out) ?_;rintro e w' ⟨rfl,⟨nd,rfl⟩⟩;refine⟨_,rfl,?_⟩))
     go_ret
     exact⟨er,bel⟩
    ·obtain rfl:=qj1 H
     obtain⟨_,_,_,_⟩:=cf2 a.out
     go_wp2_with (first|((with_reducible refine gc 72 ?_);refine gl 44 Tryz.func72 (impl_within.calls g 2 40 false _ J.out) ?_;rintro e w' ⟨rfl,⟨nd,rfl⟩⟩;refine⟨_,rfl,?_⟩))
     go_ret
     exact⟨er,bel⟩
end Go.Proofs.YtgalpgakdcfilaaGreat.L
