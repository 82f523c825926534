-- Written by a program of this session (wip/xp.py).
import Derived.Test.YtgalpgakdcfilaaGreatL0
import Derived.Test.YtgalpgakdcfilaaGreatL21
namespace Go.Proofs.YtgalpgakdcfilaaGreat.L
open Go.RowKit Go.Proofs.YtgalpgakdcfilaaGreatW.PrintWords Go.Proofs.YtgalpgakdcfilaaGreatW.PrintLast Go.Proofs.YtgalpgakdcfilaaGreatW.PrintMore
attribute [local go_sem] max2_int min2_int max_two min_two max_three min_three max_four min_four
set_option linter.unusedVariables false
set_option linter.unusedSimpArgs false
set_option maxHeartbeats 8000000
set_option maxRecDepth 100000
def spec_l06Add.fin(l1:List (S112))(a b p0 p1 p2 p3 p4 p5 p6 q0 q1 q2 q3 q4 q5 q6:Int):Option (List (S112)):=(if 0≤a then(if a<(l1.length:Int)then((spec_AddRows.f ((rd_T112 l1 a).f0) ((rd_T112 l1 a).f1) ((rd_T112 l1 a).f2) ((rd_T112 l1 a).f3) ((rd_T112 l1 a).f4) ((rd_T112 l1 a).f5) ((rd_T112 l1 a).f6) p0 p1 p2 p3 p4 p5 p6).bind fun c=>((some (l1.set (a:Int).toNat (⟨c.1,c.2.1,c.2.2.1,c.2.2.2.1,c.2.2.2.2.1,c.2.2.2.2.2.1,c.2.2.2.2.2.2⟩:S112):List (S112))).bind fun e=>(if 0≤b then(if b<(l1.length:Int)then((spec_AddRows.f ((rd_T112 e b).f0) ((rd_T112 e b).f1) ((rd_T112 e b).f2) ((rd_T112 e b).f3) ((rd_T112 e b).f4) ((rd_T112 e b).f5) ((rd_T112 e b).f6) q0 q1 q2 q3 q4 q5 q6).bind fun d=>(some (e.set (b:Int).toNat (⟨d.1,d.2.1,d.2.2.1,d.2.2.2.1,d.2.2.2.2.1,d.2.2.2.2.2.1,d.2.2.2.2.2.2⟩:S112))))else(none))else(none))))else(none))else(none))
def spec_l06Add.f(e:Int)(g:Int)(h:Int)(m:List Int)(l:Bool)(l1:List (S112))(b:Int)(c:Int)(i:Int)(j:Int)(k:Int):Option ((List (S112))):=(spec_GoalsOf.f b c i j k).bind fun a=>(if a.2.2=true then((spec_OutcomeOf.f b c i j k).bind fun d=>(if d=1 then(spec_l06Add.fin l1 b c 1 1 0 0 a.1 a.2.1 e 1 0 0 1 a.2.1 a.1 h)else(if d=2 then(spec_l06Add.fin l1 b c 1 0 1 0 a.1 a.2.1 g 1 0 1 0 a.2.1 a.1 g)else(if d=3 then(spec_l06Add.fin l1 b c 1 0 0 1 a.1 a.2.1 h 1 1 0 0 a.2.1 a.1 e)else(spec_l06Add.fin l1 b c 1 0 0 0 a.1 a.2.1 0 1 0 0 0 a.2.1 a.1 0)))))else(some l1))
def spec_l06Add.T21:Bool×List (List Nat×List Nat):=(true,[([],[]),([],[]),([1],[1]),([],[]),([],[]),([4],[4]),([3,5],[3,5]),([6],[6]),([],[]),([7,8],[7,8]),([0,2,0,1,2,3,4,5,6,7,8,9],[0,2]),([10,9,9,0,1,2,3,4,5,6,7,8,9],[9,10])])
def spec_l06Add.B21:List Nat:=[0,0,2,0,0,16,56,120,0,504,1023,2047]
theorem spec_l06Add.tab21:rtab .any (opsOf Tryz.f87 21)=spec_l06Add.T21:=by kernel_rfl
theorem spec_l06Add.bits21:waitsOk spec_l06Add.T21.2 spec_l06Add.B21=true:=by kernel_rfl
def spec_l06Add.T22:Bool×List (List Nat×List Nat):=(true,[([],[]),([],[]),([1],[1]),([],[]),([],[]),([4],[4]),([3,5],[3,5]),([6],[6]),([],[]),([7,8],[7,8]),([0,2,0,1,2,3,4,5,6,7,8,9],[0,2]),([10,9,9,0,1,2,3,4,5,6,7,8,9],[9,10])])
def spec_l06Add.B22:List Nat:=[0,0,2,0,0,16,56,120,0,504,1023,2047]
theorem spec_l06Add.tab22:rtab .any (opsOf Tryz.f87 22)=spec_l06Add.T22:=by kernel_rfl
theorem spec_l06Add.bits22:waitsOk spec_l06Add.T22.2 spec_l06Add.B22=true:=by kernel_rfl
theorem spec_l06Add.calls(ai:Int)(aj:Int)(ak:Int)(az:Option Addr)(aB:Nat)(ao:List Int)(aA:Bool)(D:Nat→Prop)(ap:Value)(l1:List (S112))(c:Int)(k:Int)(P:Int)(T:Int)(U:Int)(r:List (S112))(w0 w:World)(hB:Below w0.heap.size w0 w)(bj:∀W_,Kept w W_ (fun k_=>D k_)→Kd.C (Kd.int .i64) W_ az ao.length ao)(bg:ao.length≤aB)(cU:Kd.R k112 112 w w0.heap.size D ap l1)(h:spec_l06Add.f ai aj ak ao aA l1 c k P T U=some r):Calls Tryz.prog 87 #[.agg #[.int .i64 ai,.int .i64 aj,.int .i64 ak,.slice az ao.length aB,.bool aA],ap,.agg #[.int .i64 c,.int .i64 k,.int .i64 P,.int .i64 T,.int .i64 U]] w fun e w'=>e=.returned (.tuple #[])∧Kd.R k112 112 w' w0.heap.size (fun k_=>(D k_∨w.heap.size≤k_)) ap r∧Below w0.heap.size w0 w'∧Kept w w' (fun k_=>D k_):=by
 have dg:=Tryz.underlying32
 have dh:=Tryz.underlying79
 have cV:=Tryz.underlying112
 replace bj:=am bj
 replace bg:=am bg
 have q:=am (show Kd.R k112 112 w w0.heap.size (fun k_=>(D k_∨w.heap.size≤k_)) ap l1 from Kd.R_mono cU (fun k_ hk=>(.inl hk)))
 have HK:=am (Kept.refl w (fun k_=>D k_))
 have dn:=am hB.size
 have HB:=am hB
 clear hB
 have H:=h
 unfold spec_l06Add.f at H
 clear h
 replace H:=bm H;obtain⟨⟨L,M,di⟩,A4,H⟩:=H;dsimp only at H
 replace H:=ib H;obtain⟨rfl,H⟩|⟨rfl,H⟩:=H
 ·replace H:=bm H;obtain⟨G,A6,H⟩:=H
  have HC_:=am H
  clear H
  go_enter Tryz.func87,Tryz.ntmps87
  go_upto_block 0 with (first|((with_reducible refine gd 3 ?_);refine bv 3 #[.int .i64 ai,.int .i64 aj,.int .i64 ak,.slice az ao.length aB,.bool aA] 32 ?_;intro an hg dp hbox hb;have l:=am (hbox);have y:=am ((by rw[hg];exact(by first|exact HK.out.1|exact(show Kept w _ (fun k_=>D k_)from by repeat (first|(with_reducible first|exact HK.out|apply Kept.alloc|apply Kept.drewN|apply Kept.drew)|exact HK.out)).1):w.heap.size≤an));have aU:=am ((bsz hg:w0.heap.size≤an));replace q:=rb q hb;replace HK:=am (Kept.below (S:=(fun k_=>D k_)) (by repeat (first|(with_reducible first|exact HK.out|apply Kept.alloc|apply Kept.drewN|apply Kept.drew)|exact HK.out)) hb);replace HB:=b2 hb;clear hb hbox hg)|((with_reducible refine gd 5 ?_);refine bv 5 #[.int .i64 c,.int .i64 k,.int .i64 P,.int .i64 T,.int .i64 U] 79 ?_;intro B hg dq hbox hb;have d:=am (hbox);have A:=am ((by rw[hg];exact(by first|exact HK.out.1|exact(show Kept w _ (fun k_=>D k_)from by repeat (first|(with_reducible first|exact HK.out|apply Kept.alloc|apply Kept.drewN|apply Kept.drew|refine Kept.setCell ?_ (.inr y.out) _)|exact HK.out)).1):w.heap.size≤B));have aV:=am ((bsz hg:w0.heap.size≤B));obtain⟨a3,al⟩:=qn hg l;replace q:=rb q hb;replace l:=b1 l hb;replace HK:=am (Kept.below (S:=(fun k_=>D k_)) (by repeat (first|(with_reducible first|exact HK.out|apply Kept.alloc|apply Kept.drewN|apply Kept.drew|refine Kept.setCell ?_ (.inr y.out) _)|exact HK.out)) hb);replace HB:=b2 hb;clear hb hbox hg;obtain⟨_,_⟩:=qo al;obtain⟨_,_,_,_,_,_,_,_,_,_⟩:=cf5 d.out)|((with_reducible refine gc 100 ?_);refine gl 13 Tryz.func100 (spec_GoalsOf.calls c k P T U L M true _ A4.out) ?_;rintro e dr ⟨rfl,hb⟩;refine⟨_,rfl,?_⟩;replace q:=rb q hb;replace l:=b1 l hb;replace d:=b1 d hb;replace HK:=am (Kept.below (S:=(fun k_=>D k_)) (by repeat (first|(with_reducible first|exact HK.out|apply Kept.alloc|apply Kept.drewN|apply Kept.drew|refine Kept.setCell ?_ (.inr y.out) _|refine Kept.setCell ?_ (.inr A.out) _)|exact HK.out)) hb);replace HB:=b2 hb;(try clear hb))|((with_reducible refine gd 9 ?_);refine bv 9 #[.int .i64 0,.int .i64 0,.int .i64 0,.int .i64 0,.int .i64 0,.int .i64 0,.int .i64 0] 112 ?_;intro t hg dt hbox hb;have m:=am (hbox);have I:=am ((by rw[hg];exact(by first|exact HK.out.1|exact(show Kept w _ (fun k_=>D k_)from by repeat (first|(with_reducible first|exact HK.out|apply Kept.alloc|apply Kept.drewN|apply Kept.drew|refine Kept.setCell ?_ (.inr y.out) _|refine Kept.setCell ?_ (.inr A.out) _)|exact HK.out)).1):w.heap.size≤t));have be:=am ((bsz hg:w0.heap.size≤t));obtain⟨bK,a4⟩:=qn hg l;obtain⟨bM,a5⟩:=qn hg d;replace q:=am (Kd.R_below (Kd.R_elderB (rk q.out) t (Nat.le_of_eq hg.symm)) hb);replace l:=b1 l hb;replace d:=b1 d hb;replace HK:=am (Kept.below (S:=(fun k_=>D k_)) (by repeat (first|(with_reducible first|exact HK.out|apply Kept.alloc|apply Kept.drewN|apply Kept.drew|refine Kept.setCell ?_ (.inr y.out) _|refine Kept.setCell ?_ (.inr A.out) _)|exact HK.out)) hb);replace HB:=b2 hb;clear hb hbox hg;obtain⟨_,_⟩:=qo a4;obtain⟨_,_⟩:=qo a5;obtain⟨_,_,_,_,_,_,_,_,_,_,_,_,_,_⟩:=cf7 m.out)|((with_reducible refine gd 10 ?_);refine bv 10 #[.int .i64 0,.int .i64 0,.int .i64 0,.int .i64 0,.int .i64 0,.int .i64 0,.int .i64 0] 112 ?_;intro v hg du hbox hb;have s:=am (hbox);have O:=am ((by rw[hg];exact(show Kept w _ (fun k_=>D k_)from by repeat (first|(with_reducible first|exact HK.out|apply Kept.alloc|apply Kept.drewN|apply Kept.drew|refine Kept.setCell ?_ (.inr y.out) _|refine Kept.setCell ?_ (.inr A.out) _|refine Kept.setCell ?_ (.inr I.out) _)|exact HK.out)).1:w.heap.size≤v));have bf:=am ((bsz hg:w0.heap.size≤v));obtain⟨bL,a6⟩:=qn hg l;obtain⟨bN,a7⟩:=qn hg d;have bO:=am ((by rw[hg];exact Nat.ne_of_lt (blk_lt (g:=t) (o:=.cells #[.int .i64 1,.int .i64 0,.int .i64 0,.int .i64 0,.int .i64 L,.int .i64 M,.int .i64 0] 112 (0,0)) (bz m)):t≠v));have a8:=am ((by rw[hg];exact Nat.ne_of_gt (blk_lt (g:=t) (o:=.cells #[.int .i64 1,.int .i64 0,.int .i64 0,.int .i64 0,.int .i64 L,.int .i64 M,.int .i64 0] 112 (0,0)) (bz m)):v≠t));replace q:=am (Kd.R_below (Kd.R_elderB (by exact rk (Kd.R_mono (Kd.R_far (p:=⟨t,6,none⟩) (Kd.R_far (p:=⟨t,5,none⟩) (Kd.R_far (p:=⟨t,4,none⟩) (Kd.R_far (p:=⟨t,3,none⟩) (Kd.R_far (p:=⟨t,2,none⟩) (Kd.R_far (p:=⟨t,1,none⟩) (Kd.R_far (p:=⟨t,0,none⟩) (Kd.R_mono q.out (fun k_ hk=>(⟨hk,hk.2⟩:_∧k_≠t))) (fun _ hk=>hk.2) (.int .i64 1)) (fun _ hk=>hk.2) (.int .i64 0)) (fun _ hk=>hk.2) (.int .i64 0)) (fun _ hk=>hk.2) (.int .i64 0)) (fun _ hk=>hk.2) (.int .i64 L)) (fun _ hk=>hk.2) (.int .i64 M)) (fun _ hk=>hk.2) (.int .i64 0)) (fun _ h_=>h_.1))) v (Nat.le_of_eq hg.symm)) hb);replace l:=b1 l hb;replace d:=b1 d hb;replace m:=bq m hb;replace HK:=am (Kept.below (S:=(fun k_=>D k_)) (by repeat (first|(with_reducible first|exact HK.out|apply Kept.alloc|apply Kept.drewN|apply Kept.drew|refine Kept.setCell ?_ (.inr y.out) _|refine Kept.setCell ?_ (.inr A.out) _|refine Kept.setCell ?_ (.inr I.out) _)|exact HK.out)) hb);replace HB:=b2 hb;clear hb hbox hg;obtain⟨_,_⟩:=qo a6;obtain⟨_,_⟩:=qo a7;obtain⟨_,_⟩:=qo a8;obtain⟨_,_,_,_,_,_,_,_,_,_,_,_,_,_⟩:=cf7 s.out;obtain⟨_,_,_,_,_,_,_,_,_,_⟩:=cf5 d.out)|((with_reducible refine gc 101 ?_);refine gl 26 Tryz.func101 (spec_OutcomeOf.calls c k P T U G _ A6.out) ?_;rintro e dv ⟨rfl,hb⟩;refine⟨_,rfl,?_⟩;replace q:=am (Kd.R_below (by exact rk (Kd.R_mono (Kd.R_far (p:=⟨v,6,none⟩) (Kd.R_far (p:=⟨v,5,none⟩) (Kd.R_far (p:=⟨v,4,none⟩) (Kd.R_far (p:=⟨v,3,none⟩) (Kd.R_far (p:=⟨v,2,none⟩) (Kd.R_far (p:=⟨v,1,none⟩) (Kd.R_far (p:=⟨v,0,none⟩) (Kd.R_mono q.out (fun k_ hk=>(⟨hk,hk.2⟩:_∧k_≠v))) (fun _ hk=>hk.2) (.int .i64 1)) (fun _ hk=>hk.2) (.int .i64 0)) (fun _ hk=>hk.2) (.int .i64 0)) (fun _ hk=>hk.2) (.int .i64 0)) (fun _ hk=>hk.2) (.int .i64 M)) (fun _ hk=>hk.2) (.int .i64 L)) (fun _ hk=>hk.2) (.int .i64 0)) (fun _ h_=>h_.1))) hb);replace l:=b1 l hb;replace d:=b1 d hb;replace m:=b1 m hb;replace s:=bq s hb;replace HK:=am (Kept.below (S:=(fun k_=>D k_)) (by repeat (first|(with_reducible first|exact HK.out|apply Kept.alloc|apply Kept.drewN|apply Kept.drew|refine Kept.setCell ?_ (.inr y.out) _|refine Kept.setCell ?_ (.inr A.out) _|refine Kept.setCell ?_ (.inr I.out) _|refine Kept.setCell ?_ (.inr O.out) _)|exact HK.out)) hb);replace HB:=b2 hb;(try clear hb);obtain⟨_,_,_,_,_,_,_,_,_,_,_,_,_,_⟩:=cf7 m.out;obtain⟨_,_,_,_,_,_,_,_,_,_,_,_,_,_⟩:=cf7 s.out;obtain⟨_,_,_,_,_,_,_,_,_,_⟩:=cf5 l.out))
  (try simp only[Act.put,List.setIfInBounds_toArray,List.set_cons_zero,List.set_cons_succ])
  go_cut [] (fun wc=>∃p0 p1 p2 p3 p4 p5 p6 q0 q1 q2 q3 q4 q5 q6:Int,Aside0 (spec_l06Add.fin l1 c k p0 p1 p2 p3 p4 p5 p6 q0 q1 q2 q3 q4 q5 q6=some r)∧Aside0 (Kd.R k112 112 wc w0.heap.size (fun k_=>(D k_∨w.heap.size≤k_)∧k_≠t∧k_≠v) ap l1)∧Aside0 (wc.heap[an]? =some (.cells #[.int .i64 ai,.int .i64 aj,.int .i64 ak,.slice az ao.length aB,.bool aA] 32 (0,0)))∧Aside0 (wc.heap[B]? =some (.cells #[.int .i64 c,.int .i64 k,.int .i64 P,.int .i64 T,.int .i64 U] 79 (0,0)))∧Aside0 (wc.heap[t]? =some (.cells #[.int .i64 p0,.int .i64 p1,.int .i64 p2,.int .i64 p3,.int .i64 p4,.int .i64 p5,.int .i64 p6] 112 (0,0)))∧Aside0 (wc.heap[v]? =some (.cells #[.int .i64 q0,.int .i64 q1,.int .i64 q2,.int .i64 q3,.int .i64 q4,.int .i64 q5,.int .i64 q6] 112 (0,0)))∧Aside0 (Kept w wc (fun k_=>D k_))∧Aside0 (Below w0.heap.size w0 wc))
  case first=>
   have H:=HC_.out
   clear HC_
   by_cases aC:G=1
   ·rw[if_pos aC]at H
    have bZ:=(beq_iff_eq (a:=G) (b:=1)).mpr aC
    have b0:(G != 1)=false:=bne_eq_false_iff_eq.mpr aC
    clear aC
    have HF_:=am H
    clear H
    go_wp2
    go_meet
    case rel=>
     exact⟨1,1,0,0,L,M,ai,1,0,0,1,M,L,ak,HF_,⟨by(with_reducible repeat (first|apply Kd.R_alloc|apply Kd.R_drewN|apply Kd.R_drew));exact Kd.R_mono (Kd.R_far (p:=⟨v,6,none⟩) (Kd.R_far (p:=⟨t,6,none⟩) (Kd.R_far (p:=⟨v,3,none⟩) (Kd.R_far (p:=⟨t,1,none⟩) (Kd.R_mono (Kd.R_mono q.out (fun k_ hk=>(⟨hk,hk.1.2⟩:_∧k_≠t))) (fun k_ hk=>(⟨hk,hk.1.2⟩:_∧k_≠v))) (fun _ hk=>hk.1.2) (.int .i64 1)) (fun _ hk=>hk.2) (.int .i64 1)) (fun _ hk=>hk.1.2) (.int .i64 ai)) (fun _ hk=>hk.2) (.int .i64 ak)) (fun _ hk=>⟨hk.1.1.1.1,⟨hk.1.1.1.2,hk.1.1.2⟩⟩)⟩,⟨bk l.out⟩,⟨bk d.out⟩,⟨(bz m)⟩,⟨(bz s)⟩,⟨by repeat (first|(with_reducible first|exact HK.out|apply Kept.alloc|apply Kept.drewN|apply Kept.drew|refine Kept.setCell ?_ (.inr y.out) _|refine Kept.setCell ?_ (.inr A.out) _|refine Kept.setCell ?_ (.inr I.out) _|refine Kept.setCell ?_ (.inr O.out) _)|exact HK.out)⟩,⟨bel⟩⟩
   rw[if_neg aC]at H
   have bZ:(G==1)=false:=beq_eq_false_iff_ne.mpr aC
   have b0:(G != 1)=true:=bne_iff_ne.mpr aC
   clear aC
   by_cases aD:G=2
   ·rw[if_pos aD]at H
    have b3:=(beq_iff_eq (a:=G) (b:=2)).mpr aD
    have b4:(G != 2)=false:=bne_eq_false_iff_eq.mpr aD
    clear aD
    have HF_:=am H
    clear H
    go_wp2
    go_meet
    case rel=>
     exact⟨1,0,1,0,L,M,aj,1,0,1,0,M,L,aj,HF_,⟨by(with_reducible repeat (first|apply Kd.R_alloc|apply Kd.R_drewN|apply Kd.R_drew));exact Kd.R_mono (Kd.R_far (p:=⟨v,6,none⟩) (Kd.R_far (p:=⟨t,6,none⟩) (Kd.R_far (p:=⟨v,2,none⟩) (Kd.R_far (p:=⟨t,2,none⟩) (Kd.R_mono (Kd.R_mono q.out (fun k_ hk=>(⟨hk,hk.1.2⟩:_∧k_≠t))) (fun k_ hk=>(⟨hk,hk.1.2⟩:_∧k_≠v))) (fun _ hk=>hk.1.2) (.int .i64 1)) (fun _ hk=>hk.2) (.int .i64 1)) (fun _ hk=>hk.1.2) (.int .i64 aj)) (fun _ hk=>hk.2) (.int .i64 aj)) (fun _ hk=>⟨hk.1.1.1.1,⟨hk.1.1.1.2,hk.1.1.2⟩⟩)⟩,⟨bk l.out⟩,⟨bk d.out⟩,⟨(bz m)⟩,⟨(bz s)⟩,⟨by repeat (first|(with_reducible first|exact HK.out|apply Kept.alloc|apply Kept.drewN|apply Kept.drew|refine Kept.setCell ?_ (.inr y.out) _|refine Kept.setCell ?_ (.inr A.out) _|refine Kept.setCell ?_ (.inr I.out) _|refine Kept.setCell ?_ (.inr O.out) _)|exact HK.out)⟩,⟨bel⟩⟩
   rw[if_neg aD]at H
   have b3:(G==2)=false:=beq_eq_false_iff_ne.mpr aD
   have b4:(G != 2)=true:=bne_iff_ne.mpr aD
   clear aD
   by_cases aE:G=3
   ·rw[if_pos aE]at H
    have b5:=(beq_iff_eq (a:=G) (b:=3)).mpr aE
    have b6:(G != 3)=false:=bne_eq_false_iff_eq.mpr aE
    clear aE
    have HF_:=am H
    clear H
    go_wp2
    go_meet
    case rel=>
     exact⟨1,0,0,1,L,M,ak,1,1,0,0,M,L,ai,HF_,⟨by(with_reducible repeat (first|apply Kd.R_alloc|apply Kd.R_drewN|apply Kd.R_drew));exact Kd.R_mono (Kd.R_far (p:=⟨v,6,none⟩) (Kd.R_far (p:=⟨t,6,none⟩) (Kd.R_far (p:=⟨v,1,none⟩) (Kd.R_far (p:=⟨t,3,none⟩) (Kd.R_mono (Kd.R_mono q.out (fun k_ hk=>(⟨hk,hk.1.2⟩:_∧k_≠t))) (fun k_ hk=>(⟨hk,hk.1.2⟩:_∧k_≠v))) (fun _ hk=>hk.1.2) (.int .i64 1)) (fun _ hk=>hk.2) (.int .i64 1)) (fun _ hk=>hk.1.2) (.int .i64 ak)) (fun _ hk=>hk.2) (.int .i64 ai)) (fun _ hk=>⟨hk.1.1.1.1,⟨hk.1.1.1.2,hk.1.1.2⟩⟩)⟩,⟨bk l.out⟩,⟨bk d.out⟩,⟨(bz m)⟩,⟨(bz s)⟩,⟨by repeat (first|(with_reducible first|exact HK.out|apply Kept.alloc|apply Kept.drewN|apply Kept.drew|refine Kept.setCell ?_ (.inr y.out) _|refine Kept.setCell ?_ (.inr A.out) _|refine Kept.setCell ?_ (.inr I.out) _|refine Kept.setCell ?_ (.inr O.out) _)|exact HK.out)⟩,⟨bel⟩⟩
   rw[if_neg aE]at H
   have b5:(G==3)=false:=beq_eq_false_iff_ne.mpr aE
   have b6:(G != 3)=true:=bne_iff_ne.mpr aE
   clear aE
   have HF_:=am H
   clear H
   go_wp2
   go_meet
   case rel=>
    exact⟨1,0,0,0,L,M,0,1,0,0,0,M,L,0,HF_,(by first|exact⟨rk q.out⟩|exact⟨Kd.R_mono (rk q.out) (fun _ hk=>⟨hk.1.1,hk.1.2,hk.2⟩)⟩),⟨bk l.out⟩,⟨bk d.out⟩,⟨bk m.out⟩,⟨bk s.out⟩,⟨by repeat (first|(with_reducible first|exact HK.out|apply Kept.alloc|apply Kept.drewN|apply Kept.drew|refine Kept.setCell ?_ (.inr y.out) _|refine Kept.setCell ?_ (.inr A.out) _|refine Kept.setCell ?_ (.inr I.out) _|refine Kept.setCell ?_ (.inr O.out) _)|exact HK.out)⟩,⟨bel⟩⟩
  case rest=>
   (try clear HC_)
   (try clear HC_)
   obtain⟨p0,p1,p2,p3,p4,p5,p6,q0,q1,q2,q3,q4,q5,q6,HF_,bB,a9,ba,bc,bd,HK_,HB_⟩:=hcut
   (try clear q)
   have q:=bB
   clear bB
   (try clear l)
   have l:=a9
   clear a9
   (try clear d)
   have d:=ba
   clear ba
   (try clear m)
   have m:=bc
   clear bc
   (try clear s)
   have s:=bd
   clear bd
   (try clear HK)
   have HK:=HK_
   clear HK_
   (try clear HB)
   have HB:=HB_
   clear HB_
   go_wp2
   have H:=HF_.out
   clear HF_
   unfold spec_l06Add.fin at H
   replace H:=i0 H;obtain⟨c0,H⟩:=H
   replace H:=i0 H;obtain⟨c1,H⟩:=H
   replace H:=bm H;obtain⟨⟨aF,aG,aH,aI,aJ,aK,aL⟩,cO,H⟩:=H;dsimp only at H
   replace H:=bs H;obtain⟨x,bl,H⟩:=H
   replace H:=i0 H;obtain⟨cQ,H⟩:=H
   replace H:=i0 H;obtain⟨cR,H⟩:=H
   replace H:=bm H;obtain⟨⟨aM,aN,aO,aP,aQ,aR,aS⟩,cP,H⟩:=H;dsimp only at H
   generalize hy303:(x.set (k:Int).toNat (⟨aM,aN,aO,aP,aQ,aR,aS⟩:S112):List (S112))=dm at H
   have bP:=am hy303.symm
   clear hy303
   obtain rfl:=qj1 H
   replace q:=rd1 q
   replace l:=am (blk_drew l.out)
   replace d:=am (blk_drew d.out)
   replace m:=am (blk_drew m.out)
   replace s:=am (blk_drew s.out)
   replace HK:=am (Kept.drew HK.out)
   replace HB:=am (below_drew1 HB.out)
   obtain⟨cY,bY,bE⟩:=Kd.R_slice q.out
   (first|subst bE|(injection bE with f1_ f2_ f3_;have cS:=f1_.symm;have cT:=f3_.symm;clear f1_ f2_ f3_;subst cS;subst cT))
   have:(0≤(c:Int))=True:=ab
   have:(c<(l1.length:Int))=True:=ab
   obtain⟨E,b7,aq,ar,au,av,aw,ax,ay⟩:=at_T112 (Kd.R_reads' q.out).2.2 c asm asm
   cases b7
   refine start_ (n:=12) (S:=fun w'=>w'.cell? ⟨B,0,none⟩=some (.int .i64 c)∧w'.cell? ⟨B,1,none⟩=some (.int .i64 k)∧w'.cell? ⟨B,2,none⟩=some (.int .i64 P)∧w'.cell? ⟨B,3,none⟩=some (.int .i64 T)∧w'.cell? ⟨B,4,none⟩=some (.int .i64 U)∧w'.cell? ⟨t,0,none⟩=some (.int .i64 p0)∧w'.cell? ⟨t,1,none⟩=some (.int .i64 p1)∧w'.cell? ⟨t,2,none⟩=some (.int .i64 p2)∧w'.cell? ⟨t,3,none⟩=some (.int .i64 p3)∧w'.cell? ⟨t,4,none⟩=some (.int .i64 p4)∧w'.cell? ⟨t,5,none⟩=some (.int .i64 p5)∧w'.cell? ⟨t,6,none⟩=some (.int .i64 p6)∧w'.cell? (E.add ((c).toNat*7))=some (.int .i64 ((rd_T112 l1 c).f0))∧w'.cell? ⟨(E.add ((c).toNat*7)).block,(E.add ((c).toNat*7)).off+1,none⟩=some (.int .i64 ((rd_T112 l1 c).f1))∧w'.cell? ⟨(E.add ((c).toNat*7)).block,(E.add ((c).toNat*7)).off+2,none⟩=some (.int .i64 ((rd_T112 l1 c).f2))∧w'.cell? ⟨(E.add ((c).toNat*7)).block,(E.add ((c).toNat*7)).off+3,none⟩=some (.int .i64 ((rd_T112 l1 c).f3))∧w'.cell? ⟨(E.add ((c).toNat*7)).block,(E.add ((c).toNat*7)).off+4,none⟩=some (.int .i64 ((rd_T112 l1 c).f4))∧w'.cell? ⟨(E.add ((c).toNat*7)).block,(E.add ((c).toNat*7)).off+5,none⟩=some (.int .i64 ((rd_T112 l1 c).f5))∧w'.cell? ⟨(E.add ((c).toNat*7)).block,(E.add ((c).toNat*7)).off+6,none⟩=some (.int .i64 ((rd_T112 l1 c).f6))) (ds:=[11]) (lb 12 0) (by kernel_rfl) rfl rfl ⟨qc d 0,qc d 1,qc d 2,qc d 3,qc d 4,qc m 0,qc m 1,qc m 2,qc m 3,qc m 4,qc m 5,qc m 6,aq,ar,au,av,aw,ax,ay⟩ (fun hHeld=>?_);refine with_tabW spec_l06Add.tab21 spec_l06Add.bits21 (fun HT_ HW_=>?_)
   generalize wc.drew=dw at q l d m s HK HB aq ar au av aw ax ay hHeld⊢
   refine pu HT_ 0 57 (lb 12 1) ?_
   refine pu HT_ 1 58 (lb 12 3) ?_
   refine pu HT_ 3 60 (lb 12 11) ?_
   refine pu HT_ 4 61 (lb 12 27) ?_
   refine tk HT_ HW_ hHeld 2 59 (lb 12 31) ?_
   refine tk HT_ HW_ hHeld 5 62 (lb 12 63) ?_
   refine pu HT_ 6 63 (lb 12 127) ?_
   refine tk HT_ HW_ hHeld 7 64 (lb 12 255) ?_
   refine tk HT_ HW_ hHeld 8 65 (lb 12 511) ?_
   refine on HT_ 9 66 (lb 12 1023) fun K hK=>?_
   refine goes_ Tryz.func102 (by kernel_rfl) rfl #[.agg #[.int .i64 ((rd_T112 l1 c).f0),.int .i64 ((rd_T112 l1 c).f1),.int .i64 ((rd_T112 l1 c).f2),.int .i64 ((rd_T112 l1 c).f3),.int .i64 ((rd_T112 l1 c).f4),.int .i64 ((rd_T112 l1 c).f5),.int .i64 ((rd_T112 l1 c).f6)],.agg #[.int .i64 p0,.int .i64 p1,.int .i64 p2,.int .i64 p3,.int .i64 p4,.int .i64 p5,.int .i64 p6]] (by rfl) rfl rfl ga ?_
   with_reducible refine(spec_AddRows.calls ((rd_T112 l1 c).f0) ((rd_T112 l1 c).f1) ((rd_T112 l1 c).f2) ((rd_T112 l1 c).f3) ((rd_T112 l1 c).f4) ((rd_T112 l1 c).f5) ((rd_T112 l1 c).f6) p0 p1 p2 p3 p4 p5 p6 aF aG aH aI aJ aK aL _ cO.out).mono ?_
   rintro e cX ⟨rfl,hb⟩
   have aW:=(hb.cell (World.block_lt_of_cell? _ _ (hHeld.2.2.2.2.2.2.2.2.2.2.2.2.1))).trans (hHeld.2.2.2.2.2.2.2.2.2.2.2.2.1)
   have aX:=(hb.cell (World.block_lt_of_cell? _ _ (hHeld.2.2.2.2.2.2.2.2.2.2.2.2.2.1))).trans (hHeld.2.2.2.2.2.2.2.2.2.2.2.2.2.1)
   have aY:=(hb.cell (World.block_lt_of_cell? _ _ (hHeld.2.2.2.2.2.2.2.2.2.2.2.2.2.2.1))).trans (hHeld.2.2.2.2.2.2.2.2.2.2.2.2.2.2.1)
   have aZ:=(hb.cell (World.block_lt_of_cell? _ _ (hHeld.2.2.2.2.2.2.2.2.2.2.2.2.2.2.2.1))).trans (hHeld.2.2.2.2.2.2.2.2.2.2.2.2.2.2.2.1)
   have a0:=(hb.cell (World.block_lt_of_cell? _ _ (hHeld.2.2.2.2.2.2.2.2.2.2.2.2.2.2.2.2.1))).trans (hHeld.2.2.2.2.2.2.2.2.2.2.2.2.2.2.2.2.1)
   have a1:=(hb.cell (World.block_lt_of_cell? _ _ (hHeld.2.2.2.2.2.2.2.2.2.2.2.2.2.2.2.2.2.1))).trans (hHeld.2.2.2.2.2.2.2.2.2.2.2.2.2.2.2.2.2.1)
   have a2:=(hb.cell (World.block_lt_of_cell? _ _ (hHeld.2.2.2.2.2.2.2.2.2.2.2.2.2.2.2.2.2.2))).trans (hHeld.2.2.2.2.2.2.2.2.2.2.2.2.2.2.2.2.2.2)
   refine⟨_,rfl,?_⟩
   replace q:=rb q hb
   replace l:=b1 l hb
   replace d:=b1 d hb
   replace m:=b1 m hb
   replace s:=b1 s hb
   replace HK:=am (Kept.below (S:=(fun k_=>D k_)) (by repeat (first|(with_reducible first|exact HK.out|apply Kept.alloc|apply Kept.drewN|apply Kept.drew|refine Kept.setCell ?_ (.inr y.out) _|refine Kept.setCell ?_ (.inr A.out) _|refine Kept.setCell ?_ (.inr I.out) _|refine Kept.setCell ?_ (.inr O.out) _)|exact HK.out)) hb)
   replace HB:=b2 hb
   (try clear hb)
   (try clear hk)
   have bV:0≤(c:Int):=asm
   have bW:(c:Int)<((l1.length:Int):Int):=asm
   obtain⟨u,df,bD,bF,b9,de,bA⟩:=Kd.R_form q.out (by omega)
   (first|cases bD|(injection bD with ea_ en_ ec_;(first|subst ea_|(injection ea_ with ea_;subst ea_));subst ec_;clear en_))
   have J:=am bF
   have cZ:=am bA
   clear bF b9 bA
   have z:=am (show(D u∨w.heap.size≤u)from(q.out.1 _ rfl).1)
   (first|simp only[add_plain]at aq|skip)
   (first|simp only[add_plain]at ar|skip)
   (first|simp only[add_plain]at au|skip)
   (first|simp only[add_plain]at av|skip)
   (first|simp only[add_plain]at aw|skip)
   (first|simp only[add_plain]at ax|skip)
   (first|simp only[add_plain]at ay|skip)
   obtain⟨da,bR,bG,W,Y⟩:=Kd.R_elem q.out z112 (c:Int) bV bW
   obtain rfl:=k112_openM bG
   have cA:World.cell? _ ⟨u,(c:Int).toNat*7,none⟩=some (.int .i64 ((rd_T112 l1 c).f0)):=W 0 _ rfl
   have cB:World.cell? _ ⟨u,(c:Int).toNat*7+1,none⟩=some (.int .i64 ((rd_T112 l1 c).f1)):=W 1 _ rfl
   have cC:World.cell? _ ⟨u,(c:Int).toNat*7+2,none⟩=some (.int .i64 ((rd_T112 l1 c).f2)):=W 2 _ rfl
   have cD:World.cell? _ ⟨u,(c:Int).toNat*7+3,none⟩=some (.int .i64 ((rd_T112 l1 c).f3)):=W 3 _ rfl
   have cE:World.cell? _ ⟨u,(c:Int).toNat*7+4,none⟩=some (.int .i64 ((rd_T112 l1 c).f4)):=W 4 _ rfl
   have cF:World.cell? _ ⟨u,(c:Int).toNat*7+5,none⟩=some (.int .i64 ((rd_T112 l1 c).f5)):=W 5 _ rfl
   have cG:World.cell? _ ⟨u,(c:Int).toNat*7+6,none⟩=some (.int .i64 ((rd_T112 l1 c).f6)):=W 6 _ rfl
   have ci:World.frozen? _ ⟨u,(c:Int).toNat*7,none⟩=false:=Y 0
   have cj:World.frozen? _ ⟨u,(c:Int).toNat*7+1,none⟩=false:=Y 1
   have cn:World.frozen? _ ⟨u,(c:Int).toNat*7+2,none⟩=false:=Y 2
   have co:World.frozen? _ ⟨u,(c:Int).toNat*7+3,none⟩=false:=Y 3
   have cp:World.frozen? _ ⟨u,(c:Int).toNat*7+4,none⟩=false:=Y 4
   have cq:World.frozen? _ ⟨u,(c:Int).toNat*7+5,none⟩=false:=Y 5
   have cs:World.frozen? _ ⟨u,(c:Int).toNat*7+6,none⟩=false:=Y 6
   clear bR W Y bG
   replace bV:=eq_true bV
   replace bW:=eq_true bW
   obtain⟨dc,bp,bI,bn,bT⟩:=Kd.R_elem q.out z112 (c:Int) (asm) (by have h_:(c:Int)<((l1.length:Int):Int):=asm;first|exact h_|(have e_:=(Kd.R_reads' q.out).1;omega)|simpa using h_)
   obtain rfl:=k112_openM bI
   have bh:=(Kd.R_seg q.out (c:Int) (asm) (by have h_:(c:Int)<((l1.length:Int):Int):=asm;first|exact h_|(have e_:=(Kd.R_reads' q.out).1;omega)|simpa using h_) (seg:=[.int .i64 aF,.int .i64 aG,.int .i64 aH,.int .i64 aI,.int .i64 aJ,.int .i64 aK,.int .i64 aL]) (j:=0) bp bn (show 7≤7 from by decide) (x':=(⟨aF,aG,aH,aI,aJ,aK,aL⟩:S112)) (k112_mkM _ _ _ (⟨aF,aG,aH,aI,aJ,aK,aL⟩:S112)) (fun _ hk=>hk)).1
   rw[←bl.out]at bh
   have bC:=am bh
   clear bp bn bT bI bh
   refine hK.out _ _ ⟨qc d 0,qc d 1,qc d 2,qc d 3,qc d 4,qc m 0,qc m 1,qc m 2,qc m 3,qc m 4,qc m 5,qc m 6,aW,aX,aY,aZ,a0,a1,a2⟩ (fun hHeld=>?_)
   clear hK K
   refine nm 66 ?_
   refine pu HT_ 10 67 (lb 12 2047) ?_
   refine last_ (i:=11) (N:=none) (lb 12 4095) rfl rfl (one_of HT_.out (by kernel_rfl)) (by decide) (fun K hK=>?_)
   refine skip_ (w1:=?_) (by rfl) rfl ?_ ?_
   rotate_left
   ·go_simp
    rfl
   refine hK.out _ _ ?_
   clear hK K
   refine done_ (done_of HT_.out (by kernel_rfl)) ?_
   try go_wp2
   obtain⟨aT,hw⟩:∃W_,W_=(((((((cX.setCell ⟨u,(c:Int).toNat*7,none⟩ (.int .i64 aF)).setCell ⟨u,(c:Int).toNat*7+1,none⟩ (.int .i64 aG)).setCell ⟨u,(c:Int).toNat*7+2,none⟩ (.int .i64 aH)).setCell ⟨u,(c:Int).toNat*7+3,none⟩ (.int .i64 aI)).setCell ⟨u,(c:Int).toNat*7+4,none⟩ (.int .i64 aJ)).setCell ⟨u,(c:Int).toNat*7+5,none⟩ (.int .i64 aK)).setCell ⟨u,(c:Int).toNat*7+6,none⟩ (.int .i64 aL)):=⟨_,rfl⟩
   rw[←hw]
   have ca:Aside0 (Kd.R k112 112 aT w0.heap.size (fun k_=>(D k_∨w.heap.size≤k_)∧k_≠t∧k_≠v) (.slice (some ⟨u,0,none⟩) l1.length bY) x):=⟨by rw[hw];(with_reducible repeat (first|apply Kd.R_alloc|apply Kd.R_drewN|apply Kd.R_drew));exact bC.out⟩
   have cc:Aside0 (aT.heap[an]? =some (.cells #[.int .i64 ai,.int .i64 aj,.int .i64 ak,.slice az ao.length aB,.bool aA] 32 (0,0))):=⟨by rw[hw];(with_reducible repeat (first|refine blk_drewN ?_ _|refine blk_drew ?_|refine blk_alloc ?_ _));refine blk_far ?_ (by have h_:=Kd.R_ne q.out l.out (by decide);intro e_;exact h_ (by rw[e_];rfl)) _;(with_reducible repeat (first|refine blk_drewN ?_ _|refine blk_drew ?_|refine blk_alloc ?_ _));refine blk_far ?_ (by have h_:=Kd.R_ne q.out l.out (by decide);intro e_;exact h_ (by rw[e_];rfl)) _;(with_reducible repeat (first|refine blk_drewN ?_ _|refine blk_drew ?_|refine blk_alloc ?_ _));refine blk_far ?_ (by have h_:=Kd.R_ne q.out l.out (by decide);intro e_;exact h_ (by rw[e_];rfl)) _;(with_reducible repeat (first|refine blk_drewN ?_ _|refine blk_drew ?_|refine blk_alloc ?_ _));refine blk_far ?_ (by have h_:=Kd.R_ne q.out l.out (by decide);intro e_;exact h_ (by rw[e_];rfl)) _;(with_reducible repeat (first|refine blk_drewN ?_ _|refine blk_drew ?_|refine blk_alloc ?_ _));refine blk_far ?_ (by have h_:=Kd.R_ne q.out l.out (by decide);intro e_;exact h_ (by rw[e_];rfl)) _;(with_reducible repeat (first|refine blk_drewN ?_ _|refine blk_drew ?_|refine blk_alloc ?_ _));refine blk_far ?_ (by have h_:=Kd.R_ne q.out l.out (by decide);intro e_;exact h_ (by rw[e_];rfl)) _;(with_reducible repeat (first|refine blk_drewN ?_ _|refine blk_drew ?_|refine blk_alloc ?_ _));refine blk_far ?_ (by have h_:=Kd.R_ne q.out l.out (by decide);intro e_;exact h_ (by rw[e_];rfl)) _;(with_reducible repeat (first|refine blk_drewN ?_ _|refine blk_drew ?_|refine blk_alloc ?_ _));exact l.out⟩
   have cd:Aside0 (aT.heap[B]? =some (.cells #[.int .i64 c,.int .i64 k,.int .i64 P,.int .i64 T,.int .i64 U] 79 (0,0))):=⟨by rw[hw];(with_reducible repeat (first|refine blk_drewN ?_ _|refine blk_drew ?_|refine blk_alloc ?_ _));refine blk_far ?_ (by have h_:=Kd.R_ne q.out d.out (by decide);intro e_;exact h_ (by rw[e_];rfl)) _;(with_reducible repeat (first|refine blk_drewN ?_ _|refine blk_drew ?_|refine blk_alloc ?_ _));refine blk_far ?_ (by have h_:=Kd.R_ne q.out d.out (by decide);intro e_;exact h_ (by rw[e_];rfl)) _;(with_reducible repeat (first|refine blk_drewN ?_ _|refine blk_drew ?_|refine blk_alloc ?_ _));refine blk_far ?_ (by have h_:=Kd.R_ne q.out d.out (by decide);intro e_;exact h_ (by rw[e_];rfl)) _;(with_reducible repeat (first|refine blk_drewN ?_ _|refine blk_drew ?_|refine blk_alloc ?_ _));refine blk_far ?_ (by have h_:=Kd.R_ne q.out d.out (by decide);intro e_;exact h_ (by rw[e_];rfl)) _;(with_reducible repeat (first|refine blk_drewN ?_ _|refine blk_drew ?_|refine blk_alloc ?_ _));refine blk_far ?_ (by have h_:=Kd.R_ne q.out d.out (by decide);intro e_;exact h_ (by rw[e_];rfl)) _;(with_reducible repeat (first|refine blk_drewN ?_ _|refine blk_drew ?_|refine blk_alloc ?_ _));refine blk_far ?_ (by have h_:=Kd.R_ne q.out d.out (by decide);intro e_;exact h_ (by rw[e_];rfl)) _;(with_reducible repeat (first|refine blk_drewN ?_ _|refine blk_drew ?_|refine blk_alloc ?_ _));refine blk_far ?_ (by have h_:=Kd.R_ne q.out d.out (by decide);intro e_;exact h_ (by rw[e_];rfl)) _;(with_reducible repeat (first|refine blk_drewN ?_ _|refine blk_drew ?_|refine blk_alloc ?_ _));exact d.out⟩
   have ce:Aside0 (aT.heap[t]? =some (.cells #[.int .i64 p0,.int .i64 p1,.int .i64 p2,.int .i64 p3,.int .i64 p4,.int .i64 p5,.int .i64 p6] 112 (0,0))):=⟨by rw[hw];(with_reducible repeat (first|refine blk_drewN ?_ _|refine blk_drew ?_|refine blk_alloc ?_ _));refine blk_far ?_ (by have h_:=Kd.R_away q.out (fun _ hk=>hk.2.1);intro e_;exact h_ (by rw[e_];rfl)) _;(with_reducible repeat (first|refine blk_drewN ?_ _|refine blk_drew ?_|refine blk_alloc ?_ _));refine blk_far ?_ (by have h_:=Kd.R_away q.out (fun _ hk=>hk.2.1);intro e_;exact h_ (by rw[e_];rfl)) _;(with_reducible repeat (first|refine blk_drewN ?_ _|refine blk_drew ?_|refine blk_alloc ?_ _));refine blk_far ?_ (by have h_:=Kd.R_away q.out (fun _ hk=>hk.2.1);intro e_;exact h_ (by rw[e_];rfl)) _;(with_reducible repeat (first|refine blk_drewN ?_ _|refine blk_drew ?_|refine blk_alloc ?_ _));refine blk_far ?_ (by have h_:=Kd.R_away q.out (fun _ hk=>hk.2.1);intro e_;exact h_ (by rw[e_];rfl)) _;(with_reducible repeat (first|refine blk_drewN ?_ _|refine blk_drew ?_|refine blk_alloc ?_ _));refine blk_far ?_ (by have h_:=Kd.R_away q.out (fun _ hk=>hk.2.1);intro e_;exact h_ (by rw[e_];rfl)) _;(with_reducible repeat (first|refine blk_drewN ?_ _|refine blk_drew ?_|refine blk_alloc ?_ _));refine blk_far ?_ (by have h_:=Kd.R_away q.out (fun _ hk=>hk.2.1);intro e_;exact h_ (by rw[e_];rfl)) _;(with_reducible repeat (first|refine blk_drewN ?_ _|refine blk_drew ?_|refine blk_alloc ?_ _));refine blk_far ?_ (by have h_:=Kd.R_away q.out (fun _ hk=>hk.2.1);intro e_;exact h_ (by rw[e_];rfl)) _;(with_reducible repeat (first|refine blk_drewN ?_ _|refine blk_drew ?_|refine blk_alloc ?_ _));exact m.out⟩
   have cf:Aside0 (aT.heap[v]? =some (.cells #[.int .i64 q0,.int .i64 q1,.int .i64 q2,.int .i64 q3,.int .i64 q4,.int .i64 q5,.int .i64 q6] 112 (0,0))):=⟨by rw[hw];(with_reducible repeat (first|refine blk_drewN ?_ _|refine blk_drew ?_|refine blk_alloc ?_ _));refine blk_far ?_ (by have h_:=Kd.R_away q.out (fun _ hk=>hk.2.2);intro e_;exact h_ (by rw[e_];rfl)) _;(with_reducible repeat (first|refine blk_drewN ?_ _|refine blk_drew ?_|refine blk_alloc ?_ _));refine blk_far ?_ (by have h_:=Kd.R_away q.out (fun _ hk=>hk.2.2);intro e_;exact h_ (by rw[e_];rfl)) _;(with_reducible repeat (first|refine blk_drewN ?_ _|refine blk_drew ?_|refine blk_alloc ?_ _));refine blk_far ?_ (by have h_:=Kd.R_away q.out (fun _ hk=>hk.2.2);intro e_;exact h_ (by rw[e_];rfl)) _;(with_reducible repeat (first|refine blk_drewN ?_ _|refine blk_drew ?_|refine blk_alloc ?_ _));refine blk_far ?_ (by have h_:=Kd.R_away q.out (fun _ hk=>hk.2.2);intro e_;exact h_ (by rw[e_];rfl)) _;(with_reducible repeat (first|refine blk_drewN ?_ _|refine blk_drew ?_|refine blk_alloc ?_ _));refine blk_far ?_ (by have h_:=Kd.R_away q.out (fun _ hk=>hk.2.2);intro e_;exact h_ (by rw[e_];rfl)) _;(with_reducible repeat (first|refine blk_drewN ?_ _|refine blk_drew ?_|refine blk_alloc ?_ _));refine blk_far ?_ (by have h_:=Kd.R_away q.out (fun _ hk=>hk.2.2);intro e_;exact h_ (by rw[e_];rfl)) _;(with_reducible repeat (first|refine blk_drewN ?_ _|refine blk_drew ?_|refine blk_alloc ?_ _));refine blk_far ?_ (by have h_:=Kd.R_away q.out (fun _ hk=>hk.2.2);intro e_;exact h_ (by rw[e_];rfl)) _;(with_reducible repeat (first|refine blk_drewN ?_ _|refine blk_drew ?_|refine blk_alloc ?_ _));exact s.out⟩
   have cg:Aside0 (Kept w aT (fun k_=>D k_)):=⟨by rw[hw];repeat (first|(with_reducible first|exact HK.out|apply Kept.alloc|apply Kept.drewN|apply Kept.drew|refine Kept.setCell ?_ z.out _|refine Kept.setCell ?_ z.out _|refine Kept.setCell ?_ z.out _|refine Kept.setCell ?_ z.out _|refine Kept.setCell ?_ z.out _|refine Kept.setCell ?_ z.out _|refine Kept.setCell ?_ z.out _|refine Kept.setCell ?_ (.inr y.out) _|refine Kept.setCell ?_ (.inr A.out) _|refine Kept.setCell ?_ (.inr I.out) _|refine Kept.setCell ?_ (.inr O.out) _)|exact HK.out)⟩
   have ch:Aside0 (Below w0.heap.size w0 aT):=⟨by rw[hw];repeat (first|(with_reducible first|exact HB.out|apply below_alloc|apply pw_below_drewN|apply below_drew1|refine below_set ?_ J.out|refine below_set ?_ J.out|refine below_set ?_ J.out|refine below_set ?_ J.out|refine below_set ?_ J.out|refine below_set ?_ J.out|refine below_set ?_ J.out|refine below_set ?_ aU.out|refine below_set ?_ aV.out|refine below_set ?_ be.out|refine below_set ?_ bf.out)|exact HB.out)⟩
   (try clear q)
   (try clear l)
   (try clear d)
   (try clear m)
   (try clear s)
   (try clear HK)
   (try clear HB)
   clear hw
   have q:=ca
   have l:=cc
   have d:=cd
   have m:=ce
   have s:=cf
   have HK:=cg
   have HB:=ch
   clear ca cc cd ce cf cg ch
   replace q:=rd1 q
   replace l:=am (blk_drew l.out)
   replace d:=am (blk_drew d.out)
   replace m:=am (blk_drew m.out)
   replace s:=am (blk_drew s.out)
   replace HK:=am (Kept.drew HK.out)
   replace HB:=am (below_drew1 HB.out)
   have bu:0≤(k:Int):=asm
   have bw:k<(x.length:Int):=(by have h_:(k:Int)<((l1.length:Int):Int):=asm;first|(have e_:=(Kd.R_reads' q.out).1;omega)|simpa only[bl.out,List.length_set] using h_)
   have cW:((k:Int)<((l1.length:Int):Int))=True:=eq_true (asm)
   obtain⟨bQ,b8,aa,ac,ad,ae,af,ag,ah⟩:=at_T112 (Kd.R_reads' q.out).2.2 k bu bw
   obtain rfl:(⟨u,0,none⟩:Addr)=bQ:=(by injection b8)
   (first|simp only[add_plain]at aa|simp only[add_at]at aa|simp only[Addr.add,Nat.zero_add]at aa|skip)
   (first|simp only[add_plain]at ac|simp only[add_at]at ac|simp only[Addr.add,Nat.zero_add]at ac|skip)
   (first|simp only[add_plain]at ad|simp only[add_at]at ad|simp only[Addr.add,Nat.zero_add]at ad|skip)
   (first|simp only[add_plain]at ae|simp only[add_at]at ae|simp only[Addr.add,Nat.zero_add]at ae|skip)
   (first|simp only[add_plain]at af|simp only[add_at]at af|simp only[Addr.add,Nat.zero_add]at af|skip)
   (first|simp only[add_plain]at ag|simp only[add_at]at ag|simp only[Addr.add,Nat.zero_add]at ag|skip)
   (first|simp only[add_plain]at ah|simp only[add_at]at ah|simp only[Addr.add,Nat.zero_add]at ah|skip)
   replace bu:=eq_true bu
   replace bw:=eq_true bw
   refine start_ (n:=12) (S:=fun w'=>w'.cell? ⟨B,0,none⟩=some (.int .i64 c)∧w'.cell? ⟨B,1,none⟩=some (.int .i64 k)∧w'.cell? ⟨B,2,none⟩=some (.int .i64 P)∧w'.cell? ⟨B,3,none⟩=some (.int .i64 T)∧w'.cell? ⟨B,4,none⟩=some (.int .i64 U)∧w'.cell? ⟨v,0,none⟩=some (.int .i64 q0)∧w'.cell? ⟨v,1,none⟩=some (.int .i64 q1)∧w'.cell? ⟨v,2,none⟩=some (.int .i64 q2)∧w'.cell? ⟨v,3,none⟩=some (.int .i64 q3)∧w'.cell? ⟨v,4,none⟩=some (.int .i64 q4)∧w'.cell? ⟨v,5,none⟩=some (.int .i64 q5)∧w'.cell? ⟨v,6,none⟩=some (.int .i64 q6)∧w'.cell? ⟨u,(k).toNat*7,none⟩=some (.int .i64 ((rd_T112 x k).f0))∧w'.cell? ⟨u,(k).toNat*7+1,none⟩=some (.int .i64 ((rd_T112 x k).f1))∧w'.cell? ⟨u,(k).toNat*7+2,none⟩=some (.int .i64 ((rd_T112 x k).f2))∧w'.cell? ⟨u,(k).toNat*7+3,none⟩=some (.int .i64 ((rd_T112 x k).f3))∧w'.cell? ⟨u,(k).toNat*7+4,none⟩=some (.int .i64 ((rd_T112 x k).f4))∧w'.cell? ⟨u,(k).toNat*7+5,none⟩=some (.int .i64 ((rd_T112 x k).f5))∧w'.cell? ⟨u,(k).toNat*7+6,none⟩=some (.int .i64 ((rd_T112 x k).f6))) (ds:=[11]) (lb 12 0) (by kernel_rfl) rfl rfl ⟨qc d 0,qc d 1,qc d 2,qc d 3,qc d 4,qc s 0,qc s 1,qc s 2,qc s 3,qc s 4,qc s 5,qc s 6,aa,ac,ad,ae,af,ag,ah⟩ (fun hHeld=>?_);refine with_tabW spec_l06Add.tab22 spec_l06Add.bits22 (fun HT_ HW_=>?_)
   generalize aT.drew=dx at q l d m s HK HB bC aa ac ad ae af ag ah hHeld⊢
   refine pu HT_ 0 68 (lb 12 1) ?_
   refine pu HT_ 1 69 (lb 12 3) ?_
   refine pu HT_ 3 71 (lb 12 11) ?_
   refine pu HT_ 4 72 (lb 12 27) ?_
   refine tk HT_ HW_ hHeld 2 70 (lb 12 31) ?_
   refine tk HT_ HW_ hHeld 5 73 (lb 12 63) ?_
   refine pu HT_ 6 74 (lb 12 127) ?_
   refine tk HT_ HW_ hHeld 7 75 (lb 12 255) ?_
   refine tk HT_ HW_ hHeld 8 76 (lb 12 511) ?_
   refine on HT_ 9 77 (lb 12 1023) fun K hK=>?_
   refine goes_ Tryz.func102 (by kernel_rfl) rfl #[.agg #[.int .i64 ((rd_T112 x k).f0),.int .i64 ((rd_T112 x k).f1),.int .i64 ((rd_T112 x k).f2),.int .i64 ((rd_T112 x k).f3),.int .i64 ((rd_T112 x k).f4),.int .i64 ((rd_T112 x k).f5),.int .i64 ((rd_T112 x k).f6)],.agg #[.int .i64 q0,.int .i64 q1,.int .i64 q2,.int .i64 q3,.int .i64 q4,.int .i64 q5,.int .i64 q6]] (by rfl) rfl rfl ga ?_
   with_reducible refine(spec_AddRows.calls ((rd_T112 x k).f0) ((rd_T112 x k).f1) ((rd_T112 x k).f2) ((rd_T112 x k).f3) ((rd_T112 x k).f4) ((rd_T112 x k).f5) ((rd_T112 x k).f6) q0 q1 q2 q3 q4 q5 q6 aM aN aO aP aQ aR aS _ cP.out).mono ?_
   rintro e dy ⟨rfl,hb⟩
   have aW:=(hb.cell (World.block_lt_of_cell? _ _ (hHeld.2.2.2.2.2.2.2.2.2.2.2.2.1))).trans (hHeld.2.2.2.2.2.2.2.2.2.2.2.2.1)
   have aX:=(hb.cell (World.block_lt_of_cell? _ _ (hHeld.2.2.2.2.2.2.2.2.2.2.2.2.2.1))).trans (hHeld.2.2.2.2.2.2.2.2.2.2.2.2.2.1)
   have aY:=(hb.cell (World.block_lt_of_cell? _ _ (hHeld.2.2.2.2.2.2.2.2.2.2.2.2.2.2.1))).trans (hHeld.2.2.2.2.2.2.2.2.2.2.2.2.2.2.1)
   have aZ:=(hb.cell (World.block_lt_of_cell? _ _ (hHeld.2.2.2.2.2.2.2.2.2.2.2.2.2.2.2.1))).trans (hHeld.2.2.2.2.2.2.2.2.2.2.2.2.2.2.2.1)
   have a0:=(hb.cell (World.block_lt_of_cell? _ _ (hHeld.2.2.2.2.2.2.2.2.2.2.2.2.2.2.2.2.1))).trans (hHeld.2.2.2.2.2.2.2.2.2.2.2.2.2.2.2.2.1)
   have a1:=(hb.cell (World.block_lt_of_cell? _ _ (hHeld.2.2.2.2.2.2.2.2.2.2.2.2.2.2.2.2.2.1))).trans (hHeld.2.2.2.2.2.2.2.2.2.2.2.2.2.2.2.2.2.1)
   have a2:=(hb.cell (World.block_lt_of_cell? _ _ (hHeld.2.2.2.2.2.2.2.2.2.2.2.2.2.2.2.2.2.2))).trans (hHeld.2.2.2.2.2.2.2.2.2.2.2.2.2.2.2.2.2.2)
   refine⟨_,rfl,?_⟩
   replace q:=rb q hb
   replace l:=b1 l hb
   replace d:=b1 d hb
   replace m:=b1 m hb
   replace s:=b1 s hb
   replace HK:=am (Kept.below (S:=(fun k_=>D k_)) (by repeat (first|(with_reducible first|exact HK.out|apply Kept.alloc|apply Kept.drewN|apply Kept.drew|refine Kept.setCell ?_ (.inr y.out) _|refine Kept.setCell ?_ (.inr A.out) _|refine Kept.setCell ?_ (.inr I.out) _|refine Kept.setCell ?_ (.inr O.out) _)|exact HK.out)) hb)
   replace HB:=b2 hb
   (try clear hb)
   (try clear hk)
   have:(0≤(k:Int))=True:=ab
   have:((k:Int)<((l1.length:Int):Int))=True:=ab
   obtain⟨db,bS,bH,X,Z⟩:=Kd.R_elem q.out z112 (k:Int) asm asm
   obtain rfl:=k112_openM bH
   have cH:World.cell? _ ⟨u,(k:Int).toNat*7,none⟩=some (.int .i64 ((rd_T112 x k).f0)):=X 0 _ rfl
   have cI:World.cell? _ ⟨u,(k:Int).toNat*7+1,none⟩=some (.int .i64 ((rd_T112 x k).f1)):=X 1 _ rfl
   have cJ:World.cell? _ ⟨u,(k:Int).toNat*7+2,none⟩=some (.int .i64 ((rd_T112 x k).f2)):=X 2 _ rfl
   have cK:World.cell? _ ⟨u,(k:Int).toNat*7+3,none⟩=some (.int .i64 ((rd_T112 x k).f3)):=X 3 _ rfl
   have cL:World.cell? _ ⟨u,(k:Int).toNat*7+4,none⟩=some (.int .i64 ((rd_T112 x k).f4)):=X 4 _ rfl
   have cM:World.cell? _ ⟨u,(k:Int).toNat*7+5,none⟩=some (.int .i64 ((rd_T112 x k).f5)):=X 5 _ rfl
   have cN:World.cell? _ ⟨u,(k:Int).toNat*7+6,none⟩=some (.int .i64 ((rd_T112 x k).f6)):=X 6 _ rfl
   have ct:World.frozen? _ ⟨u,(k:Int).toNat*7,none⟩=false:=Z 0
   have cu:World.frozen? _ ⟨u,(k:Int).toNat*7+1,none⟩=false:=Z 1
   have cv:World.frozen? _ ⟨u,(k:Int).toNat*7+2,none⟩=false:=Z 2
   have cw:World.frozen? _ ⟨u,(k:Int).toNat*7+3,none⟩=false:=Z 3
   have cx:World.frozen? _ ⟨u,(k:Int).toNat*7+4,none⟩=false:=Z 4
   have cy:World.frozen? _ ⟨u,(k:Int).toNat*7+5,none⟩=false:=Z 5
   have cz:World.frozen? _ ⟨u,(k:Int).toNat*7+6,none⟩=false:=Z 6
   clear bS X Z bH
   obtain⟨dd,br,bJ,bo,bU⟩:=Kd.R_elem q.out z112 (k:Int) (asm) (by have h_:(k:Int)<((l1.length:Int):Int):=asm;first|exact h_|(have e_:=(Kd.R_reads' q.out).1;omega)|simpa using h_)
   obtain rfl:=k112_openM bJ
   have bi:=(Kd.R_seg q.out (k:Int) (asm) (by have h_:(k:Int)<((l1.length:Int):Int):=asm;first|exact h_|(have e_:=(Kd.R_reads' q.out).1;omega)|simpa using h_) (seg:=[.int .i64 aM,.int .i64 aN,.int .i64 aO,.int .i64 aP,.int .i64 aQ,.int .i64 aR,.int .i64 aS]) (j:=0) br bo (show 7≤7 from by decide) (x':=(⟨aM,aN,aO,aP,aQ,aR,aS⟩:S112)) (k112_mkM _ _ _ (⟨aM,aN,aO,aP,aQ,aR,aS⟩:S112)) (fun _ hk=>hk)).1
   rw[←bP.out]at bi
   have bX:=am bi
   clear br bo bU bJ bi
   refine hK.out _ _ ⟨qc d 0,qc d 1,qc d 2,qc d 3,qc d 4,qc s 0,qc s 1,qc s 2,qc s 3,qc s 4,qc s 5,qc s 6,aW,aX,aY,aZ,a0,a1,a2⟩ (fun hHeld=>?_)
   clear hK K
   refine nm 77 ?_
   refine pu HT_ 10 78 (lb 12 2047) ?_
   refine last_ (i:=11) (N:=none) (lb 12 4095) rfl rfl (one_of HT_.out (by kernel_rfl)) (by decide) (fun K hK=>?_)
   refine skip_ (w1:=?_) (by rfl) rfl ?_ ?_
   rotate_left
   ·go_simp
    rfl
   refine hK.out _ _ ?_
   clear hK K
   refine done_ (done_of HT_.out (by kernel_rfl)) ?_
   try go_wp2
   first|go_end0|((try simp only[Exit.inBlock,Exit.then]);refine bodyPost_ret (results_none rfl _ _ _) rfl ?_)
   exact⟨er,by(with_reducible repeat (first|apply Kd.R_alloc|apply Kd.R_drewN|apply Kd.R_drew));exact Kd.R_mono bX.out (fun _ hk=>hk.1),by repeat (first|(with_reducible first|exact HB.out|apply below_alloc|apply pw_below_drewN|apply below_drew1|refine below_set ?_ J.out|refine below_set ?_ J.out|refine below_set ?_ J.out|refine below_set ?_ J.out|refine below_set ?_ J.out|refine below_set ?_ J.out|refine below_set ?_ J.out|refine below_set ?_ aU.out|refine below_set ?_ aV.out|refine below_set ?_ be.out|refine below_set ?_ bf.out)|exact HB.out),by repeat (first|(with_reducible first|exact HK.out|apply Kept.alloc|apply Kept.drewN|apply Kept.drew|refine Kept.setCell ?_ z.out _|refine Kept.setCell ?_ z.out _|refine Kept.setCell ?_ z.out _|refine Kept.setCell ?_ z.out _|refine Kept.setCell ?_ z.out _|refine Kept.setCell ?_ z.out _|refine Kept.setCell ?_ z.out _|refine Kept.setCell ?_ (.inr y.out) _|refine Kept.setCell ?_ (.inr A.out) _|refine Kept.setCell ?_ (.inr I.out) _|refine Kept.setCell ?_ (.inr O.out) _)|exact HK.out)⟩
 ·obtain rfl:=qj1 H
  go_enter Tryz.func87,Tryz.ntmps87
  go_wp2_with (first|((with_reducible refine gd 3 ?_);refine bv 3 #[.int .i64 ai,.int .i64 aj,.int .i64 ak,.slice az ao.length aB,.bool aA] 32 ?_;intro an hg dj hbox hb;have l:=am (hbox);have y:=am ((by rw[hg];exact(by first|exact HK.out.1|exact(show Kept w _ (fun k_=>D k_)from by repeat (first|(with_reducible first|exact HK.out|apply Kept.alloc|apply Kept.drewN|apply Kept.drew)|exact HK.out)).1):w.heap.size≤an));have aU:=am ((bsz hg:w0.heap.size≤an));replace q:=rb q hb;replace HK:=am (Kept.below (S:=(fun k_=>D k_)) (by repeat (first|(with_reducible first|exact HK.out|apply Kept.alloc|apply Kept.drewN|apply Kept.drew)|exact HK.out)) hb);replace HB:=b2 hb;clear hb hbox hg)|((with_reducible refine gd 5 ?_);refine bv 5 #[.int .i64 c,.int .i64 k,.int .i64 P,.int .i64 T,.int .i64 U] 79 ?_;intro B hg dk hbox hb;have d:=am (hbox);have A:=am ((by rw[hg];exact(by first|exact HK.out.1|exact(show Kept w _ (fun k_=>D k_)from by repeat (first|(with_reducible first|exact HK.out|apply Kept.alloc|apply Kept.drewN|apply Kept.drew|refine Kept.setCell ?_ (.inr y.out) _)|exact HK.out)).1):w.heap.size≤B));have aV:=am ((bsz hg:w0.heap.size≤B));obtain⟨a3,al⟩:=qn hg l;replace q:=rb q hb;replace l:=b1 l hb;replace HK:=am (Kept.below (S:=(fun k_=>D k_)) (by repeat (first|(with_reducible first|exact HK.out|apply Kept.alloc|apply Kept.drewN|apply Kept.drew|refine Kept.setCell ?_ (.inr y.out) _)|exact HK.out)) hb);replace HB:=b2 hb;clear hb hbox hg;obtain⟨_,_⟩:=qo al;obtain⟨_,_,_,_,_,_,_,_,_,_⟩:=cf5 d.out)|((with_reducible refine gc 100 ?_);refine gl 13 Tryz.func100 (spec_GoalsOf.calls c k P T U L M false _ A4.out) ?_;rintro e dl ⟨rfl,hb⟩;refine⟨_,rfl,?_⟩;replace q:=rb q hb;replace l:=b1 l hb;replace d:=b1 d hb;replace HK:=am (Kept.below (S:=(fun k_=>D k_)) (by repeat (first|(with_reducible first|exact HK.out|apply Kept.alloc|apply Kept.drewN|apply Kept.drew|refine Kept.setCell ?_ (.inr y.out) _|refine Kept.setCell ?_ (.inr A.out) _)|exact HK.out)) hb);replace HB:=b2 hb;(try clear hb)))
  first|go_end0|((try simp only[Exit.inBlock,Exit.then]);refine bodyPost_ret (results_none rfl _ _ _) rfl ?_)
  exact⟨er,rk q.out,bel,by repeat (first|(with_reducible first|exact HK.out|apply Kept.alloc|apply Kept.drewN|apply Kept.drew|refine Kept.setCell ?_ (.inr y.out) _|refine Kept.setCell ?_ (.inr A.out) _)|exact HK.out)⟩
end Go.Proofs.YtgalpgakdcfilaaGreat.L
