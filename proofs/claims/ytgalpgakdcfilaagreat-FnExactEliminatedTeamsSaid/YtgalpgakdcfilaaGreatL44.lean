-- Written by a program of this session (wip/xp.py).
import Derived.Test.YtgalpgakdcfilaaGreatL0
import Derived.Test.YtgalpgakdcfilaaGreatL37
import Derived.Test.YtgalpgakdcfilaaGreatL35
namespace Go.Proofs.YtgalpgakdcfilaaGreat.L
open Go.RowKit Go.Proofs.YtgalpgakdcfilaaGreatW.PrintWords Go.Proofs.YtgalpgakdcfilaaGreatW.PrintLast Go.Proofs.YtgalpgakdcfilaaGreatW.PrintMore
attribute [local go_sem] max2_int min2_int max_two min_two max_three min_three max_four min_four
set_option linter.unusedVariables false
set_option linter.unusedSimpArgs false
set_option maxHeartbeats 8000000
set_option maxRecDepth 100000
def impl_SeasonOk.l0:Nat→Int→List (S79)→List (S79)→Int→Int→Option (Bool)
  |0,_,_,_,_,_=>none
  |k+1,x0,x1,x7,x8,x9=>if x9<x8 then(if 0≤x9 then(if x9<(x7.length:Int)then((impl_GameOk.f k x0 ((rd_T79 x7 x9).f0) ((rd_T79 x7 x9).f1) ((rd_T79 x7 x9).f2) ((rd_T79 x7 x9).f3) ((rd_T79 x7 x9).f4)).bind fun a=>(if a=true then(if x9≤(x1.length:Int)then((impl_GameOf.f k (x1.take (x9:Int).toNat) ((rd_T79 x7 x9).f0) ((rd_T79 x7 x9).f1)).bind fun b=>(if b≥0 then(some false)else(impl_SeasonOk.l0 k x0 x1 x7 x8 (wrap64 (x9+1)))))else(none))else(some false)))else(none))else(none))else(some (decide ((x1.length:Int)≤60)))
def impl_SeasonOk.f(k:Nat)(a0:Int)(l1:List (S79)):Option (Bool):=impl_SeasonOk.l0 k a0 l1 l1 (l1.length:Int) 0
def impl_SeasonOk.T4:Bool×List (List Nat×List Nat):=(true,[([],[]),([],[]),([0,1],[0,1]),([2],[2]),([3,2],[3]),([4],[4]),([4],[4]),([5,6,4],[4,5,6]),([4],[4]),([8,4],[4,8]),([4],[4]),([10,4],[4,10]),([7,9,11,4,4],[4,7,9,11]),([12,4],[4,12]),([4,13],[4,13])])
def impl_SeasonOk.B4:List Nat:=[0,0,3,7,15,31,31,127,31,287,31,1055,4095,8191,16383]
theorem impl_SeasonOk.tab4:rtab .any (opsOf Tryz.f79 4)=impl_SeasonOk.T4:=by kernel_rfl
theorem impl_SeasonOk.bits4:waitsOk impl_SeasonOk.T4.2 impl_SeasonOk.B4=true:=by kernel_rfl
theorem impl_SeasonOk.calls(k:Nat)(a0:Int)(A1:Option Addr)(c1:Nat)(l1:List (S79))(r:Bool)(w:World)(z:Kd.C k79 w A1 l1.length l1)(M:l1.length≤c1)(h:impl_SeasonOk.f k a0 l1=some r):Calls Tryz.prog 79 #[.int .i64 a0,.slice A1 l1.length c1] w fun e w'=>e=.returned (.bool r)∧Below w.heap.size w w':=by
 have ax:=Tryz.underlying79
 replace z:=am z
 replace M:=am M
 have HB:=qb w
 have H:=h
 unfold impl_SeasonOk.f at H
 clear h
 replace H:=am H
 go_enter Tryz.func79,Tryz.ntmps79
 go_wp2
 go_loopg [9] k (fun kq v9 w'=>∃(a:Int),v9=.int .i64 a∧Aside0 (impl_SeasonOk.l0 kq a0 l1 l1 (l1.length:Int) a=some r)∧Aside0 (kq≤k)∧Aside0 (Below w.heap.size w w'))
 case atStart=>exact⟨(0),(es),H,⟨Nat.le_refl _⟩,⟨bel⟩⟩
 case round=>
  clear H
  try clear c1
  obtain⟨a,rfl,HA,af,HB⟩:=hrel
  cases gk with
  |zero=>exact absurd HA.out (by simp [impl_SeasonOk.l0])
  |succ k1=>
   have H:=HA.out
   clear HA
   simp only[impl_SeasonOk.l0]at H
   replace H:=i1 H;obtain⟨ag,H⟩|⟨ag,H⟩:=H
   ·replace H:=i0 H;obtain⟨ar,H⟩:=H
    replace H:=i0 H;obtain⟨au,H⟩:=H
    replace H:=bm H;obtain⟨aA,A6,H⟩:=H
    replace H:=ib H;obtain⟨rfl,H⟩|⟨rfl,H⟩:=H
    ·have av:=eq_true (asm:0≤a)
     replace H:=i0 H;obtain⟨ah,H⟩:=H
     have aw:=eq_true (of_decide_eq_true ah)
     generalize hy602:(l1.take (a:Int).toNat:List (S79))=g at H
     have j:=am hy602.symm
     clear hy602
     replace H:=bm H;obtain⟨X,ae,H⟩:=H
     replace H:=i1 H;obtain⟨Y,H⟩|⟨Y,H⟩:=H
     ·obtain rfl:=qj1 H
      have:(0≤(a:Int))=True:=ab
      have:(a<(l1.length:Int))=True:=ab
      obtain⟨d,l,q,s,t,u,x⟩:=hc5 HB.out (at_T79 z.out a asm asm)
      cases l
      try go_wp2_with (first|((with_reducible refine gd 6 ?_);refine bx w 6 #[.int .i64 0,.int .i64 0,.int .i64 0,.int .i64 0,.int .i64 0] 79 ?_;clear HB;intro c ai b B HB;obtain⟨_,_,_,_,_,_,_,_,_,_⟩:=cf5 b.out))
      generalize hw_:World.setCell (World.setCell (World.setCell (World.setCell (World.setCell ai _ _) _ _) _ _) _ _) _ _=aj
      replace b:=am (pt5 b.out hw_.symm)
      replace HB:=am (bs5 HB.out (Aside0.out (by assumption)) hw_.symm)
      clear hw_
      replace b:=am (blk_drew b.out)
      replace HB:=am (below_drew1 HB.out)
      refine start_ (n:=15) (S:=fun w'=>w'.cell? ⟨c,0,none⟩=some (.int .i64 ((rd_T79 l1 a).f0))∧w'.cell? ⟨c,1,none⟩=some (.int .i64 ((rd_T79 l1 a).f1))∧w'.cell? ⟨c,2,none⟩=some (.int .i64 ((rd_T79 l1 a).f2))∧w'.cell? ⟨c,3,none⟩=some (.int .i64 ((rd_T79 l1 a).f3))∧w'.cell? ⟨c,4,none⟩=some (.int .i64 ((rd_T79 l1 a).f4))) (ds:=[]) (lb 15 0) (by kernel_rfl) rfl rfl (cc5 b.out) (fun hHeld=>?_);refine with_tabW impl_SeasonOk.tab4 impl_SeasonOk.bits4 (fun HT_ HW_=>?_)
      generalize aj.drew=aB at b HB hHeld⊢
      refine pu HT_ 0 14 (lb 15 1) ?_
      refine tk HT_ HW_ hHeld 1 15 (lb 15 3) ?_
      refine on HT_ 2 16 (lb 15 7) fun K hK=>?_
      refine goes_ Tryz.func93 (by kernel_rfl) rfl #[.int .i64 a0,.agg #[.int .i64 ((rd_T79 l1 a).f0),.int .i64 ((rd_T79 l1 a).f1),.int .i64 ((rd_T79 l1 a).f2),.int .i64 ((rd_T79 l1 a).f3),.int .i64 ((rd_T79 l1 a).f4)]] (by rfl) rfl rfl ga ?_
      with_reducible refine(impl_GameOk.calls k1 a0 ((rd_T79 l1 a).f0) ((rd_T79 l1 a).f1) ((rd_T79 l1 a).f2) ((rd_T79 l1 a).f3) ((rd_T79 l1 a).f4) true _ A6.out).mono ?_
      rintro e aC ⟨rfl,hb⟩
      refine⟨_,rfl,?_⟩
      replace b:=b1 b hb
      replace HB:=b2 hb
      (try clear hb)
      have ac:(a:Int)≤((l1.length:Int):Int):=asm
      obtain⟨ay,D,_,Z,_⟩:=info_parts info79
      have o:l1.length≤c1:=M.out
      have U:Kd.C k79 _ (some d) l1.length l1:=z.out
      have O:=cut_to (P:=Tryz.prog) 33 79 .i64 Tryz.underlying33 D (some d) l1.length c1 a (asm) ac o
      have G:=Kd.C_take (m:=(a:Int).toNat) U (by omega)
      have J:g.length=(a:Int).toNat:=(by rw[j.out,List.length_take];omega)
      rw[←j.out]at G
      rw[←J]at O
      have A:=am G
      have y:=am (show g.length≤c1 from by omega)
      clear G U o D Z
      have ap:=am J
      clear J
      replace ac:=eq_true ac
      refine hK.out _ _ (cc5 b.out) (fun hHeld=>?_)
      clear hK K
      refine nm 16 ?_
      refine pu HT_ 3 17 (lb 15 15) ?_
      refine pu HT_ 4 18 (lb 15 31) ?_
      refine pu HT_ 5 19 (lb 15 63) ?_
      refine pu HT_ 6 20 (lb 15 127) ?_
      refine pu HT_ 7 21 (lb 15 255) ?_
      refine pu HT_ 8 22 (lb 15 511) ?_
      refine pu HT_ 10 24 (lb 15 1535) ?_
      refine tk HT_ HW_ hHeld 9 23 (lb 15 2047) ?_
      refine tk HT_ HW_ hHeld 11 25 (lb 15 4095) ?_
      refine on HT_ 12 26 (lb 15 8191) fun K hK=>?_
      refine goes_ Tryz.func94 (by kernel_rfl) rfl #[.slice (some d) g.length c1,.int .i64 ((rd_T79 l1 a).f0),.int .i64 ((rd_T79 l1 a).f1)] (by rfl) rfl rfl ga ?_
      refine cm (impl_GameOf.calls k1 _ _ g ((rd_T79 l1 a).f0) ((rd_T79 l1 a).f1) X _ (cb A HB) y.out ae.out) ?_
      rintro e aD ⟨rfl,hb⟩
      refine⟨_,rfl,?_⟩
      replace b:=b1 b hb
      replace HB:=b2 hb
      (try clear hb)
      refine hK.out _ _ (cc5 b.out) (fun hHeld=>?_)
      clear hK K
      refine nm 26 ?_
      refine pu HT_ 13 27 (lb 15 16383) ?_
      refine pu HT_ 14 28 (lb 15 32767) ?_
      refine done_ (done_of HT_.out (by kernel_rfl)) ?_
      try go_wp2
      go_ret
      exact⟨er,bel⟩
     ·replace H:=am H
      have:(0≤(a:Int))=True:=ab
      have:(a<(l1.length:Int))=True:=ab
      obtain⟨d,l,q,s,t,u,x⟩:=hc5 HB.out (at_T79 z.out a asm asm)
      cases l
      try go_wp2_with (first|((with_reducible refine gd 6 ?_);refine bx w 6 #[.int .i64 0,.int .i64 0,.int .i64 0,.int .i64 0,.int .i64 0] 79 ?_;clear HB;intro c ak b B HB;obtain⟨_,_,_,_,_,_,_,_,_,_⟩:=cf5 b.out))
      generalize hw_:World.setCell (World.setCell (World.setCell (World.setCell (World.setCell ak _ _) _ _) _ _) _ _) _ _=al
      replace b:=am (pt5 b.out hw_.symm)
      replace HB:=am (bs5 HB.out (Aside0.out (by assumption)) hw_.symm)
      clear hw_
      replace b:=am (blk_drew b.out)
      replace HB:=am (below_drew1 HB.out)
      refine start_ (n:=15) (S:=fun w'=>w'.cell? ⟨c,0,none⟩=some (.int .i64 ((rd_T79 l1 a).f0))∧w'.cell? ⟨c,1,none⟩=some (.int .i64 ((rd_T79 l1 a).f1))∧w'.cell? ⟨c,2,none⟩=some (.int .i64 ((rd_T79 l1 a).f2))∧w'.cell? ⟨c,3,none⟩=some (.int .i64 ((rd_T79 l1 a).f3))∧w'.cell? ⟨c,4,none⟩=some (.int .i64 ((rd_T79 l1 a).f4))) (ds:=[]) (lb 15 0) (by kernel_rfl) rfl rfl (cc5 b.out) (fun hHeld=>?_);refine with_tabW impl_SeasonOk.tab4 impl_SeasonOk.bits4 (fun HT_ HW_=>?_)
      generalize al.drew=aE at b HB hHeld⊢
      refine pu HT_ 0 14 (lb 15 1) ?_
      refine tk HT_ HW_ hHeld 1 15 (lb 15 3) ?_
      refine on HT_ 2 16 (lb 15 7) fun K hK=>?_
      refine goes_ Tryz.func93 (by kernel_rfl) rfl #[.int .i64 a0,.agg #[.int .i64 ((rd_T79 l1 a).f0),.int .i64 ((rd_T79 l1 a).f1),.int .i64 ((rd_T79 l1 a).f2),.int .i64 ((rd_T79 l1 a).f3),.int .i64 ((rd_T79 l1 a).f4)]] (by rfl) rfl rfl ga ?_
      with_reducible refine(impl_GameOk.calls k1 a0 ((rd_T79 l1 a).f0) ((rd_T79 l1 a).f1) ((rd_T79 l1 a).f2) ((rd_T79 l1 a).f3) ((rd_T79 l1 a).f4) true _ A6.out).mono ?_
      rintro e aF ⟨rfl,hb⟩
      refine⟨_,rfl,?_⟩
      replace b:=b1 b hb
      replace HB:=b2 hb
      (try clear hb)
      have ad:(a:Int)≤((l1.length:Int):Int):=asm
      obtain⟨az,E,_,aa,_⟩:=info_parts info79
      have p:l1.length≤c1:=M.out
      have W:Kd.C k79 _ (some d) l1.length l1:=z.out
      have T:=cut_to (P:=Tryz.prog) 33 79 .i64 Tryz.underlying33 E (some d) l1.length c1 a (asm) ad p
      have I:=Kd.C_take (m:=(a:Int).toNat) W (by omega)
      have L:g.length=(a:Int).toNat:=(by rw[j.out,List.length_take];omega)
      rw[←j.out]at I
      rw[←L]at T
      have A:=am I
      have y:=am (show g.length≤c1 from by omega)
      clear I W p E aa
      have aq:=am L
      clear L
      replace ad:=eq_true ad
      refine hK.out _ _ (cc5 b.out) (fun hHeld=>?_)
      clear hK K
      refine nm 16 ?_
      refine pu HT_ 3 17 (lb 15 15) ?_
      refine pu HT_ 4 18 (lb 15 31) ?_
      refine pu HT_ 5 19 (lb 15 63) ?_
      refine pu HT_ 6 20 (lb 15 127) ?_
      refine pu HT_ 7 21 (lb 15 255) ?_
      refine pu HT_ 8 22 (lb 15 511) ?_
      refine pu HT_ 10 24 (lb 15 1535) ?_
      refine tk HT_ HW_ hHeld 9 23 (lb 15 2047) ?_
      refine tk HT_ HW_ hHeld 11 25 (lb 15 4095) ?_
      refine on HT_ 12 26 (lb 15 8191) fun K hK=>?_
      refine goes_ Tryz.func94 (by kernel_rfl) rfl #[.slice (some d) g.length c1,.int .i64 ((rd_T79 l1 a).f0),.int .i64 ((rd_T79 l1 a).f1)] (by rfl) rfl rfl ga ?_
      refine cm (impl_GameOf.calls k1 _ _ g ((rd_T79 l1 a).f0) ((rd_T79 l1 a).f1) X _ (cb A HB) y.out ae.out) ?_
      rintro e aG ⟨rfl,hb⟩
      refine⟨_,rfl,?_⟩
      replace b:=b1 b hb
      replace HB:=b2 hb
      (try clear hb)
      refine hK.out _ _ (cc5 b.out) (fun hHeld=>?_)
      clear hK K
      refine nm 26 ?_
      refine pu HT_ 13 27 (lb 15 16383) ?_
      refine pu HT_ 14 28 (lb 15 32767) ?_
      refine done_ (done_of HT_.out (by kernel_rfl)) ?_
      try go_wp2
      go_roundg k1
      case measure=>have:=af.out;omega
      case rel=>exact⟨(wrap64 (a+1)),(es),H,⟨by have:=af.out;omega⟩,⟨bel⟩⟩
    ·obtain rfl:=qj1 H
     have:(0≤(a:Int))=True:=ab
     have:(a<(l1.length:Int))=True:=ab
     obtain⟨d,l,q,s,t,u,x⟩:=hc5 HB.out (at_T79 z.out a asm asm)
     cases l
     try go_wp2_with (first|((with_reducible refine gd 6 ?_);refine bx w 6 #[.int .i64 0,.int .i64 0,.int .i64 0,.int .i64 0,.int .i64 0] 79 ?_;clear HB;intro c an b B HB;obtain⟨_,_,_,_,_,_,_,_,_,_⟩:=cf5 b.out))
     generalize hw_:World.setCell (World.setCell (World.setCell (World.setCell (World.setCell an _ _) _ _) _ _) _ _) _ _=ao
     replace b:=am (pt5 b.out hw_.symm)
     replace HB:=am (bs5 HB.out (Aside0.out (by assumption)) hw_.symm)
     clear hw_
     replace b:=am (blk_drew b.out)
     replace HB:=am (below_drew1 HB.out)
     refine start_ (n:=15) (S:=fun w'=>w'.cell? ⟨c,0,none⟩=some (.int .i64 ((rd_T79 l1 a).f0))∧w'.cell? ⟨c,1,none⟩=some (.int .i64 ((rd_T79 l1 a).f1))∧w'.cell? ⟨c,2,none⟩=some (.int .i64 ((rd_T79 l1 a).f2))∧w'.cell? ⟨c,3,none⟩=some (.int .i64 ((rd_T79 l1 a).f3))∧w'.cell? ⟨c,4,none⟩=some (.int .i64 ((rd_T79 l1 a).f4))) (ds:=[]) (lb 15 0) (by kernel_rfl) rfl rfl (cc5 b.out) (fun hHeld=>?_);refine with_tabW impl_SeasonOk.tab4 impl_SeasonOk.bits4 (fun HT_ HW_=>?_)
     generalize ao.drew=aH at b HB hHeld⊢
     refine pu HT_ 0 14 (lb 15 1) ?_
     refine tk HT_ HW_ hHeld 1 15 (lb 15 3) ?_
     refine on HT_ 2 16 (lb 15 7) fun K hK=>?_
     refine goes_ Tryz.func93 (by kernel_rfl) rfl #[.int .i64 a0,.agg #[.int .i64 ((rd_T79 l1 a).f0),.int .i64 ((rd_T79 l1 a).f1),.int .i64 ((rd_T79 l1 a).f2),.int .i64 ((rd_T79 l1 a).f3),.int .i64 ((rd_T79 l1 a).f4)]] (by rfl) rfl rfl ga ?_
     with_reducible refine(impl_GameOk.calls k1 a0 ((rd_T79 l1 a).f0) ((rd_T79 l1 a).f1) ((rd_T79 l1 a).f2) ((rd_T79 l1 a).f3) ((rd_T79 l1 a).f4) false _ A6.out).mono ?_
     rintro e aI ⟨rfl,hb⟩
     refine⟨_,rfl,?_⟩
     replace b:=b1 b hb
     replace HB:=b2 hb
     (try clear hb)
     refine hK.out _ _ (cc5 b.out) (fun hHeld=>?_)
     clear hK K
     refine nm 16 ?_
     refine pu HT_ 3 17 (lb 15 15) ?_
     refine pu HT_ 4 18 (lb 15 31) ?_
     refine pure_ (i:=5) (N:=some 19) (v:=undef) (a':=?_) (lb 15 63) rfl rfl (any_of HT_.out (by kernel_rfl)) (fun _ _ _ h=>h) (Or.inr ⟨by rfl,rfl⟩) ?_ ?_
     rotate_left
     ·simp only[Act.put,List.setIfInBounds_toArray,List.set_cons_zero,List.set_cons_succ,i64_w,i32_w]
      rfl
     refine pure_ (i:=6) (N:=some 20) (v:=undef) (a':=?_) (lb 15 127) rfl rfl (any_of HT_.out (by kernel_rfl)) (fun _ _ _ h=>h) (Or.inr ⟨by rfl,rfl⟩) ?_ ?_
     rotate_left
     ·simp only[Act.put,List.setIfInBounds_toArray,List.set_cons_zero,List.set_cons_succ,i64_w,i32_w]
      rfl
     refine pure_ (i:=7) (N:=some 21) (v:=undef) (a':=?_) (lb 15 255) rfl rfl (any_of HT_.out (by kernel_rfl)) (fun _ _ _ h=>h) (Or.inr ⟨by rfl,rfl⟩) ?_ ?_
     rotate_left
     ·simp only[Act.put,List.setIfInBounds_toArray,List.set_cons_zero,List.set_cons_succ,i64_w,i32_w]
      rfl
     refine pure_ (i:=8) (N:=some 22) (v:=undef) (a':=?_) (lb 15 511) rfl rfl (any_of HT_.out (by kernel_rfl)) (fun _ _ _ h=>h) (Or.inr ⟨by rfl,rfl⟩) ?_ ?_
     rotate_left
     ·simp only[Act.put,List.setIfInBounds_toArray,List.set_cons_zero,List.set_cons_succ,i64_w,i32_w]
      rfl
     refine pure_ (i:=9) (N:=some 23) (v:=undef) (a':=?_) (lb 15 1023) rfl rfl (any_of HT_.out (by kernel_rfl)) (fun _ _ _ h=>h) (Or.inr ⟨by rfl,rfl⟩) ?_ ?_
     rotate_left
     ·simp only[Act.put,List.setIfInBounds_toArray,List.set_cons_zero,List.set_cons_succ,i64_w,i32_w]
      rfl
     refine pure_ (i:=10) (N:=some 24) (v:=undef) (a':=?_) (lb 15 2047) rfl rfl (any_of HT_.out (by kernel_rfl)) (fun _ _ _ h=>h) (Or.inr ⟨by rfl,rfl⟩) ?_ ?_
     rotate_left
     ·simp only[Act.put,List.setIfInBounds_toArray,List.set_cons_zero,List.set_cons_succ,i64_w,i32_w]
      rfl
     refine pure_ (i:=11) (N:=some 25) (v:=undef) (a':=?_) (lb 15 4095) rfl rfl (any_of HT_.out (by kernel_rfl)) (fun _ _ _ h=>h) (Or.inr ⟨by rfl,rfl⟩) ?_ ?_
     rotate_left
     ·simp only[Act.put,List.setIfInBounds_toArray,List.set_cons_zero,List.set_cons_succ,i64_w,i32_w]
      rfl
     refine pure_ (i:=12) (N:=some 26) (v:=undef) (a':=?_) (lb 15 8191) rfl rfl (any_of HT_.out (by kernel_rfl)) (fun _ _ _ h=>h) (Or.inr ⟨by rfl,rfl⟩) ?_ ?_
     rotate_left
     ·simp only[Act.put,List.setIfInBounds_toArray,List.set_cons_zero,List.set_cons_succ,i64_w,i32_w]
      rfl
     refine pure_ (i:=13) (N:=some 27) (v:=undef) (a':=?_) (lb 15 16383) rfl rfl (any_of HT_.out (by kernel_rfl)) (fun _ _ _ h=>h) (Or.inr ⟨by rfl,rfl⟩) ?_ ?_
     rotate_left
     ·simp only[Act.put,List.setIfInBounds_toArray,List.set_cons_zero,List.set_cons_succ,i64_w,i32_w]
      rfl
     refine pu HT_ 14 28 (lb 15 32767) ?_
     refine done_ (done_of HT_.out (by kernel_rfl)) ?_
     try go_wp2
     go_ret
     exact⟨er,bel⟩
   ·obtain rfl:=qj1 H
    go_wp2
    go_ret
    exact⟨er,bel⟩
def impl_arePenalties_1.f(a0:Int):Option (Bool):=(impl_within.f a0 0 1000).bind fun a=>(some (!a))
theorem impl_arePenalties_1.calls(a0:Int)(r:Bool)(w:World)(h:impl_arePenalties_1.f a0=some r):Calls Tryz.prog 96 #[.int .i64 a0] w fun e w'=>e=.returned (.bool r)∧Drawn0 w w':=by
 have H:=h
 unfold impl_arePenalties_1.f at H
 clear h
 replace H:=bm H;obtain⟨a,A2,H⟩:=H
 obtain rfl:=qj1 H
 go_enter Tryz.func96,Tryz.ntmps96
 go_wp2_with (first|((with_reducible refine gc 72 ?_);refine gl 4 Tryz.func72 (impl_within.calls a0 0 1000 a _ A2.out) ?_;rintro e w' ⟨rfl,⟨nd,rfl⟩⟩;refine⟨_,rfl,?_⟩))
 go_ret
 exact⟨es,by repeat (first|exact Drawn0.refl _|apply Drawn0.step)⟩
def slices_IndexFunc_int_int_impl_arePenalties_1.l0:Nat→List Int→Int→Int→Option (Int)
  |0,_,_,_=>none
  |k+1,x0,x7,x8=>if x8<x7 then(if 0≤x8 then(if x8<(x0.length:Int)then((impl_arePenalties_1.f (rd x0 x8)).bind fun a=>(if a=true then(some x8)else(slices_IndexFunc_int_int_impl_arePenalties_1.l0 k x0 x7 (wrap64 (x8+1)))))else(none))else(none))else(some (-1))
def slices_IndexFunc_int_int_impl_arePenalties_1.f(k:Nat)(l0:List Int):Option (Int):=slices_IndexFunc_int_int_impl_arePenalties_1.l0 k l0 (l0.length:Int) 0
theorem slices_IndexFunc_int_int_impl_arePenalties_1.calls(k:Nat)(A0:Option Addr)(c0:Nat)(l0:List Int)(r:Int)(w:World)(d:Kd.C (Kd.int .i64) w A0 l0.length l0)(i:l0.length≤c0)(h:slices_IndexFunc_int_int_impl_arePenalties_1.f k l0=some r):Calls Tryz.prog 108 #[.slice A0 l0.length c0,.func (.func 96) #[] #[]] w fun e w'=>e=.returned (.int .i64 r)∧Below w.heap.size w w':=by
 replace d:=am d
 replace i:=am i
 have HB:=qb w
 have H:=h
 unfold slices_IndexFunc_int_int_impl_arePenalties_1.f at H
 clear h
 replace H:=am H
 go_enter Tryz.func108,Tryz.ntmps108
 go_wp2
 go_loopg [8] k (fun kq v8 w'=>∃(a:Int),v8=.int .i64 a∧Aside0 (slices_IndexFunc_int_int_impl_arePenalties_1.l0 kq l0 (l0.length:Int) a=some r)∧Aside0 (kq≤k)∧Aside0 (Below w.heap.size w w'))
 case atStart=>exact⟨(0),(es),H,⟨Nat.le_refl _⟩,⟨bel⟩⟩
 case round=>
  clear H
  obtain⟨a,rfl,HA,j,HB⟩:=hrel
  cases gk with
  |zero=>exact absurd HA.out (by simp [slices_IndexFunc_int_int_impl_arePenalties_1.l0])
  |succ k1=>
   have H:=HA.out
   clear HA
   simp only[slices_IndexFunc_int_int_impl_arePenalties_1.l0]at H
   replace H:=i1 H;obtain⟨l,H⟩|⟨l,H⟩:=H
   ·replace H:=i0 H;obtain⟨m,H⟩:=H
    replace H:=i0 H;obtain⟨n,H⟩:=H
    replace H:=bm H;obtain⟨o,A6,H⟩:=H
    replace H:=ib H;obtain⟨rfl,H⟩|⟨rfl,H⟩:=H
    ·obtain rfl:=qj1 H
     have:(0≤(a:Int))=True:=ab
     have:(a<(l0.length:Int))=True:=ab
     obtain⟨g,b,c⟩:=hc1 HB.out (Kd.at_int d.out a asm asm)
     cases b
     go_wp2_with (first|(go_at_call 96;refine cm1 (impl_arePenalties_1.calls (rd l0 a) true _ A6.out) ?_;intro nd))
     go_ret
     exact⟨er,bel⟩
    ·replace H:=am H
     have:(0≤(a:Int))=True:=ab
     have:(a<(l0.length:Int))=True:=ab
     obtain⟨g,b,c⟩:=hc1 HB.out (Kd.at_int d.out a asm asm)
     cases b
     go_wp2_with (first|(go_at_call 96;refine cm1 (impl_arePenalties_1.calls (rd l0 a) false _ A6.out) ?_;intro nd))
     go_roundg k1
     case measure=>have:=j.out;omega
     case rel=>exact⟨(wrap64 (a+1)),(es),H,⟨by have:=j.out;omega⟩,⟨bel⟩⟩
   ·obtain rfl:=qj1 H
    go_wp2
    go_ret
    exact⟨er,bel⟩
def slices_ContainsFunc_int_int_impl_arePenalties_1.f(k:Nat)(l0:List Int):Option (Bool):=(slices_IndexFunc_int_int_impl_arePenalties_1.f k l0).bind fun a=>(some (decide (a≥0)))
theorem slices_ContainsFunc_int_int_impl_arePenalties_1.calls(k:Nat)(A0:Option Addr)(c0:Nat)(l0:List Int)(r:Bool)(w:World)(b:Kd.C (Kd.int .i64) w A0 l0.length l0)(a:l0.length≤c0)(h:slices_ContainsFunc_int_int_impl_arePenalties_1.f k l0=some r):Calls Tryz.prog 95 #[.slice A0 l0.length c0,.func (.func 96) #[] #[]] w fun e w'=>e=.returned (.bool r)∧Below w.heap.size w w':=by
 replace b:=am b
 replace a:=am a
 have HB:=qb w
 have H:=h
 unfold slices_ContainsFunc_int_int_impl_arePenalties_1.f at H
 clear h
 replace H:=bm H;obtain⟨c,A3,H⟩:=H
 obtain rfl:=qj1 H
 go_enter Tryz.func95,Tryz.ntmps95
 go_wp2_with (first|((with_reducible refine gc 108 ?_);refine gl 7 Tryz.func108 (slices_IndexFunc_int_int_impl_arePenalties_1.calls k _ _ l0 c _ (ck b.out) a.out A3.out) ?_;rintro e w4 ⟨rfl,hb⟩;refine⟨_,rfl,?_⟩;replace HB:=b2 hb;(try clear hb)))
 go_ret
 exact⟨er,bel⟩
def impl_arePenalties.f(k:Nat)(l0:List Int)(a1:Int):Option (Bool):=if(l0.length:Int)=a1 then((slices_ContainsFunc_int_int_impl_arePenalties_1.f k l0).bind fun a=>(some (!a)))else(some false)
theorem impl_arePenalties.calls(k:Nat)(A0:Option Addr)(c0:Nat)(l0:List Int)(a1:Int)(r:Bool)(w:World)(b:Kd.C (Kd.int .i64) w A0 l0.length l0)(a:l0.length≤c0)(h:impl_arePenalties.f k l0 a1=some r):Calls Tryz.prog 80 #[.slice A0 l0.length c0,.int .i64 a1] w fun e w'=>e=.returned (.bool r)∧Below w.heap.size w w':=by
 replace b:=am b
 replace a:=am a
 have HB:=qb w
 have H:=h
 unfold impl_arePenalties.f at H
 clear h
 replace H:=ie H;obtain⟨c,d,H⟩|⟨⟨c3,c,d⟩,H⟩:=H
 ·replace H:=bm H;obtain⟨g,A4,H⟩:=H
  obtain rfl:=qj1 H
  go_enter Tryz.func80,Tryz.ntmps80
  go_wp2_with (first|(go_at_call 95;refine cm2 (slices_ContainsFunc_int_int_impl_arePenalties_1.calls k _ _ l0 g _ (ck b.out) a.out A4.out) ?_;intro w5 hb;replace HB:=b2 hb;clear hb))
  go_ret
  exact⟨er,bel⟩
 ·obtain rfl:=qj1 H
  go_enter Tryz.func80,Tryz.ntmps80
  go_wp2
  go_ret
  exact⟨er,bel⟩
def impl_BookOk.f(k:Nat)(a:List (S83))(b:Int)(c:Int)(d:Int)(g:List Int)(e:Bool)(h:List (S79))(i:List Int)(j:List Int):Option (Bool):=(impl_FieldOk.f k a).bind fun l=>(if l=true then((impl_RulesOk.f k b c d g e).bind fun m=>(if m=true then((impl_SeasonOk.f k (a.length:Int) h).bind fun n=>(if n=true then((impl_arePenalties.f k i (a.length:Int)).bind fun o=>(if o=true then((impl_arePenalties.f k j (a.length:Int)).bind fun p=>(some p))else(some false)))else(some false)))else(some false)))else(some false))
theorem impl_BookOk.calls(k:Nat)(t:Option Addr)(B:Nat)(b:List (S83))(i:Int)(j:Int)(l:Int)(u:Option Addr)(D:Nat)(c:List Int)(m:Bool)(v:Option Addr)(E:Nat)(d:List (S79))(x:Option Addr)(G:Nat)(g:List Int)(y:Option Addr)(I:Nat)(n:List Int)(r:Bool)(w:World)(p:Kd.C k83 w t b.length b)(o:b.length≤B)(s:Kd.C (Kd.int .i64) w u c.length c)(q:c.length≤D)(A:Kd.C k79 w v d.length d)(z:d.length≤E)(L:Kd.C (Kd.int .i64) w x g.length g)(K:g.length≤G)(P:Kd.C (Kd.int .i64) w y n.length n)(O:n.length≤I)(h:impl_BookOk.f k b i j l c m d g n=some r):Calls Tryz.prog 61 #[.agg #[.slice t b.length B,.int .i64 i,.int .i64 j,.int .i64 l,.slice u c.length D,.bool m,.slice v d.length E,.slice x g.length G,.slice y n.length I]] w fun e w'=>e=.returned (.bool r)∧Below w.heap.size w w':=by
 have X:=Tryz.underlying35
 have W:=Tryz.underlying32
 replace p:=am p
 replace o:=am o
 replace s:=am s
 replace q:=am q
 replace A:=am A
 replace z:=am z
 replace L:=am L
 replace K:=am K
 replace P:=am P
 replace O:=am O
 have HB:=qb w
 have H:=h
 unfold impl_BookOk.f at H
 clear h
 replace H:=bm H;obtain⟨Y,A2,H⟩:=H
 replace H:=ib H;obtain⟨rfl,H⟩|⟨rfl,H⟩:=H
 ·replace H:=bm H;obtain⟨Z,A4,H⟩:=H
  replace H:=ib H;obtain⟨rfl,H⟩|⟨rfl,H⟩:=H
  ·replace H:=bm H;obtain⟨aa,A6,H⟩:=H
   replace H:=ib H;obtain⟨rfl,H⟩|⟨rfl,H⟩:=H
   ·replace H:=bm H;obtain⟨ac,A8,H⟩:=H
    replace H:=ib H;obtain⟨rfl,H⟩|⟨rfl,H⟩:=H
    ·replace H:=bm H;obtain⟨T,U,H⟩:=H
     obtain rfl:=qj1 H
     go_enter Tryz.func61,Tryz.ntmps61
     go_wp2_with (first|((with_reducible refine gd 1 ?_);refine bx w 1 #[.slice t b.length B,.int .i64 i,.int .i64 j,.int .i64 l,.slice u c.length D,.bool m,.slice v d.length E,.slice x g.length G,.slice y n.length I] 35 ?_;clear HB;intro M ad a J HB;obtain⟨_,_,_,_,_,_,_,_,_,_,_,_,_,_,_,_,_,_⟩:=cf9 a.out)|((with_reducible refine gc 77 ?_);refine gl 9 Tryz.func77 (impl_FieldOk.calls k _ _ b true _ (cb p HB) o.out A2.out) ?_;rintro e ae ⟨rfl,hb⟩;refine⟨_,rfl,?_⟩;replace a:=b1 a hb;replace HB:=b2 hb;(try clear hb);obtain⟨_,_,_,_,_,_,_,_,_,_,_,_,_,_,_,_,_,_⟩:=cf9 a.out)|(go_at_call 78;refine cm2 (impl_RulesOk.calls k i j l _ _ c m true _ (cb s HB) q.out A4.out) ?_;intro af hb;replace a:=b1 a hb;replace HB:=b2 hb;clear hb;obtain⟨_,_,_,_,_,_,_,_,_,_,_,_,_,_,_,_,_,_⟩:=cf9 a.out)|(go_at_call 79;refine cm2 (impl_SeasonOk.calls k (b.length:Int) _ _ d true _ (cb A HB) z.out A6.out) ?_;intro ag hb;replace a:=b1 a hb;replace HB:=b2 hb;clear hb;obtain⟨_,_,_,_,_,_,_,_,_,_,_,_,_,_,_,_,_,_⟩:=cf9 a.out)|(go_at_call 80;refine cm2 (impl_arePenalties.calls k _ _ g (b.length:Int) true _ (cb L HB) K.out A8.out) ?_;intro ah hb;replace a:=b1 a hb;replace HB:=b2 hb;clear hb;obtain⟨_,_,_,_,_,_,_,_,_,_,_,_,_,_,_,_,_,_⟩:=cf9 a.out)|(go_at_call 80;refine cm2 (impl_arePenalties.calls k _ _ n (b.length:Int) T _ (cb P HB) O.out U.out) ?_;intro ai hb;replace a:=b1 a hb;replace HB:=b2 hb;clear hb))
     go_ret
     exact⟨er,bel⟩
    ·obtain rfl:=qj1 H
     go_enter Tryz.func61,Tryz.ntmps61
     go_wp2_with (first|((with_reducible refine gd 1 ?_);refine bx w 1 #[.slice t b.length B,.int .i64 i,.int .i64 j,.int .i64 l,.slice u c.length D,.bool m,.slice v d.length E,.slice x g.length G,.slice y n.length I] 35 ?_;clear HB;intro M aj a J HB;obtain⟨_,_,_,_,_,_,_,_,_,_,_,_,_,_,_,_,_,_⟩:=cf9 a.out)|((with_reducible refine gc 77 ?_);refine gl 9 Tryz.func77 (impl_FieldOk.calls k _ _ b true _ (cb p HB) o.out A2.out) ?_;rintro e ak ⟨rfl,hb⟩;refine⟨_,rfl,?_⟩;replace a:=b1 a hb;replace HB:=b2 hb;(try clear hb);obtain⟨_,_,_,_,_,_,_,_,_,_,_,_,_,_,_,_,_,_⟩:=cf9 a.out)|(go_at_call 78;refine cm2 (impl_RulesOk.calls k i j l _ _ c m true _ (cb s HB) q.out A4.out) ?_;intro al hb;replace a:=b1 a hb;replace HB:=b2 hb;clear hb;obtain⟨_,_,_,_,_,_,_,_,_,_,_,_,_,_,_,_,_,_⟩:=cf9 a.out)|(go_at_call 79;refine cm2 (impl_SeasonOk.calls k (b.length:Int) _ _ d true _ (cb A HB) z.out A6.out) ?_;intro an hb;replace a:=b1 a hb;replace HB:=b2 hb;clear hb;obtain⟨_,_,_,_,_,_,_,_,_,_,_,_,_,_,_,_,_,_⟩:=cf9 a.out)|(go_at_call 80;refine cm2 (impl_arePenalties.calls k _ _ g (b.length:Int) false _ (cb L HB) K.out A8.out) ?_;intro ao hb;replace a:=b1 a hb;replace HB:=b2 hb;clear hb))
     go_ret
     exact⟨er,bel⟩
   ·obtain rfl:=qj1 H
    go_enter Tryz.func61,Tryz.ntmps61
    go_wp2_with (first|((with_reducible refine gd 1 ?_);refine bx w 1 #[.slice t b.length B,.int .i64 i,.int .i64 j,.int .i64 l,.slice u c.length D,.bool m,.slice v d.length E,.slice x g.length G,.slice y n.length I] 35 ?_;clear HB;intro M ap a J HB;obtain⟨_,_,_,_,_,_,_,_,_,_,_,_,_,_,_,_,_,_⟩:=cf9 a.out)|((with_reducible refine gc 77 ?_);refine gl 9 Tryz.func77 (impl_FieldOk.calls k _ _ b true _ (cb p HB) o.out A2.out) ?_;rintro e aq ⟨rfl,hb⟩;refine⟨_,rfl,?_⟩;replace a:=b1 a hb;replace HB:=b2 hb;(try clear hb);obtain⟨_,_,_,_,_,_,_,_,_,_,_,_,_,_,_,_,_,_⟩:=cf9 a.out)|(go_at_call 78;refine cm2 (impl_RulesOk.calls k i j l _ _ c m true _ (cb s HB) q.out A4.out) ?_;intro ar hb;replace a:=b1 a hb;replace HB:=b2 hb;clear hb;obtain⟨_,_,_,_,_,_,_,_,_,_,_,_,_,_,_,_,_,_⟩:=cf9 a.out)|(go_at_call 79;refine cm2 (impl_SeasonOk.calls k (b.length:Int) _ _ d false _ (cb A HB) z.out A6.out) ?_;intro au hb;replace a:=b1 a hb;replace HB:=b2 hb;clear hb))
    go_ret
    exact⟨er,bel⟩
  ·obtain rfl:=qj1 H
   go_enter Tryz.func61,Tryz.ntmps61
   go_wp2_with (first|((with_reducible refine gd 1 ?_);refine bx w 1 #[.slice t b.length B,.int .i64 i,.int .i64 j,.int .i64 l,.slice u c.length D,.bool m,.slice v d.length E,.slice x g.length G,.slice y n.length I] 35 ?_;clear HB;intro M av a J HB;obtain⟨_,_,_,_,_,_,_,_,_,_,_,_,_,_,_,_,_,_⟩:=cf9 a.out)|((with_reducible refine gc 77 ?_);refine gl 9 Tryz.func77 (impl_FieldOk.calls k _ _ b true _ (cb p HB) o.out A2.out) ?_;rintro e aw ⟨rfl,hb⟩;refine⟨_,rfl,?_⟩;replace a:=b1 a hb;replace HB:=b2 hb;(try clear hb);obtain⟨_,_,_,_,_,_,_,_,_,_,_,_,_,_,_,_,_,_⟩:=cf9 a.out)|(go_at_call 78;refine cm2 (impl_RulesOk.calls k i j l _ _ c m false _ (cb s HB) q.out A4.out) ?_;intro ax hb;replace a:=b1 a hb;replace HB:=b2 hb;clear hb))
   go_ret
   exact⟨er,bel⟩
 ·obtain rfl:=qj1 H
  go_enter Tryz.func61,Tryz.ntmps61
  go_wp2_with (first|((with_reducible refine gd 1 ?_);refine bx w 1 #[.slice t b.length B,.int .i64 i,.int .i64 j,.int .i64 l,.slice u c.length D,.bool m,.slice v d.length E,.slice x g.length G,.slice y n.length I] 35 ?_;clear HB;intro M ay a J HB;obtain⟨_,_,_,_,_,_,_,_,_,_,_,_,_,_,_,_,_,_⟩:=cf9 a.out)|((with_reducible refine gc 77 ?_);refine gl 9 Tryz.func77 (impl_FieldOk.calls k _ _ b false _ (cb p HB) o.out A2.out) ?_;rintro e az ⟨rfl,hb⟩;refine⟨_,rfl,?_⟩;replace a:=b1 a hb;replace HB:=b2 hb;(try clear hb)))
  go_ret
  exact⟨er,bel⟩
def impl_IsSimple.f(k:Nat)(a:Int)(b:Int)(c:Int)(e:List Int)(d:Bool):Option (Bool):=(impl_RulesOk.f k a b c e d).bind fun g=>(if g=true then(if a=2 then(if b=1 then(some (c==0))else(some false))else(some false))else(some false))
theorem impl_IsSimple.calls(k:Nat)(c:Int)(d:Int)(g:Int)(m:Option Addr)(n:Nat)(b:List Int)(i:Bool)(r:Bool)(w:World)(l:Kd.C (Kd.int .i64) w m b.length b)(j:b.length≤n)(h:impl_IsSimple.f k c d g b i=some r):Calls Tryz.prog 62 #[.agg #[.int .i64 c,.int .i64 d,.int .i64 g,.slice m b.length n,.bool i]] w fun e w'=>e=.returned (.bool r)∧Below w.heap.size w w':=by
 have v:=Tryz.underlying32
 replace l:=am l
 replace j:=am j
 have HB:=qb w
 have H:=h
 unfold impl_IsSimple.f at H
 clear h
 replace H:=bm H;obtain⟨x,A2,H⟩:=H
 replace H:=ib H;obtain⟨rfl,H⟩|⟨rfl,H⟩:=H
 ·replace H:=ie H;obtain⟨q,s,H⟩|⟨⟨c4,q,s⟩,H⟩:=H
  ·replace H:=ie H;obtain⟨t,u,H⟩|⟨⟨c5,t,u⟩,H⟩:=H
   ·obtain rfl:=qj1 H
    go_enter Tryz.func62,Tryz.ntmps62
    go_wp2_with (first|((with_reducible refine gd 1 ?_);refine bx w 1 #[.int .i64 c,.int .i64 d,.int .i64 g,.slice m b.length n,.bool i] 32 ?_;clear HB;intro p w6 a o HB;obtain⟨_,_,_,_,_,_,_,_,_,_⟩:=cf5 a.out)|((with_reducible refine gc 78 ?_);refine gl 4 Tryz.func78 (impl_RulesOk.calls k c d g _ _ b i true _ (cb l HB) j.out A2.out) ?_;rintro e w8 ⟨rfl,hb⟩;refine⟨_,rfl,?_⟩;replace a:=b1 a hb;replace HB:=b2 hb;(try clear hb);obtain⟨_,_,_,_,_,_,_,_,_,_⟩:=cf5 a.out))
    go_ret
    exact⟨er,bel⟩
   ·obtain rfl:=qj1 H
    go_enter Tryz.func62,Tryz.ntmps62
    go_wp2_with (first|((with_reducible refine gd 1 ?_);refine bx w 1 #[.int .i64 c,.int .i64 d,.int .i64 g,.slice m b.length n,.bool i] 32 ?_;clear HB;intro p y a o HB;obtain⟨_,_,_,_,_,_,_,_,_,_⟩:=cf5 a.out)|((with_reducible refine gc 78 ?_);refine gl 4 Tryz.func78 (impl_RulesOk.calls k c d g _ _ b i true _ (cb l HB) j.out A2.out) ?_;rintro e z ⟨rfl,hb⟩;refine⟨_,rfl,?_⟩;replace a:=b1 a hb;replace HB:=b2 hb;(try clear hb);obtain⟨_,_,_,_,_,_,_,_,_,_⟩:=cf5 a.out))
    go_ret
    exact⟨er,bel⟩
  ·obtain rfl:=qj1 H
   go_enter Tryz.func62,Tryz.ntmps62
   go_wp2_with (first|((with_reducible refine gd 1 ?_);refine bx w 1 #[.int .i64 c,.int .i64 d,.int .i64 g,.slice m b.length n,.bool i] 32 ?_;clear HB;intro p A a o HB;obtain⟨_,_,_,_,_,_,_,_,_,_⟩:=cf5 a.out)|((with_reducible refine gc 78 ?_);refine gl 4 Tryz.func78 (impl_RulesOk.calls k c d g _ _ b i true _ (cb l HB) j.out A2.out) ?_;rintro e B ⟨rfl,hb⟩;refine⟨_,rfl,?_⟩;replace a:=b1 a hb;replace HB:=b2 hb;(try clear hb);obtain⟨_,_,_,_,_,_,_,_,_,_⟩:=cf5 a.out))
   go_ret
   exact⟨er,bel⟩
 ·obtain rfl:=qj1 H
  go_enter Tryz.func62,Tryz.ntmps62
  go_wp2_with (first|((with_reducible refine gd 1 ?_);refine bx w 1 #[.int .i64 c,.int .i64 d,.int .i64 g,.slice m b.length n,.bool i] 32 ?_;clear HB;intro p D a o HB;obtain⟨_,_,_,_,_,_,_,_,_,_⟩:=cf5 a.out)|((with_reducible refine gc 78 ?_);refine gl 4 Tryz.func78 (impl_RulesOk.calls k c d g _ _ b i false _ (cb l HB) j.out A2.out) ?_;rintro e E ⟨rfl,hb⟩;refine⟨_,rfl,?_⟩;replace a:=b1 a hb;replace HB:=b2 hb;(try clear hb)))
  go_ret
  exact⟨er,bel⟩
def impl_isTeam.f(a:List (S83))(c:Int)(d:Int)(e:Int)(h:List Int)(g:Bool)(i:List (S79))(j:List Int)(k:List Int)(a1:Int):Option (Bool):=(impl_within.f a1 0 (wrap64 ((a.length:Int)-1))).bind fun b=>(some b)
theorem impl_isTeam.calls(i:Option Addr)(E:Nat)(a:List (S83))(z:Int)(A:Int)(B:Int)(j:Option Addr)(G:Nat)(b:List Int)(D:Bool)(k:Option Addr)(I:Nat)(c:List (S79))(l:Option Addr)(J:Nat)(d:List Int)(m:Option Addr)(K:Nat)(g:List Int)(a1:Int)(r:Bool)(w:World)(t:Kd.C k83 w i a.length a)(n:a.length≤E)(u:Kd.C (Kd.int .i64) w j b.length b)(o:b.length≤G)(v:Kd.C k79 w k c.length c)(p:c.length≤I)(x:Kd.C (Kd.int .i64) w l d.length d)(q:d.length≤J)(y:Kd.C (Kd.int .i64) w m g.length g)(s:g.length≤K)(h:impl_isTeam.f a z A B b D c d g a1=some r):Calls Tryz.prog 63 #[.agg #[.slice i a.length E,.int .i64 z,.int .i64 A,.int .i64 B,.slice j b.length G,.bool D,.slice k c.length I,.slice l d.length J,.slice m g.length K],.int .i64 a1] w fun e w'=>e=.returned (.bool r)∧Below w.heap.size w w':=by
 have T:=Tryz.underlying35
 replace t:=am t
 replace n:=am n
 replace u:=am u
 replace o:=am o
 replace v:=am v
 replace p:=am p
 replace x:=am x
 replace q:=am q
 replace y:=am y
 replace s:=am s
 have HB:=qb w
 have H:=h
 unfold impl_isTeam.f at H
 clear h
 replace H:=bm H;obtain⟨M,A3,H⟩:=H
 obtain rfl:=qj1 H
 go_enter Tryz.func63,Tryz.ntmps63
 go_wp2_with (first|((with_reducible refine gd 2 ?_);refine bx w 2 #[.slice i a.length E,.int .i64 z,.int .i64 A,.int .i64 B,.slice j b.length G,.bool D,.slice k c.length I,.slice l d.length J,.slice m g.length K] 35 ?_;clear HB;intro P w4 L O HB;obtain⟨_,_,_,_,_,_,_,_,_,_,_,_,_,_,_,_,_,_⟩:=cf9 L.out)|((with_reducible refine gc 72 ?_);refine gl 10 Tryz.func72 (impl_within.calls a1 0 (wrap64 ((a.length:Int)-1)) M _ A3.out) ?_;rintro e w' ⟨rfl,⟨nd,rfl⟩⟩;refine⟨_,rfl,?_⟩))
 go_ret
 exact⟨er,bel⟩
def impl_isLead.f(k:Nat)(g:List (S83))(a:Int)(b:Int)(c:Int)(e:List Int)(d:Bool)(h:List (S79))(i:List Int)(j:List Int)(a1:Int):Option (Bool):=(impl_BookOk.f k g a b c e d h i j).bind fun l=>(if l=true then((impl_IsSimple.f k a b c e d).bind fun m=>(if m=true then((impl_isTeam.f g a b c e d h i j a1).bind fun n=>(some n))else(some false)))else(some false))
theorem impl_isLead.calls(k:Nat)(A:Option Addr)(I:Nat)(c:List (S83))(m:Int)(n:Int)(o:Int)(B:Option Addr)(J:Nat)(b:List Int)(p:Bool)(D:Option Addr)(K:Nat)(d:List (S79))(E:Option Addr)(L:Nat)(g:List Int)(G:Option Addr)(M:Nat)(i:List Int)(a1:Int)(r:Bool)(w:World)(v:Kd.C k83 w A c.length c)(q:c.length≤I)(l:Kd.C (Kd.int .i64) w B b.length b)(j:b.length≤J)(x:Kd.C k79 w D d.length d)(s:d.length≤K)(y:Kd.C (Kd.int .i64) w E g.length g)(t:g.length≤L)(z:Kd.C (Kd.int .i64) w G i.length i)(u:i.length≤M)(h:impl_isLead.f k c m n o b p d g i a1=some r):Calls Tryz.prog 38 #[.agg #[.slice A c.length I,.int .i64 m,.int .i64 n,.int .i64 o,.slice B b.length J,.bool p,.slice D d.length K,.slice E g.length L,.slice G i.length M],.int .i64 a1] w fun e w'=>e=.returned (.bool r)∧Below w.heap.size w w':=by
 have W:=Tryz.underlying35
 have U:=Tryz.underlying32
 replace v:=am v
 replace q:=am q
 replace l:=am l
 replace j:=am j
 replace x:=am x
 replace s:=am s
 replace y:=am y
 replace t:=am t
 replace z:=am z
 replace u:=am u
 have HB:=qb w
 have H:=h
 unfold impl_isLead.f at H
 clear h
 replace H:=bm H;obtain⟨X,A3,H⟩:=H
 replace H:=ib H;obtain⟨rfl,H⟩|⟨rfl,H⟩:=H
 ·replace H:=bm H;obtain⟨Y,A5,H⟩:=H
  replace H:=ib H;obtain⟨rfl,H⟩|⟨rfl,H⟩:=H
  ·replace H:=bm H;obtain⟨T,A7,H⟩:=H
   obtain rfl:=qj1 H
   go_enter Tryz.func38,Tryz.ntmps38
   go_wp2_with (first|((with_reducible refine gd 2 ?_);refine bx w 2 #[.slice A c.length I,.int .i64 m,.int .i64 n,.int .i64 o,.slice B b.length J,.bool p,.slice D d.length K,.slice E g.length L,.slice G i.length M] 35 ?_;clear HB;intro P w8 a O HB;obtain⟨_,_,_,_,_,_,_,_,_,_,_,_,_,_,_,_,_,_⟩:=cf9 a.out)|((with_reducible refine gc 61 ?_);refine gl 6 Tryz.func61 (impl_BookOk.calls k _ _ c m n o _ _ b p _ _ d _ _ g _ _ i true _ (cb v HB) q.out (cb l HB) j.out (cb x HB) s.out (cb y HB) t.out (cb z HB) u.out A3.out) ?_;rintro e Z ⟨rfl,hb⟩;refine⟨_,rfl,?_⟩;replace a:=b1 a hb;replace HB:=b2 hb;(try clear hb);obtain⟨_,_,_,_,_,_,_,_,_,_,_,_,_,_,_,_,_,_⟩:=cf9 a.out)|(go_at_call 62;refine cm2 (impl_IsSimple.calls k m n o _ _ b p true _ (cb l HB) j.out A5.out) ?_;intro aa hb;replace a:=b1 a hb;replace HB:=b2 hb;clear hb;obtain⟨_,_,_,_,_,_,_,_,_,_,_,_,_,_,_,_,_,_⟩:=cf9 a.out)|(go_at_call 63;refine cm2 (impl_isTeam.calls _ _ c m n o _ _ b p _ _ d _ _ g _ _ i a1 T _ (cb v HB) q.out (cb l HB) j.out (cb x HB) s.out (cb y HB) t.out (cb z HB) u.out A7.out) ?_;intro ac hb;replace a:=b1 a hb;replace HB:=b2 hb;clear hb))
   go_ret
   exact⟨er,bel⟩
  ·obtain rfl:=qj1 H
   go_enter Tryz.func38,Tryz.ntmps38
   go_wp2_with (first|((with_reducible refine gd 2 ?_);refine bx w 2 #[.slice A c.length I,.int .i64 m,.int .i64 n,.int .i64 o,.slice B b.length J,.bool p,.slice D d.length K,.slice E g.length L,.slice G i.length M] 35 ?_;clear HB;intro P ad a O HB;obtain⟨_,_,_,_,_,_,_,_,_,_,_,_,_,_,_,_,_,_⟩:=cf9 a.out)|((with_reducible refine gc 61 ?_);refine gl 6 Tryz.func61 (impl_BookOk.calls k _ _ c m n o _ _ b p _ _ d _ _ g _ _ i true _ (cb v HB) q.out (cb l HB) j.out (cb x HB) s.out (cb y HB) t.out (cb z HB) u.out A3.out) ?_;rintro e ae ⟨rfl,hb⟩;refine⟨_,rfl,?_⟩;replace a:=b1 a hb;replace HB:=b2 hb;(try clear hb);obtain⟨_,_,_,_,_,_,_,_,_,_,_,_,_,_,_,_,_,_⟩:=cf9 a.out)|(go_at_call 62;refine cm2 (impl_IsSimple.calls k m n o _ _ b p false _ (cb l HB) j.out A5.out) ?_;intro af hb;replace a:=b1 a hb;replace HB:=b2 hb;clear hb))
   go_ret
   exact⟨er,bel⟩
 ·obtain rfl:=qj1 H
  go_enter Tryz.func38,Tryz.ntmps38
  go_wp2_with (first|((with_reducible refine gd 2 ?_);refine bx w 2 #[.slice A c.length I,.int .i64 m,.int .i64 n,.int .i64 o,.slice B b.length J,.bool p,.slice D d.length K,.slice E g.length L,.slice G i.length M] 35 ?_;clear HB;intro P ag a O HB;obtain⟨_,_,_,_,_,_,_,_,_,_,_,_,_,_,_,_,_,_⟩:=cf9 a.out)|((with_reducible refine gc 61 ?_);refine gl 6 Tryz.func61 (impl_BookOk.calls k _ _ c m n o _ _ b p _ _ d _ _ g _ _ i false _ (cb v HB) q.out (cb l HB) j.out (cb x HB) s.out (cb y HB) t.out (cb z HB) u.out A3.out) ?_;rintro e ah ⟨rfl,hb⟩;refine⟨_,rfl,?_⟩;replace a:=b1 a hb;replace HB:=b2 hb;(try clear hb)))
  go_ret
  exact⟨er,bel⟩
def impl_IsOpen.f(b:Int)(c:Int)(d:Int)(e:Int)(a:Int):Option (Bool):=some (a==0)
theorem impl_IsOpen.calls(a:Int)(b:Int)(c:Int)(d:Int)(g:Int)(r:Bool)(w:World)(h:impl_IsOpen.f a b c d g=some r):Calls Tryz.prog 70 #[.agg #[.int .i64 a,.int .i64 b,.int .i64 c,.int .i64 d,.int .i64 g]] w fun e w'=>e=.returned (.bool r)∧Below w.heap.size w w':=by
 have l:=Tryz.underlying79
 have HB:=qb w
 have H:=h
 unfold impl_IsOpen.f at H
 clear h
 obtain rfl:=qj1 H
 go_enter Tryz.func70,Tryz.ntmps70
 go_wp2_with (first|((with_reducible refine gd 1 ?_);refine bx w 1 #[.int .i64 a,.int .i64 b,.int .i64 c,.int .i64 d,.int .i64 g] 79 ?_;clear HB;intro k w2 i j HB;obtain⟨_,_,_,_,_,_,_,_,_,_⟩:=cf5 i.out))
 go_ret
 exact⟨er,bel⟩
def impl_gamesWhere_impl_IsOpen.l0:Nat→List Int→List (S79)→Int→Int→Option (List Int)
  |0,_,_,_,_=>none
  |k+1,x5,x9,b,a=>if a<b then(if 0≤a then(if a<(x9.length:Int)then((impl_IsOpen.f ((rd_T79 x9 a).f0) ((rd_T79 x9 a).f1) ((rd_T79 x9 a).f2) ((rd_T79 x9 a).f3) ((rd_T79 x9 a).f4)).bind fun c=>(if c=true then(if x5.length<17592186044416 then(impl_gamesWhere_impl_IsOpen.l0 k (x5++[a]) x9 b (wrap64 (a+1)))else(none))else(impl_gamesWhere_impl_IsOpen.l0 k x5 x9 b (wrap64 (a+1)))))else(none))else(none))else(some x5)
def impl_gamesWhere_impl_IsOpen.f(k:Nat)(l0:List (S79)):Option (List Int):=impl_gamesWhere_impl_IsOpen.l0 k (([]:List Int)) l0 (l0.length:Int) 0
theorem impl_gamesWhere_impl_IsOpen.calls(k:Nat)(A0:Option Addr)(c0:Nat)(l0:List (S79))(r:List Int)(w:World)(y:Kd.C k79 w A0 l0.length l0)(K:l0.length≤c0)(h:impl_gamesWhere_impl_IsOpen.f k l0=some r):Calls Tryz.prog 69 #[.slice A0 l0.length c0,.func (.func 70) #[] #[]] w fun e w'=>∃T:Value,e=.returned (T)∧Kd.R (Kd.int .i64) 3 w' w.heap.size (fun _=>True) T r∧Below w.heap.size w w':=by
 have Z:=Tryz.underlying79
 replace y:=am y
 replace K:=am K
 have HB:=qb w
 have H:=h
 unfold impl_gamesWhere_impl_IsOpen.f at H
 clear h
 obtain⟨z,i⟩:∃y_:List Int,y_=(([]:List Int)):=⟨_,rfl⟩
 replace H:(impl_gamesWhere_impl_IsOpen.l0 k z l0 (l0.length:Int) 0)=some r:=by first|(rw[i];with_reducible exact H)|(have B:=(Option.bind_some _ _).symm.trans H;rw[i];with_reducible exact B)|(have B:=(Option.bind_some _ _).symm.trans H;with_reducible exact B)|with_reducible exact H|(rw[i];exact H)|exact H
 have l:=am i
 clear i
 replace H:=am H
 go_enter Tryz.func69,Tryz.ntmps69
 go_wp2_with (first|((with_reducible refine gate_dst (N:=8) rfl ?_);refine Kd.R_lit (Kd.int .i64) _ 3 ?hg (N:=8) ?hd (xs:=([]:List Int)) (inner:=[]) (ok:=fun _=>True) (okp:=fun _=>True) ?hr ?hp (fun _ hk=>hk) trivial (Below.refl _ _) (Nat.le_refl _) (by simp) ?_;(case hd=>rfl);(case hg=>rfl);(case hr=>first|(go_simp;done)|(go_simp;rfl));(case hp=>exact(Reps.none _ _));intro ac w3 p hb hg_ hnew_;clear hg_ hnew_;(first|rw[←l.out]at p|(simp only[Int.reduceToNat]at p;rw[←l.out]at p));have D:=am (Kd.R_lower p (below_size bel));replace HB:=b2 hb;clear hb p))
 go_loopg [5,11] k (fun kq v5 W w'=>∃(j:List Int) (a:Int),W=.int .i64 a∧Aside0 (impl_gamesWhere_impl_IsOpen.l0 kq j l0 (l0.length:Int) a=some r)∧Aside0 (kq≤k)∧Aside0 (Kd.R (Kd.int .i64) 3 w' w.heap.size (fun _=>True) v5 j)∧Aside0 (Below w.heap.size w w'))
 case atStart=>exact⟨(z),(0),(es),H,⟨Nat.le_refl _⟩,⟨rk D.out⟩,⟨bel⟩⟩
 case round=>
  clear H
  obtain⟨j,a,rfl,HA,x,d,HB⟩:=hrel
  cases gk with
  |zero=>exact absurd HA.out (by simp [impl_gamesWhere_impl_IsOpen.l0])
  |succ k1=>
   have H:=HA.out
   clear HA
   simp only[impl_gamesWhere_impl_IsOpen.l0]at H
   replace H:=i1 H;obtain⟨L,H⟩|⟨L,H⟩:=H
   ·replace H:=i0 H;obtain⟨X,H⟩:=H
    replace H:=i0 H;obtain⟨Y,H⟩:=H
    replace H:=bm H;obtain⟨aa,A8,H⟩:=H
    replace H:=ib H;obtain⟨rfl,H⟩|⟨rfl,H⟩:=H
    ·replace H:=i0 H;obtain⟨c10,H⟩:=H
     have G:=am (of_decide_eq_true c10)
     clear c10
     generalize hy633:(j++[a]:List Int)=U at H
     have I:=am hy633.symm
     clear hy633
     replace H:=am H
     have:(0≤(a:Int))=True:=ab
     have:(a<(l0.length:Int))=True:=ab
     obtain⟨J,m,q,s,t,u,v⟩:=hc5 HB.out (at_T79 y.out a asm asm)
     cases m
     go_wp2_with (first|((with_reducible refine gd 7 ?_);refine by_ w 7 #[.int .i64 0,.int .i64 0,.int .i64 0,.int .i64 0,.int .i64 0] 79 ?_;clear HB;intro n hg ae c A hb HB;replace d:=rb d hb;clear hb hg;obtain⟨_,_,_,_,_,_,_,_,_,_⟩:=cf5 c.out)|(go_at_call 70;refine cm2 (impl_IsOpen.calls ((rd_T79 l0 a).f0) ((rd_T79 l0 a).f1) ((rd_T79 l0 a).f2) ((rd_T79 l0 a).f3) ((rd_T79 l0 a).f4) true _ A8.out) ?_;intro af hb;replace d:=am (Kd.R_below (kf (Kd.R_types d.out c.out (by decide)) (fun _ h_=>h_.1)) hb);replace c:=bq c hb;replace HB:=b2 hb;clear hb)|((with_reducible refine gate_builtin (b:=.append) (xs:=#[.tmp 19,.tmp 21]) rfl ?_);at_builtin;refine Kd.R_append (Kd.int .i64) (w0:=w) w.heap.size rfl (.tmp 19) (.tmp 21) 23 3 (.int .i64 0) 8 rfl Tryz.underlying23 info3 rfl (by decide) (by omega) u5 j a [.int .i64 a] (fun _=>True) (fun _=>False) rfl rfl ?aP (fun _ hk=>hk.elim) ?aF ?aO ?aB ?aS ?aL ?_;(case aP=>exact rfl);(case aB=>exact bel);(case aF=>exact(fun _ _=>trivial));(case aO=>exact(rk d.out));(case aS=>exact(below_size bel));(case aL=>have:=G.out;omega);intro ad ag ho hb hg hat;rw[←I.out]at ho;have M:=am (blk_grown (g:=n) (o:=.cells #[.int .i64 ((rd_T79 l0 a).f0),.int .i64 ((rd_T79 l0 a).f1),.int .i64 ((rd_T79 l0 a).f2),.int .i64 ((rd_T79 l0 a).f3),.int .i64 ((rd_T79 l0 a).f4)] 79 (0,0)) (bk c.out) hg (Kd.R_ne d.out c.out (by decide)));have O:=am (hb);have P:=am (ho);clear c;clear HB;clear d;have c:=M;have HB:=O;have E:=P;clear M O P;clear ho hb hg hat))
     go_roundg k1
     case measure=>have:=x.out;omega
     case rel=>exact⟨(U),(wrap64 (a+1)),(es),H,⟨by have:=x.out;omega⟩,⟨rk E.out⟩,⟨bel⟩⟩
    ·replace H:=am H
     have:(0≤(a:Int))=True:=ab
     have:(a<(l0.length:Int))=True:=ab
     obtain⟨J,m,q,s,t,u,v⟩:=hc5 HB.out (at_T79 y.out a asm asm)
     cases m
     go_wp2_with (first|((with_reducible refine gd 7 ?_);refine by_ w 7 #[.int .i64 0,.int .i64 0,.int .i64 0,.int .i64 0,.int .i64 0] 79 ?_;clear HB;intro n hg ah c A hb HB;replace d:=rb d hb;clear hb hg;obtain⟨_,_,_,_,_,_,_,_,_,_⟩:=cf5 c.out)|(go_at_call 70;refine cm2 (impl_IsOpen.calls ((rd_T79 l0 a).f0) ((rd_T79 l0 a).f1) ((rd_T79 l0 a).f2) ((rd_T79 l0 a).f3) ((rd_T79 l0 a).f4) false _ A8.out) ?_;intro ai hb;replace d:=am (Kd.R_below (kf (Kd.R_types d.out c.out (by decide)) (fun _ h_=>h_.1)) hb);replace c:=bq c hb;replace HB:=b2 hb;clear hb))
     go_roundg k1
     case measure=>have:=x.out;omega
     case rel=>exact⟨(j),(wrap64 (a+1)),(es),H,⟨by have:=x.out;omega⟩,⟨rk d.out⟩,⟨bel⟩⟩
   ·obtain rfl:=qj1 H
    go_wp2
    go_ret
    exact⟨_,er,rk d.out,bel⟩
def impl_OpenGames.f(k:Nat)(l0:List (S79)):Option (List Int):=(impl_gamesWhere_impl_IsOpen.f k l0).bind fun a=>(some a)
theorem impl_OpenGames.calls(k:Nat)(A0:Option Addr)(c0:Nat)(l0:List (S79))(r:List Int)(w:World)(c:Kd.C k79 w A0 l0.length l0)(a:l0.length≤c0)(h:impl_OpenGames.f k l0=some r):Calls Tryz.prog 43 #[.slice A0 l0.length c0] w fun e w'=>∃i:Value,e=.returned (i)∧Kd.R (Kd.int .i64) 3 w' w.heap.size (fun _=>True) i r∧Below w.heap.size w w':=by
 replace c:=am c
 replace a:=am a
 have HB:=qb w
 have H:=h
 unfold impl_OpenGames.f at H
 clear h
 replace H:=bm H;obtain⟨g,A2,H⟩:=H
 obtain rfl:=qj1 H
 go_enter Tryz.func43,Tryz.ntmps43
 go_wp2_with (first|((with_reducible refine gc 69 ?_);refine gl 4 Tryz.func69 (impl_gamesWhere_impl_IsOpen.calls k _ _ l0 g _ (ck c.out) a.out A2.out) ?_;rintro e w3 ⟨j,rfl,d,hb⟩;refine⟨_,rfl,?_⟩;have b:=am (Kd.R_lower d (below_size bel));replace HB:=b2 hb;(try clear hb);(try clear d)))
 go_ret
 exact⟨_,er,rk b.out,bel⟩
end Go.Proofs.YtgalpgakdcfilaaGreat.L
