-- Written by a program of this session (wip/xp.py).
import Derived.Test.YtgalpgakdcfilaaQ0
import Derived.Test.YtgalpgakdcfilaaQ43
import Derived.Test.YtgalpgakdcfilaaQ29
namespace Go.Proofs.Ytgalpgakdcfilaa.Q
open Go.RowKit Go.Proofs.YtgalpgakdcfilaaW.PrintWords Go.Proofs.YtgalpgakdcfilaaW.PrintLast Go.Proofs.YtgalpgakdcfilaaW.PrintMore
attribute [local go_sem] max2_int min2_int max_two min_two max_three min_three max_four min_four   -- for this text's walks alone
set_option linter.unusedVariables false
set_option linter.unusedSimpArgs false
set_option maxHeartbeats 8000000
set_option maxRecDepth 100000

mutual
def impl_leadNet.l0 : Nat → Int → Int → List (S71) → Int → Int → List (S101) → Int → Int → Int → List Int → Bool → List (S71) → List Int → List Int → Int → List (S112) → Option (Int × (List (S112)) × Int)
  | 0, _, _, _, _, _, _, _, _, _, _, _, _, _, _, _, _ => none
  | k + 1, x1, x7, x27, x28, x29, x560000, x560001, x560002, x560003, x560004, x560005, x560006, x560007, x560008, x565000, x565001 => if x29 < x28 then (if 0 ≤ x29 then (if x29 < (x27.length : Int) then ((some (([(⟨0, wrap64 ((wrap64 (2 + x7)) + x29), 2⟩ : S112), (⟨wrap64 ((wrap64 (2 + x7)) + x29), wrap64 (2 + ((rd_T71 x27 x29).f0)), 2⟩ : S112), (⟨wrap64 ((wrap64 (2 + x7)) + x29), wrap64 (2 + ((rd_T71 x27 x29).f1)), 2⟩ : S112)] : List (S112)) : List (S112))).bind fun y567 => (if x565001.length + y567.length < 5864062014805 then (impl_leadNet.l0 k x1 x7 x27 x28 (wrap64 (x29 + 1)) x560000 x560001 x560002 x560003 x560004 x560005 x560006 x560007 x560008 x565000 (x565001 ++ y567)) else (none))) else (none)) else (none)) else ((impl_best.f k x560000 x560001 x560002 x560003 x560004 x560005 x560006 x560007 x560008 x1).bind fun t573 => ((impl_points.f k x560000 x560001 x560002 x560003 x560004 x560005 x560006 x560007 x560008).bind fun t574 => (impl_leadNet.l1 k x1 t573 t574 (t574.length : Int) 0 x565000 x565001)))
def impl_leadNet.l1 : Nat → Int → Int → List Int → Int → Int → Int → List (S112) → Option (Int × (List (S112)) × Int)
  | 0, _, _, _, _, _, _, _ => none
  | k + 1, x1, x12, x60, x61, x62, x565000, x565001 => if x62 < x61 then (if 0 ≤ x62 then (if x62 < (x60.length : Int) then (if x62 = x1 then (impl_leadNet.l1 k x1 x12 x60 x61 (wrap64 (x62 + 1)) x565000 x565001) else (if (rd x60 x62) > x12 then (some (0, ([] : List (S112)), x62)) else (if x565001.length < 5864062014805 then (impl_leadNet.l1 k x1 x12 x60 x61 (wrap64 (x62 + 1)) x565000 (x565001 ++ [(⟨wrap64 (2 + x62), 1, wrap64 (x12 - (rd x60 x62))⟩ : S112)])) else (none)))) else (none)) else (none)) else (some (x565000, x565001, (-1)))
end
def impl_leadNet.f (k : Nat) (l0_0 : List (S101)) (a0_1 : Int) (a0_2 : Int) (a0_3 : Int) (l0_4 : List Int) (a0_5 : Bool) (l0_6 : List (S71)) (l0_7 : List Int) (l0_8 : List Int) (a1 : Int) : Option (Int × (List (S112)) × Int) := (impl_others.f k l0_0 a0_1 a0_2 a0_3 l0_4 a0_5 l0_6 l0_7 l0_8 a1).bind fun t561 => (impl_leadNet.l0 k a1 (l0_0.length : Int) t561 (t561.length : Int) 0 l0_0 a0_1 a0_2 a0_3 l0_4 a0_5 l0_6 l0_7 l0_8 (wrap64 ((wrap64 (2 + (l0_0.length : Int))) + (t561.length : Int))) ([] : List (S112)))
def impl_leadNet.T1 : Bool × List (List Nat × List Nat) := (true, [([], []), ([], []), ([0, 1], [0, 1]), ([], []), ([3], [3]), ([4], [4]), ([2, 2, 0, 1, 2], [2]), ([5, 6, 0, 1, 2, 3, 4, 5, 6], [5])])
def impl_leadNet.B1 : List Nat := [0, 0, 3, 0, 8, 24, 7, 127]
theorem impl_leadNet.tab1 : rtab .any (opsOf Try.f82 1) = impl_leadNet.T1 := by kernel_rfl
theorem impl_leadNet.bits1 : waitsOk impl_leadNet.T1.2 impl_leadNet.B1 = true := by kernel_rfl
theorem impl_leadNet.calls (k : Nat) (A0_0 : Option Addr) (c0_0 : Nat) (l0_0 : List (S101)) (a0_1 : Int) (a0_2 : Int) (a0_3 : Int) (A0_4 : Option Addr) (c0_4 : Nat) (l0_4 : List Int) (a0_5 : Bool) (A0_6 : Option Addr) (c0_6 : Nat) (l0_6 : List (S71)) (A0_7 : Option Addr) (c0_7 : Nat) (l0_7 : List Int) (A0_8 : Option Addr) (c0_8 : Nat) (l0_8 : List Int) (a1 : Int) (r1 : Int) (r2 : List (S112)) (r3 : Int) (w : World) (hr0_0 : Kd.C k101 w A0_0 l0_0.length l0_0) (hc0_0 : l0_0.length ≤ c0_0) (hr0_4 : Kd.C (Kd.int .i64) w A0_4 l0_4.length l0_4) (hc0_4 : l0_4.length ≤ c0_4) (hr0_6 : Kd.C k71 w A0_6 l0_6.length l0_6) (hc0_6 : l0_6.length ≤ c0_6) (hr0_7 : Kd.C (Kd.int .i64) w A0_7 l0_7.length l0_7) (hc0_7 : l0_7.length ≤ c0_7) (hr0_8 : Kd.C (Kd.int .i64) w A0_8 l0_8.length l0_8) (hc0_8 : l0_8.length ≤ c0_8) (h : impl_leadNet.f k l0_0 a0_1 a0_2 a0_3 l0_4 a0_5 l0_6 l0_7 l0_8 a1 = some (r1, r2, r3)) : Calls Try.prog 82 #[.agg #[.slice A0_0 l0_0.length c0_0, .int .i64 a0_1, .int .i64 a0_2, .int .i64 a0_3, .slice A0_4 l0_4.length c0_4, .bool a0_5, .slice A0_6 l0_6.length c0_6, .slice A0_7 l0_7.length c0_7, .slice A0_8 l0_8.length c0_8], .int .i64 a1] w fun e w' => ∃ v1_ : Value, e = .returned (.tuple #[.agg #[.int .i64 r1, v1_], .int .i64 r3]) ∧ Kd.R k112 112 w' w.heap.size (fun _ => True) v1_ r2 ∧ Below w.heap.size w w' := by
 have hu37 := Try.underlying37
 have hu58 := Try.underlying58
 have hu71 := Try.underlying71
 have hu112 := Try.underlying112
 have HR0_0 := am hr0_0
 have HC0_0 := am hc0_0
 clear hr0_0 hc0_0
 have HR0_4 := am hr0_4
 have HC0_4 := am hc0_4
 clear hr0_4 hc0_4
 have HR0_6 := am hr0_6
 have HC0_6 := am hc0_6
 clear hr0_6 hc0_6
 have HR0_7 := am hr0_7
 have HC0_7 := am hc0_7
 clear hr0_7 hc0_7
 have HR0_8 := am hr0_8
 have HC0_8 := am hc0_8
 clear hr0_8 hc0_8
 have HB := am (Below.refl w.heap.size w)
 have H : ((impl_others.f k l0_0 a0_1 a0_2 a0_3 l0_4 a0_5 l0_6 l0_7 l0_8 a1).bind fun t561 => (impl_leadNet.l0 k a1 (l0_0.length : Int) t561 (t561.length : Int) 0 l0_0 a0_1 a0_2 a0_3 l0_4 a0_5 l0_6 l0_7 l0_8 (wrap64 ((wrap64 (2 + (l0_0.length : Int))) + (t561.length : Int))) ([] : List (S112)))) = some (r1, r2, r3) := h
 clear h
 replace H := bm H; obtain ⟨t561, A3, H⟩ := H
 have H' := am H
 clear H
 go_enter Try.func82, Try.ntmps82
 try go_wp2_with (first | ((with_reducible refine gd 2 ?_); refine bx w 2 #[.slice A0_0 l0_0.length c0_0, .int .i64 a0_1, .int .i64 a0_2, .int .i64 a0_3, .slice A0_4 l0_4.length c0_4, .bool a0_5, .slice A0_6 l0_6.length c0_6, .slice A0_7 l0_7.length c0_7, .slice A0_8 l0_8.length c0_8] 37 ?_; clear HB; intro gb559 w4 BK559 GE559 HB) | ((with_reducible refine gd 4 ?_); refine by_ w 4 #[.int .i64 0, .slice none 0 0] 58 ?_; clear HB; intro gb560 hg w5 BK560 GE560 hb HB; have NB559_560 := am ((nlt hg BK559.out : gb559 ≠ gb560)); have NB560_559 := am ((ngt hg BK559.out : gb560 ≠ gb559)); replace BK559 := b1 BK559 hb; clear hb hg))
 replace BK559 := am (blk_drew BK559.out)
 replace BK560 := am (blk_drew BK560.out)
 replace HB := am (below_drew1 HB.out)
 refine start_ (n := 8) (S := fun w' => w'.cell? ⟨gb559, 0, none⟩ = some (.slice A0_0 l0_0.length c0_0) ∧ w'.cell? ⟨gb559, 1, none⟩ = some (.int .i64 a0_1) ∧ w'.cell? ⟨gb559, 2, none⟩ = some (.int .i64 a0_2) ∧ w'.cell? ⟨gb559, 3, none⟩ = some (.int .i64 a0_3) ∧ w'.cell? ⟨gb559, 4, none⟩ = some (.slice A0_4 l0_4.length c0_4) ∧ w'.cell? ⟨gb559, 5, none⟩ = some (.bool a0_5) ∧ w'.cell? ⟨gb559, 6, none⟩ = some (.slice A0_6 l0_6.length c0_6) ∧ w'.cell? ⟨gb559, 7, none⟩ = some (.slice A0_7 l0_7.length c0_7) ∧ w'.cell? ⟨gb559, 8, none⟩ = some (.slice A0_8 l0_8.length c0_8)) (ds := []) (lb 8 0) (by kernel_rfl) rfl rfl (cc9 BK559.out) (fun hHeld => ?_); refine with_tabW impl_leadNet.tab1 impl_leadNet.bits1 (fun HT_ HW_ => ?_)
 generalize w5.drew = w6 at BK559 BK560 HB hHeld ⊢
 refine pu HT_ 1 16 (lb 8 2) ?_
 refine pu HT_ 3 18 (lb 8 10) ?_
 refine tk HT_ HW_ hHeld 0 15 (lb 8 11) ?_
 refine tk HT_ HW_ hHeld 4 19 (lb 8 27) ?_
 refine pu HT_ 5 20 (lb 8 59) ?_
 refine on HT_ 2 17 (lb 8 63) fun K hK => ?_
 refine goes_ Try.func111 (by kernel_rfl) rfl #[.agg #[.slice A0_0 l0_0.length c0_0, .int .i64 a0_1, .int .i64 a0_2, .int .i64 a0_3, .slice A0_4 l0_4.length c0_4, .bool a0_5, .slice A0_6 l0_6.length c0_6, .slice A0_7 l0_7.length c0_7, .slice A0_8 l0_8.length c0_8], .int .i64 a1] (by rfl) rfl rfl ga ?_
 with_reducible refine (impl_others.calls k _ _ l0_0 a0_1 a0_2 a0_3 _ _ l0_4 a0_5 _ _ l0_6 _ _ l0_7 _ _ l0_8 a1 t561 _ ?side1 ?side2 ?side3 ?side4 ?side5 ?side6 ?side7 ?side8 ?side9 ?side10 A3.out).mono ?_
 (case side1 => exact ck (Kd.C_below HR0_0.out HB.out))
 (case side2 => exact HC0_0.out)
 (case side3 => exact ck (Kd.C_below HR0_4.out HB.out))
 (case side4 => exact HC0_4.out)
 (case side5 => exact ck (Kd.C_below HR0_6.out HB.out))
 (case side6 => exact HC0_6.out)
 (case side7 => exact ck (Kd.C_below HR0_7.out HB.out))
 (case side8 => exact HC0_7.out)
 (case side9 => exact ck (Kd.C_below HR0_8.out HB.out))
 (case side10 => exact HC0_8.out)
 rintro e w7 ⟨v562, rfl, ho0, hb⟩
 refine ⟨_, rfl, ?_⟩
 have HO563 := am (Kd.R_lower ho0 (below_size bel))
 replace BK559 := b1 BK559 hb
 replace BK560 := b1 BK560 hb
 replace HB := b2 hb
 (try clear hb)
 (try clear ho0)
 refine hK.out _ _ (cc9 BK559.out) (fun hHeld => ?_)
 clear hK K
 refine nm 17 ?_
 refine pu HT_ 6 6 (lb 8 127) ?_
 refine pu HT_ 7 7 (lb 8 255) ?_
 refine done_ (done_of HT_.out (by kernel_rfl)) ?_
 obtain ⟨Ao8, co8, eo8⟩ := Kd.R_slice HO563.out
 subst eo8
 try go_wp2_with (first | ((with_reducible refine gd 8 ?_); refine by_ w 8 #[.int .i64 0, .slice none 0 0] 58 ?_; clear HB; intro gb564 hg w9 BK564 GE564 hb HB; have NB559_564 := am ((nlt hg BK559.out : gb559 ≠ gb564)); have NB564_559 := am ((ngt hg BK559.out : gb564 ≠ gb559)); have NB560_564 := am ((nlt hg BK560.out : gb560 ≠ gb564)); have NB564_560 := am ((ngt hg BK560.out : gb564 ≠ gb560)); replace HO563 := am (Kd.R_below (rk HO563.out) hb); replace BK559 := b1 BK559 hb; replace BK560 := b1 BK560 hb; clear hb hg; have hnb10 := NB564_559.out; have hnc10 := NB559_564.out; have hnb11 := NB564_560.out; have hnc11 := NB560_564.out; obtain ⟨hcz12_0, hcz12_1, hfz12_0, hfz12_1⟩ := cf2 BK564.out))
 go_loopg [29] k (fun kq v29 w' => ∃ (x29_1 : Int) (x565001_1 : List (S112)) (u565001 : Value), v29 = .int .i64 x29_1 ∧ Aside0 (impl_leadNet.l0 kq a1 (l0_0.length : Int) t561 (t561.length : Int) x29_1 l0_0 a0_1 a0_2 a0_3 l0_4 a0_5 l0_6 l0_7 l0_8 (wrap64 ((wrap64 (2 + (l0_0.length : Int))) + (t561.length : Int))) x565001_1 = some (r1, r2, r3)) ∧ Aside0 (kq ≤ k) ∧ Aside0 (Kd.R k71 71 w' w.heap.size (fun _ => True) (.slice Ao8 t561.length co8) t561) ∧ Aside0 (Kd.R k112 112 w' w.heap.size (fun _ => True) u565001 x565001_1) ∧ Aside0 (w'.heap[gb559]? = some (.cells #[(.slice A0_0 l0_0.length c0_0), .int .i64 a0_1, .int .i64 a0_2, .int .i64 a0_3, (.slice A0_4 l0_4.length c0_4), .bool a0_5, (.slice A0_6 l0_6.length c0_6), (.slice A0_7 l0_7.length c0_7), (.slice A0_8 l0_8.length c0_8)] 37 (0, 0))) ∧ Aside0 (w'.heap[gb560]? = some (.cells #[.int .i64 0, (.slice none 0 0)] 58 (0, 0))) ∧ Aside0 (w'.heap[gb564]? = some (.cells #[.int .i64 (wrap64 ((wrap64 (2 + (l0_0.length : Int))) + (t561.length : Int))), u565001] 58 (0, 0))) ∧ Aside0 (Below w.heap.size w w'))
 case atStart => exact ⟨(0), (([] : List (S112))), (.slice none 0 0), (es), H', ⟨Nat.le_refl _⟩, ⟨(kf (Kd.R_types HO563.out BK564.out (by decide)))⟩, ⟨by first | exact Kd.R_nil _ _ _ _ _ | exact Kd.N_nil _ _ _ _ _ | exact Kd.V_nil _ _ _ _ _ | exact Kd.Q_nil _ _ _ _ _ | exact Kd.S_nil _ _ _ _ _⟩, ⟨bk BK559.out⟩, ⟨bk BK560.out⟩, ⟨(bz BK564)⟩, ⟨bel⟩⟩
 case round =>
  clear H'
  try clear hcz12_0; try clear hcz12_1; try clear hfz12_0; try clear hfz12_1
  obtain ⟨x29_1, x565001_1, u565001, rfl, HA, HK1, HO_27, HO_565001, BK559, BK560, BK564, HB⟩ := hrel
  cases gk with
  | zero => exact absurd HA.out (by simp [impl_leadNet.l0])
  | succ k1 =>
   have H := HA.out
   clear HA
   simp only [impl_leadNet.l0] at H
   replace H := i1 H; obtain ⟨c13b0, H⟩ | ⟨c13b0, H⟩ := H
   ·replace H := i0 H; obtain ⟨c14b0, H⟩ := H
    replace H := i0 H; obtain ⟨c15b0, H⟩ := H
    obtain ⟨y567, hy567⟩ : ∃ y_ : List (S112), y_ = (([(⟨0, wrap64 ((wrap64 (2 + (l0_0.length : Int))) + x29_1), 2⟩ : S112), (⟨wrap64 ((wrap64 (2 + (l0_0.length : Int))) + x29_1), wrap64 (2 + ((rd_T71 t561 x29_1).f0)), 2⟩ : S112), (⟨wrap64 ((wrap64 (2 + (l0_0.length : Int))) + x29_1), wrap64 (2 + ((rd_T71 t561 x29_1).f1)), 2⟩ : S112)] : List (S112))) := ⟨_, rfl⟩
    replace H : (if x565001_1.length + y567.length < 5864062014805 then (impl_leadNet.l0 k1 a1 (l0_0.length : Int) t561 (t561.length : Int) (wrap64 (x29_1 + 1)) l0_0 a0_1 a0_2 a0_3 l0_4 a0_5 l0_6 l0_7 l0_8 (wrap64 ((wrap64 (2 + (l0_0.length : Int))) + (t561.length : Int))) (x565001_1 ++ y567)) else (none)) = some (r1, r2, r3) := by first | (rw [hy567]; with_reducible exact H) | (have H2_ := (Option.bind_some _ _).symm.trans H; rw [hy567]; with_reducible exact H2_) | (have H2_ := (Option.bind_some _ _).symm.trans H; with_reducible exact H2_) | with_reducible exact H | (rw [hy567]; exact H) | exact H
    have Ny567 := am hy567
    clear hy567
    replace H := i0 H; obtain ⟨c16, H⟩ := H
    have LMc16 := am (of_decide_eq_true c16)
    clear c16
    obtain ⟨y570, hy570⟩ : ∃ y_ : List (S112), y_ = (x565001_1 ++ y567) := ⟨_, rfl⟩
    replace H : (impl_leadNet.l0 k1 a1 (l0_0.length : Int) t561 (t561.length : Int) (wrap64 (x29_1 + 1)) l0_0 a0_1 a0_2 a0_3 l0_4 a0_5 l0_6 l0_7 l0_8 (wrap64 ((wrap64 (2 + (l0_0.length : Int))) + (t561.length : Int))) y570) = some (r1, r2, r3) := by first | (rw [hy570]; with_reducible exact H) | (have H2_ := (Option.bind_some _ _).symm.trans H; rw [hy570]; with_reducible exact H2_) | (have H2_ := (Option.bind_some _ _).symm.trans H; with_reducible exact H2_) | with_reducible exact H | (rw [hy570]; exact H) | exact H
    have Ny570 := am hy570
    clear hy570
    have H' := am H
    clear H
    have p565 : 0 ≤ (x29_1 : Int) := asm
    have q565 : x29_1 < (t561.length : Int) := asm
    obtain ⟨ad565, e565, hx565_0, hx565_1, hx565_2, hx565_3, hx565_4⟩ := at_T71 (Kd.R_reads' HO_27.out).2.2 x29_1 p565 q565
    cases e565
    replace p565 := eq_true p565
    replace q565 := eq_true q565
    go_wp2_with (first | ((with_reducible refine gd 10 ?_); refine by_ w 10 #[.int .i64 0, .int .i64 0, .int .i64 0, .int .i64 0, .int .i64 0] 71 ?_; clear HB; intro gb566 hg w17 BK566 GE566 hb HB; have NB559_566 := am ((nlt hg BK559.out : gb559 ≠ gb566)); have NB566_559 := am ((ngt hg BK559.out : gb566 ≠ gb559)); have NB560_566 := am ((nlt hg BK560.out : gb560 ≠ gb566)); have NB566_560 := am ((ngt hg BK560.out : gb566 ≠ gb560)); have NB564_566 := am ((nlt hg BK564.out : gb564 ≠ gb566)); have NB566_564 := am ((ngt hg BK564.out : gb566 ≠ gb564)); replace HO_27 := am (Kd.R_below (Kd.R_elderB (rk HO_27.out) gb566 (Nat.le_of_eq hg.symm)) hb); replace HO_565001 := am (Kd.R_below (rk HO_565001.out) hb); replace BK559 := b1 BK559 hb; replace BK560 := b1 BK560 hb; replace BK564 := b1 BK564 hb; clear hb hg; have hnb18 := NB566_559.out; have hnc18 := NB559_566.out; have hnb19 := NB566_560.out; have hnc19 := NB560_566.out; have hnb20 := NB566_564.out; have hnc20 := NB564_566.out; obtain ⟨_, _, _, _, _, _, _, _, _, _⟩ := cf5 BK566.out; have hnb22 := NB564_559.out; have hnc22 := NB559_564.out; have hnb23 := NB564_560.out; have hnc23 := NB560_564.out; obtain ⟨_, _, _, _⟩ := cf2 BK564.out) | ((with_reducible refine gate_dst (N := 52) rfl ?_); refine Kd.R_lit k112 _ 112 ?hg (N := 52) ?hd (xs := ([(⟨0, wrap64 ((wrap64 (2 + (l0_0.length : Int))) + x29_1), 2⟩ : S112), (⟨wrap64 ((wrap64 (2 + (l0_0.length : Int))) + x29_1), wrap64 (2 + ((rd_T71 t561 x29_1).f0)), 2⟩ : S112), (⟨wrap64 ((wrap64 (2 + (l0_0.length : Int))) + x29_1), wrap64 (2 + ((rd_T71 t561 x29_1).f1)), 2⟩ : S112)] : List (S112))) (inner := [.int .i64 0, .int .i64 (wrap64 ((wrap64 (2 + (l0_0.length : Int))) + x29_1)), .int .i64 2, .int .i64 (wrap64 ((wrap64 (2 + (l0_0.length : Int))) + x29_1)), .int .i64 (wrap64 (2 + ((rd_T71 t561 x29_1).f0))), .int .i64 2, .int .i64 (wrap64 ((wrap64 (2 + (l0_0.length : Int))) + x29_1)), .int .i64 (wrap64 (2 + ((rd_T71 t561 x29_1).f1))), .int .i64 2]) (ok := fun _ => True) (okp := fun _ => True) ?hr ?hp (fun _ hk => hk) trivial (Below.refl _ _) (Nat.le_refl _) (by simp) ?_; (case hd => rfl); (case hg => rfl); (case hr => first | (go_simp; done) | (go_simp; rfl)); (case hp => exact (Reps.c3 (show Kd.M k112 _ _ _ (⟨0, wrap64 ((wrap64 (2 + (l0_0.length : Int))) + x29_1), 2⟩ : S112) [.int .i64 0, .int .i64 (wrap64 ((wrap64 (2 + (l0_0.length : Int))) + x29_1)), .int .i64 2] from (k112_mkM _ _ _ (⟨0, wrap64 ((wrap64 (2 + (l0_0.length : Int))) + x29_1), 2⟩ : S112) )) (Reps.c3 (show Kd.M k112 _ _ _ (⟨wrap64 ((wrap64 (2 + (l0_0.length : Int))) + x29_1), wrap64 (2 + ((rd_T71 t561 x29_1).f0)), 2⟩ : S112) [.int .i64 (wrap64 ((wrap64 (2 + (l0_0.length : Int))) + x29_1)), .int .i64 (wrap64 (2 + ((rd_T71 t561 x29_1).f0))), .int .i64 2] from (k112_mkM _ _ _ (⟨wrap64 ((wrap64 (2 + (l0_0.length : Int))) + x29_1), wrap64 (2 + ((rd_T71 t561 x29_1).f0)), 2⟩ : S112) )) (Reps.c3 (show Kd.M k112 _ _ _ (⟨wrap64 ((wrap64 (2 + (l0_0.length : Int))) + x29_1), wrap64 (2 + ((rd_T71 t561 x29_1).f1)), 2⟩ : S112) [.int .i64 (wrap64 ((wrap64 (2 + (l0_0.length : Int))) + x29_1)), .int .i64 (wrap64 (2 + ((rd_T71 t561 x29_1).f1))), .int .i64 2] from (k112_mkM _ _ _ (⟨wrap64 ((wrap64 (2 + (l0_0.length : Int))) + x29_1), wrap64 (2 + ((rd_T71 t561 x29_1).f1)), 2⟩ : S112) )) (Reps.none _ _))))); intro v568 w25 ho26 hb hg_ hnew_; clear hg_ hnew_; (first | rw [← Ny567.out] at ho26 | (simp only [Int.reduceToNat] at ho26; rw [← Ny567.out] at ho26)); have HO569 := am (Kd.R_lower (Kd.R_new' ho26 (Kd.R_lt (kf (Kd.R_types HO_565001.out BK566.out (by decide))))) (below_size bel)); replace HO_27 := am (Kd.R_below (kf (Kd.R_mono HO_27.out (fun k_ hk => (⟨hk, hk.2⟩ : _ ∧ k_ ≠ gb566)))) hb); replace HO_565001 := am (Kd.R_elder' (kf (Kd.R_types HO_565001.out BK566.out (by decide))) (Kd.R_base ho26) hb); replace BK559 := b1 BK559 hb; replace BK560 := b1 BK560 hb; replace BK564 := b1 BK564 hb; replace BK566 := bq BK566 hb; replace HB := b2 hb; clear hb ho26; obtain ⟨Ao28, co28, eo28⟩ := Kd.R_slice HO569.out; subst eo28) | ((with_reducible refine gate_builtin (b := .append) (xs := #[.tmp 39, .tmp 52]) rfl ?_); at_builtin; refine Kd.R_append_rows k112 (w0 := w) w.heap.size rfl (.tmp 39) (.tmp 52) 56 112 (.agg #[(.int .i64 0), (.int .i64 0), (.int .i64 0)]) 24 rfl Try.underlying56 info112 rfl (by decide) (by omega) u565001 x565001_1 y567 _ _ _ (fun k_ => some k_ ≠ (.slice Ao28 y567.length co28 : Value).ownBlock) (fun _ => False) rfl rfl ?aO ?aR (fun _ _ h => h) (fun _ h => h.elim) ?aF ?aB ?aS ?aL ?_; (case aR => exact ck (Kd.R_reads' HO569.out).2.2); (case aB => exact bel); (case aF => exact (fun k_ hk => Kd.fresh' (Kd.R_lt (rk HO569.out)) k_ hk)); (case aO => exact (by (with_reducible repeat (first | apply Kd.R_alloc | apply Kd.R_drewN | apply Kd.R_drew)); exact Kd.R_mono HO_565001.out (fun _ hk => hk.2))); (case aS => exact (below_size bel)); (case aL => have := LMc16.out; omega); intro v571 w27 ho hb hg hat; rw [← Ny570.out] at ho; have n0_ := am (Kd.R_over' (rk HO_27.out) (Kd.R_typed (rk HO_565001.out)) (by decide) hg); have n1_ := am (blk_grown (g := gb559) (o := .cells #[.slice A0_0 l0_0.length c0_0, .int .i64 a0_1, .int .i64 a0_2, .int .i64 a0_3, .slice A0_4 l0_4.length c0_4, .bool a0_5, .slice A0_6 l0_6.length c0_6, .slice A0_7 l0_7.length c0_7, .slice A0_8 l0_8.length c0_8] 37 (0, 0)) (bk BK559.out) hg (Kd.R_ne HO_565001.out BK559.out (by decide))); have n2_ := am (blk_grown (g := gb560) (o := .cells #[.int .i64 0, .slice none 0 0] 58 (0, 0)) (bk BK560.out) hg (Kd.R_ne HO_565001.out BK560.out (by decide))); have n3_ := am (blk_grown (g := gb564) (o := .cells #[.int .i64 (wrap64 ((wrap64 (2 + (l0_0.length : Int))) + (t561.length : Int))), u565001] 58 (0, 0)) (bk BK564.out) hg (Kd.R_ne HO_565001.out BK564.out (by decide))); have n4_ := am (blk_grown (g := gb566) (o := .cells #[.int .i64 ((rd_T71 t561 x29_1).f0), .int .i64 ((rd_T71 t561 x29_1).f1), .int .i64 ((rd_T71 t561 x29_1).f2), .int .i64 ((rd_T71 t561 x29_1).f3), .int .i64 ((rd_T71 t561 x29_1).f4)] 71 (0, 0)) (bk BK566.out) hg (Kd.R_ne HO_565001.out BK566.out (by decide))); have n5_ := am (Kd.R_after (ok := (fun _ => True)) (rk HO569.out) hg hat); have n6_ := am (hb); have n7_ := am (ho); clear HO_27; clear BK559; clear BK560; clear BK564; clear BK566; clear HO569; clear HB; clear HO_565001; have HO_27 := n0_; have BK559 := n1_; have BK560 := n2_; have BK564 := n3_; have BK566 := n4_; have HO569 := n5_; have HB := n6_; have HO572 := n7_; clear n0_ n1_ n2_ n3_ n4_ n5_ n6_ n7_; clear ho hb hg hat; obtain ⟨Ao29, co29, eo29⟩ := Kd.R_slice HO572.out; subst eo29; obtain ⟨_, _, _, _⟩ := cf2 BK564.out))
    go_roundg k1
    case measure => have := HK1.out; omega
    case rel => exact ⟨(wrap64 (x29_1 + 1)), (y570), (.slice Ao29 y570.length co29), (es), H', ⟨by have := HK1.out; omega⟩, ⟨(kf (Kd.R_types HO_27.out BK564.out (by decide)))⟩, ⟨(kf (Kd.R_types HO572.out BK564.out (by decide)))⟩, ⟨bk BK559.out⟩, ⟨bk BK560.out⟩, ⟨(bz BK564)⟩, ⟨bel⟩⟩
   ·replace H := bm H; obtain ⟨t573, A31, H⟩ := H
    replace H := bm H; obtain ⟨t574, A32, H⟩ := H
    have H' := am H
    clear H
    have hnb33 := NB559_560.out
    have hnc33 := NB560_559.out
    have hnb34 := NB559_564.out
    have hnc34 := NB564_559.out
    obtain ⟨hcz35_0, hcz35_1, hcz35_2, hcz35_3, hcz35_4, hcz35_5, hcz35_6, hcz35_7, hcz35_8, hfz35_0, hfz35_1, hfz35_2, hfz35_3, hfz35_4, hfz35_5, hfz35_6, hfz35_7, hfz35_8⟩ := cf9 BK559.out
    go_wp2_with (first | ((with_reducible refine gc 79 ?_); refine gl2 58 Try.func79 (impl_best.calls k1 _ _ l0_0 a0_1 a0_2 a0_3 _ _ l0_4 a0_5 _ _ l0_6 _ _ l0_7 _ _ l0_8 a1 t573 _ (cb HR0_0 HB) HC0_0.out (cb HR0_4 HB) HC0_4.out (cb HR0_6 HB) HC0_6.out (cb HR0_7 HB) HC0_7.out (cb HR0_8 HB) HC0_8.out A31.out) ?_; intro w36 hb; replace HO_27 := am (Kd.R_below (rk HO_27.out) hb); replace HO_565001 := am (Kd.R_below (rk HO_565001.out) hb); replace BK559 := b1 BK559 hb; replace BK560 := b1 BK560 hb; replace BK564 := b1 BK564 hb; replace HB := b2 hb; clear hb; obtain ⟨hcz37_0, hcz37_1, hcz37_2, hcz37_3, hcz37_4, hcz37_5, hcz37_6, hcz37_7, hcz37_8, hfz37_0, hfz37_1, hfz37_2, hfz37_3, hfz37_4, hfz37_5, hfz37_6, hfz37_7, hfz37_8⟩ := cf9 BK559.out) | ((with_reducible refine gc 110 ?_); refine gl 60 Try.func110 (impl_points.calls k1 _ _ l0_0 a0_1 a0_2 a0_3 _ _ l0_4 a0_5 _ _ l0_6 _ _ l0_7 _ _ l0_8 t574 _ (cb HR0_0 HB) HC0_0.out (cb HR0_4 HB) HC0_4.out (cb HR0_6 HB) HC0_6.out (cb HR0_7 HB) HC0_7.out (cb HR0_8 HB) HC0_8.out A32.out) ?_; rintro e w38 ⟨v575, rfl, ho0, hb⟩; refine ⟨_, rfl, ?_⟩; have HO576 := am (Kd.R_lower ho0 (below_size bel)); replace HO_27 := am (Kd.R_below (rk HO_27.out) hb); replace HO_565001 := am (Kd.R_below (rk HO_565001.out) hb); replace BK559 := b1 BK559 hb; replace BK560 := b1 BK560 hb; replace BK564 := b1 BK564 hb; replace HB := b2 hb; clear hb; (try clear ho0); obtain ⟨Ao39, co39, eo39⟩ := Kd.R_slice HO576.out; subst eo39))
    go_loopg [62] k1 (fun kq v62 w' => ∃ (x62_2 : Int) (x561000_2 : Int) (x565001_2 : List (S112)) (u565001 : Value), v62 = .int .i64 x62_2 ∧ Aside0 (impl_leadNet.l1 kq a1 t573 t574 (t574.length : Int) x62_2 (wrap64 ((wrap64 (2 + (l0_0.length : Int))) + (t561.length : Int))) x565001_2 = some (r1, r2, r3)) ∧ Aside0 (kq ≤ k1) ∧ Aside0 (Kd.R (Kd.int .i64) 3 w' w.heap.size (fun _ => True) (.slice Ao39 t574.length co39) t574) ∧ Aside0 (Kd.R k112 112 w' w.heap.size (fun _ => True) u565001 x565001_2) ∧ Aside0 (w'.heap[gb559]? = some (.cells #[(.slice A0_0 l0_0.length c0_0), .int .i64 a0_1, .int .i64 a0_2, .int .i64 a0_3, (.slice A0_4 l0_4.length c0_4), .bool a0_5, (.slice A0_6 l0_6.length c0_6), (.slice A0_7 l0_7.length c0_7), (.slice A0_8 l0_8.length c0_8)] 37 (0, 0))) ∧ Aside0 (w'.heap[gb560]? = some (.cells #[.int .i64 x561000_2, (.slice none 0 0)] 58 (0, 0))) ∧ Aside0 (w'.heap[gb564]? = some (.cells #[.int .i64 (wrap64 ((wrap64 (2 + (l0_0.length : Int))) + (t561.length : Int))), u565001] 58 (0, 0))) ∧ Aside0 (Below w.heap.size w w'))
    case atStart => exact ⟨(0), (0), (x565001_1), (u565001), (es), H', ⟨Nat.le_refl _⟩, ⟨rk HO576.out⟩, ⟨rk HO_565001.out⟩, ⟨bk BK559.out⟩, ⟨bk BK560.out⟩, ⟨bk BK564.out⟩, ⟨bel⟩⟩
    case round =>
     clear H'
     try clear c13; try clear c13b0; try clear hcz12_0; try clear hcz12_1; try clear hcz35_0; try clear hcz35_1; try clear hcz35_2; try clear hcz35_3; try clear hcz35_4; try clear hcz35_5; try clear hcz35_6; try clear hcz35_7; try clear hcz35_8; try clear hcz37_0; try clear hcz37_1; try clear hcz37_2; try clear hcz37_3; try clear hcz37_4; try clear hcz37_5; try clear hcz37_6; try clear hcz37_7; try clear hcz37_8; try clear hfz12_0; try clear hfz12_1; try clear hfz35_0; try clear hfz35_1; try clear hfz35_2; try clear hfz35_3; try clear hfz35_4; try clear hfz35_5; try clear hfz35_6; try clear hfz35_7; try clear hfz35_8; try clear hfz37_0; try clear hfz37_1; try clear hfz37_2; try clear hfz37_3; try clear hfz37_4; try clear hfz37_5; try clear hfz37_6; try clear hfz37_7; try clear hfz37_8
     obtain ⟨x62_2, x561000_2, x565001_2, u565001, rfl, HA, HK2, HO_60, HO_565001, BK559, BK560, BK564, HB⟩ := hrel
     cases gk with
     | zero => exact absurd HA.out (by simp [impl_leadNet.l1])
     | succ k2 =>
      have H := HA.out
      clear HA
      simp only [impl_leadNet.l1] at H
      replace H := i1 H; obtain ⟨c40b0, H⟩ | ⟨c40b0, H⟩ := H
      ·replace H := i0 H; obtain ⟨c41b0, H⟩ := H
       replace H := i0 H; obtain ⟨c42b0, H⟩ := H
       replace H := ie H; obtain ⟨c43b0, c43b1, H⟩ | ⟨⟨c43, c43b0, c43b1⟩, H⟩ := H
       ·have H' := am H
        clear H
        have p577 : 0 ≤ (x62_2 : Int) := asm
        have q577 : x62_2 < (t574.length : Int) := asm
        obtain ⟨ad577, e577, hx577_0⟩ := Kd.at_int (Kd.R_reads' HO_60.out).2.2 x62_2 p577 q577
        cases e577
        replace p577 := eq_true p577
        replace q577 := eq_true q577
        go_wp2
        go_roundg k2
        case measure => have := HK1.out; have := HK2.out; omega
        case rel => exact ⟨(wrap64 (x62_2 + 1)), (x561000_2), (x565001_2), (u565001), (es), H', ⟨by have := HK1.out; have := HK2.out; omega⟩, ⟨rk HO_60.out⟩, ⟨rk HO_565001.out⟩, ⟨bk BK559.out⟩, ⟨bk BK560.out⟩, ⟨bk BK564.out⟩, ⟨bel⟩⟩
       ·replace H := i1 H; obtain ⟨c44b0, H⟩ | ⟨c44b0, H⟩ := H
        ·simp only [Option.some.injEq, Prod.mk.injEq] at H
         obtain ⟨rfl, rfl, rfl⟩ := H
         have p577 : 0 ≤ (x62_2 : Int) := asm
         have q577 : x62_2 < (t574.length : Int) := asm
         obtain ⟨ad577, e577, hx577_0⟩ := Kd.at_int (Kd.R_reads' HO_60.out).2.2 x62_2 p577 q577
         cases e577
         replace p577 := eq_true p577
         replace q577 := eq_true q577
         have hnb45 := NB560_559.out
         have hnc45 := NB559_560.out
         have hnb46 := NB560_564.out
         have hnc46 := NB564_560.out
         obtain ⟨_, _, _, _⟩ := cf2 BK560.out
         go_wp2
         refine bodyPost_ret (results_ct rfl _ _ gb560 58 #[.int .i64 0, .slice none 0 0] (0, 0) _ rfl (bz BK560) Try.underlying58 rfl (by kernel_rfl)) rfl ?_
         exact ⟨_, er, by first | exact Kd.R_nil _ _ _ _ _ | exact Kd.N_nil _ _ _ _ _ | exact Kd.V_nil _ _ _ _ _ | exact Kd.Q_nil _ _ _ _ _ | exact Kd.S_nil _ _ _ _ _, bel⟩
        ·replace H := i0 H; obtain ⟨c48, H⟩ := H
         have LMc48 := am (of_decide_eq_true c48)
         clear c48
         obtain ⟨y578, hy578⟩ : ∃ y_ : List (S112), y_ = (x565001_2 ++ [(⟨wrap64 (2 + x62_2), 1, wrap64 (t573 - (rd t574 x62_2))⟩ : S112)]) := ⟨_, rfl⟩
         replace H : (impl_leadNet.l1 k2 a1 t573 t574 (t574.length : Int) (wrap64 (x62_2 + 1)) (wrap64 ((wrap64 (2 + (l0_0.length : Int))) + (t561.length : Int))) y578) = some (r1, r2, r3) := by first | (rw [hy578]; with_reducible exact H) | (have H2_ := (Option.bind_some _ _).symm.trans H; rw [hy578]; with_reducible exact H2_) | (have H2_ := (Option.bind_some _ _).symm.trans H; with_reducible exact H2_) | with_reducible exact H | (rw [hy578]; exact H) | exact H
         have Ny578 := am hy578
         clear hy578
         have H' := am H
         clear H
         have p577 : 0 ≤ (x62_2 : Int) := asm
         have q577 : x62_2 < (t574.length : Int) := asm
         obtain ⟨ad577, e577, hx577_0⟩ := Kd.at_int (Kd.R_reads' HO_60.out).2.2 x62_2 p577 q577
         cases e577
         replace p577 := eq_true p577
         replace q577 := eq_true q577
         have hnb49 := NB564_559.out
         have hnc49 := NB559_564.out
         have hnb50 := NB564_560.out
         have hnc50 := NB560_564.out
         obtain ⟨_, _, _, _⟩ := cf2 BK564.out
         go_wp2_with (first | ((with_reducible refine gate_builtin (b := .append) (xs := #[.tmp 76, .tmp 83]) rfl ?_); at_builtin; refine Kd.R_append k112 (w0 := w) w.heap.size rfl (.tmp 76) (.tmp 83) 56 112 (.agg #[(.int .i64 0), (.int .i64 0), (.int .i64 0)]) 24 rfl Try.underlying56 info112 rfl (by decide) (by omega) u565001 x565001_2 (⟨wrap64 (2 + x62_2), 1, wrap64 (t573 - (rd t574 x62_2))⟩ : S112) [.int .i64 (wrap64 (2 + x62_2)), .int .i64 1, .int .i64 (wrap64 (t573 - (rd t574 x62_2)))] (fun _ => True) (fun _ => False) rfl rfl ?aP (fun _ hk => hk.elim) ?aF ?aO ?aB ?aS ?aL ?_; (case aP => exact k112_mkM _ _ _ (⟨wrap64 (2 + x62_2), 1, wrap64 (t573 - (rd t574 x62_2))⟩ : S112)); (case aB => exact bel); (case aF => exact (fun _ _ => trivial)); (case aO => exact (rk HO_565001.out)); (case aS => exact (below_size bel)); (case aL => have := LMc48.out; omega); intro v579 w52 ho hb hg hat; rw [← Ny578.out] at ho; have n0_ := am (Kd.R_over' (rk HO_60.out) (Kd.R_typed (rk HO_565001.out)) (by decide) hg); have n1_ := am (blk_grown (g := gb559) (o := .cells #[.slice A0_0 l0_0.length c0_0, .int .i64 a0_1, .int .i64 a0_2, .int .i64 a0_3, .slice A0_4 l0_4.length c0_4, .bool a0_5, .slice A0_6 l0_6.length c0_6, .slice A0_7 l0_7.length c0_7, .slice A0_8 l0_8.length c0_8] 37 (0, 0)) (bk BK559.out) hg (Kd.R_ne HO_565001.out BK559.out (by decide))); have n2_ := am (blk_grown (g := gb560) (o := .cells #[.int .i64 x561000_2, .slice none 0 0] 58 (0, 0)) (bk BK560.out) hg (Kd.R_ne HO_565001.out BK560.out (by decide))); have n3_ := am (blk_grown (g := gb564) (o := .cells #[.int .i64 (wrap64 ((wrap64 (2 + (l0_0.length : Int))) + (t561.length : Int))), u565001] 58 (0, 0)) (bk BK564.out) hg (Kd.R_ne HO_565001.out BK564.out (by decide))); have n4_ := am (hb); have n5_ := am (ho); clear HO_60; clear BK559; clear BK560; clear BK564; clear HB; clear HO_565001; have HO_60 := n0_; have BK559 := n1_; have BK560 := n2_; have BK564 := n3_; have HB := n4_; have HO580 := n5_; clear n0_ n1_ n2_ n3_ n4_ n5_; clear ho hb hg hat; obtain ⟨Ao53, co53, eo53⟩ := Kd.R_slice HO580.out; subst eo53; obtain ⟨_, _, _, _⟩ := cf2 BK564.out))
         go_roundg k2
         case measure => have := HK1.out; have := HK2.out; omega
         case rel => exact ⟨(wrap64 (x62_2 + 1)), (x561000_2), (y578), (.slice Ao53 y578.length co53), (es), H', ⟨by have := HK1.out; have := HK2.out; omega⟩, ⟨(kf (Kd.R_types HO_60.out BK564.out (by decide)))⟩, ⟨(kf (Kd.R_types HO580.out BK564.out (by decide)))⟩, ⟨bk BK559.out⟩, ⟨bk BK560.out⟩, ⟨(bz BK564)⟩, ⟨bel⟩⟩
      ·simp only [Option.some.injEq, Prod.mk.injEq] at H
       obtain ⟨rfl, rfl, rfl⟩ := H
       have hnb55 := NB564_559.out
       have hnc55 := NB559_564.out
       have hnb56 := NB564_560.out
       have hnc56 := NB560_564.out
       obtain ⟨_, _, _, _⟩ := cf2 BK564.out
       have hnb58 := NB560_559.out
       have hnc58 := NB559_560.out
       obtain ⟨_, _, _, _⟩ := cf2 BK560.out
       obtain ⟨Ao60, co60, eo60⟩ := Kd.R_slice HO_565001.out
       subst eo60
       go_wp2
       refine bodyPost_ret (results_ct rfl _ _ gb560 58 #[.int .i64 (wrap64 ((wrap64 (2 + (l0_0.length : Int))) + (t561.length : Int))), .slice Ao60 x565001_2.length co60] (0, 0) _ rfl (bz BK560) Try.underlying58 rfl (by kernel_rfl)) rfl ?_
       exact ⟨_, er, (kf (Kd.R_types HO_565001.out BK560.out (by decide))), bel⟩
def impl_NetOk.l0 : Nat → List (S112) → Int → Int → Int → List (S112) → Option (Bool)
  | 0, _, _, _, _, _ => none
  | k + 1, x6, x7, x8, x582000, x582001 => if x8 < x7 then (if 0 ≤ x8 then (if x8 < (x6.length : Int) then ((impl_within.f ((rd_T112 x6 x8).f0) 0 (wrap64 (x582000 - 1))).bind fun t585 => (if t585 = true then ((impl_within.f ((rd_T112 x6 x8).f1) 0 (wrap64 (x582000 - 1))).bind fun t586 => (if t586 = true then (if ((rd_T112 x6 x8).f0) = ((rd_T112 x6 x8).f1) then (some false) else ((impl_within.f ((rd_T112 x6 x8).f2) 0 1000).bind fun t587 => (if t587 = true then (impl_NetOk.l0 k x6 x7 (wrap64 (x8 + 1)) x582000 x582001) else (some false)))) else (some false))) else (some false))) else (none)) else (none)) else ((impl_within.f x582000 2 40).bind fun t582 => (if t582 = true then (some (decide ((x582001.length : Int) ≤ 120))) else (some false)))
def impl_NetOk.f (k : Nat) (a0_0 : Int) (l0_1 : List (S112)) : Option (Bool) := impl_NetOk.l0 k l0_1 (l0_1.length : Int) 0 a0_0 l0_1
theorem impl_NetOk.calls (k : Nat) (a0_0 : Int) (A0_1 : Option Addr) (c0_1 : Nat) (l0_1 : List (S112)) (r : Bool) (w : World) (hr0_1 : Kd.C k112 w A0_1 l0_1.length l0_1) (hc0_1 : l0_1.length ≤ c0_1) (h : impl_NetOk.f k a0_0 l0_1 = some r) : Calls Try.prog 83 #[.agg #[.int .i64 a0_0, .slice A0_1 l0_1.length c0_1]] w fun e w' => e = .returned (.bool r) ∧ Below w.heap.size w w' := by
 have hu58 := Try.underlying58
 have hu112 := Try.underlying112
 have HR0_1 := am hr0_1
 have HC0_1 := am hc0_1
 clear hr0_1 hc0_1
 have HB := am (Below.refl w.heap.size w)
 have H : (impl_NetOk.l0 k l0_1 (l0_1.length : Int) 0 a0_0 l0_1) = some r := h
 clear h
 have H' := am H
 clear H
 go_enter Try.func83, Try.ntmps83
 go_wp2_with (first | ((with_reducible refine gd 1 ?_); refine bx w 1 #[.int .i64 a0_0, .slice A0_1 l0_1.length c0_1] 58 ?_; clear HB; intro gb581 w2 BK581 GE581 HB; obtain ⟨hcz3_0, hcz3_1, hfz3_0, hfz3_1⟩ := cf2 BK581.out))
 go_loopg [8] k (fun kq v8 w' => ∃ (x8_1 : Int), v8 = .int .i64 x8_1 ∧ Aside0 (impl_NetOk.l0 kq l0_1 (l0_1.length : Int) x8_1 a0_0 l0_1 = some r) ∧ Aside0 (kq ≤ k) ∧ Aside0 (w'.heap[gb581]? = some (.cells #[.int .i64 a0_0, (.slice A0_1 l0_1.length c0_1)] 58 (0, 0))) ∧ Aside0 (Below w.heap.size w w'))
 case atStart => exact ⟨(0), (es), H', ⟨Nat.le_refl _⟩, ⟨bk BK581.out⟩, ⟨bel⟩⟩
 case round =>
  clear H'
  try clear hcz3_0; try clear hcz3_1; try clear hfz3_0; try clear hfz3_1
  obtain ⟨x8_1, rfl, HA, HK1, BK581, HB⟩ := hrel
  cases gk with
  | zero => exact absurd HA.out (by simp [impl_NetOk.l0])
  | succ k1 =>
   have H := HA.out
   clear HA
   simp only [impl_NetOk.l0] at H
   replace H := i1 H; obtain ⟨c4b0, H⟩ | ⟨c4b0, H⟩ := H
   ·replace H := i0 H; obtain ⟨c5b0, H⟩ := H
    replace H := i0 H; obtain ⟨c6b0, H⟩ := H
    replace H := bm H; obtain ⟨t585, A7, H⟩ := H
    replace H := ib H; obtain ⟨rfl, H⟩ | ⟨rfl, H⟩ := H
    ·replace H := bm H; obtain ⟨t586, A9, H⟩ := H
     replace H := ib H; obtain ⟨rfl, H⟩ | ⟨rfl, H⟩ := H
     ·replace H := ie H; obtain ⟨c11b0, c11b1, H⟩ | ⟨⟨c11, c11b0, c11b1⟩, H⟩ := H
      ·obtain rfl := Option.some.inj H
       have p583 : 0 ≤ (x8_1 : Int) := asm
       have q583 : x8_1 < (l0_1.length : Int) := asm
       obtain ⟨ad583, e583, hx583_0, hx583_1, hx583_2⟩ := hc3 HB.out (at_T112 HR0_1.out x8_1 p583 q583)
       cases e583
       replace p583 := eq_true p583
       replace q583 := eq_true q583
       go_wp2_with (first | ((with_reducible refine gd 4 ?_); refine by_ w 4 #[.int .i64 0, .int .i64 0, .int .i64 0] 112 ?_; clear HB; intro gb584 hg w12 BK584 GE584 hb HB; have NB581_584 := am ((nlt hg BK581.out : gb581 ≠ gb584)); have NB584_581 := am ((ngt hg BK581.out : gb584 ≠ gb581)); replace BK581 := b1 BK581 hb; clear hb hg; have hnb13 := NB584_581.out; have hnc13 := NB581_584.out; obtain ⟨_, _, _, _, _, _⟩ := cf3 BK584.out; obtain ⟨_, _, _, _⟩ := cf2 BK581.out) | ((with_reducible refine gc 55 ?_); refine gl1 17 Try.func55 (impl_within.calls ((rd_T112 l0_1 x8_1).f0) 0 (wrap64 (a0_0 - 1)) true _ A7.out) ?_; intro nd) | (go_at_call 55; refine cm1 (impl_within.calls ((rd_T112 l0_1 x8_1).f1) 0 (wrap64 (a0_0 - 1)) true _ A9.out) ?_; intro nd))
       go_ret
       exact ⟨er, bel⟩
      ·replace H := bm H; obtain ⟨t587, A16, H⟩ := H
       replace H := ib H; obtain ⟨rfl, H⟩ | ⟨rfl, H⟩ := H
       ·have H' := am H
        clear H
        have p583 : 0 ≤ (x8_1 : Int) := asm
        have q583 : x8_1 < (l0_1.length : Int) := asm
        obtain ⟨ad583, e583, hx583_0, hx583_1, hx583_2⟩ := hc3 HB.out (at_T112 HR0_1.out x8_1 p583 q583)
        cases e583
        replace p583 := eq_true p583
        replace q583 := eq_true q583
        go_wp2_with (first | ((with_reducible refine gd 4 ?_); refine by_ w 4 #[.int .i64 0, .int .i64 0, .int .i64 0] 112 ?_; clear HB; intro gb584 hg w18 BK584 GE584 hb HB; have NB581_584 := am ((nlt hg BK581.out : gb581 ≠ gb584)); have NB584_581 := am ((ngt hg BK581.out : gb584 ≠ gb581)); replace BK581 := b1 BK581 hb; clear hb hg; have hnb19 := NB584_581.out; have hnc19 := NB581_584.out; obtain ⟨_, _, _, _, _, _⟩ := cf3 BK584.out; obtain ⟨_, _, _, _⟩ := cf2 BK581.out) | ((with_reducible refine gc 55 ?_); refine gl1 17 Try.func55 (impl_within.calls ((rd_T112 l0_1 x8_1).f0) 0 (wrap64 (a0_0 - 1)) true _ A7.out) ?_; intro nd) | (go_at_call 55; refine cm1 (impl_within.calls ((rd_T112 l0_1 x8_1).f1) 0 (wrap64 (a0_0 - 1)) true _ A9.out) ?_; intro nd) | (go_at_call 55; refine cm1 (impl_within.calls ((rd_T112 l0_1 x8_1).f2) 0 1000 true _ A16.out) ?_; intro nd))
        go_roundg k1
        case measure => have := HK1.out; omega
        case rel => exact ⟨(wrap64 (x8_1 + 1)), (es), H', ⟨by have := HK1.out; omega⟩, ⟨bk BK581.out⟩, ⟨bel⟩⟩
       ·obtain rfl := Option.some.inj H
        have p583 : 0 ≤ (x8_1 : Int) := asm
        have q583 : x8_1 < (l0_1.length : Int) := asm
        obtain ⟨ad583, e583, hx583_0, hx583_1, hx583_2⟩ := hc3 HB.out (at_T112 HR0_1.out x8_1 p583 q583)
        cases e583
        replace p583 := eq_true p583
        replace q583 := eq_true q583
        go_wp2_with (first | ((with_reducible refine gd 4 ?_); refine by_ w 4 #[.int .i64 0, .int .i64 0, .int .i64 0] 112 ?_; clear HB; intro gb584 hg w22 BK584 GE584 hb HB; have NB581_584 := am ((nlt hg BK581.out : gb581 ≠ gb584)); have NB584_581 := am ((ngt hg BK581.out : gb584 ≠ gb581)); replace BK581 := b1 BK581 hb; clear hb hg; have hnb23 := NB584_581.out; have hnc23 := NB581_584.out; obtain ⟨_, _, _, _, _, _⟩ := cf3 BK584.out; obtain ⟨_, _, _, _⟩ := cf2 BK581.out) | ((with_reducible refine gc 55 ?_); refine gl1 17 Try.func55 (impl_within.calls ((rd_T112 l0_1 x8_1).f0) 0 (wrap64 (a0_0 - 1)) true _ A7.out) ?_; intro nd) | (go_at_call 55; refine cm1 (impl_within.calls ((rd_T112 l0_1 x8_1).f1) 0 (wrap64 (a0_0 - 1)) true _ A9.out) ?_; intro nd) | (go_at_call 55; refine cm1 (impl_within.calls ((rd_T112 l0_1 x8_1).f2) 0 1000 false _ A16.out) ?_; intro nd))
        go_ret
        exact ⟨er, bel⟩
     ·obtain rfl := Option.some.inj H
      have p583 : 0 ≤ (x8_1 : Int) := asm
      have q583 : x8_1 < (l0_1.length : Int) := asm
      obtain ⟨ad583, e583, hx583_0, hx583_1, hx583_2⟩ := hc3 HB.out (at_T112 HR0_1.out x8_1 p583 q583)
      cases e583
      replace p583 := eq_true p583
      replace q583 := eq_true q583
      go_wp2_with (first | ((with_reducible refine gd 4 ?_); refine by_ w 4 #[.int .i64 0, .int .i64 0, .int .i64 0] 112 ?_; clear HB; intro gb584 hg w26 BK584 GE584 hb HB; have NB581_584 := am ((nlt hg BK581.out : gb581 ≠ gb584)); have NB584_581 := am ((ngt hg BK581.out : gb584 ≠ gb581)); replace BK581 := b1 BK581 hb; clear hb hg; have hnb27 := NB584_581.out; have hnc27 := NB581_584.out; obtain ⟨_, _, _, _, _, _⟩ := cf3 BK584.out; obtain ⟨_, _, _, _⟩ := cf2 BK581.out) | ((with_reducible refine gc 55 ?_); refine gl1 17 Try.func55 (impl_within.calls ((rd_T112 l0_1 x8_1).f0) 0 (wrap64 (a0_0 - 1)) true _ A7.out) ?_; intro nd) | (go_at_call 55; refine cm1 (impl_within.calls ((rd_T112 l0_1 x8_1).f1) 0 (wrap64 (a0_0 - 1)) false _ A9.out) ?_; intro nd))
      go_ret
      exact ⟨er, bel⟩
    ·obtain rfl := Option.some.inj H
     have p583 : 0 ≤ (x8_1 : Int) := asm
     have q583 : x8_1 < (l0_1.length : Int) := asm
     obtain ⟨ad583, e583, hx583_0, hx583_1, hx583_2⟩ := hc3 HB.out (at_T112 HR0_1.out x8_1 p583 q583)
     cases e583
     replace p583 := eq_true p583
     replace q583 := eq_true q583
     go_wp2_with (first | ((with_reducible refine gd 4 ?_); refine by_ w 4 #[.int .i64 0, .int .i64 0, .int .i64 0] 112 ?_; clear HB; intro gb584 hg w30 BK584 GE584 hb HB; have NB581_584 := am ((nlt hg BK581.out : gb581 ≠ gb584)); have NB584_581 := am ((ngt hg BK581.out : gb584 ≠ gb581)); replace BK581 := b1 BK581 hb; clear hb hg; have hnb31 := NB584_581.out; have hnc31 := NB581_584.out; obtain ⟨_, _, _, _, _, _⟩ := cf3 BK584.out; obtain ⟨_, _, _, _⟩ := cf2 BK581.out) | ((with_reducible refine gc 55 ?_); refine gl1 17 Try.func55 (impl_within.calls ((rd_T112 l0_1 x8_1).f0) 0 (wrap64 (a0_0 - 1)) false _ A7.out) ?_; intro nd))
     go_ret
     exact ⟨er, bel⟩
   ·replace H := bm H; obtain ⟨t582, A34, H⟩ := H
    replace H := ib H; obtain ⟨rfl, H⟩ | ⟨rfl, H⟩ := H
    ·obtain rfl := Option.some.inj H
     obtain ⟨_, _, _, _⟩ := cf2 BK581.out
     go_wp2_with (first | ((with_reducible refine gc 55 ?_); refine gl1 44 Try.func55 (impl_within.calls a0_0 2 40 true _ A34.out) ?_; intro nd))
     go_ret
     exact ⟨er, bel⟩
    ·obtain rfl := Option.some.inj H
     obtain ⟨_, _, _, _⟩ := cf2 BK581.out
     go_wp2_with (first | ((with_reducible refine gc 55 ?_); refine gl1 44 Try.func55 (impl_within.calls a0_0 2 40 false _ A34.out) ?_; intro nd))
     go_ret
     exact ⟨er, bel⟩
end Go.Proofs.Ytgalpgakdcfilaa.Q
