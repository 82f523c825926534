-- Written by a program of this session (wip/xp.py, over the kit's print) out of the translation: functions, and the walks that show them.
import Derived.Test.YtaopcamaceddnaaZ0
import Derived.Test.YtaopcamaceddnaaZ2
import Derived.Test.YtaopcamaceddnaaZ6
import Derived.Test.YtaopcamaceddnaaZ8
import Derived.Test.YtaopcamaceddnaaZ9
namespace Go.Proofs.Ytaopcamaceddnaa.Z
open Go.RowKit Go.Proofs.YtaopcamaceddnaaW.PrintWords Go.Proofs.YtaopcamaceddnaaW.PrintLast Go.Proofs.YtaopcamaceddnaaW.PrintMore
attribute [local go_sem] max2_int min2_int max_two min_two max_three min_three max_four min_four   -- for this text's walks alone
set_option linter.unusedVariables false
set_option linter.unusedSimpArgs false

mutual
def laws_FnQuotas.j0 : Nat → Int → List (S38) → List (List Int) → List Int → Bool → Option (Bool)
  | 0, _, _, _, _, _ => none
  | k + 1, x3, x4, x5, x7, x55 => if x55 = true then (some false) else (laws_FnQuotas.l0 k x3 x4 x7 0 0 (([] : List Int)) x5 (x5.length : Int) 0)
def laws_FnQuotas.l0 : Nat → Int → List (S38) → List Int → Int → Int → List Int → List (List Int) → Int → Int → Option (Bool)
  | 0, _, _, _, _, _, _, _, _, _ => none
  | k + 1, x3, x4, x7, x8, x9, x10, x57, x58, x59 => if x59 < x58 then (if 0 ≤ x59 then (if x59 < (x57.length : Int) then (if x59 < (x4.length : Int) then (if x59 < (x7.length : Int) then (if ((rd_L1 x57 x59).length : Int) > (rd x7 x59) then (laws_FnQuotas.j2 k x3 x4 x7 (wrap64 (x8 + ((rd_L1 x57 x59).length : Int))) (wrap64 (x9 + ((rd_T38 x4 x59).f1))) x10 x59 x57 x58 x59 true) else (laws_FnQuotas.j2 k x3 x4 x7 (wrap64 (x8 + ((rd_L1 x57 x59).length : Int))) (wrap64 (x9 + ((rd_T38 x4 x59).f1))) x10 x59 x57 x58 x59 (decide ((rd x7 x59) < ((rd_T38 x4 x59).f1))))) else (none)) else (none)) else (none)) else (none)) else ((impl_LostPlaces.f k x3 x4).bind fun t271 => (some ((wrap64 (x8 + t271)) == x9)))
def laws_FnQuotas.j2 : Nat → Int → List (S38) → List Int → Int → Int → List Int → Int → List (List Int) → Int → Int → Bool → Option (Bool)
  | 0, _, _, _, _, _, _, _, _, _, _, _ => none
  | k + 1, x3, x4, x7, x8, x9, x10, x11, x57, x58, x59, x93 => if x93 = true then (some false) else (if 0 ≤ x59 then (if x59 < (x57.length : Int) then (laws_FnQuotas.l1 k x3 x4 x7 x8 x9 x10 x11 x57 x58 x59 (rd_L1 x57 x59) ((rd_L1 x57 x59).length : Int) 0) else (none)) else (none))
def laws_FnQuotas.l1 : Nat → Int → List (S38) → List Int → Int → Int → List Int → Int → List (List Int) → Int → Int → List Int → Int → Int → Option (Bool)
  | 0, _, _, _, _, _, _, _, _, _, _, _, _, _ => none
  | k + 1, x3, x4, x7, x8, x9, x10, x11, x57, x58, x59, x94, x95, x96 => if x96 < x95 then (if 0 ≤ x96 then (if x96 < (x94.length : Int) then ((laws_has.f k x10 (rd x94 x96)).bind fun t281 => (if t281 = true then (some false) else (if 0 ≤ x11 then (if x11 < (x4.length : Int) then ((laws_has.f k ((rd_T38 x4 x11).f0) (rd x94 x96)).bind fun t283 => (if t283 = true then ((impl_ContestOf.f k x3 x4 (rd x94 x96)).bind fun t284 => (if t284 = x11 then (if x10.length < 17592186044416 then (laws_FnQuotas.l1 k x3 x4 x7 x8 x9 (x10 ++ [rd x94 x96]) x11 x57 x58 x59 x94 x95 (wrap64 (x96 + 1))) else (none)) else (some false))) else (some false))) else (none)) else (none)))) else (none)) else (none)) else (if 0 ≤ x59 then (if x59 < (x57.length : Int) then (if ((rd_L1 x57 x59).length : Int) > 0 then (if 0 ≤ x11 then (if x11 < (x4.length : Int) then (laws_FnQuotas.l2 k x3 x4 x7 x8 x9 x10 x57 x58 x59 ((rd_T38 x4 x11).f0) (((rd_T38 x4 x11).f0).length : Int) 0) else (none)) else (none)) else (laws_FnQuotas.l0 k x3 x4 x7 x8 x9 x10 x57 x58 (wrap64 (x59 + 1)))) else (none)) else (none))
def laws_FnQuotas.l2 : Nat → Int → List (S38) → List Int → Int → Int → List Int → List (List Int) → Int → Int → List Int → Int → Int → Option (Bool)
  | 0, _, _, _, _, _, _, _, _, _, _, _, _ => none
  | k + 1, x3, x4, x7, x8, x9, x10, x57, x58, x59, x133, x134, x135 => if x135 < x134 then (if 0 ≤ x135 then (if x135 < (x133.length : Int) then ((laws_has.f k x10 (rd x133 x135)).bind fun t291 => (if t291 = true then (if 0 ≤ x59 then (if x59 < (x57.length : Int) then (if 0 ≤ (wrap64 (((rd_L1 x57 x59).length : Int) - 1)) then (if (wrap64 (((rd_L1 x57 x59).length : Int) - 1)) < ((rd_L1 x57 x59).length : Int) then (if (rd x133 x135) = (rd (rd_L1 x57 x59) (wrap64 (((rd_L1 x57 x59).length : Int) - 1))) then (laws_FnQuotas.l0 k x3 x4 x7 x8 x9 x10 x57 x58 (wrap64 (x59 + 1))) else (laws_FnQuotas.l2 k x3 x4 x7 x8 x9 x10 x57 x58 x59 x133 x134 (wrap64 (x135 + 1)))) else (none)) else (none)) else (none)) else (none)) else (some false))) else (none)) else (none)) else (laws_FnQuotas.l0 k x3 x4 x7 x8 x9 x10 x57 x58 (wrap64 (x59 + 1)))
end
def laws_FnQuotas.f (k : Nat) (l0 : List Int) : Option (Bool) := if (l0.length : Int) > 1048576 then (some true) else ((spec_MakeContests.f k l0).bind fun bt256 => ((impl_Qualified.f k bt256.1 bt256.2).bind fun bt260 => ((impl_PlacesOf.f k bt256.1 bt256.2).bind fun t264 => (if bt260.2 = true then ((impl_ContestsOk.f k bt256.1 bt256.2).bind fun t267 => (if t267 = true then (if (bt260.1.length : Int) = (bt256.2.length : Int) then (laws_FnQuotas.j0 k bt256.1 bt256.2 bt260.1 t264 ((t264.length : Int) != (bt256.2.length : Int))) else (laws_FnQuotas.j0 k bt256.1 bt256.2 bt260.1 t264 true)) else (laws_FnQuotas.j0 k bt256.1 bt256.2 bt260.1 t264 true))) else (laws_FnQuotas.j0 k bt256.1 bt256.2 bt260.1 t264 true)))))
set_option maxHeartbeats 8000000 in
set_option maxRecDepth 100000 in
theorem laws_FnQuotas.calls (k : Nat) (A0 : Option Addr) (c0 : Nat) (l0 : List Int) (r : Bool) (w : World) (hr0 : Kd.C (Kd.int .u8) w A0 l0.length l0) (hc0 : l0.length ≤ c0) (h : laws_FnQuotas.f k l0 = some r) :
    Calls Try.prog 4 #[.slice A0 l0.length c0] w fun e w' => e = .returned (.bool r) ∧ Below w.heap.size w w' := by
  have HR0 := Aside0.mk hr0
  have HC0 := Aside0.mk hc0
  clear hr0 hc0
  have HB := Aside0.mk (Below.refl w.heap.size w)
  have H : (if (l0.length : Int) > 1048576 then (some true) else ((spec_MakeContests.f k l0).bind fun bt256 => ((impl_Qualified.f k bt256.1 bt256.2).bind fun bt260 => ((impl_PlacesOf.f k bt256.1 bt256.2).bind fun t264 => (if bt260.2 = true then ((impl_ContestsOk.f k bt256.1 bt256.2).bind fun t267 => (if t267 = true then (if (bt260.1.length : Int) = (bt256.2.length : Int) then (laws_FnQuotas.j0 k bt256.1 bt256.2 bt260.1 t264 ((t264.length : Int) != (bt256.2.length : Int))) else (laws_FnQuotas.j0 k bt256.1 bt256.2 bt260.1 t264 true)) else (laws_FnQuotas.j0 k bt256.1 bt256.2 bt260.1 t264 true))) else (laws_FnQuotas.j0 k bt256.1 bt256.2 bt260.1 t264 true)))))) = some r := h
  clear h
  by_cases c2 : (l0.length : Int) > 1048576
  · rw [if_pos c2] at H
    have c2b0 : decide (1048576 < (l0.length : Int)) = true := decide_eq_true c2
    have c2b1 : decide (1048576 < l0.length) = true := decide_eq_true (by omega)
    clear c2
    obtain rfl := Option.some.inj H
    go_enter Try.func4, Try.ntmps4
    go_wp2
    repeat (go_quiet (fail); try go_wp2)
    go_ret
    exact ⟨er, bel⟩
  · rw [if_neg c2] at H
    have c2b0 : decide (1048576 < (l0.length : Int)) = false := decide_eq_false c2
    have c2b1 : decide (1048576 < l0.length) = false := decide_eq_false (by omega)
    clear c2
    replace H := Option.bind_eq_some_iff.mp H
    obtain ⟨⟨t256, t257⟩, A30, H⟩ := H
    replace H : ((impl_Qualified.f k t256 t257).bind fun bt260 => ((impl_PlacesOf.f k t256 t257).bind fun t264 => (if bt260.2 = true then ((impl_ContestsOk.f k t256 t257).bind fun t267 => (if t267 = true then (if (bt260.1.length : Int) = (t257.length : Int) then (laws_FnQuotas.j0 k t256 t257 bt260.1 t264 ((t264.length : Int) != (t257.length : Int))) else (laws_FnQuotas.j0 k t256 t257 bt260.1 t264 true)) else (laws_FnQuotas.j0 k t256 t257 bt260.1 t264 true))) else (laws_FnQuotas.j0 k t256 t257 bt260.1 t264 true)))) = some r := H
    have A3 := Aside0.mk A30
    clear A30
    replace H := Option.bind_eq_some_iff.mp H
    obtain ⟨⟨t260, t261⟩, A40, H⟩ := H
    replace H : ((impl_PlacesOf.f k t256 t257).bind fun t264 => (if t261 = true then ((impl_ContestsOk.f k t256 t257).bind fun t267 => (if t267 = true then (if (t260.length : Int) = (t257.length : Int) then (laws_FnQuotas.j0 k t256 t257 t260 t264 ((t264.length : Int) != (t257.length : Int))) else (laws_FnQuotas.j0 k t256 t257 t260 t264 true)) else (laws_FnQuotas.j0 k t256 t257 t260 t264 true))) else (laws_FnQuotas.j0 k t256 t257 t260 t264 true))) = some r := H
    have A4 := Aside0.mk A40
    clear A40
    replace H := Option.bind_eq_some_iff.mp H
    obtain ⟨t264, A50, H⟩ := H
    replace H : (if t261 = true then ((impl_ContestsOk.f k t256 t257).bind fun t267 => (if t267 = true then (if (t260.length : Int) = (t257.length : Int) then (laws_FnQuotas.j0 k t256 t257 t260 t264 ((t264.length : Int) != (t257.length : Int))) else (laws_FnQuotas.j0 k t256 t257 t260 t264 true)) else (laws_FnQuotas.j0 k t256 t257 t260 t264 true))) else (laws_FnQuotas.j0 k t256 t257 t260 t264 true)) = some r := H
    have A5 := Aside0.mk A50
    clear A50
    have HC6 := Aside0.mk H
    clear H
    go_enter Try.func4, Try.ntmps4
    go_upto_region 6 with (first | (go_at_call 17; (with_reducible refine (spec_MakeContests.calls k _ _ l0 t256 t257 _ ?side1 ?side2 A3.out).mono ?_); (case side1 => exact ck HR0.out); (case side2 => exact HC0.out); rintro e w7 ⟨v258, rfl, ho0, hb⟩; have HO259 := Aside0.mk (Kd.N_lower (Kd.N_mono (ok' := fun k_ => True) ho0 (fun k_ hk_ => trivial)) (below_size bel)); replace HB := Aside0.mk (below_step bel hb); (try clear hb); (try clear hb2); (try clear hk); (try clear hi); (try clear ho0); obtain ⟨Ao8, co8, eo8⟩ := Kd.N_slice HO259.out; subst eo8) | (go_at_call 18; (with_reducible refine (impl_Qualified.calls k t256 _ _ t257 t260 t261 _ ?side1 ?side2 A4.out).mono ?_); (case side1 => repeat (first | exact (Kd.N_reads' HO259.out).2.2 | (with_reducible refine Kd.C_alloc ?_ _) | (with_reducible refine Kd.C_drewN ?_ _) | (with_reducible refine Kd.C_drew ?_))); (case side2 => exact (Kd.N_reads' HO259.out).2.1); rintro e w9 ⟨v262, rfl, ho0, hb⟩; have HO263 := Aside0.mk (Kd.N_lower (Kd.N_mono (ok' := fun k_ => some k_ ≠ (.slice Ao8 t257.length co8 : Value).ownBlock) (Kd.S_N (Kd.S_bound ho0)) (fun k_ hk_ => (Kd.fresh' (Kd.N_lt (by (with_reducible repeat (first | apply Kd.N_alloc | apply Kd.N_drewN | apply Kd.N_drew)); exact HO259.out)) k_ hk_.2.1))) (below_size bel)); replace HO259 := Aside0.mk (Kd.N_elder' (by (with_reducible repeat (first | apply Kd.N_alloc | apply Kd.N_drewN | apply Kd.N_drew)); exact HO259.out) (Kd.S_base ho0) hb); replace HB := Aside0.mk (below_step bel hb); (try clear hb); (try clear hb2); (try clear hk); (try clear hi); (try clear ho0)) | (go_at_call 19; (with_reducible refine (impl_PlacesOf.calls k t256 _ _ t257 t264 _ ?side1 ?side2 A5.out).mono ?_); (case side1 => repeat (first | exact (Kd.N_reads' HO259.out).2.2 | (with_reducible refine Kd.C_alloc ?_ _) | (with_reducible refine Kd.C_drewN ?_ _) | (with_reducible refine Kd.C_drew ?_))); (case side2 => exact (Kd.N_reads' HO259.out).2.1); rintro e w10 ⟨v265, rfl, ho0, hb⟩; have HO266 := Aside0.mk (Kd.R_lower ho0 (below_size bel)); replace HO259 := Aside0.mk (Kd.N_elder' (by (with_reducible repeat (first | apply Kd.N_alloc | apply Kd.N_drewN | apply Kd.N_drew)); exact HO259.out) (Kd.R_base ho0) hb); replace HO263 := Aside0.mk (Kd.N_elder' (by (with_reducible repeat (first | apply Kd.N_alloc | apply Kd.N_drewN | apply Kd.N_drew)); exact HO263.out) (Kd.R_base ho0) hb); replace HB := Aside0.mk (below_step bel hb); (try clear hb); (try clear hb2); (try clear hk); (try clear hi); (try clear ho0)))
    repeat (go_quiet (first | (go_at_call 17; (with_reducible refine (spec_MakeContests.calls k _ _ l0 t256 t257 _ ?side1 ?side2 A3.out).mono ?_); (case side1 => exact ck HR0.out); (case side2 => exact HC0.out); rintro e w7 ⟨v258, rfl, ho0, hb⟩; have HO259 := Aside0.mk (Kd.N_lower (Kd.N_mono (ok' := fun k_ => True) ho0 (fun k_ hk_ => trivial)) (below_size bel)); replace HB := Aside0.mk (below_step bel hb); (try clear hb); (try clear hb2); (try clear hk); (try clear hi); (try clear ho0); obtain ⟨Ao8, co8, eo8⟩ := Kd.N_slice HO259.out; subst eo8) | (go_at_call 18; (with_reducible refine (impl_Qualified.calls k t256 _ _ t257 t260 t261 _ ?side1 ?side2 A4.out).mono ?_); (case side1 => repeat (first | exact (Kd.N_reads' HO259.out).2.2 | (with_reducible refine Kd.C_alloc ?_ _) | (with_reducible refine Kd.C_drewN ?_ _) | (with_reducible refine Kd.C_drew ?_))); (case side2 => exact (Kd.N_reads' HO259.out).2.1); rintro e w9 ⟨v262, rfl, ho0, hb⟩; have HO263 := Aside0.mk (Kd.N_lower (Kd.N_mono (ok' := fun k_ => some k_ ≠ (.slice Ao8 t257.length co8 : Value).ownBlock) (Kd.S_N (Kd.S_bound ho0)) (fun k_ hk_ => (Kd.fresh' (Kd.N_lt (by (with_reducible repeat (first | apply Kd.N_alloc | apply Kd.N_drewN | apply Kd.N_drew)); exact HO259.out)) k_ hk_.2.1))) (below_size bel)); replace HO259 := Aside0.mk (Kd.N_elder' (by (with_reducible repeat (first | apply Kd.N_alloc | apply Kd.N_drewN | apply Kd.N_drew)); exact HO259.out) (Kd.S_base ho0) hb); replace HB := Aside0.mk (below_step bel hb); (try clear hb); (try clear hb2); (try clear hk); (try clear hi); (try clear ho0)) | (go_at_call 19; (with_reducible refine (impl_PlacesOf.calls k t256 _ _ t257 t264 _ ?side1 ?side2 A5.out).mono ?_); (case side1 => repeat (first | exact (Kd.N_reads' HO259.out).2.2 | (with_reducible refine Kd.C_alloc ?_ _) | (with_reducible refine Kd.C_drewN ?_ _) | (with_reducible refine Kd.C_drew ?_))); (case side2 => exact (Kd.N_reads' HO259.out).2.1); rintro e w10 ⟨v265, rfl, ho0, hb⟩; have HO266 := Aside0.mk (Kd.R_lower ho0 (below_size bel)); replace HO259 := Aside0.mk (Kd.N_elder' (by (with_reducible repeat (first | apply Kd.N_alloc | apply Kd.N_drewN | apply Kd.N_drew)); exact HO259.out) (Kd.R_base ho0) hb); replace HO263 := Aside0.mk (Kd.N_elder' (by (with_reducible repeat (first | apply Kd.N_alloc | apply Kd.N_drewN | apply Kd.N_drew)); exact HO263.out) (Kd.R_base ho0) hb); replace HB := Aside0.mk (below_step bel hb); (try clear hb); (try clear hb2); (try clear hk); (try clear hi); (try clear ho0))); go_upto_region 6 with (first | (go_at_call 17; (with_reducible refine (spec_MakeContests.calls k _ _ l0 t256 t257 _ ?side1 ?side2 A3.out).mono ?_); (case side1 => exact ck HR0.out); (case side2 => exact HC0.out); rintro e w7 ⟨v258, rfl, ho0, hb⟩; have HO259 := Aside0.mk (Kd.N_lower (Kd.N_mono (ok' := fun k_ => True) ho0 (fun k_ hk_ => trivial)) (below_size bel)); replace HB := Aside0.mk (below_step bel hb); (try clear hb); (try clear hb2); (try clear hk); (try clear hi); (try clear ho0); obtain ⟨Ao8, co8, eo8⟩ := Kd.N_slice HO259.out; subst eo8) | (go_at_call 18; (with_reducible refine (impl_Qualified.calls k t256 _ _ t257 t260 t261 _ ?side1 ?side2 A4.out).mono ?_); (case side1 => repeat (first | exact (Kd.N_reads' HO259.out).2.2 | (with_reducible refine Kd.C_alloc ?_ _) | (with_reducible refine Kd.C_drewN ?_ _) | (with_reducible refine Kd.C_drew ?_))); (case side2 => exact (Kd.N_reads' HO259.out).2.1); rintro e w9 ⟨v262, rfl, ho0, hb⟩; have HO263 := Aside0.mk (Kd.N_lower (Kd.N_mono (ok' := fun k_ => some k_ ≠ (.slice Ao8 t257.length co8 : Value).ownBlock) (Kd.S_N (Kd.S_bound ho0)) (fun k_ hk_ => (Kd.fresh' (Kd.N_lt (by (with_reducible repeat (first | apply Kd.N_alloc | apply Kd.N_drewN | apply Kd.N_drew)); exact HO259.out)) k_ hk_.2.1))) (below_size bel)); replace HO259 := Aside0.mk (Kd.N_elder' (by (with_reducible repeat (first | apply Kd.N_alloc | apply Kd.N_drewN | apply Kd.N_drew)); exact HO259.out) (Kd.S_base ho0) hb); replace HB := Aside0.mk (below_step bel hb); (try clear hb); (try clear hb2); (try clear hk); (try clear hi); (try clear ho0)) | (go_at_call 19; (with_reducible refine (impl_PlacesOf.calls k t256 _ _ t257 t264 _ ?side1 ?side2 A5.out).mono ?_); (case side1 => repeat (first | exact (Kd.N_reads' HO259.out).2.2 | (with_reducible refine Kd.C_alloc ?_ _) | (with_reducible refine Kd.C_drewN ?_ _) | (with_reducible refine Kd.C_drew ?_))); (case side2 => exact (Kd.N_reads' HO259.out).2.1); rintro e w10 ⟨v265, rfl, ho0, hb⟩; have HO266 := Aside0.mk (Kd.R_lower ho0 (below_size bel)); replace HO259 := Aside0.mk (Kd.N_elder' (by (with_reducible repeat (first | apply Kd.N_alloc | apply Kd.N_drewN | apply Kd.N_drew)); exact HO259.out) (Kd.R_base ho0) hb); replace HO263 := Aside0.mk (Kd.N_elder' (by (with_reducible repeat (first | apply Kd.N_alloc | apply Kd.N_drewN | apply Kd.N_drew)); exact HO263.out) (Kd.R_base ho0) hb); replace HB := Aside0.mk (below_step bel hb); (try clear hb); (try clear hb2); (try clear hk); (try clear hi); (try clear ho0))))
    (try simp only [Act.put, List.setIfInBounds_toArray, List.set_cons_zero, List.set_cons_succ])
    go_cut [55] (fun v55 wc => ∃ (kq : Nat) (x55_5 : Bool), v55 = .bool x55_5 ∧ Aside0 (laws_FnQuotas.j0 kq t256 t257 t260 t264 x55_5 = some r) ∧ Aside0 (kq ≤ k) ∧ Aside0 (Kd.N k38 38 wc w.heap.size (fun k_ => some k_ ≠ (v262 : Value).ownBlock ∧ some k_ ≠ (v265 : Value).ownBlock) (.slice Ao8 t257.length co8) t257) ∧ Aside0 (Kd.N (Kd.slice 3 (Kd.int .i64)) 35 wc w.heap.size (fun k_ => some k_ ≠ ((.slice Ao8 t257.length co8) : Value).ownBlock ∧ some k_ ≠ (v265 : Value).ownBlock) v262 t260) ∧ Aside0 (Kd.R (Kd.int .i64) 3 wc w.heap.size (fun _ => True) v265 t264) ∧ Aside0 (Below w.heap.size w wc))
    case first =>
      have H := HC6.out
      clear HC6
      by_cases c11 : t261 = true
      · subst c11
        have H1 : ((impl_ContestsOk.f k t256 t257).bind fun t267 => (if t267 = true then (if (t260.length : Int) = (t257.length : Int) then (laws_FnQuotas.j0 k t256 t257 t260 t264 ((t264.length : Int) != (t257.length : Int))) else (laws_FnQuotas.j0 k t256 t257 t260 t264 true)) else (laws_FnQuotas.j0 k t256 t257 t260 t264 true))) = some r := by rw [if_pos rfl] at H; exact H
        clear H
        have H := H1
        clear H1
        replace H := Option.bind_eq_some_iff.mp H
        obtain ⟨t267, A120, H⟩ := H
        replace H : (if t267 = true then (if (t260.length : Int) = (t257.length : Int) then (laws_FnQuotas.j0 k t256 t257 t260 t264 ((t264.length : Int) != (t257.length : Int))) else (laws_FnQuotas.j0 k t256 t257 t260 t264 true)) else (laws_FnQuotas.j0 k t256 t257 t260 t264 true)) = some r := H
        have A12 := Aside0.mk A120
        clear A120
        by_cases c13 : t267 = true
        · subst c13
          have H1 : (if (t260.length : Int) = (t257.length : Int) then (laws_FnQuotas.j0 k t256 t257 t260 t264 ((t264.length : Int) != (t257.length : Int))) else (laws_FnQuotas.j0 k t256 t257 t260 t264 true)) = some r := by rw [if_pos rfl] at H; exact H
          clear H
          have H := H1
          clear H1
          by_cases c14 : (t260.length : Int) = (t257.length : Int)
          · rw [if_pos c14] at H
            have c14b0 : ((t260.length : Int) == (t257.length : Int)) = true := beq_iff_eq.mpr c14
            have c14b1 : ((t260.length : Int) != (t257.length : Int)) = false := bne_eq_false_iff_eq.mpr c14
            have c14b2 : (t260.length == t257.length) = true := by first | simpa using c14 | (simp at c14 ⊢; omega)
            clear c14
            (first | rw [c14b0] | (simp only [i64_w, i32_w]; rw [c14b0]) | skip)
            have H' := Aside0.mk H
            clear H
            go_wp2_with (first | (go_at_call 15; (with_reducible refine (impl_ContestsOk.calls k t256 _ _ t257 true _ ?side1 ?side2 A12.out).mono ?_); (case side1 => repeat (first | exact (Kd.N_reads' HO259.out).2.2 | (with_reducible refine Kd.C_alloc ?_ _) | (with_reducible refine Kd.C_drewN ?_ _) | (with_reducible refine Kd.C_drew ?_))); (case side2 => exact (Kd.N_reads' HO259.out).2.1); rintro e w15 ⟨rfl, hb⟩; replace HO259 := Aside0.mk (Kd.N_below (by (with_reducible repeat (first | apply Kd.N_alloc | apply Kd.N_drewN | apply Kd.N_drew)); exact HO259.out) hb); replace HO263 := Aside0.mk (Kd.N_below (by (with_reducible repeat (first | apply Kd.N_alloc | apply Kd.N_drewN | apply Kd.N_drew)); exact HO263.out) hb); replace HO266 := Aside0.mk (Kd.R_below (rk HO266.out) hb); replace HB := Aside0.mk (below_step bel hb); (try clear hb); (try clear hb2); (try clear hk); (try clear hi); obtain ⟨Ao16, co16, eo16⟩ := Kd.N_slice HO263.out; subst eo16; obtain ⟨Ao17, co17, eo17⟩ := Kd.R_slice HO266.out; subst eo17))
            repeat (go_quiet (first | (go_at_call 15; (with_reducible refine (impl_ContestsOk.calls k t256 _ _ t257 true _ ?side1 ?side2 A12.out).mono ?_); (case side1 => repeat (first | exact (Kd.N_reads' HO259.out).2.2 | (with_reducible refine Kd.C_alloc ?_ _) | (with_reducible refine Kd.C_drewN ?_ _) | (with_reducible refine Kd.C_drew ?_))); (case side2 => exact (Kd.N_reads' HO259.out).2.1); rintro e w15 ⟨rfl, hb⟩; replace HO259 := Aside0.mk (Kd.N_below (by (with_reducible repeat (first | apply Kd.N_alloc | apply Kd.N_drewN | apply Kd.N_drew)); exact HO259.out) hb); replace HO263 := Aside0.mk (Kd.N_below (by (with_reducible repeat (first | apply Kd.N_alloc | apply Kd.N_drewN | apply Kd.N_drew)); exact HO263.out) hb); replace HO266 := Aside0.mk (Kd.R_below (rk HO266.out) hb); replace HB := Aside0.mk (below_step bel hb); (try clear hb); (try clear hb2); (try clear hk); (try clear hi); obtain ⟨Ao16, co16, eo16⟩ := Kd.N_slice HO263.out; subst eo16; obtain ⟨Ao17, co17, eo17⟩ := Kd.R_slice HO266.out; subst eo17)); try go_wp2_with (first | (go_at_call 15; (with_reducible refine (impl_ContestsOk.calls k t256 _ _ t257 true _ ?side1 ?side2 A12.out).mono ?_); (case side1 => repeat (first | exact (Kd.N_reads' HO259.out).2.2 | (with_reducible refine Kd.C_alloc ?_ _) | (with_reducible refine Kd.C_drewN ?_ _) | (with_reducible refine Kd.C_drew ?_))); (case side2 => exact (Kd.N_reads' HO259.out).2.1); rintro e w15 ⟨rfl, hb⟩; replace HO259 := Aside0.mk (Kd.N_below (by (with_reducible repeat (first | apply Kd.N_alloc | apply Kd.N_drewN | apply Kd.N_drew)); exact HO259.out) hb); replace HO263 := Aside0.mk (Kd.N_below (by (with_reducible repeat (first | apply Kd.N_alloc | apply Kd.N_drewN | apply Kd.N_drew)); exact HO263.out) hb); replace HO266 := Aside0.mk (Kd.R_below (rk HO266.out) hb); replace HB := Aside0.mk (below_step bel hb); (try clear hb); (try clear hb2); (try clear hk); (try clear hi); obtain ⟨Ao16, co16, eo16⟩ := Kd.N_slice HO263.out; subst eo16; obtain ⟨Ao17, co17, eo17⟩ := Kd.R_slice HO266.out; subst eo17)))
            go_meet
            case rel => exact ⟨_, (((t264.length : Int) != (t257.length : Int))), (es), H', ⟨by first | omega | exact Nat.le_refl _⟩, ⟨by (with_reducible repeat (first | apply Kd.N_alloc | apply Kd.N_drewN | apply Kd.N_drew)); exact Kd.N_mono HO259.out (fun _ hk => ⟨hk.1.2, hk.2⟩)⟩, ⟨by (with_reducible repeat (first | apply Kd.N_alloc | apply Kd.N_drewN | apply Kd.N_drew)); exact HO263.out⟩, ⟨rk HO266.out⟩, ⟨bel⟩⟩
          · rw [if_neg c14] at H
            have c14b0 : ((t260.length : Int) == (t257.length : Int)) = false := beq_eq_false_iff_ne.mpr c14
            have c14b1 : ((t260.length : Int) != (t257.length : Int)) = true := bne_iff_ne.mpr c14
            have c14b2 : (t260.length == t257.length) = false := by first | simpa using c14 | (simp at c14 ⊢; omega)
            (first | rw [c14b0] | (simp only [i64_w, i32_w]; rw [c14b0]) | skip)
            have H' := Aside0.mk H
            clear H
            go_wp2_with (first | (go_at_call 15; (with_reducible refine (impl_ContestsOk.calls k t256 _ _ t257 true _ ?side1 ?side2 A12.out).mono ?_); (case side1 => repeat (first | exact (Kd.N_reads' HO259.out).2.2 | (with_reducible refine Kd.C_alloc ?_ _) | (with_reducible refine Kd.C_drewN ?_ _) | (with_reducible refine Kd.C_drew ?_))); (case side2 => exact (Kd.N_reads' HO259.out).2.1); rintro e w18 ⟨rfl, hb⟩; replace HO259 := Aside0.mk (Kd.N_below (by (with_reducible repeat (first | apply Kd.N_alloc | apply Kd.N_drewN | apply Kd.N_drew)); exact HO259.out) hb); replace HO263 := Aside0.mk (Kd.N_below (by (with_reducible repeat (first | apply Kd.N_alloc | apply Kd.N_drewN | apply Kd.N_drew)); exact HO263.out) hb); replace HO266 := Aside0.mk (Kd.R_below (rk HO266.out) hb); replace HB := Aside0.mk (below_step bel hb); (try clear hb); (try clear hb2); (try clear hk); (try clear hi); obtain ⟨Ao19, co19, eo19⟩ := Kd.N_slice HO263.out; subst eo19))
            repeat (go_quiet (first | (go_at_call 15; (with_reducible refine (impl_ContestsOk.calls k t256 _ _ t257 true _ ?side1 ?side2 A12.out).mono ?_); (case side1 => repeat (first | exact (Kd.N_reads' HO259.out).2.2 | (with_reducible refine Kd.C_alloc ?_ _) | (with_reducible refine Kd.C_drewN ?_ _) | (with_reducible refine Kd.C_drew ?_))); (case side2 => exact (Kd.N_reads' HO259.out).2.1); rintro e w18 ⟨rfl, hb⟩; replace HO259 := Aside0.mk (Kd.N_below (by (with_reducible repeat (first | apply Kd.N_alloc | apply Kd.N_drewN | apply Kd.N_drew)); exact HO259.out) hb); replace HO263 := Aside0.mk (Kd.N_below (by (with_reducible repeat (first | apply Kd.N_alloc | apply Kd.N_drewN | apply Kd.N_drew)); exact HO263.out) hb); replace HO266 := Aside0.mk (Kd.R_below (rk HO266.out) hb); replace HB := Aside0.mk (below_step bel hb); (try clear hb); (try clear hb2); (try clear hk); (try clear hi); obtain ⟨Ao19, co19, eo19⟩ := Kd.N_slice HO263.out; subst eo19)); try go_wp2_with (first | (go_at_call 15; (with_reducible refine (impl_ContestsOk.calls k t256 _ _ t257 true _ ?side1 ?side2 A12.out).mono ?_); (case side1 => repeat (first | exact (Kd.N_reads' HO259.out).2.2 | (with_reducible refine Kd.C_alloc ?_ _) | (with_reducible refine Kd.C_drewN ?_ _) | (with_reducible refine Kd.C_drew ?_))); (case side2 => exact (Kd.N_reads' HO259.out).2.1); rintro e w18 ⟨rfl, hb⟩; replace HO259 := Aside0.mk (Kd.N_below (by (with_reducible repeat (first | apply Kd.N_alloc | apply Kd.N_drewN | apply Kd.N_drew)); exact HO259.out) hb); replace HO263 := Aside0.mk (Kd.N_below (by (with_reducible repeat (first | apply Kd.N_alloc | apply Kd.N_drewN | apply Kd.N_drew)); exact HO263.out) hb); replace HO266 := Aside0.mk (Kd.R_below (rk HO266.out) hb); replace HB := Aside0.mk (below_step bel hb); (try clear hb); (try clear hb2); (try clear hk); (try clear hi); obtain ⟨Ao19, co19, eo19⟩ := Kd.N_slice HO263.out; subst eo19)))
            go_meet
            case rel => exact ⟨_, (true), (es), H', ⟨by first | omega | exact Nat.le_refl _⟩, ⟨by (with_reducible repeat (first | apply Kd.N_alloc | apply Kd.N_drewN | apply Kd.N_drew)); exact Kd.N_mono HO259.out (fun _ hk => ⟨hk.1.2, hk.2⟩)⟩, ⟨by (with_reducible repeat (first | apply Kd.N_alloc | apply Kd.N_drewN | apply Kd.N_drew)); exact HO263.out⟩, ⟨rk HO266.out⟩, ⟨bel⟩⟩
        · replace c13 := Bool.eq_false_iff.mpr c13
          subst c13
          have H1 : (laws_FnQuotas.j0 k t256 t257 t260 t264 true) = some r := by rw [if_neg (show ¬ (false = true) by decide)] at H; exact H
          clear H
          have H := H1
          clear H1
          have H' := Aside0.mk H
          clear H
          go_wp2_with (first | (go_at_call 15; (with_reducible refine (impl_ContestsOk.calls k t256 _ _ t257 false _ ?side1 ?side2 A12.out).mono ?_); (case side1 => repeat (first | exact (Kd.N_reads' HO259.out).2.2 | (with_reducible refine Kd.C_alloc ?_ _) | (with_reducible refine Kd.C_drewN ?_ _) | (with_reducible refine Kd.C_drew ?_))); (case side2 => exact (Kd.N_reads' HO259.out).2.1); rintro e w20 ⟨rfl, hb⟩; replace HO259 := Aside0.mk (Kd.N_below (by (with_reducible repeat (first | apply Kd.N_alloc | apply Kd.N_drewN | apply Kd.N_drew)); exact HO259.out) hb); replace HO263 := Aside0.mk (Kd.N_below (by (with_reducible repeat (first | apply Kd.N_alloc | apply Kd.N_drewN | apply Kd.N_drew)); exact HO263.out) hb); replace HO266 := Aside0.mk (Kd.R_below (rk HO266.out) hb); replace HB := Aside0.mk (below_step bel hb); (try clear hb); (try clear hb2); (try clear hk); (try clear hi)))
          repeat (go_quiet (first | (go_at_call 15; (with_reducible refine (impl_ContestsOk.calls k t256 _ _ t257 false _ ?side1 ?side2 A12.out).mono ?_); (case side1 => repeat (first | exact (Kd.N_reads' HO259.out).2.2 | (with_reducible refine Kd.C_alloc ?_ _) | (with_reducible refine Kd.C_drewN ?_ _) | (with_reducible refine Kd.C_drew ?_))); (case side2 => exact (Kd.N_reads' HO259.out).2.1); rintro e w20 ⟨rfl, hb⟩; replace HO259 := Aside0.mk (Kd.N_below (by (with_reducible repeat (first | apply Kd.N_alloc | apply Kd.N_drewN | apply Kd.N_drew)); exact HO259.out) hb); replace HO263 := Aside0.mk (Kd.N_below (by (with_reducible repeat (first | apply Kd.N_alloc | apply Kd.N_drewN | apply Kd.N_drew)); exact HO263.out) hb); replace HO266 := Aside0.mk (Kd.R_below (rk HO266.out) hb); replace HB := Aside0.mk (below_step bel hb); (try clear hb); (try clear hb2); (try clear hk); (try clear hi))); try go_wp2_with (first | (go_at_call 15; (with_reducible refine (impl_ContestsOk.calls k t256 _ _ t257 false _ ?side1 ?side2 A12.out).mono ?_); (case side1 => repeat (first | exact (Kd.N_reads' HO259.out).2.2 | (with_reducible refine Kd.C_alloc ?_ _) | (with_reducible refine Kd.C_drewN ?_ _) | (with_reducible refine Kd.C_drew ?_))); (case side2 => exact (Kd.N_reads' HO259.out).2.1); rintro e w20 ⟨rfl, hb⟩; replace HO259 := Aside0.mk (Kd.N_below (by (with_reducible repeat (first | apply Kd.N_alloc | apply Kd.N_drewN | apply Kd.N_drew)); exact HO259.out) hb); replace HO263 := Aside0.mk (Kd.N_below (by (with_reducible repeat (first | apply Kd.N_alloc | apply Kd.N_drewN | apply Kd.N_drew)); exact HO263.out) hb); replace HO266 := Aside0.mk (Kd.R_below (rk HO266.out) hb); replace HB := Aside0.mk (below_step bel hb); (try clear hb); (try clear hb2); (try clear hk); (try clear hi))))
          go_meet
          case rel => exact ⟨_, (true), (es), H', ⟨by first | omega | exact Nat.le_refl _⟩, ⟨by (with_reducible repeat (first | apply Kd.N_alloc | apply Kd.N_drewN | apply Kd.N_drew)); exact Kd.N_mono HO259.out (fun _ hk => ⟨hk.1.2, hk.2⟩)⟩, ⟨by (with_reducible repeat (first | apply Kd.N_alloc | apply Kd.N_drewN | apply Kd.N_drew)); exact HO263.out⟩, ⟨rk HO266.out⟩, ⟨bel⟩⟩
      · replace c11 := Bool.eq_false_iff.mpr c11
        subst c11
        have H1 : (laws_FnQuotas.j0 k t256 t257 t260 t264 true) = some r := by rw [if_neg (show ¬ (false = true) by decide)] at H; exact H
        clear H
        have H := H1
        clear H1
        have H' := Aside0.mk H
        clear H
        go_wp2
        repeat (go_quiet (fail); try go_wp2)
        go_meet
        case rel => exact ⟨_, (true), (es), H', ⟨by first | omega | exact Nat.le_refl _⟩, ⟨by (with_reducible repeat (first | apply Kd.N_alloc | apply Kd.N_drewN | apply Kd.N_drew)); exact Kd.N_mono HO259.out (fun _ hk => ⟨hk.1.2, hk.2⟩)⟩, ⟨by (with_reducible repeat (first | apply Kd.N_alloc | apply Kd.N_drewN | apply Kd.N_drew)); exact HO263.out⟩, ⟨rk HO266.out⟩, ⟨bel⟩⟩
    case rest =>
      clear HC6
      try clear c1; try clear c2; try clear c2b0; try clear c2b1; try clear p2; try clear c4; try clear c11; try clear c13; try clear c14; try clear c14b0; try clear c14b1; try clear c14b2
      obtain ⟨kq, x55_5, rfl, HA, HJ5, HO_4, HO_5, HO_7, HB⟩ := hcut
      cases kq with
      | zero => exact absurd HA.out (by simp [laws_FnQuotas.j0])
      | succ kj5 =>
        have H := HA.out
        clear HA
        simp only [laws_FnQuotas.j0] at H
        by_cases c21 : x55_5 = true
        · subst c21
          have H1 : (some false) = some r := by rw [if_pos rfl] at H; exact H
          clear H
          have H := H1
          clear H1
          obtain rfl := Option.some.inj H
          go_wp2
          repeat (go_quiet (fail); try go_wp2)
          go_ret
          exact ⟨er, bel⟩
        · replace c21 := Bool.eq_false_iff.mpr c21
          subst c21
          have H1 : (laws_FnQuotas.l0 kj5 t256 t257 t264 0 0 (([] : List Int)) t260 (t260.length : Int) 0) = some r := by rw [if_neg (show ¬ (false = true) by decide)] at H; exact H
          clear H
          have H := H1
          clear H1
          obtain ⟨y268, hy268⟩ : ∃ y_ : List Int, y_ = (([] : List Int)) := ⟨_, rfl⟩
          replace H : (laws_FnQuotas.l0 kj5 t256 t257 t264 0 0 y268 t260 (t260.length : Int) 0) = some r := by first | (rw [hy268]; with_reducible exact H) | (have H2_ := (Option.bind_some _ _).symm.trans H; rw [hy268]; with_reducible exact H2_) | (have H2_ := (Option.bind_some _ _).symm.trans H; with_reducible exact H2_) | with_reducible exact H | (rw [hy268]; exact H) | exact H
          have Ny268 := Aside0.mk hy268
          clear hy268
          have H' := Aside0.mk H
          clear H
          go_wp2_with (first | ((with_reducible refine gate_dst (N := 56) rfl ?_); refine Kd.R_lit (Kd.int .i64) _ 3 ?hg (N := 56) ?hd (xs := ([] : List Int)) (inner := []) (ok := fun _ => True) (okp := fun _ => True) ?hr ?hp (fun _ hk => hk) trivial (Below.refl _ _) (Nat.le_refl _) (by simp) ?_; (case hd => rfl); (case hg => rfl); (case hr => first | (go_simp; done) | (go_simp; rfl)); (case hp => exact (Reps.none _ _)); intro v269 w22 ho23 hb hg_ hnew_; clear hg_ hnew_; (first | rw [← Ny268.out] at ho23 | (simp only [Int.reduceToNat] at ho23; rw [← Ny268.out] at ho23)); have HO270 := Aside0.mk (Kd.R_lower (Kd.R_new' ho23 (Kd.R_lt (rk HO_7.out))) (below_size bel)); replace HO_4 := Aside0.mk (Kd.N_elder' (by (with_reducible repeat (first | apply Kd.N_alloc | apply Kd.N_drewN | apply Kd.N_drew)); exact HO_4.out) (Kd.R_base ho23) hb); replace HO_5 := Aside0.mk (Kd.N_elder' (by (with_reducible repeat (first | apply Kd.N_alloc | apply Kd.N_drewN | apply Kd.N_drew)); exact HO_5.out) (Kd.R_base ho23) hb); replace HO_7 := Aside0.mk (Kd.R_elder' (rk HO_7.out) (Kd.R_base ho23) hb); replace HB := Aside0.mk (below_step bel hb); clear hb ho23; obtain ⟨Ao24, co24, eo24⟩ := Kd.N_slice HO_5.out; subst eo24))
          repeat (go_quiet (first | ((with_reducible refine gate_dst (N := 56) rfl ?_); refine Kd.R_lit (Kd.int .i64) _ 3 ?hg (N := 56) ?hd (xs := ([] : List Int)) (inner := []) (ok := fun _ => True) (okp := fun _ => True) ?hr ?hp (fun _ hk => hk) trivial (Below.refl _ _) (Nat.le_refl _) (by simp) ?_; (case hd => rfl); (case hg => rfl); (case hr => first | (go_simp; done) | (go_simp; rfl)); (case hp => exact (Reps.none _ _)); intro v269 w22 ho23 hb hg_ hnew_; clear hg_ hnew_; (first | rw [← Ny268.out] at ho23 | (simp only [Int.reduceToNat] at ho23; rw [← Ny268.out] at ho23)); have HO270 := Aside0.mk (Kd.R_lower (Kd.R_new' ho23 (Kd.R_lt (rk HO_7.out))) (below_size bel)); replace HO_4 := Aside0.mk (Kd.N_elder' (by (with_reducible repeat (first | apply Kd.N_alloc | apply Kd.N_drewN | apply Kd.N_drew)); exact HO_4.out) (Kd.R_base ho23) hb); replace HO_5 := Aside0.mk (Kd.N_elder' (by (with_reducible repeat (first | apply Kd.N_alloc | apply Kd.N_drewN | apply Kd.N_drew)); exact HO_5.out) (Kd.R_base ho23) hb); replace HO_7 := Aside0.mk (Kd.R_elder' (rk HO_7.out) (Kd.R_base ho23) hb); replace HB := Aside0.mk (below_step bel hb); clear hb ho23; obtain ⟨Ao24, co24, eo24⟩ := Kd.N_slice HO_5.out; subst eo24)); try go_wp2_with (first | ((with_reducible refine gate_dst (N := 56) rfl ?_); refine Kd.R_lit (Kd.int .i64) _ 3 ?hg (N := 56) ?hd (xs := ([] : List Int)) (inner := []) (ok := fun _ => True) (okp := fun _ => True) ?hr ?hp (fun _ hk => hk) trivial (Below.refl _ _) (Nat.le_refl _) (by simp) ?_; (case hd => rfl); (case hg => rfl); (case hr => first | (go_simp; done) | (go_simp; rfl)); (case hp => exact (Reps.none _ _)); intro v269 w22 ho23 hb hg_ hnew_; clear hg_ hnew_; (first | rw [← Ny268.out] at ho23 | (simp only [Int.reduceToNat] at ho23; rw [← Ny268.out] at ho23)); have HO270 := Aside0.mk (Kd.R_lower (Kd.R_new' ho23 (Kd.R_lt (rk HO_7.out))) (below_size bel)); replace HO_4 := Aside0.mk (Kd.N_elder' (by (with_reducible repeat (first | apply Kd.N_alloc | apply Kd.N_drewN | apply Kd.N_drew)); exact HO_4.out) (Kd.R_base ho23) hb); replace HO_5 := Aside0.mk (Kd.N_elder' (by (with_reducible repeat (first | apply Kd.N_alloc | apply Kd.N_drewN | apply Kd.N_drew)); exact HO_5.out) (Kd.R_base ho23) hb); replace HO_7 := Aside0.mk (Kd.R_elder' (rk HO_7.out) (Kd.R_base ho23) hb); replace HB := Aside0.mk (below_step bel hb); clear hb ho23; obtain ⟨Ao24, co24, eo24⟩ := Kd.N_slice HO_5.out; subst eo24)))
          go_loopg [8, 9, 10, 59] kj5 (fun kq v8 v9 v10 v59 w' => ∃ (x8_2 : Int) (x9_2 : Int) (x10_2 : List Int) (x59_2 : Int), v8 = .int .i64 x8_2 ∧ v9 = .int .i64 x9_2 ∧ v59 = .int .i64 x59_2 ∧ Aside0 (laws_FnQuotas.l0 kq t256 t257 t264 x8_2 x9_2 x10_2 t260 (t260.length : Int) x59_2 = some r) ∧ Aside0 (kq ≤ kj5) ∧ Aside0 (Kd.N k38 38 w' w.heap.size (fun k_ => some k_ ≠ (v265 : Value).ownBlock ∧ some k_ ≠ (v10 : Value).ownBlock ∧ some k_ ≠ ((.slice Ao24 t260.length co24) : Value).ownBlock) (.slice Ao8 t257.length co8) t257) ∧ Aside0 (Kd.R (Kd.int .i64) 3 w' w.heap.size (fun k_ => some k_ ≠ (v10 : Value).ownBlock) v265 t264) ∧ Aside0 (Kd.R (Kd.int .i64) 3 w' w.heap.size (fun k_ => some k_ ≠ (v265 : Value).ownBlock) v10 x10_2) ∧ Aside0 (Kd.N (Kd.slice 3 (Kd.int .i64)) 35 w' w.heap.size (fun k_ => some k_ ≠ ((.slice Ao8 t257.length co8) : Value).ownBlock ∧ some k_ ≠ (v265 : Value).ownBlock ∧ some k_ ≠ (v10 : Value).ownBlock) (.slice Ao24 t260.length co24) t260) ∧ Aside0 (Below w.heap.size w w'))
          case atStart => exact ⟨(0), (0), (y268), (0), (es), (es), (es), H', ⟨Nat.le_refl _⟩, ⟨by (with_reducible repeat (first | apply Kd.N_alloc | apply Kd.N_drewN | apply Kd.N_drew)); exact Kd.N_mono HO_4.out (fun _ hk => ⟨hk.1.2, ⟨hk.2, hk.1.1⟩⟩)⟩, ⟨by (with_reducible repeat (first | apply Kd.R_alloc | apply Kd.R_drewN | apply Kd.R_drew)); exact Kd.R_mono HO_7.out (fun _ hk => hk.2)⟩, ⟨by (with_reducible repeat (first | apply Kd.R_alloc | apply Kd.R_drewN | apply Kd.R_drew)); exact Kd.R_mono HO270.out (fun _ hk => hk.2)⟩, ⟨by (with_reducible repeat (first | apply Kd.N_alloc | apply Kd.N_drewN | apply Kd.N_drew)); exact Kd.N_mono HO_5.out (fun _ hk => ⟨hk.1.1, ⟨hk.1.2, hk.2⟩⟩)⟩, ⟨bel⟩⟩
          case round =>
            clear H'
            try clear c1; try clear c2; try clear c2b0; try clear c2b1; try clear p2; try clear c4; try clear c11; try clear c13; try clear c14; try clear c14b0; try clear c14b1; try clear c14b2; try clear c21; try clear p2
            obtain ⟨x8_2, x9_2, x10_2, x59_2, rfl, rfl, rfl, HA, HK2, HO_4, HO_7, HO_10, HO_57, HB⟩ := hrel
            cases gk with
            | zero => exact absurd HA.out (by simp [laws_FnQuotas.l0])
            | succ k2 =>
              have H := HA.out
              clear HA
              simp only [laws_FnQuotas.l0] at H
              by_cases c25 : x59_2 < (t260.length : Int)
              · rw [if_pos c25] at H
                have c25b0 : decide (x59_2 < (t260.length : Int)) = true := decide_eq_true c25
                clear c25
                by_cases c26 : 0 ≤ x59_2
                · rw [if_pos c26] at H
                  have c26b0 : decide (0 ≤ x59_2) = true := decide_eq_true c26
                  clear c26
                  by_cases c27 : x59_2 < (t260.length : Int)
                  · rw [if_pos c27] at H
                    have c27b0 : decide (x59_2 < (t260.length : Int)) = true := decide_eq_true c27
                    clear c27
                    by_cases c28 : x59_2 < (t257.length : Int)
                    · rw [if_pos c28] at H
                      have c28b0 : decide (x59_2 < (t257.length : Int)) = true := decide_eq_true c28
                      clear c28
                      have HC29 := Aside0.mk H
                      clear H
                      have p272 : 0 ≤ (x59_2 : Int) := asm
                      have q272 : x59_2 < (t260.length : Int) := asm
                      obtain ⟨ad272, A272_0, c272_0, e272, hx272_0, hl272_0, hi272_0⟩ := at_L1 (Kd.N_reads' HO_57.out).2.2 x59_2 p272 q272
                      cases e272
                      obtain ⟨ce272, hce272, hMe272, hcc272⟩ := Kd.N_get HO_57.out [] x59_2 p272 (by first | exact q272 | exact asm | (have e_ := (Kd.N_reads' HO_57.out).1; omega))
                      obtain ⟨ua272_0, uc272_0, rfl, ul272_0, ge272_0⟩ := Kd.FK_slice_open hMe272
                      have hv272_0 := hcc272 0 _ rfl
                      rw [Nat.add_zero, show ((Kd.slice 3 (Kd.int .i64))).sz = 1 from rfl, Nat.mul_one] at hv272_0
                      replace hv272_0 := Option.some.inj (hv272_0.symm.trans hx272_0)
                      injection hv272_0 with hva_ hvn_ hvc_
                      rw [hva_] at ge272_0
                      rw [hvc_] at ul272_0
                      have HL272_0 := Aside0.mk (show Kd.V (Kd.int .i64) 3 _ w.heap.size _ _ (rd_L1 t260 x59_2) from Kd.V_mk ul272_0 ge272_0)
                      clear hva_ hvn_ hvc_ ge272_0 ul272_0
                      clear hcc272 hce272
                      have HR272_0 := Aside0.mk hi272_0
                      have HC272_0 := Aside0.mk hl272_0
                      clear hi272_0 hl272_0
                      replace p272 := eq_true p272
                      replace q272 := eq_true q272
                      have p273 : 0 ≤ (x59_2 : Int) := asm
                      have q273 : x59_2 < (t257.length : Int) := asm
                      obtain ⟨ad273, A273_0, c273_0, e273, hx273_0, hx273_1, hx273_2, hl273_0, hi273_0⟩ := at_T38 (Kd.N_reads' HO_4.out).2.2 x59_2 p273 q273
                      cases e273
                      obtain ⟨ce273, hce273, hMe273, hcc273⟩ := Kd.N_get HO_4.out z38 x59_2 p273 (by first | exact q273 | exact asm | (have e_ := (Kd.N_reads' HO_4.out).1; omega))
                      obtain ⟨ua273_0, uc273_0, rfl, ul273_0, ge273_0⟩ := k38_openF hMe273
                      have hv273_0 := hcc273 0 _ rfl
                      rw [Nat.add_zero] at hv273_0
                      replace hv273_0 := Option.some.inj (hv273_0.symm.trans hx273_0)
                      injection hv273_0 with hva_ hvn_ hvc_
                      rw [hva_] at ge273_0
                      rw [hvc_] at ul273_0
                      have HL273_0 := Aside0.mk (show Kd.V (Kd.int .i64) 3 _ w.heap.size _ _ ((rd_T38 t257 x59_2).f0) from Kd.V_mk ul273_0 ge273_0)
                      clear hva_ hvn_ hvc_ ge273_0 ul273_0
                      clear hcc273 hce273
                      have HR273_0 := Aside0.mk hi273_0
                      have HC273_0 := Aside0.mk hl273_0
                      clear hi273_0 hl273_0
                      replace p273 := eq_true p273
                      replace q273 := eq_true q273
                      go_upto_region 16 with (fail)
                      repeat (go_quiet (fail); go_upto_region 16 with (fail))
                      go_cut [93] (fun v93 wc => ∃ (kq : Nat) (x93_28 : Bool), v93 = .bool x93_28 ∧ Aside0 (laws_FnQuotas.j2 kq t256 t257 t264 (wrap64 (x8_2 + ((rd_L1 t260 x59_2).length : Int))) (wrap64 (x9_2 + ((rd_T38 t257 x59_2).f1))) x10_2 x59_2 t260 (t260.length : Int) x59_2 x93_28 = some r) ∧ Aside0 (kq ≤ k2) ∧ Aside0 (Kd.N k38 38 wc w.heap.size (fun k_ => some k_ ≠ (v265 : Value).ownBlock ∧ some k_ ≠ (u10 : Value).ownBlock ∧ some k_ ≠ ((.slice (some ad272) t260.length co24) : Value).ownBlock) (.slice (some ad273) t257.length co8) t257) ∧ Aside0 (Kd.R (Kd.int .i64) 3 wc w.heap.size (fun k_ => some k_ ≠ (u10 : Value).ownBlock) v265 t264) ∧ Aside0 (Kd.R (Kd.int .i64) 3 wc w.heap.size (fun k_ => some k_ ≠ (v265 : Value).ownBlock) u10 x10_2) ∧ Aside0 (Kd.N (Kd.slice 3 (Kd.int .i64)) 35 wc w.heap.size (fun k_ => some k_ ≠ ((.slice (some ad273) t257.length co8) : Value).ownBlock ∧ some k_ ≠ (v265 : Value).ownBlock ∧ some k_ ≠ (u10 : Value).ownBlock) (.slice (some ad272) t260.length co24) t260) ∧ Aside0 (Kd.C (Kd.int .i64) wc A272_0 (rd_L1 t260 x59_2).length (rd_L1 t260 x59_2)) ∧ Aside0 (Kd.C (Kd.int .i64) wc A273_0 ((rd_T38 t257 x59_2).f0).length ((rd_T38 t257 x59_2).f0)) ∧ Aside0 (Kd.C (Kd.int .i64) wc A272_0 (rd_L1 t260 x59_2).length (rd_L1 t260 x59_2)) ∧ Aside0 (Kd.V (Kd.int .i64) 3 wc w.heap.size (fun k_ => some k_ ≠ ((.slice (some ad273) t257.length co8) : Value).ownBlock ∧ some k_ ≠ (v265 : Value).ownBlock ∧ some k_ ≠ (u10 : Value).ownBlock) (.slice A272_0 (rd_L1 t260 x59_2).length c272_0) (rd_L1 t260 x59_2)) ∧ Aside0 (Below w.heap.size w wc))
                      case first =>
                        have H := HC29.out
                        clear HC29
                        by_cases c30 : x59_2 < (t264.length : Int)
                        · rw [if_pos c30] at H
                          have c30b0 : decide (x59_2 < (t264.length : Int)) = true := decide_eq_true c30
                          clear c30
                          (first | rw [c30b0] | (simp only [i64_w, i32_w]; rw [c30b0]) | skip)
                          by_cases c31 : ((rd_L1 t260 x59_2).length : Int) > (rd t264 x59_2)
                          · rw [if_pos c31] at H
                            have c31b0 : decide ((rd t264 x59_2) < ((rd_L1 t260 x59_2).length : Int)) = true := decide_eq_true c31
                            clear c31
                            have H' := Aside0.mk H
                            clear H
                            obtain ⟨Ao32, co32, eo32⟩ := Kd.R_slice HO_7.out
                            subst eo32
                            have p276 : 0 ≤ (x59_2 : Int) := asm
                            have q276 : x59_2 < (t264.length : Int) := asm
                            obtain ⟨ad276, e276, hx276_0⟩ := Kd.at_int (Kd.R_reads' HO_7.out).2.2 x59_2 p276 q276
                            cases e276
                            replace p276 := eq_true p276
                            replace q276 := eq_true q276
                            go_wp2
                            repeat (go_quiet (fail); try go_wp2)
                            go_meet
                            case rel => exact ⟨_, (true), (es), H', ⟨by have := HJ5.out; have := HK2.out; first | omega | exact Nat.le_refl _⟩, ⟨by (with_reducible repeat (first | apply Kd.N_alloc | apply Kd.N_drewN | apply Kd.N_drew)); exact HO_4.out⟩, ⟨rk HO_7.out⟩, ⟨rk HO_10.out⟩, ⟨by (with_reducible repeat (first | apply Kd.N_alloc | apply Kd.N_drewN | apply Kd.N_drew)); exact HO_57.out⟩, ⟨ck HR272_0.out⟩, ⟨ck HR273_0.out⟩, ⟨ck HR272_0.out⟩, ⟨by (with_reducible repeat (first | apply Kd.V_alloc | apply Kd.V_drewN | apply Kd.V_drew)); first | exact HL272_0.out | exact Kd.V_mono HL272_0.out (fun _ hk => hk.1) | exact Kd.V_mono HL272_0.out (fun _ hk => ⟨hk.1.1, ⟨hk.1.2, hk.2⟩⟩)⟩, ⟨bel⟩⟩
                          · rw [if_neg c31] at H
                            have c31b0 : decide ((rd t264 x59_2) < ((rd_L1 t260 x59_2).length : Int)) = false := decide_eq_false c31
                            clear c31
                            have H' := Aside0.mk H
                            clear H
                            obtain ⟨Ao33, co33, eo33⟩ := Kd.R_slice HO_7.out
                            subst eo33
                            have p276 : 0 ≤ (x59_2 : Int) := asm
                            have q276 : x59_2 < (t264.length : Int) := asm
                            obtain ⟨ad276, e276, hx276_0⟩ := Kd.at_int (Kd.R_reads' HO_7.out).2.2 x59_2 p276 q276
                            cases e276
                            replace p276 := eq_true p276
                            replace q276 := eq_true q276
                            have p277 : 0 ≤ (x59_2 : Int) := asm
                            have q277 : x59_2 < (t264.length : Int) := asm
                            obtain ⟨ad277, e277, hx277_0⟩ := Kd.at_int (Kd.R_reads' HO_7.out).2.2 x59_2 p277 q277
                            obtain rfl : ad276 = ad277 := (by injection e277)
                            replace p277 := eq_true p277
                            replace q277 := eq_true q277
                            have p278 : 0 ≤ (x59_2 : Int) := asm
                            have q278 : x59_2 < (t257.length : Int) := asm
                            obtain ⟨ad278, A278_0, c278_0, e278, hx278_0, hx278_1, hx278_2, hl278_0, hi278_0⟩ := at_T38 (Kd.N_reads' HO_4.out).2.2 x59_2 p278 q278
                            obtain rfl : ad273 = ad278 := (by injection e278)
                            obtain ⟨ce278, hce278, hMe278, hcc278⟩ := Kd.N_get HO_4.out z38 x59_2 p278 (by first | exact q278 | exact asm | (have e_ := (Kd.N_reads' HO_4.out).1; omega))
                            obtain ⟨ua278_0, uc278_0, rfl, ul278_0, ge278_0⟩ := k38_openF hMe278
                            have hv278_0 := hcc278 0 _ rfl
                            rw [Nat.add_zero] at hv278_0
                            replace hv278_0 := Option.some.inj (hv278_0.symm.trans hx278_0)
                            injection hv278_0 with hva_ hvn_ hvc_
                            rw [hva_] at ge278_0
                            rw [hvc_] at ul278_0
                            have HL278_0 := Aside0.mk (show Kd.V (Kd.int .i64) 3 _ w.heap.size _ _ ((rd_T38 t257 x59_2).f0) from Kd.V_mk ul278_0 ge278_0)
                            clear hva_ hvn_ hvc_ ge278_0 ul278_0
                            clear hcc278 hce278
                            have HR278_0 := Aside0.mk hi278_0
                            have HC278_0 := Aside0.mk hl278_0
                            clear hi278_0 hl278_0
                            replace p278 := eq_true p278
                            replace q278 := eq_true q278
                            go_wp2
                            repeat (go_quiet (fail); try go_wp2)
                            go_meet
                            case rel => exact ⟨_, (decide ((rd t264 x59_2) < ((rd_T38 t257 x59_2).f1))), (es), H', ⟨by have := HJ5.out; have := HK2.out; first | omega | exact Nat.le_refl _⟩, ⟨by (with_reducible repeat (first | apply Kd.N_alloc | apply Kd.N_drewN | apply Kd.N_drew)); exact HO_4.out⟩, ⟨rk HO_7.out⟩, ⟨rk HO_10.out⟩, ⟨by (with_reducible repeat (first | apply Kd.N_alloc | apply Kd.N_drewN | apply Kd.N_drew)); exact HO_57.out⟩, ⟨ck HR272_0.out⟩, ⟨ck HR273_0.out⟩, ⟨ck HR272_0.out⟩, ⟨by (with_reducible repeat (first | apply Kd.V_alloc | apply Kd.V_drewN | apply Kd.V_drew)); first | exact HL272_0.out | exact Kd.V_mono HL272_0.out (fun _ hk => hk.1) | exact Kd.V_mono HL272_0.out (fun _ hk => ⟨hk.1.1, ⟨hk.1.2, hk.2⟩⟩)⟩, ⟨bel⟩⟩
                        · rw [if_neg c30] at H
                          exact absurd H (by simp)
                      case rest =>
                        clear HC29
                        try clear c1; try clear c2; try clear c2b0; try clear c2b1; try clear p2; try clear q2; try clear hx2; try clear c3; try clear c4; try clear p6; try clear c11; try clear c13; try clear c14; try clear c14b0; try clear c14b1; try clear c14b2; try clear c21; try clear c25; try clear c25b0; try clear c26; try clear c26b0; try clear c27; try clear c27b0; try clear p27; try clear q27; try clear hx27; try clear c28; try clear c28b0; try clear c30; try clear c30b0; try clear c31; try clear c31b0; try clear hx272_0; try clear hx273_0; try clear hx273_1; try clear hx273_2; try clear hx274_0; try clear hx275_0; try clear hx276_0; try clear hx277_0; try clear hx278_0; try clear hx278_1; try clear hx278_2; try clear p2; try clear p272; try clear p273; try clear p274; try clear p275; try clear p276; try clear p277; try clear p278; try clear q272; try clear q273; try clear q274; try clear q275; try clear q276; try clear q277; try clear q278
                        obtain ⟨kq, x93_28, rfl, HA, HJ28, HO_4, HO_7, HO_10, HO_57, _, HR273_0, HR272_0, HL272_0, HB⟩ := hcut
                        replace HR272_0 := Aside0.mk (Kd.V_reads' HL272_0.out).2.2
                        cases kq with
                        | zero => exact absurd HA.out (by simp [laws_FnQuotas.j2])
                        | succ kj28 =>
                          have H := HA.out
                          clear HA
                          simp only [laws_FnQuotas.j2] at H
                          by_cases c34 : x93_28 = true
                          · subst c34
                            have H1 : (some false) = some r := by rw [if_pos rfl] at H; exact H
                            clear H
                            have H := H1
                            clear H1
                            obtain rfl := Option.some.inj H
                            go_wp2
                            repeat (go_quiet (fail); try go_wp2)
                            go_ret
                            exact ⟨er, bel⟩
                          · replace c34 := Bool.eq_false_iff.mpr c34
                            subst c34
                            have H1 : (if 0 ≤ x59_2 then (if x59_2 < (t260.length : Int) then (laws_FnQuotas.l1 kj28 t256 t257 t264 (wrap64 (x8_2 + ((rd_L1 t260 x59_2).length : Int))) (wrap64 (x9_2 + ((rd_T38 t257 x59_2).f1))) x10_2 x59_2 t260 (t260.length : Int) x59_2 (rd_L1 t260 x59_2) ((rd_L1 t260 x59_2).length : Int) 0) else (none)) else (none)) = some r := by rw [if_neg (show ¬ (false = true) by decide)] at H; exact H
                            clear H
                            have H := H1
                            clear H1
                            by_cases c35 : 0 ≤ x59_2
                            · rw [if_pos c35] at H
                              have c35b0 : decide (0 ≤ x59_2) = true := decide_eq_true c35
                              clear c35
                              by_cases c36 : x59_2 < (t260.length : Int)
                              · rw [if_pos c36] at H
                                have c36b0 : decide (x59_2 < (t260.length : Int)) = true := decide_eq_true c36
                                clear c36
                                have H' := Aside0.mk H
                                clear H
                                go_wp2
                                repeat (go_quiet (fail); try go_wp2)
                                go_loopg [10, 96] kj28 (fun kq v10 v96 w' => ∃ (x10_4 : List Int) (x96_4 : Int), v96 = .int .i64 x96_4 ∧ Aside0 (laws_FnQuotas.l1 kq t256 t257 t264 (wrap64 (x8_2 + ((rd_L1 t260 x59_2).length : Int))) (wrap64 (x9_2 + ((rd_T38 t257 x59_2).f1))) x10_4 x59_2 t260 (t260.length : Int) x59_2 (rd_L1 t260 x59_2) ((rd_L1 t260 x59_2).length : Int) x96_4 = some r) ∧ Aside0 (kq ≤ kj28) ∧ Aside0 (Kd.N k38 38 w' w.heap.size (fun k_ => some k_ ≠ (v265 : Value).ownBlock ∧ some k_ ≠ (v10 : Value).ownBlock ∧ some k_ ≠ ((.slice (some ad272) t260.length co24) : Value).ownBlock) (.slice (some ad273) t257.length co8) t257) ∧ Aside0 (Kd.R (Kd.int .i64) 3 w' w.heap.size (fun k_ => some k_ ≠ (v10 : Value).ownBlock) v265 t264) ∧ Aside0 (Kd.R (Kd.int .i64) 3 w' w.heap.size (fun k_ => some k_ ≠ (v265 : Value).ownBlock) v10 x10_4) ∧ Aside0 (Kd.N (Kd.slice 3 (Kd.int .i64)) 35 w' w.heap.size (fun k_ => some k_ ≠ ((.slice (some ad273) t257.length co8) : Value).ownBlock ∧ some k_ ≠ (v265 : Value).ownBlock ∧ some k_ ≠ (v10 : Value).ownBlock) (.slice (some ad272) t260.length co24) t260) ∧ Aside0 (Kd.V (Kd.int .i64) 3 w' w.heap.size (fun k_ => some k_ ≠ ((.slice (some ad273) t257.length co8) : Value).ownBlock ∧ some k_ ≠ (v265 : Value).ownBlock ∧ some k_ ≠ (v10 : Value).ownBlock) (.slice A272_0 (rd_L1 t260 x59_2).length c272_0) (rd_L1 t260 x59_2)) ∧ Aside0 (Below w.heap.size w w'))
                                case atStart => exact ⟨(x10_2), (0), (es), H', ⟨Nat.le_refl _⟩, ⟨by (with_reducible repeat (first | apply Kd.N_alloc | apply Kd.N_drewN | apply Kd.N_drew)); exact HO_4.out⟩, ⟨rk HO_7.out⟩, ⟨rk HO_10.out⟩, ⟨by (with_reducible repeat (first | apply Kd.N_alloc | apply Kd.N_drewN | apply Kd.N_drew)); exact HO_57.out⟩, ⟨by (with_reducible repeat (first | apply Kd.V_alloc | apply Kd.V_drewN | apply Kd.V_drew)); first | exact HL272_0.out | exact Kd.V_mono HL272_0.out (fun _ hk => hk.1) | exact Kd.V_mono HL272_0.out (fun _ hk => ⟨hk.1.1, ⟨hk.1.2, hk.2⟩⟩)⟩, ⟨bel⟩⟩
                                case round =>
                                  clear H'
                                  try clear c1; try clear c2; try clear c2b0; try clear c2b1; try clear p2; try clear q2; try clear hx2; try clear c3; try clear c4; try clear p6; try clear c11; try clear c13; try clear c14; try clear c14b0; try clear c14b1; try clear c14b2; try clear c21; try clear c25; try clear c25b0; try clear c26; try clear c26b0; try clear c27; try clear c27b0; try clear p27; try clear q27; try clear hx27; try clear c28; try clear c28b0; try clear c30; try clear c30b0; try clear c31; try clear c31b0; try clear c34; try clear c35; try clear c35b0; try clear c36; try clear c36b0; try clear hx272_0; try clear hx273_0; try clear hx273_1; try clear hx273_2; try clear hx274_0; try clear hx275_0; try clear hx276_0; try clear hx277_0; try clear hx278_0; try clear hx278_1; try clear hx278_2; try clear hx279_0; try clear p2; try clear p27; try clear p272; try clear p273; try clear p274; try clear p275; try clear p276; try clear p277; try clear p278; try clear p279; try clear p6; try clear q2; try clear q27; try clear q272; try clear q273; try clear q274; try clear q275; try clear q276; try clear q277; try clear q278; try clear q279
                                  obtain ⟨x10_4, x96_4, rfl, HA, HK4, HO_4, HO_7, HO_10, HO_57, HL272_0, HB⟩ := hrel
                                  replace HR272_0 := Aside0.mk (Kd.V_reads' HL272_0.out).2.2
                                  cases gk with
                                  | zero => exact absurd HA.out (by simp [laws_FnQuotas.l1])
                                  | succ k4 =>
                                    have H := HA.out
                                    clear HA
                                    simp only [laws_FnQuotas.l1] at H
                                    by_cases c37 : x96_4 < ((rd_L1 t260 x59_2).length : Int)
                                    · rw [if_pos c37] at H
                                      have c37b0 : decide (x96_4 < ((rd_L1 t260 x59_2).length : Int)) = true := decide_eq_true c37
                                      clear c37
                                      by_cases c38 : 0 ≤ x96_4
                                      · rw [if_pos c38] at H
                                        have c38b0 : decide (0 ≤ x96_4) = true := decide_eq_true c38
                                        clear c38
                                        by_cases c39 : x96_4 < ((rd_L1 t260 x59_2).length : Int)
                                        · rw [if_pos c39] at H
                                          have c39b0 : decide (x96_4 < ((rd_L1 t260 x59_2).length : Int)) = true := decide_eq_true c39
                                          clear c39
                                          replace H := Option.bind_eq_some_iff.mp H
                                          obtain ⟨t281, A400, H⟩ := H
                                          replace H : (if t281 = true then (some false) else (if 0 ≤ x59_2 then (if x59_2 < (t257.length : Int) then ((laws_has.f k4 ((rd_T38 t257 x59_2).f0) (rd (rd_L1 t260 x59_2) x96_4)).bind fun t283 => (if t283 = true then ((impl_ContestOf.f k4 t256 t257 (rd (rd_L1 t260 x59_2) x96_4)).bind fun t284 => (if t284 = x59_2 then (if x10_4.length < 17592186044416 then (laws_FnQuotas.l1 k4 t256 t257 t264 (wrap64 (x8_2 + ((rd_L1 t260 x59_2).length : Int))) (wrap64 (x9_2 + ((rd_T38 t257 x59_2).f1))) (x10_4 ++ [rd (rd_L1 t260 x59_2) x96_4]) x59_2 t260 (t260.length : Int) x59_2 (rd_L1 t260 x59_2) ((rd_L1 t260 x59_2).length : Int) (wrap64 (x96_4 + 1))) else (none)) else (some false))) else (some false))) else (none)) else (none))) = some r := H
                                          have A40 := Aside0.mk A400
                                          clear A400
                                          by_cases c41 : t281 = true
                                          · subst c41
                                            have H1 : (some false) = some r := by rw [if_pos rfl] at H; exact H
                                            clear H
                                            have H := H1
                                            clear H1
                                            obtain rfl := Option.some.inj H
                                            have p280 : 0 ≤ (x96_4 : Int) := asm
                                            have q280 : x96_4 < ((rd_L1 t260 x59_2).length : Int) := asm
                                            obtain ⟨ad280, e280, hx280_0⟩ := Kd.at_int HR272_0.out x96_4 p280 q280
                                            cases e280
                                            replace p280 := eq_true p280
                                            replace q280 := eq_true q280
                                            obtain ⟨Ao42, co42, eo42⟩ := Kd.R_slice HO_10.out
                                            subst eo42
                                            go_wp2_with (first | (go_at_call 20; (with_reducible refine (laws_has.calls k4 _ _ x10_4 (rd (rd_L1 t260 x59_2) x96_4) true _ ?side1 ?side2 A40.out).mono ?_); (case side1 => exact ck (Kd.R_reads' HO_10.out).2.2); (case side2 => exact (Kd.R_reads' HO_10.out).2.1); rintro e w' ⟨rfl, ⟨nd, rfl⟩⟩; (try first | exact ⟨rfl, _, World.drewN_drewN _ _ _⟩ | exact ⟨rfl, _, Eq.trans (World.drewN_drewN _ _ _) (congrArg (World.drewN _) (Nat.add_assoc _ _ _))⟩)))
                                            repeat (go_quiet (first | (go_at_call 20; (with_reducible refine (laws_has.calls k4 _ _ x10_4 (rd (rd_L1 t260 x59_2) x96_4) true _ ?side1 ?side2 A40.out).mono ?_); (case side1 => exact ck (Kd.R_reads' HO_10.out).2.2); (case side2 => exact (Kd.R_reads' HO_10.out).2.1); rintro e w' ⟨rfl, ⟨nd, rfl⟩⟩; (try first | exact ⟨rfl, _, World.drewN_drewN _ _ _⟩ | exact ⟨rfl, _, Eq.trans (World.drewN_drewN _ _ _) (congrArg (World.drewN _) (Nat.add_assoc _ _ _))⟩))); try go_wp2_with (first | (go_at_call 20; (with_reducible refine (laws_has.calls k4 _ _ x10_4 (rd (rd_L1 t260 x59_2) x96_4) true _ ?side1 ?side2 A40.out).mono ?_); (case side1 => exact ck (Kd.R_reads' HO_10.out).2.2); (case side2 => exact (Kd.R_reads' HO_10.out).2.1); rintro e w' ⟨rfl, ⟨nd, rfl⟩⟩; (try first | exact ⟨rfl, _, World.drewN_drewN _ _ _⟩ | exact ⟨rfl, _, Eq.trans (World.drewN_drewN _ _ _) (congrArg (World.drewN _) (Nat.add_assoc _ _ _))⟩))))
                                            go_ret
                                            exact ⟨er, bel⟩
                                          · replace c41 := Bool.eq_false_iff.mpr c41
                                            subst c41
                                            have H1 : (if 0 ≤ x59_2 then (if x59_2 < (t257.length : Int) then ((laws_has.f k4 ((rd_T38 t257 x59_2).f0) (rd (rd_L1 t260 x59_2) x96_4)).bind fun t283 => (if t283 = true then ((impl_ContestOf.f k4 t256 t257 (rd (rd_L1 t260 x59_2) x96_4)).bind fun t284 => (if t284 = x59_2 then (if x10_4.length < 17592186044416 then (laws_FnQuotas.l1 k4 t256 t257 t264 (wrap64 (x8_2 + ((rd_L1 t260 x59_2).length : Int))) (wrap64 (x9_2 + ((rd_T38 t257 x59_2).f1))) (x10_4 ++ [rd (rd_L1 t260 x59_2) x96_4]) x59_2 t260 (t260.length : Int) x59_2 (rd_L1 t260 x59_2) ((rd_L1 t260 x59_2).length : Int) (wrap64 (x96_4 + 1))) else (none)) else (some false))) else (some false))) else (none)) else (none)) = some r := by rw [if_neg (show ¬ (false = true) by decide)] at H; exact H
                                            clear H
                                            have H := H1
                                            clear H1
                                            by_cases c43 : 0 ≤ x59_2
                                            · rw [if_pos c43] at H
                                              have c43b0 : decide (0 ≤ x59_2) = true := decide_eq_true c43
                                              clear c43
                                              by_cases c44 : x59_2 < (t257.length : Int)
                                              · rw [if_pos c44] at H
                                                have c44b0 : decide (x59_2 < (t257.length : Int)) = true := decide_eq_true c44
                                                clear c44
                                                replace H := Option.bind_eq_some_iff.mp H
                                                obtain ⟨t283, A450, H⟩ := H
                                                replace H : (if t283 = true then ((impl_ContestOf.f k4 t256 t257 (rd (rd_L1 t260 x59_2) x96_4)).bind fun t284 => (if t284 = x59_2 then (if x10_4.length < 17592186044416 then (laws_FnQuotas.l1 k4 t256 t257 t264 (wrap64 (x8_2 + ((rd_L1 t260 x59_2).length : Int))) (wrap64 (x9_2 + ((rd_T38 t257 x59_2).f1))) (x10_4 ++ [rd (rd_L1 t260 x59_2) x96_4]) x59_2 t260 (t260.length : Int) x59_2 (rd_L1 t260 x59_2) ((rd_L1 t260 x59_2).length : Int) (wrap64 (x96_4 + 1))) else (none)) else (some false))) else (some false)) = some r := H
                                                have A45 := Aside0.mk A450
                                                clear A450
                                                by_cases c46 : t283 = true
                                                · subst c46
                                                  have H1 : ((impl_ContestOf.f k4 t256 t257 (rd (rd_L1 t260 x59_2) x96_4)).bind fun t284 => (if t284 = x59_2 then (if x10_4.length < 17592186044416 then (laws_FnQuotas.l1 k4 t256 t257 t264 (wrap64 (x8_2 + ((rd_L1 t260 x59_2).length : Int))) (wrap64 (x9_2 + ((rd_T38 t257 x59_2).f1))) (x10_4 ++ [rd (rd_L1 t260 x59_2) x96_4]) x59_2 t260 (t260.length : Int) x59_2 (rd_L1 t260 x59_2) ((rd_L1 t260 x59_2).length : Int) (wrap64 (x96_4 + 1))) else (none)) else (some false))) = some r := by rw [if_pos rfl] at H; exact H
                                                  clear H
                                                  have H := H1
                                                  clear H1
                                                  replace H := Option.bind_eq_some_iff.mp H
                                                  obtain ⟨t284, A470, H⟩ := H
                                                  replace H : (if t284 = x59_2 then (if x10_4.length < 17592186044416 then (laws_FnQuotas.l1 k4 t256 t257 t264 (wrap64 (x8_2 + ((rd_L1 t260 x59_2).length : Int))) (wrap64 (x9_2 + ((rd_T38 t257 x59_2).f1))) (x10_4 ++ [rd (rd_L1 t260 x59_2) x96_4]) x59_2 t260 (t260.length : Int) x59_2 (rd_L1 t260 x59_2) ((rd_L1 t260 x59_2).length : Int) (wrap64 (x96_4 + 1))) else (none)) else (some false)) = some r := H
                                                  have A47 := Aside0.mk A470
                                                  clear A470
                                                  by_cases c48 : t284 = x59_2
                                                  · rw [if_pos c48] at H
                                                    have c48b0 : (t284 == x59_2) = true := beq_iff_eq.mpr c48
                                                    have c48b1 : (t284 != x59_2) = false := bne_eq_false_iff_eq.mpr c48
                                                    clear c48
                                                    by_cases c49 : x10_4.length < 17592186044416
                                                    · rw [if_pos c49] at H
                                                      have LMc49 := Aside0.mk c49
                                                      clear c49
                                                      obtain ⟨y285, hy285⟩ : ∃ y_ : List Int, y_ = (x10_4 ++ [rd (rd_L1 t260 x59_2) x96_4]) := ⟨_, rfl⟩
                                                      replace H : (laws_FnQuotas.l1 k4 t256 t257 t264 (wrap64 (x8_2 + ((rd_L1 t260 x59_2).length : Int))) (wrap64 (x9_2 + ((rd_T38 t257 x59_2).f1))) y285 x59_2 t260 (t260.length : Int) x59_2 (rd_L1 t260 x59_2) ((rd_L1 t260 x59_2).length : Int) (wrap64 (x96_4 + 1))) = some r := by first | (rw [hy285]; with_reducible exact H) | (have H2_ := (Option.bind_some _ _).symm.trans H; rw [hy285]; with_reducible exact H2_) | (have H2_ := (Option.bind_some _ _).symm.trans H; with_reducible exact H2_) | with_reducible exact H | (rw [hy285]; exact H) | exact H
                                                      have Ny285 := Aside0.mk hy285
                                                      clear hy285
                                                      have H' := Aside0.mk H
                                                      clear H
                                                      have p280 : 0 ≤ (x96_4 : Int) := asm
                                                      have q280 : x96_4 < ((rd_L1 t260 x59_2).length : Int) := asm
                                                      obtain ⟨ad280, e280, hx280_0⟩ := Kd.at_int HR272_0.out x96_4 p280 q280
                                                      cases e280
                                                      replace p280 := eq_true p280
                                                      replace q280 := eq_true q280
                                                      obtain ⟨Ao50, co50, eo50⟩ := Kd.R_slice HO_10.out
                                                      subst eo50
                                                      go_wp2_with (first | (go_at_call 20; (with_reducible refine (laws_has.calls k4 _ _ x10_4 (rd (rd_L1 t260 x59_2) x96_4) false _ ?side1 ?side2 A40.out).mono ?_); (case side1 => exact ck (Kd.R_reads' HO_10.out).2.2); (case side2 => exact (Kd.R_reads' HO_10.out).2.1); rintro e w' ⟨rfl, ⟨nd, rfl⟩⟩; (try first | exact ⟨rfl, _, World.drewN_drewN _ _ _⟩ | exact ⟨rfl, _, Eq.trans (World.drewN_drewN _ _ _) (congrArg (World.drewN _) (Nat.add_assoc _ _ _))⟩); have p282 : 0 ≤ (x59_2 : Int) := asm; have q282 : x59_2 < (t257.length : Int) := asm; obtain ⟨ad282, A282_0, c282_0, e282, hx282_0, hx282_1, hx282_2, hl282_0, hi282_0⟩ := at_T38 (Kd.N_reads' HO_4.out).2.2 x59_2 p282 q282; obtain rfl : ad273 = ad282 := (by injection e282); obtain ⟨ce282, hce282, hMe282, hcc282⟩ := Kd.N_get HO_4.out z38 x59_2 p282 (by first | exact q282 | exact asm | (have e_ := (Kd.N_reads' HO_4.out).1; omega)); obtain ⟨ua282_0, uc282_0, rfl, ul282_0, ge282_0⟩ := k38_openF hMe282; have hv282_0 := hcc282 0 _ rfl; rw [Nat.add_zero] at hv282_0; replace hv282_0 := Option.some.inj (hv282_0.symm.trans hx282_0); injection hv282_0 with hva_ hvn_ hvc_; rw [hva_] at ge282_0; rw [hvc_] at ul282_0; have HL282_0 := Aside0.mk (show Kd.V (Kd.int .i64) 3 _ w.heap.size _ _ ((rd_T38 t257 x59_2).f0) from Kd.V_mk ul282_0 ge282_0); clear hva_ hvn_ hvc_ ge282_0 ul282_0; clear hcc282 hce282; have HR282_0 := Aside0.mk hi282_0; have HC282_0 := Aside0.mk hl282_0; clear hi282_0 hl282_0; replace p282 := eq_true p282; replace q282 := eq_true q282) | (go_at_call 20; (with_reducible refine (laws_has.calls k4 _ _ ((rd_T38 t257 x59_2).f0) (rd (rd_L1 t260 x59_2) x96_4) true _ ?side1 ?side2 A45.out).mono ?_); (case side1 => repeat (first | exact (by repeat (first | (with_reducible exact HR282_0.out) | (with_reducible refine Kd.C_alloc ?_ _) | (with_reducible refine Kd.C_drewN ?_ _) | (with_reducible refine Kd.C_drew ?_) | exact HR282_0.out)) | (with_reducible refine Kd.C_alloc ?_ _) | (with_reducible refine Kd.C_drewN ?_ _) | (with_reducible refine Kd.C_drew ?_))); (case side2 => exact HC282_0.out); rintro e w' ⟨rfl, ⟨nd, rfl⟩⟩; (try first | exact ⟨rfl, _, World.drewN_drewN _ _ _⟩ | exact ⟨rfl, _, Eq.trans (World.drewN_drewN _ _ _) (congrArg (World.drewN _) (Nat.add_assoc _ _ _))⟩)) | (go_at_call 21; (with_reducible refine (impl_ContestOf.calls k4 t256 _ _ t257 (rd (rd_L1 t260 x59_2) x96_4) t284 _ ?side1 ?side2 A47.out).mono ?_); (case side1 => repeat (first | exact (Kd.N_reads' HO_4.out).2.2 | (with_reducible refine Kd.C_alloc ?_ _) | (with_reducible refine Kd.C_drewN ?_ _) | (with_reducible refine Kd.C_drew ?_))); (case side2 => exact (Kd.N_reads' HO_4.out).2.1); rintro e w51 ⟨rfl, hb⟩; replace HO_4 := Aside0.mk (Kd.N_below (by (with_reducible repeat (first | apply Kd.N_alloc | apply Kd.N_drewN | apply Kd.N_drew)); exact HO_4.out) hb); replace HO_7 := Aside0.mk (Kd.R_below (rk HO_7.out) hb); replace HO_10 := Aside0.mk (Kd.R_below (rk HO_10.out) hb); replace HO_57 := Aside0.mk (Kd.N_below (by (with_reducible repeat (first | apply Kd.N_alloc | apply Kd.N_drewN | apply Kd.N_drew)); exact HO_57.out) hb); replace HL282_0 := Aside0.mk (Kd.V_below (by (with_reducible repeat (first | apply Kd.V_alloc | apply Kd.V_drewN | apply Kd.V_drew)); exact HL282_0.out) hb); replace HR282_0 := Aside0.mk (Kd.V_reads' HL282_0.out).2.2; replace HL272_0 := Aside0.mk (Kd.V_below (by (with_reducible repeat (first | apply Kd.V_alloc | apply Kd.V_drewN | apply Kd.V_drew)); exact HL272_0.out) hb); replace HB := Aside0.mk (below_step bel hb); (try clear hb); (try clear hb2); (try clear hk); (try clear hi)) | ((with_reducible refine gate_builtin (b := .append) (xs := #[.tmp 121, .tmp 123]) rfl ?_); at_builtin; refine Kd.R_append (Kd.int .i64) (w0 := w) w.heap.size rfl (.tmp 121) (.tmp 123) 35 3 (.int .i64 0) 8 rfl Try.underlying35 info3 rfl (by decide) (by omega) (.slice Ao50 x10_4.length co50) x10_4 (rd (rd_L1 t260 x59_2) x96_4) [.int .i64 (rd (rd_L1 t260 x59_2) x96_4)] (fun k_ => some k_ ≠ (v265 : Value).ownBlock) (fun _ => False) rfl rfl ?aP (fun _ hk => hk.elim) ?aF ?aO ?aB ?aS ?aL ?_; (case aP => exact rfl); (case aB => exact bel); (case aF => exact (fun k_ hk => Kd.fresh' (Kd.R_lt (rk HO_7.out)) k_ hk)); (case aO => exact (rk HO_10.out)); (case aS => exact (below_size bel)); (case aL => have := LMc49.out; omega); intro v286 w52 ho hb hg hat; rw [← Ny285.out] at ho; have n0_ := Aside0.mk (Kd.N_afterv (ok := (fun k_ => some k_ ≠ (v265 : Value).ownBlock ∧ some k_ ≠ (.slice (some ad272) t260.length co24 : Value).ownBlock)) (by (with_reducible repeat (first | apply Kd.N_alloc | apply Kd.N_drewN | apply Kd.N_drew)); exact Kd.N_mono HO_4.out (fun _ hk => ⟨⟨hk.1, hk.2.2⟩, hk.2.1⟩)) hg hat); have n1_ := Aside0.mk (Kd.R_after (ok := (fun _ => True)) (by (with_reducible repeat (first | apply Kd.R_alloc | apply Kd.R_drewN | apply Kd.R_drew)); exact Kd.R_mono HO_7.out (fun _ hk => ⟨trivial, hk⟩)) hg hat); have n2_ := Aside0.mk (Kd.N_afterv (ok := (fun k_ => some k_ ≠ (.slice (some ad273) t257.length co8 : Value).ownBlock ∧ some k_ ≠ (v265 : Value).ownBlock)) (by (with_reducible repeat (first | apply Kd.N_alloc | apply Kd.N_drewN | apply Kd.N_drew)); exact Kd.N_mono HO_57.out (fun _ hk => ⟨⟨hk.1, hk.2.1⟩, hk.2.2⟩)) hg hat); have nV_ := Aside0.mk (Kd.V_afterv (ok := (fun k_ => some k_ ≠ (.slice (some ad273) t257.length co8 : Value).ownBlock ∧ some k_ ≠ (v265 : Value).ownBlock)) (by (with_reducible repeat (first | apply Kd.V_alloc | apply Kd.V_drewN | apply Kd.V_drew)); exact Kd.V_mono HL272_0.out (fun _ hk => ⟨⟨hk.1, hk.2.1⟩, hk.2.2⟩)) hg hat); have n3_ := Aside0.mk (Kd.V_afterv (ok := (fun k_ => some k_ ≠ (.slice (some ad273) t257.length co8 : Value).ownBlock ∧ some k_ ≠ (v265 : Value).ownBlock ∧ some k_ ≠ (.slice (some ad272) t260.length co24 : Value).ownBlock)) (by (with_reducible repeat (first | apply Kd.V_alloc | apply Kd.V_drewN | apply Kd.V_drew)); exact Kd.V_mono HL282_0.out (fun _ hk => ⟨⟨hk.2, ⟨hk.1.1, hk.1.2.2⟩⟩, hk.1.2.1⟩)) hg hat); have n4_ := Aside0.mk (hb); have n5_ := Aside0.mk (ho); clear HO_4; clear HO_7; clear HO_57; clear HL272_0; clear HL282_0; clear HB; clear HO_10; have HO_4 := n0_; have HO_7 := n1_; have HO_57 := n2_; have HL272_0 := nV_; clear nV_; have HL282_0 := n3_; have HB := n4_; have HO287 := n5_; clear n0_ n1_ n2_ n3_ n4_ n5_; clear ho hb hg hat))
                                                      repeat (go_quiet (first | (go_at_call 20; (with_reducible refine (laws_has.calls k4 _ _ x10_4 (rd (rd_L1 t260 x59_2) x96_4) false _ ?side1 ?side2 A40.out).mono ?_); (case side1 => exact ck (Kd.R_reads' HO_10.out).2.2); (case side2 => exact (Kd.R_reads' HO_10.out).2.1); rintro e w' ⟨rfl, ⟨nd, rfl⟩⟩; (try first | exact ⟨rfl, _, World.drewN_drewN _ _ _⟩ | exact ⟨rfl, _, Eq.trans (World.drewN_drewN _ _ _) (congrArg (World.drewN _) (Nat.add_assoc _ _ _))⟩); have p282 : 0 ≤ (x59_2 : Int) := asm; have q282 : x59_2 < (t257.length : Int) := asm; obtain ⟨ad282, A282_0, c282_0, e282, hx282_0, hx282_1, hx282_2, hl282_0, hi282_0⟩ := at_T38 (Kd.N_reads' HO_4.out).2.2 x59_2 p282 q282; obtain rfl : ad273 = ad282 := (by injection e282); obtain ⟨ce282, hce282, hMe282, hcc282⟩ := Kd.N_get HO_4.out z38 x59_2 p282 (by first | exact q282 | exact asm | (have e_ := (Kd.N_reads' HO_4.out).1; omega)); obtain ⟨ua282_0, uc282_0, rfl, ul282_0, ge282_0⟩ := k38_openF hMe282; have hv282_0 := hcc282 0 _ rfl; rw [Nat.add_zero] at hv282_0; replace hv282_0 := Option.some.inj (hv282_0.symm.trans hx282_0); injection hv282_0 with hva_ hvn_ hvc_; rw [hva_] at ge282_0; rw [hvc_] at ul282_0; have HL282_0 := Aside0.mk (show Kd.V (Kd.int .i64) 3 _ w.heap.size _ _ ((rd_T38 t257 x59_2).f0) from Kd.V_mk ul282_0 ge282_0); clear hva_ hvn_ hvc_ ge282_0 ul282_0; clear hcc282 hce282; have HR282_0 := Aside0.mk hi282_0; have HC282_0 := Aside0.mk hl282_0; clear hi282_0 hl282_0; replace p282 := eq_true p282; replace q282 := eq_true q282) | (go_at_call 20; (with_reducible refine (laws_has.calls k4 _ _ ((rd_T38 t257 x59_2).f0) (rd (rd_L1 t260 x59_2) x96_4) true _ ?side1 ?side2 A45.out).mono ?_); (case side1 => repeat (first | exact (by repeat (first | (with_reducible exact HR282_0.out) | (with_reducible refine Kd.C_alloc ?_ _) | (with_reducible refine Kd.C_drewN ?_ _) | (with_reducible refine Kd.C_drew ?_) | exact HR282_0.out)) | (with_reducible refine Kd.C_alloc ?_ _) | (with_reducible refine Kd.C_drewN ?_ _) | (with_reducible refine Kd.C_drew ?_))); (case side2 => exact HC282_0.out); rintro e w' ⟨rfl, ⟨nd, rfl⟩⟩; (try first | exact ⟨rfl, _, World.drewN_drewN _ _ _⟩ | exact ⟨rfl, _, Eq.trans (World.drewN_drewN _ _ _) (congrArg (World.drewN _) (Nat.add_assoc _ _ _))⟩)) | (go_at_call 21; (with_reducible refine (impl_ContestOf.calls k4 t256 _ _ t257 (rd (rd_L1 t260 x59_2) x96_4) t284 _ ?side1 ?side2 A47.out).mono ?_); (case side1 => repeat (first | exact (Kd.N_reads' HO_4.out).2.2 | (with_reducible refine Kd.C_alloc ?_ _) | (with_reducible refine Kd.C_drewN ?_ _) | (with_reducible refine Kd.C_drew ?_))); (case side2 => exact (Kd.N_reads' HO_4.out).2.1); rintro e w51 ⟨rfl, hb⟩; replace HO_4 := Aside0.mk (Kd.N_below (by (with_reducible repeat (first | apply Kd.N_alloc | apply Kd.N_drewN | apply Kd.N_drew)); exact HO_4.out) hb); replace HO_7 := Aside0.mk (Kd.R_below (rk HO_7.out) hb); replace HO_10 := Aside0.mk (Kd.R_below (rk HO_10.out) hb); replace HO_57 := Aside0.mk (Kd.N_below (by (with_reducible repeat (first | apply Kd.N_alloc | apply Kd.N_drewN | apply Kd.N_drew)); exact HO_57.out) hb); replace HL282_0 := Aside0.mk (Kd.V_below (by (with_reducible repeat (first | apply Kd.V_alloc | apply Kd.V_drewN | apply Kd.V_drew)); exact HL282_0.out) hb); replace HR282_0 := Aside0.mk (Kd.V_reads' HL282_0.out).2.2; replace HL272_0 := Aside0.mk (Kd.V_below (by (with_reducible repeat (first | apply Kd.V_alloc | apply Kd.V_drewN | apply Kd.V_drew)); exact HL272_0.out) hb); replace HB := Aside0.mk (below_step bel hb); (try clear hb); (try clear hb2); (try clear hk); (try clear hi)) | ((with_reducible refine gate_builtin (b := .append) (xs := #[.tmp 121, .tmp 123]) rfl ?_); at_builtin; refine Kd.R_append (Kd.int .i64) (w0 := w) w.heap.size rfl (.tmp 121) (.tmp 123) 35 3 (.int .i64 0) 8 rfl Try.underlying35 info3 rfl (by decide) (by omega) (.slice Ao50 x10_4.length co50) x10_4 (rd (rd_L1 t260 x59_2) x96_4) [.int .i64 (rd (rd_L1 t260 x59_2) x96_4)] (fun k_ => some k_ ≠ (v265 : Value).ownBlock) (fun _ => False) rfl rfl ?aP (fun _ hk => hk.elim) ?aF ?aO ?aB ?aS ?aL ?_; (case aP => exact rfl); (case aB => exact bel); (case aF => exact (fun k_ hk => Kd.fresh' (Kd.R_lt (rk HO_7.out)) k_ hk)); (case aO => exact (rk HO_10.out)); (case aS => exact (below_size bel)); (case aL => have := LMc49.out; omega); intro v286 w52 ho hb hg hat; rw [← Ny285.out] at ho; have n0_ := Aside0.mk (Kd.N_afterv (ok := (fun k_ => some k_ ≠ (v265 : Value).ownBlock ∧ some k_ ≠ (.slice (some ad272) t260.length co24 : Value).ownBlock)) (by (with_reducible repeat (first | apply Kd.N_alloc | apply Kd.N_drewN | apply Kd.N_drew)); exact Kd.N_mono HO_4.out (fun _ hk => ⟨⟨hk.1, hk.2.2⟩, hk.2.1⟩)) hg hat); have n1_ := Aside0.mk (Kd.R_after (ok := (fun _ => True)) (by (with_reducible repeat (first | apply Kd.R_alloc | apply Kd.R_drewN | apply Kd.R_drew)); exact Kd.R_mono HO_7.out (fun _ hk => ⟨trivial, hk⟩)) hg hat); have n2_ := Aside0.mk (Kd.N_afterv (ok := (fun k_ => some k_ ≠ (.slice (some ad273) t257.length co8 : Value).ownBlock ∧ some k_ ≠ (v265 : Value).ownBlock)) (by (with_reducible repeat (first | apply Kd.N_alloc | apply Kd.N_drewN | apply Kd.N_drew)); exact Kd.N_mono HO_57.out (fun _ hk => ⟨⟨hk.1, hk.2.1⟩, hk.2.2⟩)) hg hat); have nV_ := Aside0.mk (Kd.V_afterv (ok := (fun k_ => some k_ ≠ (.slice (some ad273) t257.length co8 : Value).ownBlock ∧ some k_ ≠ (v265 : Value).ownBlock)) (by (with_reducible repeat (first | apply Kd.V_alloc | apply Kd.V_drewN | apply Kd.V_drew)); exact Kd.V_mono HL272_0.out (fun _ hk => ⟨⟨hk.1, hk.2.1⟩, hk.2.2⟩)) hg hat); have n3_ := Aside0.mk (Kd.V_afterv (ok := (fun k_ => some k_ ≠ (.slice (some ad273) t257.length co8 : Value).ownBlock ∧ some k_ ≠ (v265 : Value).ownBlock ∧ some k_ ≠ (.slice (some ad272) t260.length co24 : Value).ownBlock)) (by (with_reducible repeat (first | apply Kd.V_alloc | apply Kd.V_drewN | apply Kd.V_drew)); exact Kd.V_mono HL282_0.out (fun _ hk => ⟨⟨hk.2, ⟨hk.1.1, hk.1.2.2⟩⟩, hk.1.2.1⟩)) hg hat); have n4_ := Aside0.mk (hb); have n5_ := Aside0.mk (ho); clear HO_4; clear HO_7; clear HO_57; clear HL272_0; clear HL282_0; clear HB; clear HO_10; have HO_4 := n0_; have HO_7 := n1_; have HO_57 := n2_; have HL272_0 := nV_; clear nV_; have HL282_0 := n3_; have HB := n4_; have HO287 := n5_; clear n0_ n1_ n2_ n3_ n4_ n5_; clear ho hb hg hat)); try go_wp2_with (first | (go_at_call 20; (with_reducible refine (laws_has.calls k4 _ _ x10_4 (rd (rd_L1 t260 x59_2) x96_4) false _ ?side1 ?side2 A40.out).mono ?_); (case side1 => exact ck (Kd.R_reads' HO_10.out).2.2); (case side2 => exact (Kd.R_reads' HO_10.out).2.1); rintro e w' ⟨rfl, ⟨nd, rfl⟩⟩; (try first | exact ⟨rfl, _, World.drewN_drewN _ _ _⟩ | exact ⟨rfl, _, Eq.trans (World.drewN_drewN _ _ _) (congrArg (World.drewN _) (Nat.add_assoc _ _ _))⟩); have p282 : 0 ≤ (x59_2 : Int) := asm; have q282 : x59_2 < (t257.length : Int) := asm; obtain ⟨ad282, A282_0, c282_0, e282, hx282_0, hx282_1, hx282_2, hl282_0, hi282_0⟩ := at_T38 (Kd.N_reads' HO_4.out).2.2 x59_2 p282 q282; obtain rfl : ad273 = ad282 := (by injection e282); obtain ⟨ce282, hce282, hMe282, hcc282⟩ := Kd.N_get HO_4.out z38 x59_2 p282 (by first | exact q282 | exact asm | (have e_ := (Kd.N_reads' HO_4.out).1; omega)); obtain ⟨ua282_0, uc282_0, rfl, ul282_0, ge282_0⟩ := k38_openF hMe282; have hv282_0 := hcc282 0 _ rfl; rw [Nat.add_zero] at hv282_0; replace hv282_0 := Option.some.inj (hv282_0.symm.trans hx282_0); injection hv282_0 with hva_ hvn_ hvc_; rw [hva_] at ge282_0; rw [hvc_] at ul282_0; have HL282_0 := Aside0.mk (show Kd.V (Kd.int .i64) 3 _ w.heap.size _ _ ((rd_T38 t257 x59_2).f0) from Kd.V_mk ul282_0 ge282_0); clear hva_ hvn_ hvc_ ge282_0 ul282_0; clear hcc282 hce282; have HR282_0 := Aside0.mk hi282_0; have HC282_0 := Aside0.mk hl282_0; clear hi282_0 hl282_0; replace p282 := eq_true p282; replace q282 := eq_true q282) | (go_at_call 20; (with_reducible refine (laws_has.calls k4 _ _ ((rd_T38 t257 x59_2).f0) (rd (rd_L1 t260 x59_2) x96_4) true _ ?side1 ?side2 A45.out).mono ?_); (case side1 => repeat (first | exact (by repeat (first | (with_reducible exact HR282_0.out) | (with_reducible refine Kd.C_alloc ?_ _) | (with_reducible refine Kd.C_drewN ?_ _) | (with_reducible refine Kd.C_drew ?_) | exact HR282_0.out)) | (with_reducible refine Kd.C_alloc ?_ _) | (with_reducible refine Kd.C_drewN ?_ _) | (with_reducible refine Kd.C_drew ?_))); (case side2 => exact HC282_0.out); rintro e w' ⟨rfl, ⟨nd, rfl⟩⟩; (try first | exact ⟨rfl, _, World.drewN_drewN _ _ _⟩ | exact ⟨rfl, _, Eq.trans (World.drewN_drewN _ _ _) (congrArg (World.drewN _) (Nat.add_assoc _ _ _))⟩)) | (go_at_call 21; (with_reducible refine (impl_ContestOf.calls k4 t256 _ _ t257 (rd (rd_L1 t260 x59_2) x96_4) t284 _ ?side1 ?side2 A47.out).mono ?_); (case side1 => repeat (first | exact (Kd.N_reads' HO_4.out).2.2 | (with_reducible refine Kd.C_alloc ?_ _) | (with_reducible refine Kd.C_drewN ?_ _) | (with_reducible refine Kd.C_drew ?_))); (case side2 => exact (Kd.N_reads' HO_4.out).2.1); rintro e w51 ⟨rfl, hb⟩; replace HO_4 := Aside0.mk (Kd.N_below (by (with_reducible repeat (first | apply Kd.N_alloc | apply Kd.N_drewN | apply Kd.N_drew)); exact HO_4.out) hb); replace HO_7 := Aside0.mk (Kd.R_below (rk HO_7.out) hb); replace HO_10 := Aside0.mk (Kd.R_below (rk HO_10.out) hb); replace HO_57 := Aside0.mk (Kd.N_below (by (with_reducible repeat (first | apply Kd.N_alloc | apply Kd.N_drewN | apply Kd.N_drew)); exact HO_57.out) hb); replace HL282_0 := Aside0.mk (Kd.V_below (by (with_reducible repeat (first | apply Kd.V_alloc | apply Kd.V_drewN | apply Kd.V_drew)); exact HL282_0.out) hb); replace HR282_0 := Aside0.mk (Kd.V_reads' HL282_0.out).2.2; replace HL272_0 := Aside0.mk (Kd.V_below (by (with_reducible repeat (first | apply Kd.V_alloc | apply Kd.V_drewN | apply Kd.V_drew)); exact HL272_0.out) hb); replace HB := Aside0.mk (below_step bel hb); (try clear hb); (try clear hb2); (try clear hk); (try clear hi)) | ((with_reducible refine gate_builtin (b := .append) (xs := #[.tmp 121, .tmp 123]) rfl ?_); at_builtin; refine Kd.R_append (Kd.int .i64) (w0 := w) w.heap.size rfl (.tmp 121) (.tmp 123) 35 3 (.int .i64 0) 8 rfl Try.underlying35 info3 rfl (by decide) (by omega) (.slice Ao50 x10_4.length co50) x10_4 (rd (rd_L1 t260 x59_2) x96_4) [.int .i64 (rd (rd_L1 t260 x59_2) x96_4)] (fun k_ => some k_ ≠ (v265 : Value).ownBlock) (fun _ => False) rfl rfl ?aP (fun _ hk => hk.elim) ?aF ?aO ?aB ?aS ?aL ?_; (case aP => exact rfl); (case aB => exact bel); (case aF => exact (fun k_ hk => Kd.fresh' (Kd.R_lt (rk HO_7.out)) k_ hk)); (case aO => exact (rk HO_10.out)); (case aS => exact (below_size bel)); (case aL => have := LMc49.out; omega); intro v286 w52 ho hb hg hat; rw [← Ny285.out] at ho; have n0_ := Aside0.mk (Kd.N_afterv (ok := (fun k_ => some k_ ≠ (v265 : Value).ownBlock ∧ some k_ ≠ (.slice (some ad272) t260.length co24 : Value).ownBlock)) (by (with_reducible repeat (first | apply Kd.N_alloc | apply Kd.N_drewN | apply Kd.N_drew)); exact Kd.N_mono HO_4.out (fun _ hk => ⟨⟨hk.1, hk.2.2⟩, hk.2.1⟩)) hg hat); have n1_ := Aside0.mk (Kd.R_after (ok := (fun _ => True)) (by (with_reducible repeat (first | apply Kd.R_alloc | apply Kd.R_drewN | apply Kd.R_drew)); exact Kd.R_mono HO_7.out (fun _ hk => ⟨trivial, hk⟩)) hg hat); have n2_ := Aside0.mk (Kd.N_afterv (ok := (fun k_ => some k_ ≠ (.slice (some ad273) t257.length co8 : Value).ownBlock ∧ some k_ ≠ (v265 : Value).ownBlock)) (by (with_reducible repeat (first | apply Kd.N_alloc | apply Kd.N_drewN | apply Kd.N_drew)); exact Kd.N_mono HO_57.out (fun _ hk => ⟨⟨hk.1, hk.2.1⟩, hk.2.2⟩)) hg hat); have nV_ := Aside0.mk (Kd.V_afterv (ok := (fun k_ => some k_ ≠ (.slice (some ad273) t257.length co8 : Value).ownBlock ∧ some k_ ≠ (v265 : Value).ownBlock)) (by (with_reducible repeat (first | apply Kd.V_alloc | apply Kd.V_drewN | apply Kd.V_drew)); exact Kd.V_mono HL272_0.out (fun _ hk => ⟨⟨hk.1, hk.2.1⟩, hk.2.2⟩)) hg hat); have n3_ := Aside0.mk (Kd.V_afterv (ok := (fun k_ => some k_ ≠ (.slice (some ad273) t257.length co8 : Value).ownBlock ∧ some k_ ≠ (v265 : Value).ownBlock ∧ some k_ ≠ (.slice (some ad272) t260.length co24 : Value).ownBlock)) (by (with_reducible repeat (first | apply Kd.V_alloc | apply Kd.V_drewN | apply Kd.V_drew)); exact Kd.V_mono HL282_0.out (fun _ hk => ⟨⟨hk.2, ⟨hk.1.1, hk.1.2.2⟩⟩, hk.1.2.1⟩)) hg hat); have n4_ := Aside0.mk (hb); have n5_ := Aside0.mk (ho); clear HO_4; clear HO_7; clear HO_57; clear HL272_0; clear HL282_0; clear HB; clear HO_10; have HO_4 := n0_; have HO_7 := n1_; have HO_57 := n2_; have HL272_0 := nV_; clear nV_; have HL282_0 := n3_; have HB := n4_; have HO287 := n5_; clear n0_ n1_ n2_ n3_ n4_ n5_; clear ho hb hg hat)))
                                                      go_roundg k4
                                                      case measure => have := HJ5.out; have := HK2.out; have := HJ28.out; have := HK4.out; omega
                                                      case rel => exact ⟨(y285), (wrap64 (x96_4 + 1)), (es), H', ⟨by have := HJ5.out; have := HK2.out; have := HJ28.out; have := HK4.out; omega⟩, ⟨by (with_reducible repeat (first | apply Kd.N_alloc | apply Kd.N_drewN | apply Kd.N_drew)); exact Kd.N_mono HO_4.out (fun _ hk => ⟨hk.1.1, ⟨hk.2, hk.1.2⟩⟩)⟩, ⟨by (with_reducible repeat (first | apply Kd.R_alloc | apply Kd.R_drewN | apply Kd.R_drew)); exact Kd.R_mono HO_7.out (fun _ hk => hk.2)⟩, ⟨rk HO287.out⟩, ⟨by (with_reducible repeat (first | apply Kd.N_alloc | apply Kd.N_drewN | apply Kd.N_drew)); exact Kd.N_mono HO_57.out (fun _ hk => ⟨hk.1.1, ⟨hk.1.2, hk.2⟩⟩)⟩, ⟨by (with_reducible repeat (first | apply Kd.V_alloc | apply Kd.V_drewN | apply Kd.V_drew)); first | exact HL272_0.out | exact Kd.V_mono HL272_0.out (fun _ hk => hk.1) | exact Kd.V_mono HL272_0.out (fun _ hk => ⟨hk.1.1, ⟨hk.1.2, hk.2⟩⟩)⟩, ⟨bel⟩⟩
                                                    · rw [if_neg c49] at H
                                                      exact absurd H (by simp)
                                                  · rw [if_neg c48] at H
                                                    have c48b0 : (t284 == x59_2) = false := beq_eq_false_iff_ne.mpr c48
                                                    have c48b1 : (t284 != x59_2) = true := bne_iff_ne.mpr c48
                                                    obtain rfl := Option.some.inj H
                                                    have p280 : 0 ≤ (x96_4 : Int) := asm
                                                    have q280 : x96_4 < ((rd_L1 t260 x59_2).length : Int) := asm
                                                    obtain ⟨ad280, e280, hx280_0⟩ := Kd.at_int HR272_0.out x96_4 p280 q280
                                                    cases e280
                                                    replace p280 := eq_true p280
                                                    replace q280 := eq_true q280
                                                    obtain ⟨Ao53, co53, eo53⟩ := Kd.R_slice HO_10.out
                                                    subst eo53
                                                    go_wp2_with (first | (go_at_call 20; (with_reducible refine (laws_has.calls k4 _ _ x10_4 (rd (rd_L1 t260 x59_2) x96_4) false _ ?side1 ?side2 A40.out).mono ?_); (case side1 => exact ck (Kd.R_reads' HO_10.out).2.2); (case side2 => exact (Kd.R_reads' HO_10.out).2.1); rintro e w' ⟨rfl, ⟨nd, rfl⟩⟩; (try first | exact ⟨rfl, _, World.drewN_drewN _ _ _⟩ | exact ⟨rfl, _, Eq.trans (World.drewN_drewN _ _ _) (congrArg (World.drewN _) (Nat.add_assoc _ _ _))⟩); have p282 : 0 ≤ (x59_2 : Int) := asm; have q282 : x59_2 < (t257.length : Int) := asm; obtain ⟨ad282, A282_0, c282_0, e282, hx282_0, hx282_1, hx282_2, hl282_0, hi282_0⟩ := at_T38 (Kd.N_reads' HO_4.out).2.2 x59_2 p282 q282; obtain rfl : ad273 = ad282 := (by injection e282); obtain ⟨ce282, hce282, hMe282, hcc282⟩ := Kd.N_get HO_4.out z38 x59_2 p282 (by first | exact q282 | exact asm | (have e_ := (Kd.N_reads' HO_4.out).1; omega)); obtain ⟨ua282_0, uc282_0, rfl, ul282_0, ge282_0⟩ := k38_openF hMe282; have hv282_0 := hcc282 0 _ rfl; rw [Nat.add_zero] at hv282_0; replace hv282_0 := Option.some.inj (hv282_0.symm.trans hx282_0); injection hv282_0 with hva_ hvn_ hvc_; rw [hva_] at ge282_0; rw [hvc_] at ul282_0; have HL282_0 := Aside0.mk (show Kd.V (Kd.int .i64) 3 _ w.heap.size _ _ ((rd_T38 t257 x59_2).f0) from Kd.V_mk ul282_0 ge282_0); clear hva_ hvn_ hvc_ ge282_0 ul282_0; clear hcc282 hce282; have HR282_0 := Aside0.mk hi282_0; have HC282_0 := Aside0.mk hl282_0; clear hi282_0 hl282_0; replace p282 := eq_true p282; replace q282 := eq_true q282) | (go_at_call 20; (with_reducible refine (laws_has.calls k4 _ _ ((rd_T38 t257 x59_2).f0) (rd (rd_L1 t260 x59_2) x96_4) true _ ?side1 ?side2 A45.out).mono ?_); (case side1 => repeat (first | exact (by repeat (first | (with_reducible exact HR282_0.out) | (with_reducible refine Kd.C_alloc ?_ _) | (with_reducible refine Kd.C_drewN ?_ _) | (with_reducible refine Kd.C_drew ?_) | exact HR282_0.out)) | (with_reducible refine Kd.C_alloc ?_ _) | (with_reducible refine Kd.C_drewN ?_ _) | (with_reducible refine Kd.C_drew ?_))); (case side2 => exact HC282_0.out); rintro e w' ⟨rfl, ⟨nd, rfl⟩⟩; (try first | exact ⟨rfl, _, World.drewN_drewN _ _ _⟩ | exact ⟨rfl, _, Eq.trans (World.drewN_drewN _ _ _) (congrArg (World.drewN _) (Nat.add_assoc _ _ _))⟩)) | (go_at_call 21; (with_reducible refine (impl_ContestOf.calls k4 t256 _ _ t257 (rd (rd_L1 t260 x59_2) x96_4) t284 _ ?side1 ?side2 A47.out).mono ?_); (case side1 => repeat (first | exact (Kd.N_reads' HO_4.out).2.2 | (with_reducible refine Kd.C_alloc ?_ _) | (with_reducible refine Kd.C_drewN ?_ _) | (with_reducible refine Kd.C_drew ?_))); (case side2 => exact (Kd.N_reads' HO_4.out).2.1); rintro e w54 ⟨rfl, hb⟩; replace HO_4 := Aside0.mk (Kd.N_below (by (with_reducible repeat (first | apply Kd.N_alloc | apply Kd.N_drewN | apply Kd.N_drew)); exact HO_4.out) hb); replace HO_7 := Aside0.mk (Kd.R_below (rk HO_7.out) hb); replace HO_10 := Aside0.mk (Kd.R_below (rk HO_10.out) hb); replace HO_57 := Aside0.mk (Kd.N_below (by (with_reducible repeat (first | apply Kd.N_alloc | apply Kd.N_drewN | apply Kd.N_drew)); exact HO_57.out) hb); replace HL282_0 := Aside0.mk (Kd.V_below (by (with_reducible repeat (first | apply Kd.V_alloc | apply Kd.V_drewN | apply Kd.V_drew)); exact HL282_0.out) hb); replace HR282_0 := Aside0.mk (Kd.V_reads' HL282_0.out).2.2; replace HL272_0 := Aside0.mk (Kd.V_below (by (with_reducible repeat (first | apply Kd.V_alloc | apply Kd.V_drewN | apply Kd.V_drew)); exact HL272_0.out) hb); replace HB := Aside0.mk (below_step bel hb); (try clear hb); (try clear hb2); (try clear hk); (try clear hi)))
                                                    repeat (go_quiet (first | (go_at_call 20; (with_reducible refine (laws_has.calls k4 _ _ x10_4 (rd (rd_L1 t260 x59_2) x96_4) false _ ?side1 ?side2 A40.out).mono ?_); (case side1 => exact ck (Kd.R_reads' HO_10.out).2.2); (case side2 => exact (Kd.R_reads' HO_10.out).2.1); rintro e w' ⟨rfl, ⟨nd, rfl⟩⟩; (try first | exact ⟨rfl, _, World.drewN_drewN _ _ _⟩ | exact ⟨rfl, _, Eq.trans (World.drewN_drewN _ _ _) (congrArg (World.drewN _) (Nat.add_assoc _ _ _))⟩); have p282 : 0 ≤ (x59_2 : Int) := asm; have q282 : x59_2 < (t257.length : Int) := asm; obtain ⟨ad282, A282_0, c282_0, e282, hx282_0, hx282_1, hx282_2, hl282_0, hi282_0⟩ := at_T38 (Kd.N_reads' HO_4.out).2.2 x59_2 p282 q282; obtain rfl : ad273 = ad282 := (by injection e282); obtain ⟨ce282, hce282, hMe282, hcc282⟩ := Kd.N_get HO_4.out z38 x59_2 p282 (by first | exact q282 | exact asm | (have e_ := (Kd.N_reads' HO_4.out).1; omega)); obtain ⟨ua282_0, uc282_0, rfl, ul282_0, ge282_0⟩ := k38_openF hMe282; have hv282_0 := hcc282 0 _ rfl; rw [Nat.add_zero] at hv282_0; replace hv282_0 := Option.some.inj (hv282_0.symm.trans hx282_0); injection hv282_0 with hva_ hvn_ hvc_; rw [hva_] at ge282_0; rw [hvc_] at ul282_0; have HL282_0 := Aside0.mk (show Kd.V (Kd.int .i64) 3 _ w.heap.size _ _ ((rd_T38 t257 x59_2).f0) from Kd.V_mk ul282_0 ge282_0); clear hva_ hvn_ hvc_ ge282_0 ul282_0; clear hcc282 hce282; have HR282_0 := Aside0.mk hi282_0; have HC282_0 := Aside0.mk hl282_0; clear hi282_0 hl282_0; replace p282 := eq_true p282; replace q282 := eq_true q282) | (go_at_call 20; (with_reducible refine (laws_has.calls k4 _ _ ((rd_T38 t257 x59_2).f0) (rd (rd_L1 t260 x59_2) x96_4) true _ ?side1 ?side2 A45.out).mono ?_); (case side1 => repeat (first | exact (by repeat (first | (with_reducible exact HR282_0.out) | (with_reducible refine Kd.C_alloc ?_ _) | (with_reducible refine Kd.C_drewN ?_ _) | (with_reducible refine Kd.C_drew ?_) | exact HR282_0.out)) | (with_reducible refine Kd.C_alloc ?_ _) | (with_reducible refine Kd.C_drewN ?_ _) | (with_reducible refine Kd.C_drew ?_))); (case side2 => exact HC282_0.out); rintro e w' ⟨rfl, ⟨nd, rfl⟩⟩; (try first | exact ⟨rfl, _, World.drewN_drewN _ _ _⟩ | exact ⟨rfl, _, Eq.trans (World.drewN_drewN _ _ _) (congrArg (World.drewN _) (Nat.add_assoc _ _ _))⟩)) | (go_at_call 21; (with_reducible refine (impl_ContestOf.calls k4 t256 _ _ t257 (rd (rd_L1 t260 x59_2) x96_4) t284 _ ?side1 ?side2 A47.out).mono ?_); (case side1 => repeat (first | exact (Kd.N_reads' HO_4.out).2.2 | (with_reducible refine Kd.C_alloc ?_ _) | (with_reducible refine Kd.C_drewN ?_ _) | (with_reducible refine Kd.C_drew ?_))); (case side2 => exact (Kd.N_reads' HO_4.out).2.1); rintro e w54 ⟨rfl, hb⟩; replace HO_4 := Aside0.mk (Kd.N_below (by (with_reducible repeat (first | apply Kd.N_alloc | apply Kd.N_drewN | apply Kd.N_drew)); exact HO_4.out) hb); replace HO_7 := Aside0.mk (Kd.R_below (rk HO_7.out) hb); replace HO_10 := Aside0.mk (Kd.R_below (rk HO_10.out) hb); replace HO_57 := Aside0.mk (Kd.N_below (by (with_reducible repeat (first | apply Kd.N_alloc | apply Kd.N_drewN | apply Kd.N_drew)); exact HO_57.out) hb); replace HL282_0 := Aside0.mk (Kd.V_below (by (with_reducible repeat (first | apply Kd.V_alloc | apply Kd.V_drewN | apply Kd.V_drew)); exact HL282_0.out) hb); replace HR282_0 := Aside0.mk (Kd.V_reads' HL282_0.out).2.2; replace HL272_0 := Aside0.mk (Kd.V_below (by (with_reducible repeat (first | apply Kd.V_alloc | apply Kd.V_drewN | apply Kd.V_drew)); exact HL272_0.out) hb); replace HB := Aside0.mk (below_step bel hb); (try clear hb); (try clear hb2); (try clear hk); (try clear hi))); try go_wp2_with (first | (go_at_call 20; (with_reducible refine (laws_has.calls k4 _ _ x10_4 (rd (rd_L1 t260 x59_2) x96_4) false _ ?side1 ?side2 A40.out).mono ?_); (case side1 => exact ck (Kd.R_reads' HO_10.out).2.2); (case side2 => exact (Kd.R_reads' HO_10.out).2.1); rintro e w' ⟨rfl, ⟨nd, rfl⟩⟩; (try first | exact ⟨rfl, _, World.drewN_drewN _ _ _⟩ | exact ⟨rfl, _, Eq.trans (World.drewN_drewN _ _ _) (congrArg (World.drewN _) (Nat.add_assoc _ _ _))⟩); have p282 : 0 ≤ (x59_2 : Int) := asm; have q282 : x59_2 < (t257.length : Int) := asm; obtain ⟨ad282, A282_0, c282_0, e282, hx282_0, hx282_1, hx282_2, hl282_0, hi282_0⟩ := at_T38 (Kd.N_reads' HO_4.out).2.2 x59_2 p282 q282; obtain rfl : ad273 = ad282 := (by injection e282); obtain ⟨ce282, hce282, hMe282, hcc282⟩ := Kd.N_get HO_4.out z38 x59_2 p282 (by first | exact q282 | exact asm | (have e_ := (Kd.N_reads' HO_4.out).1; omega)); obtain ⟨ua282_0, uc282_0, rfl, ul282_0, ge282_0⟩ := k38_openF hMe282; have hv282_0 := hcc282 0 _ rfl; rw [Nat.add_zero] at hv282_0; replace hv282_0 := Option.some.inj (hv282_0.symm.trans hx282_0); injection hv282_0 with hva_ hvn_ hvc_; rw [hva_] at ge282_0; rw [hvc_] at ul282_0; have HL282_0 := Aside0.mk (show Kd.V (Kd.int .i64) 3 _ w.heap.size _ _ ((rd_T38 t257 x59_2).f0) from Kd.V_mk ul282_0 ge282_0); clear hva_ hvn_ hvc_ ge282_0 ul282_0; clear hcc282 hce282; have HR282_0 := Aside0.mk hi282_0; have HC282_0 := Aside0.mk hl282_0; clear hi282_0 hl282_0; replace p282 := eq_true p282; replace q282 := eq_true q282) | (go_at_call 20; (with_reducible refine (laws_has.calls k4 _ _ ((rd_T38 t257 x59_2).f0) (rd (rd_L1 t260 x59_2) x96_4) true _ ?side1 ?side2 A45.out).mono ?_); (case side1 => repeat (first | exact (by repeat (first | (with_reducible exact HR282_0.out) | (with_reducible refine Kd.C_alloc ?_ _) | (with_reducible refine Kd.C_drewN ?_ _) | (with_reducible refine Kd.C_drew ?_) | exact HR282_0.out)) | (with_reducible refine Kd.C_alloc ?_ _) | (with_reducible refine Kd.C_drewN ?_ _) | (with_reducible refine Kd.C_drew ?_))); (case side2 => exact HC282_0.out); rintro e w' ⟨rfl, ⟨nd, rfl⟩⟩; (try first | exact ⟨rfl, _, World.drewN_drewN _ _ _⟩ | exact ⟨rfl, _, Eq.trans (World.drewN_drewN _ _ _) (congrArg (World.drewN _) (Nat.add_assoc _ _ _))⟩)) | (go_at_call 21; (with_reducible refine (impl_ContestOf.calls k4 t256 _ _ t257 (rd (rd_L1 t260 x59_2) x96_4) t284 _ ?side1 ?side2 A47.out).mono ?_); (case side1 => repeat (first | exact (Kd.N_reads' HO_4.out).2.2 | (with_reducible refine Kd.C_alloc ?_ _) | (with_reducible refine Kd.C_drewN ?_ _) | (with_reducible refine Kd.C_drew ?_))); (case side2 => exact (Kd.N_reads' HO_4.out).2.1); rintro e w54 ⟨rfl, hb⟩; replace HO_4 := Aside0.mk (Kd.N_below (by (with_reducible repeat (first | apply Kd.N_alloc | apply Kd.N_drewN | apply Kd.N_drew)); exact HO_4.out) hb); replace HO_7 := Aside0.mk (Kd.R_below (rk HO_7.out) hb); replace HO_10 := Aside0.mk (Kd.R_below (rk HO_10.out) hb); replace HO_57 := Aside0.mk (Kd.N_below (by (with_reducible repeat (first | apply Kd.N_alloc | apply Kd.N_drewN | apply Kd.N_drew)); exact HO_57.out) hb); replace HL282_0 := Aside0.mk (Kd.V_below (by (with_reducible repeat (first | apply Kd.V_alloc | apply Kd.V_drewN | apply Kd.V_drew)); exact HL282_0.out) hb); replace HR282_0 := Aside0.mk (Kd.V_reads' HL282_0.out).2.2; replace HL272_0 := Aside0.mk (Kd.V_below (by (with_reducible repeat (first | apply Kd.V_alloc | apply Kd.V_drewN | apply Kd.V_drew)); exact HL272_0.out) hb); replace HB := Aside0.mk (below_step bel hb); (try clear hb); (try clear hb2); (try clear hk); (try clear hi))))
                                                    go_ret
                                                    exact ⟨er, bel⟩
                                                · replace c46 := Bool.eq_false_iff.mpr c46
                                                  subst c46
                                                  have H1 : (some false) = some r := by rw [if_neg (show ¬ (false = true) by decide)] at H; exact H
                                                  clear H
                                                  have H := H1
                                                  clear H1
                                                  obtain rfl := Option.some.inj H
                                                  have p280 : 0 ≤ (x96_4 : Int) := asm
                                                  have q280 : x96_4 < ((rd_L1 t260 x59_2).length : Int) := asm
                                                  obtain ⟨ad280, e280, hx280_0⟩ := Kd.at_int HR272_0.out x96_4 p280 q280
                                                  cases e280
                                                  replace p280 := eq_true p280
                                                  replace q280 := eq_true q280
                                                  obtain ⟨Ao55, co55, eo55⟩ := Kd.R_slice HO_10.out
                                                  subst eo55
                                                  go_wp2_with (first | (go_at_call 20; (with_reducible refine (laws_has.calls k4 _ _ x10_4 (rd (rd_L1 t260 x59_2) x96_4) false _ ?side1 ?side2 A40.out).mono ?_); (case side1 => exact ck (Kd.R_reads' HO_10.out).2.2); (case side2 => exact (Kd.R_reads' HO_10.out).2.1); rintro e w' ⟨rfl, ⟨nd, rfl⟩⟩; (try first | exact ⟨rfl, _, World.drewN_drewN _ _ _⟩ | exact ⟨rfl, _, Eq.trans (World.drewN_drewN _ _ _) (congrArg (World.drewN _) (Nat.add_assoc _ _ _))⟩); have p282 : 0 ≤ (x59_2 : Int) := asm; have q282 : x59_2 < (t257.length : Int) := asm; obtain ⟨ad282, A282_0, c282_0, e282, hx282_0, hx282_1, hx282_2, hl282_0, hi282_0⟩ := at_T38 (Kd.N_reads' HO_4.out).2.2 x59_2 p282 q282; obtain rfl : ad273 = ad282 := (by injection e282); obtain ⟨ce282, hce282, hMe282, hcc282⟩ := Kd.N_get HO_4.out z38 x59_2 p282 (by first | exact q282 | exact asm | (have e_ := (Kd.N_reads' HO_4.out).1; omega)); obtain ⟨ua282_0, uc282_0, rfl, ul282_0, ge282_0⟩ := k38_openF hMe282; have hv282_0 := hcc282 0 _ rfl; rw [Nat.add_zero] at hv282_0; replace hv282_0 := Option.some.inj (hv282_0.symm.trans hx282_0); injection hv282_0 with hva_ hvn_ hvc_; rw [hva_] at ge282_0; rw [hvc_] at ul282_0; have HL282_0 := Aside0.mk (show Kd.V (Kd.int .i64) 3 _ w.heap.size _ _ ((rd_T38 t257 x59_2).f0) from Kd.V_mk ul282_0 ge282_0); clear hva_ hvn_ hvc_ ge282_0 ul282_0; clear hcc282 hce282; have HR282_0 := Aside0.mk hi282_0; have HC282_0 := Aside0.mk hl282_0; clear hi282_0 hl282_0; replace p282 := eq_true p282; replace q282 := eq_true q282) | (go_at_call 20; (with_reducible refine (laws_has.calls k4 _ _ ((rd_T38 t257 x59_2).f0) (rd (rd_L1 t260 x59_2) x96_4) false _ ?side1 ?side2 A45.out).mono ?_); (case side1 => repeat (first | exact (by repeat (first | (with_reducible exact HR282_0.out) | (with_reducible refine Kd.C_alloc ?_ _) | (with_reducible refine Kd.C_drewN ?_ _) | (with_reducible refine Kd.C_drew ?_) | exact HR282_0.out)) | (with_reducible refine Kd.C_alloc ?_ _) | (with_reducible refine Kd.C_drewN ?_ _) | (with_reducible refine Kd.C_drew ?_))); (case side2 => exact HC282_0.out); rintro e w' ⟨rfl, ⟨nd, rfl⟩⟩; (try first | exact ⟨rfl, _, World.drewN_drewN _ _ _⟩ | exact ⟨rfl, _, Eq.trans (World.drewN_drewN _ _ _) (congrArg (World.drewN _) (Nat.add_assoc _ _ _))⟩)))
                                                  repeat (go_quiet (first | (go_at_call 20; (with_reducible refine (laws_has.calls k4 _ _ x10_4 (rd (rd_L1 t260 x59_2) x96_4) false _ ?side1 ?side2 A40.out).mono ?_); (case side1 => exact ck (Kd.R_reads' HO_10.out).2.2); (case side2 => exact (Kd.R_reads' HO_10.out).2.1); rintro e w' ⟨rfl, ⟨nd, rfl⟩⟩; (try first | exact ⟨rfl, _, World.drewN_drewN _ _ _⟩ | exact ⟨rfl, _, Eq.trans (World.drewN_drewN _ _ _) (congrArg (World.drewN _) (Nat.add_assoc _ _ _))⟩); have p282 : 0 ≤ (x59_2 : Int) := asm; have q282 : x59_2 < (t257.length : Int) := asm; obtain ⟨ad282, A282_0, c282_0, e282, hx282_0, hx282_1, hx282_2, hl282_0, hi282_0⟩ := at_T38 (Kd.N_reads' HO_4.out).2.2 x59_2 p282 q282; obtain rfl : ad273 = ad282 := (by injection e282); obtain ⟨ce282, hce282, hMe282, hcc282⟩ := Kd.N_get HO_4.out z38 x59_2 p282 (by first | exact q282 | exact asm | (have e_ := (Kd.N_reads' HO_4.out).1; omega)); obtain ⟨ua282_0, uc282_0, rfl, ul282_0, ge282_0⟩ := k38_openF hMe282; have hv282_0 := hcc282 0 _ rfl; rw [Nat.add_zero] at hv282_0; replace hv282_0 := Option.some.inj (hv282_0.symm.trans hx282_0); injection hv282_0 with hva_ hvn_ hvc_; rw [hva_] at ge282_0; rw [hvc_] at ul282_0; have HL282_0 := Aside0.mk (show Kd.V (Kd.int .i64) 3 _ w.heap.size _ _ ((rd_T38 t257 x59_2).f0) from Kd.V_mk ul282_0 ge282_0); clear hva_ hvn_ hvc_ ge282_0 ul282_0; clear hcc282 hce282; have HR282_0 := Aside0.mk hi282_0; have HC282_0 := Aside0.mk hl282_0; clear hi282_0 hl282_0; replace p282 := eq_true p282; replace q282 := eq_true q282) | (go_at_call 20; (with_reducible refine (laws_has.calls k4 _ _ ((rd_T38 t257 x59_2).f0) (rd (rd_L1 t260 x59_2) x96_4) false _ ?side1 ?side2 A45.out).mono ?_); (case side1 => repeat (first | exact (by repeat (first | (with_reducible exact HR282_0.out) | (with_reducible refine Kd.C_alloc ?_ _) | (with_reducible refine Kd.C_drewN ?_ _) | (with_reducible refine Kd.C_drew ?_) | exact HR282_0.out)) | (with_reducible refine Kd.C_alloc ?_ _) | (with_reducible refine Kd.C_drewN ?_ _) | (with_reducible refine Kd.C_drew ?_))); (case side2 => exact HC282_0.out); rintro e w' ⟨rfl, ⟨nd, rfl⟩⟩; (try first | exact ⟨rfl, _, World.drewN_drewN _ _ _⟩ | exact ⟨rfl, _, Eq.trans (World.drewN_drewN _ _ _) (congrArg (World.drewN _) (Nat.add_assoc _ _ _))⟩))); try go_wp2_with (first | (go_at_call 20; (with_reducible refine (laws_has.calls k4 _ _ x10_4 (rd (rd_L1 t260 x59_2) x96_4) false _ ?side1 ?side2 A40.out).mono ?_); (case side1 => exact ck (Kd.R_reads' HO_10.out).2.2); (case side2 => exact (Kd.R_reads' HO_10.out).2.1); rintro e w' ⟨rfl, ⟨nd, rfl⟩⟩; (try first | exact ⟨rfl, _, World.drewN_drewN _ _ _⟩ | exact ⟨rfl, _, Eq.trans (World.drewN_drewN _ _ _) (congrArg (World.drewN _) (Nat.add_assoc _ _ _))⟩); have p282 : 0 ≤ (x59_2 : Int) := asm; have q282 : x59_2 < (t257.length : Int) := asm; obtain ⟨ad282, A282_0, c282_0, e282, hx282_0, hx282_1, hx282_2, hl282_0, hi282_0⟩ := at_T38 (Kd.N_reads' HO_4.out).2.2 x59_2 p282 q282; obtain rfl : ad273 = ad282 := (by injection e282); obtain ⟨ce282, hce282, hMe282, hcc282⟩ := Kd.N_get HO_4.out z38 x59_2 p282 (by first | exact q282 | exact asm | (have e_ := (Kd.N_reads' HO_4.out).1; omega)); obtain ⟨ua282_0, uc282_0, rfl, ul282_0, ge282_0⟩ := k38_openF hMe282; have hv282_0 := hcc282 0 _ rfl; rw [Nat.add_zero] at hv282_0; replace hv282_0 := Option.some.inj (hv282_0.symm.trans hx282_0); injection hv282_0 with hva_ hvn_ hvc_; rw [hva_] at ge282_0; rw [hvc_] at ul282_0; have HL282_0 := Aside0.mk (show Kd.V (Kd.int .i64) 3 _ w.heap.size _ _ ((rd_T38 t257 x59_2).f0) from Kd.V_mk ul282_0 ge282_0); clear hva_ hvn_ hvc_ ge282_0 ul282_0; clear hcc282 hce282; have HR282_0 := Aside0.mk hi282_0; have HC282_0 := Aside0.mk hl282_0; clear hi282_0 hl282_0; replace p282 := eq_true p282; replace q282 := eq_true q282) | (go_at_call 20; (with_reducible refine (laws_has.calls k4 _ _ ((rd_T38 t257 x59_2).f0) (rd (rd_L1 t260 x59_2) x96_4) false _ ?side1 ?side2 A45.out).mono ?_); (case side1 => repeat (first | exact (by repeat (first | (with_reducible exact HR282_0.out) | (with_reducible refine Kd.C_alloc ?_ _) | (with_reducible refine Kd.C_drewN ?_ _) | (with_reducible refine Kd.C_drew ?_) | exact HR282_0.out)) | (with_reducible refine Kd.C_alloc ?_ _) | (with_reducible refine Kd.C_drewN ?_ _) | (with_reducible refine Kd.C_drew ?_))); (case side2 => exact HC282_0.out); rintro e w' ⟨rfl, ⟨nd, rfl⟩⟩; (try first | exact ⟨rfl, _, World.drewN_drewN _ _ _⟩ | exact ⟨rfl, _, Eq.trans (World.drewN_drewN _ _ _) (congrArg (World.drewN _) (Nat.add_assoc _ _ _))⟩))))
                                                  go_ret
                                                  exact ⟨er, bel⟩
                                              · rw [if_neg c44] at H
                                                exact absurd H (by simp)
                                            · rw [if_neg c43] at H
                                              exact absurd H (by simp)
                                        · rw [if_neg c39] at H
                                          exact absurd H (by simp)
                                      · rw [if_neg c38] at H
                                        exact absurd H (by simp)
                                    · rw [if_neg c37] at H
                                      have c37b0 : decide (x96_4 < ((rd_L1 t260 x59_2).length : Int)) = false := decide_eq_false c37
                                      clear c37
                                      by_cases c56 : 0 ≤ x59_2
                                      · rw [if_pos c56] at H
                                        have c56b0 : decide (0 ≤ x59_2) = true := decide_eq_true c56
                                        clear c56
                                        by_cases c57 : x59_2 < (t260.length : Int)
                                        · rw [if_pos c57] at H
                                          have c57b0 : decide (x59_2 < (t260.length : Int)) = true := decide_eq_true c57
                                          clear c57
                                          by_cases c58 : ((rd_L1 t260 x59_2).length : Int) > 0
                                          · rw [if_pos c58] at H
                                            have c58b0 : decide (0 < ((rd_L1 t260 x59_2).length : Int)) = true := decide_eq_true c58
                                            have c58b1 : decide (0 < (rd_L1 t260 x59_2).length) = true := decide_eq_true (by omega)
                                            clear c58
                                            by_cases c59 : 0 ≤ x59_2
                                            · rw [if_pos c59] at H
                                              have c59b0 : decide (0 ≤ x59_2) = true := decide_eq_true c59
                                              clear c59
                                              by_cases c60 : x59_2 < (t257.length : Int)
                                              · rw [if_pos c60] at H
                                                have c60b0 : decide (x59_2 < (t257.length : Int)) = true := decide_eq_true c60
                                                clear c60
                                                have H' := Aside0.mk H
                                                clear H
                                                have p289 : 0 ≤ (x59_2 : Int) := asm
                                                have q289 : x59_2 < (t257.length : Int) := asm
                                                obtain ⟨ad289, A289_0, c289_0, e289, hx289_0, hx289_1, hx289_2, hl289_0, hi289_0⟩ := at_T38 (Kd.N_reads' HO_4.out).2.2 x59_2 p289 q289
                                                obtain rfl : ad273 = ad289 := (by injection e289)
                                                obtain ⟨ce289, hce289, hMe289, hcc289⟩ := Kd.N_get HO_4.out z38 x59_2 p289 (by first | exact q289 | exact asm | (have e_ := (Kd.N_reads' HO_4.out).1; omega))
                                                obtain ⟨ua289_0, uc289_0, rfl, ul289_0, ge289_0⟩ := k38_openF hMe289
                                                have hv289_0 := hcc289 0 _ rfl
                                                rw [Nat.add_zero] at hv289_0
                                                replace hv289_0 := Option.some.inj (hv289_0.symm.trans hx289_0)
                                                injection hv289_0 with hva_ hvn_ hvc_
                                                rw [hva_] at ge289_0
                                                rw [hvc_] at ul289_0
                                                have HL289_0 := Aside0.mk (show Kd.V (Kd.int .i64) 3 _ w.heap.size _ _ ((rd_T38 t257 x59_2).f0) from Kd.V_mk ul289_0 ge289_0)
                                                clear hva_ hvn_ hvc_ ge289_0 ul289_0
                                                clear hcc289 hce289
                                                have HR289_0 := Aside0.mk hi289_0
                                                have HC289_0 := Aside0.mk hl289_0
                                                clear hi289_0 hl289_0
                                                replace p289 := eq_true p289
                                                replace q289 := eq_true q289
                                                go_wp2
                                                repeat (go_quiet (fail); try go_wp2)
                                                go_loopg [135] k4 (fun kq v135 w' => ∃ (x135_5 : Int), v135 = .int .i64 x135_5 ∧ Aside0 (laws_FnQuotas.l2 kq t256 t257 t264 (wrap64 (x8_2 + ((rd_L1 t260 x59_2).length : Int))) (wrap64 (x9_2 + ((rd_T38 t257 x59_2).f1))) x10_4 t260 (t260.length : Int) x59_2 ((rd_T38 t257 x59_2).f0) (((rd_T38 t257 x59_2).f0).length : Int) x135_5 = some r) ∧ Aside0 (kq ≤ k4) ∧ Aside0 (Kd.N k38 38 w' w.heap.size (fun k_ => some k_ ≠ (v265 : Value).ownBlock ∧ some k_ ≠ (u10 : Value).ownBlock ∧ some k_ ≠ ((.slice (some ad272) t260.length co24) : Value).ownBlock) (.slice (some ad273) t257.length co8) t257) ∧ Aside0 (Kd.R (Kd.int .i64) 3 w' w.heap.size (fun k_ => some k_ ≠ (u10 : Value).ownBlock) v265 t264) ∧ Aside0 (Kd.R (Kd.int .i64) 3 w' w.heap.size (fun k_ => some k_ ≠ (v265 : Value).ownBlock) u10 x10_4) ∧ Aside0 (Kd.N (Kd.slice 3 (Kd.int .i64)) 35 w' w.heap.size (fun k_ => some k_ ≠ ((.slice (some ad273) t257.length co8) : Value).ownBlock ∧ some k_ ≠ (v265 : Value).ownBlock ∧ some k_ ≠ (u10 : Value).ownBlock) (.slice (some ad272) t260.length co24) t260) ∧ Aside0 (Kd.C (Kd.int .i64) w' A272_0 (rd_L1 t260 x59_2).length (rd_L1 t260 x59_2)) ∧ Aside0 (Kd.C (Kd.int .i64) w' A289_0 ((rd_T38 t257 x59_2).f0).length ((rd_T38 t257 x59_2).f0)) ∧ Aside0 (Kd.V (Kd.int .i64) 3 w' w.heap.size (fun k_ => some k_ ≠ ((.slice (some ad273) t257.length co8) : Value).ownBlock ∧ some k_ ≠ (v265 : Value).ownBlock ∧ some k_ ≠ (u10 : Value).ownBlock) (.slice A272_0 (rd_L1 t260 x59_2).length c272_0) (rd_L1 t260 x59_2)) ∧ Aside0 (Below w.heap.size w w'))
                                                case atStart => exact ⟨(0), (es), H', ⟨Nat.le_refl _⟩, ⟨by (with_reducible repeat (first | apply Kd.N_alloc | apply Kd.N_drewN | apply Kd.N_drew)); exact HO_4.out⟩, ⟨rk HO_7.out⟩, ⟨rk HO_10.out⟩, ⟨by (with_reducible repeat (first | apply Kd.N_alloc | apply Kd.N_drewN | apply Kd.N_drew)); exact HO_57.out⟩, ⟨ck HR272_0.out⟩, ⟨ck HR289_0.out⟩, ⟨by (with_reducible repeat (first | apply Kd.V_alloc | apply Kd.V_drewN | apply Kd.V_drew)); first | exact HL272_0.out | exact Kd.V_mono HL272_0.out (fun _ hk => hk.1) | exact Kd.V_mono HL272_0.out (fun _ hk => ⟨hk.1.1, ⟨hk.1.2, hk.2⟩⟩)⟩, ⟨bel⟩⟩
                                                case round =>
                                                  clear H'
                                                  try clear c1; try clear c2; try clear c2b0; try clear c2b1; try clear p2; try clear q2; try clear hx2; try clear c3; try clear c4; try clear c5; try clear c6; try clear p6; try clear c11; try clear c13; try clear c14; try clear c14b0; try clear c14b1; try clear c14b2; try clear c21; try clear c25; try clear c25b0; try clear c26; try clear c26b0; try clear c27; try clear c27b0; try clear p27; try clear q27; try clear hx27; try clear c28; try clear c28b0; try clear p28; try clear q28; try clear hx28; try clear c30; try clear c30b0; try clear c31; try clear c31b0; try clear c34; try clear c35; try clear c35b0; try clear c36; try clear c36b0; try clear c37; try clear c37b0; try clear c38; try clear c38b0; try clear c39; try clear c39b0; try clear c41; try clear c43; try clear c43b0; try clear c44; try clear c44b0; try clear c46; try clear c48; try clear c48b0; try clear c48b1; try clear c49; try clear c56; try clear c56b0; try clear c57; try clear c57b0; try clear c58; try clear c58b0; try clear c58b1; try clear c59; try clear c59b0; try clear c60; try clear c60b0; try clear hx272_0; try clear hx273_0; try clear hx273_1; try clear hx273_2; try clear hx274_0; try clear hx275_0; try clear hx276_0; try clear hx277_0; try clear hx278_0; try clear hx278_1; try clear hx278_2; try clear hx279_0; try clear hx280_0; try clear hx282_0; try clear hx282_1; try clear hx282_2; try clear hx288_0; try clear hx289_0; try clear hx289_1; try clear hx289_2; try clear p2; try clear p27; try clear p272; try clear p273; try clear p274; try clear p275; try clear p276; try clear p277; try clear p278; try clear p279; try clear p280; try clear p282; try clear p288; try clear p289; try clear p6; try clear q2; try clear q27; try clear q272; try clear q273; try clear q274; try clear q275; try clear q276; try clear q277; try clear q278; try clear q279; try clear q280; try clear q282; try clear q288; try clear q289
                                                  obtain ⟨x135_5, rfl, HA, HK5, HO_4, HO_7, HO_10, HO_57, HR272_0, HR289_0, HL272_0, HB⟩ := hrel
                                                  replace HR272_0 := Aside0.mk (Kd.V_reads' HL272_0.out).2.2
                                                  cases gk with
                                                  | zero => exact absurd HA.out (by simp [laws_FnQuotas.l2])
                                                  | succ k5 =>
                                                    have H := HA.out
                                                    clear HA
                                                    simp only [laws_FnQuotas.l2] at H
                                                    by_cases c61 : x135_5 < (((rd_T38 t257 x59_2).f0).length : Int)
                                                    · rw [if_pos c61] at H
                                                      have c61b0 : decide (x135_5 < (((rd_T38 t257 x59_2).f0).length : Int)) = true := decide_eq_true c61
                                                      clear c61
                                                      by_cases c62 : 0 ≤ x135_5
                                                      · rw [if_pos c62] at H
                                                        have c62b0 : decide (0 ≤ x135_5) = true := decide_eq_true c62
                                                        clear c62
                                                        by_cases c63 : x135_5 < (((rd_T38 t257 x59_2).f0).length : Int)
                                                        · rw [if_pos c63] at H
                                                          have c63b0 : decide (x135_5 < (((rd_T38 t257 x59_2).f0).length : Int)) = true := decide_eq_true c63
                                                          clear c63
                                                          replace H := Option.bind_eq_some_iff.mp H
                                                          obtain ⟨t291, A640, H⟩ := H
                                                          replace H : (if t291 = true then (if 0 ≤ x59_2 then (if x59_2 < (t260.length : Int) then (if 0 ≤ (wrap64 (((rd_L1 t260 x59_2).length : Int) - 1)) then (if (wrap64 (((rd_L1 t260 x59_2).length : Int) - 1)) < ((rd_L1 t260 x59_2).length : Int) then (if (rd ((rd_T38 t257 x59_2).f0) x135_5) = (rd (rd_L1 t260 x59_2) (wrap64 (((rd_L1 t260 x59_2).length : Int) - 1))) then (laws_FnQuotas.l0 k5 t256 t257 t264 (wrap64 (x8_2 + ((rd_L1 t260 x59_2).length : Int))) (wrap64 (x9_2 + ((rd_T38 t257 x59_2).f1))) x10_4 t260 (t260.length : Int) (wrap64 (x59_2 + 1))) else (laws_FnQuotas.l2 k5 t256 t257 t264 (wrap64 (x8_2 + ((rd_L1 t260 x59_2).length : Int))) (wrap64 (x9_2 + ((rd_T38 t257 x59_2).f1))) x10_4 t260 (t260.length : Int) x59_2 ((rd_T38 t257 x59_2).f0) (((rd_T38 t257 x59_2).f0).length : Int) (wrap64 (x135_5 + 1)))) else (none)) else (none)) else (none)) else (none)) else (some false)) = some r := H
                                                          have A64 := Aside0.mk A640
                                                          clear A640
                                                          by_cases c65 : t291 = true
                                                          · subst c65
                                                            have H1 : (if 0 ≤ x59_2 then (if x59_2 < (t260.length : Int) then (if 0 ≤ (wrap64 (((rd_L1 t260 x59_2).length : Int) - 1)) then (if (wrap64 (((rd_L1 t260 x59_2).length : Int) - 1)) < ((rd_L1 t260 x59_2).length : Int) then (if (rd ((rd_T38 t257 x59_2).f0) x135_5) = (rd (rd_L1 t260 x59_2) (wrap64 (((rd_L1 t260 x59_2).length : Int) - 1))) then (laws_FnQuotas.l0 k5 t256 t257 t264 (wrap64 (x8_2 + ((rd_L1 t260 x59_2).length : Int))) (wrap64 (x9_2 + ((rd_T38 t257 x59_2).f1))) x10_4 t260 (t260.length : Int) (wrap64 (x59_2 + 1))) else (laws_FnQuotas.l2 k5 t256 t257 t264 (wrap64 (x8_2 + ((rd_L1 t260 x59_2).length : Int))) (wrap64 (x9_2 + ((rd_T38 t257 x59_2).f1))) x10_4 t260 (t260.length : Int) x59_2 ((rd_T38 t257 x59_2).f0) (((rd_T38 t257 x59_2).f0).length : Int) (wrap64 (x135_5 + 1)))) else (none)) else (none)) else (none)) else (none)) = some r := by rw [if_pos rfl] at H; exact H
                                                            clear H
                                                            have H := H1
                                                            clear H1
                                                            by_cases c66 : 0 ≤ x59_2
                                                            · rw [if_pos c66] at H
                                                              have c66b0 : decide (0 ≤ x59_2) = true := decide_eq_true c66
                                                              clear c66
                                                              by_cases c67 : x59_2 < (t260.length : Int)
                                                              · rw [if_pos c67] at H
                                                                have c67b0 : decide (x59_2 < (t260.length : Int)) = true := decide_eq_true c67
                                                                clear c67
                                                                obtain ⟨ji68, hji68⟩ : ∃ j_ : Int, (wrap64 (((rd_L1 t260 x59_2).length : Int) - 1)) = j_ := ⟨_, rfl⟩
                                                                replace H : (if 0 ≤ (ji68) then (if (ji68) < ((rd_L1 t260 x59_2).length : Int) then (if (rd ((rd_T38 t257 x59_2).f0) x135_5) = (rd (rd_L1 t260 x59_2) (ji68)) then (laws_FnQuotas.l0 k5 t256 t257 t264 (wrap64 (x8_2 + ((rd_L1 t260 x59_2).length : Int))) (wrap64 (x9_2 + ((rd_T38 t257 x59_2).f1))) x10_4 t260 (t260.length : Int) (wrap64 (x59_2 + 1))) else (laws_FnQuotas.l2 k5 t256 t257 t264 (wrap64 (x8_2 + ((rd_L1 t260 x59_2).length : Int))) (wrap64 (x9_2 + ((rd_T38 t257 x59_2).f1))) x10_4 t260 (t260.length : Int) x59_2 ((rd_T38 t257 x59_2).f0) (((rd_T38 t257 x59_2).f0).length : Int) (wrap64 (x135_5 + 1)))) else (none)) else (none)) = some r := by first | (rw [hji68] at H; exact H) | (simp only [hji68] at H ⊢; exact H)
                                                                (try rw [hji68] at A64)
                                                                have hji68w : (IntKind.i64.wrap (((rd_L1 t260 x59_2).length : Int) - 1)) = ji68 := (i64_w _).trans hji68
                                                                by_cases c69 : 0 ≤ (ji68)
                                                                · rw [if_pos c69] at H
                                                                  have c69b0 : decide (0 ≤ (ji68)) = true := decide_eq_true c69
                                                                  clear c69
                                                                  by_cases c70 : (ji68) < ((rd_L1 t260 x59_2).length : Int)
                                                                  · rw [if_pos c70] at H
                                                                    have c70b0 : decide ((ji68) < ((rd_L1 t260 x59_2).length : Int)) = true := decide_eq_true c70
                                                                    clear c70
                                                                    by_cases c71 : (rd ((rd_T38 t257 x59_2).f0) x135_5) = (rd (rd_L1 t260 x59_2) (ji68))
                                                                    · rw [if_pos c71] at H
                                                                      have c71b0 : ((rd ((rd_T38 t257 x59_2).f0) x135_5) == (rd (rd_L1 t260 x59_2) (ji68))) = true := beq_iff_eq.mpr c71
                                                                      have c71b1 : ((rd ((rd_T38 t257 x59_2).f0) x135_5) != (rd (rd_L1 t260 x59_2) (ji68))) = false := bne_eq_false_iff_eq.mpr c71
                                                                      clear c71
                                                                      have H' := Aside0.mk H
                                                                      clear H
                                                                      have p290 : 0 ≤ (x135_5 : Int) := asm
                                                                      have q290 : x135_5 < (((rd_T38 t257 x59_2).f0).length : Int) := asm
                                                                      obtain ⟨ad290, e290, hx290_0⟩ := Kd.at_int HR289_0.out x135_5 p290 q290
                                                                      cases e290
                                                                      replace p290 := eq_true p290
                                                                      replace q290 := eq_true q290
                                                                      obtain ⟨Ao72, co72, eo72⟩ := Kd.R_slice HO_10.out
                                                                      subst eo72
                                                                      go_wp2_with (first | (go_at_call 20; (with_reducible refine (laws_has.calls k5 _ _ x10_4 (rd ((rd_T38 t257 x59_2).f0) x135_5) true _ ?side1 ?side2 A64.out).mono ?_); (case side1 => exact ck (Kd.R_reads' HO_10.out).2.2); (case side2 => exact (Kd.R_reads' HO_10.out).2.1); rintro e w' ⟨rfl, ⟨nd, rfl⟩⟩; (try first | exact ⟨rfl, _, World.drewN_drewN _ _ _⟩ | exact ⟨rfl, _, Eq.trans (World.drewN_drewN _ _ _) (congrArg (World.drewN _) (Nat.add_assoc _ _ _))⟩); have p294 : 0 ≤ ((ji68) : Int) := asm; have q294 : (ji68) < ((rd_L1 t260 x59_2).length : Int) := asm; obtain ⟨ad294, e294, hx294_0⟩ := Kd.at_int (by repeat (first | (with_reducible exact HR272_0.out) | (with_reducible refine Kd.C_alloc ?_ _) | (with_reducible refine Kd.C_drewN ?_ _) | (with_reducible refine Kd.C_drew ?_) | exact HR272_0.out)) (ji68) p294 q294; cases e294; replace p294 := eq_true p294; replace q294 := eq_true q294))
                                                                      repeat (go_quiet (first | (go_at_call 20; (with_reducible refine (laws_has.calls k5 _ _ x10_4 (rd ((rd_T38 t257 x59_2).f0) x135_5) true _ ?side1 ?side2 A64.out).mono ?_); (case side1 => exact ck (Kd.R_reads' HO_10.out).2.2); (case side2 => exact (Kd.R_reads' HO_10.out).2.1); rintro e w' ⟨rfl, ⟨nd, rfl⟩⟩; (try first | exact ⟨rfl, _, World.drewN_drewN _ _ _⟩ | exact ⟨rfl, _, Eq.trans (World.drewN_drewN _ _ _) (congrArg (World.drewN _) (Nat.add_assoc _ _ _))⟩); have p294 : 0 ≤ ((ji68) : Int) := asm; have q294 : (ji68) < ((rd_L1 t260 x59_2).length : Int) := asm; obtain ⟨ad294, e294, hx294_0⟩ := Kd.at_int (by repeat (first | (with_reducible exact HR272_0.out) | (with_reducible refine Kd.C_alloc ?_ _) | (with_reducible refine Kd.C_drewN ?_ _) | (with_reducible refine Kd.C_drew ?_) | exact HR272_0.out)) (ji68) p294 q294; cases e294; replace p294 := eq_true p294; replace q294 := eq_true q294)); try go_wp2_with (first | (go_at_call 20; (with_reducible refine (laws_has.calls k5 _ _ x10_4 (rd ((rd_T38 t257 x59_2).f0) x135_5) true _ ?side1 ?side2 A64.out).mono ?_); (case side1 => exact ck (Kd.R_reads' HO_10.out).2.2); (case side2 => exact (Kd.R_reads' HO_10.out).2.1); rintro e w' ⟨rfl, ⟨nd, rfl⟩⟩; (try first | exact ⟨rfl, _, World.drewN_drewN _ _ _⟩ | exact ⟨rfl, _, Eq.trans (World.drewN_drewN _ _ _) (congrArg (World.drewN _) (Nat.add_assoc _ _ _))⟩); have p294 : 0 ≤ ((ji68) : Int) := asm; have q294 : (ji68) < ((rd_L1 t260 x59_2).length : Int) := asm; obtain ⟨ad294, e294, hx294_0⟩ := Kd.at_int (by repeat (first | (with_reducible exact HR272_0.out) | (with_reducible refine Kd.C_alloc ?_ _) | (with_reducible refine Kd.C_drewN ?_ _) | (with_reducible refine Kd.C_drew ?_) | exact HR272_0.out)) (ji68) p294 q294; cases e294; replace p294 := eq_true p294; replace q294 := eq_true q294)))
                                                                      go_roundg k5
                                                                      case measure => have := HJ5.out; have := HK2.out; have := HJ28.out; have := HK4.out; have := HK5.out; omega
                                                                      case rel => exact ⟨((wrap64 (x8_2 + ((rd_L1 t260 x59_2).length : Int)))), ((wrap64 (x9_2 + ((rd_T38 t257 x59_2).f1)))), (x10_4), (wrap64 (x59_2 + 1)), (es), (es), (es), H', ⟨by have := HJ5.out; have := HK2.out; have := HJ28.out; have := HK4.out; have := HK5.out; omega⟩, ⟨by (with_reducible repeat (first | apply Kd.N_alloc | apply Kd.N_drewN | apply Kd.N_drew)); exact HO_4.out⟩, ⟨rk HO_7.out⟩, ⟨rk HO_10.out⟩, ⟨by (with_reducible repeat (first | apply Kd.N_alloc | apply Kd.N_drewN | apply Kd.N_drew)); exact HO_57.out⟩, ⟨bel⟩⟩
                                                                    · rw [if_neg c71] at H
                                                                      have c71b0 : ((rd ((rd_T38 t257 x59_2).f0) x135_5) == (rd (rd_L1 t260 x59_2) (ji68))) = false := beq_eq_false_iff_ne.mpr c71
                                                                      have c71b1 : ((rd ((rd_T38 t257 x59_2).f0) x135_5) != (rd (rd_L1 t260 x59_2) (ji68))) = true := bne_iff_ne.mpr c71
                                                                      have H' := Aside0.mk H
                                                                      clear H
                                                                      have p290 : 0 ≤ (x135_5 : Int) := asm
                                                                      have q290 : x135_5 < (((rd_T38 t257 x59_2).f0).length : Int) := asm
                                                                      obtain ⟨ad290, e290, hx290_0⟩ := Kd.at_int HR289_0.out x135_5 p290 q290
                                                                      cases e290
                                                                      replace p290 := eq_true p290
                                                                      replace q290 := eq_true q290
                                                                      obtain ⟨Ao73, co73, eo73⟩ := Kd.R_slice HO_10.out
                                                                      subst eo73
                                                                      go_wp2_with (first | (go_at_call 20; (with_reducible refine (laws_has.calls k5 _ _ x10_4 (rd ((rd_T38 t257 x59_2).f0) x135_5) true _ ?side1 ?side2 A64.out).mono ?_); (case side1 => exact ck (Kd.R_reads' HO_10.out).2.2); (case side2 => exact (Kd.R_reads' HO_10.out).2.1); rintro e w' ⟨rfl, ⟨nd, rfl⟩⟩; (try first | exact ⟨rfl, _, World.drewN_drewN _ _ _⟩ | exact ⟨rfl, _, Eq.trans (World.drewN_drewN _ _ _) (congrArg (World.drewN _) (Nat.add_assoc _ _ _))⟩); have p294 : 0 ≤ ((ji68) : Int) := asm; have q294 : (ji68) < ((rd_L1 t260 x59_2).length : Int) := asm; obtain ⟨ad294, e294, hx294_0⟩ := Kd.at_int (by repeat (first | (with_reducible exact HR272_0.out) | (with_reducible refine Kd.C_alloc ?_ _) | (with_reducible refine Kd.C_drewN ?_ _) | (with_reducible refine Kd.C_drew ?_) | exact HR272_0.out)) (ji68) p294 q294; cases e294; replace p294 := eq_true p294; replace q294 := eq_true q294))
                                                                      repeat (go_quiet (first | (go_at_call 20; (with_reducible refine (laws_has.calls k5 _ _ x10_4 (rd ((rd_T38 t257 x59_2).f0) x135_5) true _ ?side1 ?side2 A64.out).mono ?_); (case side1 => exact ck (Kd.R_reads' HO_10.out).2.2); (case side2 => exact (Kd.R_reads' HO_10.out).2.1); rintro e w' ⟨rfl, ⟨nd, rfl⟩⟩; (try first | exact ⟨rfl, _, World.drewN_drewN _ _ _⟩ | exact ⟨rfl, _, Eq.trans (World.drewN_drewN _ _ _) (congrArg (World.drewN _) (Nat.add_assoc _ _ _))⟩); have p294 : 0 ≤ ((ji68) : Int) := asm; have q294 : (ji68) < ((rd_L1 t260 x59_2).length : Int) := asm; obtain ⟨ad294, e294, hx294_0⟩ := Kd.at_int (by repeat (first | (with_reducible exact HR272_0.out) | (with_reducible refine Kd.C_alloc ?_ _) | (with_reducible refine Kd.C_drewN ?_ _) | (with_reducible refine Kd.C_drew ?_) | exact HR272_0.out)) (ji68) p294 q294; cases e294; replace p294 := eq_true p294; replace q294 := eq_true q294)); try go_wp2_with (first | (go_at_call 20; (with_reducible refine (laws_has.calls k5 _ _ x10_4 (rd ((rd_T38 t257 x59_2).f0) x135_5) true _ ?side1 ?side2 A64.out).mono ?_); (case side1 => exact ck (Kd.R_reads' HO_10.out).2.2); (case side2 => exact (Kd.R_reads' HO_10.out).2.1); rintro e w' ⟨rfl, ⟨nd, rfl⟩⟩; (try first | exact ⟨rfl, _, World.drewN_drewN _ _ _⟩ | exact ⟨rfl, _, Eq.trans (World.drewN_drewN _ _ _) (congrArg (World.drewN _) (Nat.add_assoc _ _ _))⟩); have p294 : 0 ≤ ((ji68) : Int) := asm; have q294 : (ji68) < ((rd_L1 t260 x59_2).length : Int) := asm; obtain ⟨ad294, e294, hx294_0⟩ := Kd.at_int (by repeat (first | (with_reducible exact HR272_0.out) | (with_reducible refine Kd.C_alloc ?_ _) | (with_reducible refine Kd.C_drewN ?_ _) | (with_reducible refine Kd.C_drew ?_) | exact HR272_0.out)) (ji68) p294 q294; cases e294; replace p294 := eq_true p294; replace q294 := eq_true q294)))
                                                                      go_roundg k5
                                                                      case measure => have := HJ5.out; have := HK2.out; have := HJ28.out; have := HK4.out; have := HK5.out; omega
                                                                      case rel => exact ⟨(wrap64 (x135_5 + 1)), (es), H', ⟨by have := HJ5.out; have := HK2.out; have := HJ28.out; have := HK4.out; have := HK5.out; omega⟩, ⟨by (with_reducible repeat (first | apply Kd.N_alloc | apply Kd.N_drewN | apply Kd.N_drew)); exact HO_4.out⟩, ⟨rk HO_7.out⟩, ⟨rk HO_10.out⟩, ⟨by (with_reducible repeat (first | apply Kd.N_alloc | apply Kd.N_drewN | apply Kd.N_drew)); exact HO_57.out⟩, ⟨ck HR272_0.out⟩, ⟨ck HR289_0.out⟩, ⟨by (with_reducible repeat (first | apply Kd.V_alloc | apply Kd.V_drewN | apply Kd.V_drew)); first | exact HL272_0.out | exact Kd.V_mono HL272_0.out (fun _ hk => hk.1) | exact Kd.V_mono HL272_0.out (fun _ hk => ⟨hk.1.1, ⟨hk.1.2, hk.2⟩⟩)⟩, ⟨bel⟩⟩
                                                                  · rw [if_neg c70] at H
                                                                    exact absurd H (by simp)
                                                                · rw [if_neg c69] at H
                                                                  exact absurd H (by simp)
                                                              · rw [if_neg c67] at H
                                                                exact absurd H (by simp)
                                                            · rw [if_neg c66] at H
                                                              exact absurd H (by simp)
                                                          · replace c65 := Bool.eq_false_iff.mpr c65
                                                            subst c65
                                                            have H1 : (some false) = some r := by rw [if_neg (show ¬ (false = true) by decide)] at H; exact H
                                                            clear H
                                                            have H := H1
                                                            clear H1
                                                            obtain rfl := Option.some.inj H
                                                            have p290 : 0 ≤ (x135_5 : Int) := asm
                                                            have q290 : x135_5 < (((rd_T38 t257 x59_2).f0).length : Int) := asm
                                                            obtain ⟨ad290, e290, hx290_0⟩ := Kd.at_int HR289_0.out x135_5 p290 q290
                                                            cases e290
                                                            replace p290 := eq_true p290
                                                            replace q290 := eq_true q290
                                                            obtain ⟨Ao74, co74, eo74⟩ := Kd.R_slice HO_10.out
                                                            subst eo74
                                                            go_wp2_with (first | (go_at_call 20; (with_reducible refine (laws_has.calls k5 _ _ x10_4 (rd ((rd_T38 t257 x59_2).f0) x135_5) false _ ?side1 ?side2 A64.out).mono ?_); (case side1 => exact ck (Kd.R_reads' HO_10.out).2.2); (case side2 => exact (Kd.R_reads' HO_10.out).2.1); rintro e w' ⟨rfl, ⟨nd, rfl⟩⟩; (try first | exact ⟨rfl, _, World.drewN_drewN _ _ _⟩ | exact ⟨rfl, _, Eq.trans (World.drewN_drewN _ _ _) (congrArg (World.drewN _) (Nat.add_assoc _ _ _))⟩)))
                                                            repeat (go_quiet (first | (go_at_call 20; (with_reducible refine (laws_has.calls k5 _ _ x10_4 (rd ((rd_T38 t257 x59_2).f0) x135_5) false _ ?side1 ?side2 A64.out).mono ?_); (case side1 => exact ck (Kd.R_reads' HO_10.out).2.2); (case side2 => exact (Kd.R_reads' HO_10.out).2.1); rintro e w' ⟨rfl, ⟨nd, rfl⟩⟩; (try first | exact ⟨rfl, _, World.drewN_drewN _ _ _⟩ | exact ⟨rfl, _, Eq.trans (World.drewN_drewN _ _ _) (congrArg (World.drewN _) (Nat.add_assoc _ _ _))⟩))); try go_wp2_with (first | (go_at_call 20; (with_reducible refine (laws_has.calls k5 _ _ x10_4 (rd ((rd_T38 t257 x59_2).f0) x135_5) false _ ?side1 ?side2 A64.out).mono ?_); (case side1 => exact ck (Kd.R_reads' HO_10.out).2.2); (case side2 => exact (Kd.R_reads' HO_10.out).2.1); rintro e w' ⟨rfl, ⟨nd, rfl⟩⟩; (try first | exact ⟨rfl, _, World.drewN_drewN _ _ _⟩ | exact ⟨rfl, _, Eq.trans (World.drewN_drewN _ _ _) (congrArg (World.drewN _) (Nat.add_assoc _ _ _))⟩))))
                                                            go_ret
                                                            exact ⟨er, bel⟩
                                                        · rw [if_neg c63] at H
                                                          exact absurd H (by simp)
                                                      · rw [if_neg c62] at H
                                                        exact absurd H (by simp)
                                                    · rw [if_neg c61] at H
                                                      have c61b0 : decide (x135_5 < (((rd_T38 t257 x59_2).f0).length : Int)) = false := decide_eq_false c61
                                                      clear c61
                                                      have H' := Aside0.mk H
                                                      clear H
                                                      go_wp2
                                                      repeat (go_quiet (fail); try go_wp2)
                                                      go_roundg k5
                                                      case measure => have := HJ5.out; have := HK2.out; have := HJ28.out; have := HK4.out; have := HK5.out; omega
                                                      case rel => exact ⟨((wrap64 (x8_2 + ((rd_L1 t260 x59_2).length : Int)))), ((wrap64 (x9_2 + ((rd_T38 t257 x59_2).f1)))), (x10_4), (wrap64 (x59_2 + 1)), (es), (es), (es), H', ⟨by have := HJ5.out; have := HK2.out; have := HJ28.out; have := HK4.out; have := HK5.out; omega⟩, ⟨by (with_reducible repeat (first | apply Kd.N_alloc | apply Kd.N_drewN | apply Kd.N_drew)); exact HO_4.out⟩, ⟨rk HO_7.out⟩, ⟨rk HO_10.out⟩, ⟨by (with_reducible repeat (first | apply Kd.N_alloc | apply Kd.N_drewN | apply Kd.N_drew)); exact HO_57.out⟩, ⟨bel⟩⟩
                                              · rw [if_neg c60] at H
                                                exact absurd H (by simp)
                                            · rw [if_neg c59] at H
                                              exact absurd H (by simp)
                                          · rw [if_neg c58] at H
                                            have c58b0 : decide (0 < ((rd_L1 t260 x59_2).length : Int)) = false := decide_eq_false c58
                                            have c58b1 : decide (0 < (rd_L1 t260 x59_2).length) = false := decide_eq_false (by omega)
                                            clear c58
                                            have H' := Aside0.mk H
                                            clear H
                                            go_wp2
                                            repeat (go_quiet (fail); try go_wp2)
                                            go_roundg k4
                                            case measure => have := HJ5.out; have := HK2.out; have := HJ28.out; have := HK4.out; omega
                                            case rel => exact ⟨((wrap64 (x8_2 + ((rd_L1 t260 x59_2).length : Int)))), ((wrap64 (x9_2 + ((rd_T38 t257 x59_2).f1)))), (x10_4), (wrap64 (x59_2 + 1)), (es), (es), (es), H', ⟨by have := HJ5.out; have := HK2.out; have := HJ28.out; have := HK4.out; omega⟩, ⟨by (with_reducible repeat (first | apply Kd.N_alloc | apply Kd.N_drewN | apply Kd.N_drew)); exact HO_4.out⟩, ⟨rk HO_7.out⟩, ⟨rk HO_10.out⟩, ⟨by (with_reducible repeat (first | apply Kd.N_alloc | apply Kd.N_drewN | apply Kd.N_drew)); exact HO_57.out⟩, ⟨bel⟩⟩
                                        · rw [if_neg c57] at H
                                          exact absurd H (by simp)
                                      · rw [if_neg c56] at H
                                        exact absurd H (by simp)
                              · rw [if_neg c36] at H
                                exact absurd H (by simp)
                            · rw [if_neg c35] at H
                              exact absurd H (by simp)
                    · rw [if_neg c28] at H
                      exact absurd H (by simp)
                  · rw [if_neg c27] at H
                    exact absurd H (by simp)
                · rw [if_neg c26] at H
                  exact absurd H (by simp)
              · rw [if_neg c25] at H
                have c25b0 : decide (x59_2 < (t260.length : Int)) = false := decide_eq_false c25
                clear c25
                replace H := Option.bind_eq_some_iff.mp H
                obtain ⟨t271, A750, H⟩ := H
                replace H : (some ((wrap64 (x8_2 + t271)) == x9_2)) = some r := H
                have A75 := Aside0.mk A750
                clear A750
                obtain rfl := Option.some.inj H
                go_wp2_with (first | (go_at_call 22; (with_reducible refine (impl_LostPlaces.calls k2 t256 _ _ t257 t271 _ ?side1 ?side2 A75.out).mono ?_); (case side1 => repeat (first | exact (Kd.N_reads' HO_4.out).2.2 | (with_reducible refine Kd.C_alloc ?_ _) | (with_reducible refine Kd.C_drewN ?_ _) | (with_reducible refine Kd.C_drew ?_))); (case side2 => exact (Kd.N_reads' HO_4.out).2.1); rintro e w76 ⟨rfl, hb⟩; replace HO_4 := Aside0.mk (Kd.N_below (by (with_reducible repeat (first | apply Kd.N_alloc | apply Kd.N_drewN | apply Kd.N_drew)); exact HO_4.out) hb); replace HO_7 := Aside0.mk (Kd.R_below (rk HO_7.out) hb); replace HO_10 := Aside0.mk (Kd.R_below (rk HO_10.out) hb); replace HO_57 := Aside0.mk (Kd.N_below (by (with_reducible repeat (first | apply Kd.N_alloc | apply Kd.N_drewN | apply Kd.N_drew)); exact HO_57.out) hb); replace HB := Aside0.mk (below_step bel hb); (try clear hb); (try clear hb2); (try clear hk); (try clear hi)))
                repeat (go_quiet (first | (go_at_call 22; (with_reducible refine (impl_LostPlaces.calls k2 t256 _ _ t257 t271 _ ?side1 ?side2 A75.out).mono ?_); (case side1 => repeat (first | exact (Kd.N_reads' HO_4.out).2.2 | (with_reducible refine Kd.C_alloc ?_ _) | (with_reducible refine Kd.C_drewN ?_ _) | (with_reducible refine Kd.C_drew ?_))); (case side2 => exact (Kd.N_reads' HO_4.out).2.1); rintro e w76 ⟨rfl, hb⟩; replace HO_4 := Aside0.mk (Kd.N_below (by (with_reducible repeat (first | apply Kd.N_alloc | apply Kd.N_drewN | apply Kd.N_drew)); exact HO_4.out) hb); replace HO_7 := Aside0.mk (Kd.R_below (rk HO_7.out) hb); replace HO_10 := Aside0.mk (Kd.R_below (rk HO_10.out) hb); replace HO_57 := Aside0.mk (Kd.N_below (by (with_reducible repeat (first | apply Kd.N_alloc | apply Kd.N_drewN | apply Kd.N_drew)); exact HO_57.out) hb); replace HB := Aside0.mk (below_step bel hb); (try clear hb); (try clear hb2); (try clear hk); (try clear hi))); try go_wp2_with (first | (go_at_call 22; (with_reducible refine (impl_LostPlaces.calls k2 t256 _ _ t257 t271 _ ?side1 ?side2 A75.out).mono ?_); (case side1 => repeat (first | exact (Kd.N_reads' HO_4.out).2.2 | (with_reducible refine Kd.C_alloc ?_ _) | (with_reducible refine Kd.C_drewN ?_ _) | (with_reducible refine Kd.C_drew ?_))); (case side2 => exact (Kd.N_reads' HO_4.out).2.1); rintro e w76 ⟨rfl, hb⟩; replace HO_4 := Aside0.mk (Kd.N_below (by (with_reducible repeat (first | apply Kd.N_alloc | apply Kd.N_drewN | apply Kd.N_drew)); exact HO_4.out) hb); replace HO_7 := Aside0.mk (Kd.R_below (rk HO_7.out) hb); replace HO_10 := Aside0.mk (Kd.R_below (rk HO_10.out) hb); replace HO_57 := Aside0.mk (Kd.N_below (by (with_reducible repeat (first | apply Kd.N_alloc | apply Kd.N_drewN | apply Kd.N_drew)); exact HO_57.out) hb); replace HB := Aside0.mk (below_step bel hb); (try clear hb); (try clear hb2); (try clear hk); (try clear hi))))
                go_ret
                exact ⟨er, bel⟩

end Go.Proofs.Ytaopcamaceddnaa.Z
