-- Written by a program of this session (wip/xp.py, over the kit's print) out of the translation: functions, and the walks that show them.
import Derived.Test.YtmpealaejigbfaaX0
import Derived.Test.YtmpealaejigbfaaX4
import Derived.Test.YtmpealaejigbfaaX8
import Derived.Test.YtmpealaejigbfaaX11
import Derived.Test.YtmpealaejigbfaaX14
import Derived.Test.YtmpealaejigbfaaX20
namespace Go.Proofs.Ytmpealaejigbfaa.X
open Go.RowKit Go.Proofs.YtmpealaejigbfaaW.PrintWords Go.Proofs.YtmpealaejigbfaaW.PrintLast Go.Proofs.YtmpealaejigbfaaW.PrintMore
attribute [local go_sem] max2_int min2_int max_two min_two max_three min_three max_four min_four   -- for this text's walks alone
set_option linter.unusedVariables false
set_option linter.unusedSimpArgs false

/-! ### laws_FnExactSameBooks: function 6 -/
def laws_FnExactSameBooks.f (k : Nat) (l0_0 : List (S90)) (a0_1 : Int) (a0_2 : Int) (a0_3 : Int) (l0_4 : List Int) (a0_5 : Bool) (l0_6 : List (S40)) (l0_7 : List Int) (l0_8 : List Int) (l1_0 : List (S90)) (a1_1 : Int) (a1_2 : Int) (a1_3 : Int) (l1_4 : List Int) (a1_5 : Bool) (l1_6 : List (S40)) (l1_7 : List Int) (l1_8 : List Int) : Option (Bool) := (laws_szBook.f k l0_0 a0_1 a0_2 a0_3 l0_4 a0_5 l0_6 l0_7 l0_8 1048576).bind fun t236 => (if t236 < 0 then (some true) else ((laws_szBook.f k l1_0 a1_1 a1_2 a1_3 l1_4 a1_5 l1_6 l1_7 l1_8 t236).bind fun t237 => (if t237 < 0 then (some true) else ((laws_toBook.f k l0_0 a0_1 a0_2 a0_3 l0_4 a0_5 l0_6 l0_7 l0_8).bind fun bt238 => ((laws_toBook.f k l1_0 a1_1 a1_2 a1_3 l1_4 a1_5 l1_6 l1_7 l1_8).bind fun bt257 => ((spec_SameBooks.f k bt238.1 bt238.2.1 bt238.2.2.1 bt238.2.2.2.1 bt238.2.2.2.2.1 bt238.2.2.2.2.2.1 bt238.2.2.2.2.2.2.1 bt238.2.2.2.2.2.2.2.1 bt238.2.2.2.2.2.2.2.2 bt257.1 bt257.2.1 bt257.2.2.1 bt257.2.2.2.1 bt257.2.2.2.2.1 bt257.2.2.2.2.2.1 bt257.2.2.2.2.2.2.1 bt257.2.2.2.2.2.2.2.1 bt257.2.2.2.2.2.2.2.2).bind fun t276 => ((laws_toBook.f k l0_0 a0_1 a0_2 a0_3 l0_4 a0_5 l0_6 l0_7 l0_8).bind fun bt277 => ((laws_toBook.f k l1_0 a1_1 a1_2 a1_3 l1_4 a1_5 l1_6 l1_7 l1_8).bind fun bt297 => ((impl_SameBooks.f k bt277.1 bt277.2.1 bt277.2.2.1 bt277.2.2.2.1 bt277.2.2.2.2.1 bt277.2.2.2.2.2.1 bt277.2.2.2.2.2.2.1 bt277.2.2.2.2.2.2.2.1 bt277.2.2.2.2.2.2.2.2 bt297.1 bt297.2.1 bt297.2.2.1 bt297.2.2.2.1 bt297.2.2.2.2.1 bt297.2.2.2.2.2.1 bt297.2.2.2.2.2.2.1 bt297.2.2.2.2.2.2.2.1 bt297.2.2.2.2.2.2.2.2).bind fun t317 => (if (t317 != t276) = true then (some false) else ((laws_toBook.f k l0_0 a0_1 a0_2 a0_3 l0_4 a0_5 l0_6 l0_7 l0_8).bind fun bt318 => ((laws_eqBook.f k bt277.1 bt277.2.1 bt277.2.2.1 bt277.2.2.2.1 bt277.2.2.2.2.1 bt277.2.2.2.2.2.1 bt277.2.2.2.2.2.2.1 bt277.2.2.2.2.2.2.2.1 bt277.2.2.2.2.2.2.2.2 bt318.1 bt318.2.1 bt318.2.2.1 bt318.2.2.2.1 bt318.2.2.2.2.1 bt318.2.2.2.2.2.1 bt318.2.2.2.2.2.2.1 bt318.2.2.2.2.2.2.2.1 bt318.2.2.2.2.2.2.2.2).bind fun t337 => (if t337 = true then ((laws_toBook.f k l1_0 a1_1 a1_2 a1_3 l1_4 a1_5 l1_6 l1_7 l1_8).bind fun bt338 => ((laws_eqBook.f k bt297.1 bt297.2.1 bt297.2.2.1 bt297.2.2.2.1 bt297.2.2.2.2.1 bt297.2.2.2.2.2.1 bt297.2.2.2.2.2.2.1 bt297.2.2.2.2.2.2.2.1 bt297.2.2.2.2.2.2.2.2 bt338.1 bt338.2.1 bt338.2.2.1 bt338.2.2.2.1 bt338.2.2.2.2.1 bt338.2.2.2.2.2.1 bt338.2.2.2.2.2.2.1 bt338.2.2.2.2.2.2.2.1 bt338.2.2.2.2.2.2.2.2).bind fun t357 => (if t357 = true then (some true) else (some false)))) else (some false))))))))))))))
theorem laws_FnExactSameBooks.mono : ∀ a0 a1 a2 a3 a4 a5 a6 a7 a8 a9 a10 a11 a12 a13 a14 a15 a16 a17 k, LeO (laws_FnExactSameBooks.f k a0 a1 a2 a3 a4 a5 a6 a7 a8 a9 a10 a11 a12 a13 a14 a15 a16 a17) (laws_FnExactSameBooks.f (k + 1) a0 a1 a2 a3 a4 a5 a6 a7 a8 a9 a10 a11 a12 a13 a14 a15 a16 a17) := by
  intro a0 a1 a2 a3 a4 a5 a6 a7 a8 a9 a10 a11 a12 a13 a14 a15 a16 a17 k
  unfold laws_FnExactSameBooks.f
  repeat' first
      | (with_reducible exact impl_SameBooks.mono _ _ _ _ _ _ _ _ _ _ _ _ _ _ _ _ _ _ _)
      | (with_reducible exact laws_eqBook.mono _ _ _ _ _ _ _ _ _ _ _ _ _ _ _ _ _ _ _)
      | (with_reducible exact laws_szBook.mono _ _ _ _ _ _ _ _ _ _ _)
      | (with_reducible exact laws_toBook.mono _ _ _ _ _ _ _ _ _ _)
      | (with_reducible exact spec_SameBooks.mono _ _ _ _ _ _ _ _ _ _ _ _ _ _ _ _ _ _ _)
      | (with_reducible exact LeO.refl _)
      | (with_reducible exact LeO.none _)
      | (with_reducible refine LeO.ite ?_ ?_)
      | (with_reducible refine LeO.bind ?_ (fun _ => ?_))
      | exact impl_SameBooks.mono _ _ _ _ _ _ _ _ _ _ _ _ _ _ _ _ _ _ _
      | exact laws_eqBook.mono _ _ _ _ _ _ _ _ _ _ _ _ _ _ _ _ _ _ _
      | exact laws_szBook.mono _ _ _ _ _ _ _ _ _ _ _
      | exact laws_toBook.mono _ _ _ _ _ _ _ _ _ _
      | exact spec_SameBooks.mono _ _ _ _ _ _ _ _ _ _ _ _ _ _ _ _ _ _ _
      | exact LeO.none _
      | refine LeO.ite ?_ ?_
      | refine LeO.bind ?_ (fun _ => ?_)
set_option maxHeartbeats 8000000 in
set_option maxRecDepth 100000 in
theorem laws_FnExactSameBooks.calls (k : Nat) (A0_0 : Option Addr) (c0_0 : Nat) (l0_0 : List (S90)) (a0_1 : Int) (a0_2 : Int) (a0_3 : Int) (A0_4 : Option Addr) (c0_4 : Nat) (l0_4 : List Int) (a0_5 : Bool) (A0_6 : Option Addr) (c0_6 : Nat) (l0_6 : List (S40)) (A0_7 : Option Addr) (c0_7 : Nat) (l0_7 : List Int) (A0_8 : Option Addr) (c0_8 : Nat) (l0_8 : List Int) (A1_0 : Option Addr) (c1_0 : Nat) (l1_0 : List (S90)) (a1_1 : Int) (a1_2 : Int) (a1_3 : Int) (A1_4 : Option Addr) (c1_4 : Nat) (l1_4 : List Int) (a1_5 : Bool) (A1_6 : Option Addr) (c1_6 : Nat) (l1_6 : List (S40)) (A1_7 : Option Addr) (c1_7 : Nat) (l1_7 : List Int) (A1_8 : Option Addr) (c1_8 : Nat) (l1_8 : List Int) (r : Bool) (w : World) (hr0_0 : Kd.C k90 w A0_0 l0_0.length l0_0) (hc0_0 : l0_0.length ≤ c0_0) (hr0_4 : Kd.C (Kd.int .i64) w A0_4 l0_4.length l0_4) (hc0_4 : l0_4.length ≤ c0_4) (hr0_6 : Kd.C k40 w A0_6 l0_6.length l0_6) (hc0_6 : l0_6.length ≤ c0_6) (hr0_7 : Kd.C (Kd.int .i64) w A0_7 l0_7.length l0_7) (hc0_7 : l0_7.length ≤ c0_7) (hr0_8 : Kd.C (Kd.int .i64) w A0_8 l0_8.length l0_8) (hc0_8 : l0_8.length ≤ c0_8) (hr1_0 : Kd.C k90 w A1_0 l1_0.length l1_0) (hc1_0 : l1_0.length ≤ c1_0) (hr1_4 : Kd.C (Kd.int .i64) w A1_4 l1_4.length l1_4) (hc1_4 : l1_4.length ≤ c1_4) (hr1_6 : Kd.C k40 w A1_6 l1_6.length l1_6) (hc1_6 : l1_6.length ≤ c1_6) (hr1_7 : Kd.C (Kd.int .i64) w A1_7 l1_7.length l1_7) (hc1_7 : l1_7.length ≤ c1_7) (hr1_8 : Kd.C (Kd.int .i64) w A1_8 l1_8.length l1_8) (hc1_8 : l1_8.length ≤ c1_8) (h : laws_FnExactSameBooks.f k l0_0 a0_1 a0_2 a0_3 l0_4 a0_5 l0_6 l0_7 l0_8 l1_0 a1_1 a1_2 a1_3 l1_4 a1_5 l1_6 l1_7 l1_8 = some r) :
    Calls Try.prog 6 #[.agg #[.slice A0_0 l0_0.length c0_0, .int .i64 a0_1, .int .i64 a0_2, .int .i64 a0_3, .slice A0_4 l0_4.length c0_4, .bool a0_5, .slice A0_6 l0_6.length c0_6, .slice A0_7 l0_7.length c0_7, .slice A0_8 l0_8.length c0_8], .agg #[.slice A1_0 l1_0.length c1_0, .int .i64 a1_1, .int .i64 a1_2, .int .i64 a1_3, .slice A1_4 l1_4.length c1_4, .bool a1_5, .slice A1_6 l1_6.length c1_6, .slice A1_7 l1_7.length c1_7, .slice A1_8 l1_8.length c1_8]] w fun e w' => e = .returned (.bool r) ∧ Below w.heap.size w w' := by
  have hu59 := Try.underlying59
  have hu65 := Try.underlying65
  have HR0_0 := am hr0_0
  have HC0_0 := am hc0_0
  clear hr0_0 hc0_0
  have HR0_4 := am hr0_4
  have HC0_4 := am hc0_4
  clear hr0_4 hc0_4
  have HR0_6 := am hr0_6
  have HC0_6 := am hc0_6
  clear hr0_6 hc0_6
  have HR0_7 := am hr0_7
  have HC0_7 := am hc0_7
  clear hr0_7 hc0_7
  have HR0_8 := am hr0_8
  have HC0_8 := am hc0_8
  clear hr0_8 hc0_8
  have HR1_0 := am hr1_0
  have HC1_0 := am hc1_0
  clear hr1_0 hc1_0
  have HR1_4 := am hr1_4
  have HC1_4 := am hc1_4
  clear hr1_4 hc1_4
  have HR1_6 := am hr1_6
  have HC1_6 := am hc1_6
  clear hr1_6 hc1_6
  have HR1_7 := am hr1_7
  have HC1_7 := am hc1_7
  clear hr1_7 hc1_7
  have HR1_8 := am hr1_8
  have HC1_8 := am hc1_8
  clear hr1_8 hc1_8
  have HB := am (Below.refl w.heap.size w)
  have H : ((laws_szBook.f k l0_0 a0_1 a0_2 a0_3 l0_4 a0_5 l0_6 l0_7 l0_8 1048576).bind fun t236 => (if t236 < 0 then (some true) else ((laws_szBook.f k l1_0 a1_1 a1_2 a1_3 l1_4 a1_5 l1_6 l1_7 l1_8 t236).bind fun t237 => (if t237 < 0 then (some true) else ((laws_toBook.f k l0_0 a0_1 a0_2 a0_3 l0_4 a0_5 l0_6 l0_7 l0_8).bind fun bt238 => ((laws_toBook.f k l1_0 a1_1 a1_2 a1_3 l1_4 a1_5 l1_6 l1_7 l1_8).bind fun bt257 => ((spec_SameBooks.f k bt238.1 bt238.2.1 bt238.2.2.1 bt238.2.2.2.1 bt238.2.2.2.2.1 bt238.2.2.2.2.2.1 bt238.2.2.2.2.2.2.1 bt238.2.2.2.2.2.2.2.1 bt238.2.2.2.2.2.2.2.2 bt257.1 bt257.2.1 bt257.2.2.1 bt257.2.2.2.1 bt257.2.2.2.2.1 bt257.2.2.2.2.2.1 bt257.2.2.2.2.2.2.1 bt257.2.2.2.2.2.2.2.1 bt257.2.2.2.2.2.2.2.2).bind fun t276 => ((laws_toBook.f k l0_0 a0_1 a0_2 a0_3 l0_4 a0_5 l0_6 l0_7 l0_8).bind fun bt277 => ((laws_toBook.f k l1_0 a1_1 a1_2 a1_3 l1_4 a1_5 l1_6 l1_7 l1_8).bind fun bt297 => ((impl_SameBooks.f k bt277.1 bt277.2.1 bt277.2.2.1 bt277.2.2.2.1 bt277.2.2.2.2.1 bt277.2.2.2.2.2.1 bt277.2.2.2.2.2.2.1 bt277.2.2.2.2.2.2.2.1 bt277.2.2.2.2.2.2.2.2 bt297.1 bt297.2.1 bt297.2.2.1 bt297.2.2.2.1 bt297.2.2.2.2.1 bt297.2.2.2.2.2.1 bt297.2.2.2.2.2.2.1 bt297.2.2.2.2.2.2.2.1 bt297.2.2.2.2.2.2.2.2).bind fun t317 => (if (t317 != t276) = true then (some false) else ((laws_toBook.f k l0_0 a0_1 a0_2 a0_3 l0_4 a0_5 l0_6 l0_7 l0_8).bind fun bt318 => ((laws_eqBook.f k bt277.1 bt277.2.1 bt277.2.2.1 bt277.2.2.2.1 bt277.2.2.2.2.1 bt277.2.2.2.2.2.1 bt277.2.2.2.2.2.2.1 bt277.2.2.2.2.2.2.2.1 bt277.2.2.2.2.2.2.2.2 bt318.1 bt318.2.1 bt318.2.2.1 bt318.2.2.2.1 bt318.2.2.2.2.1 bt318.2.2.2.2.2.1 bt318.2.2.2.2.2.2.1 bt318.2.2.2.2.2.2.2.1 bt318.2.2.2.2.2.2.2.2).bind fun t337 => (if t337 = true then ((laws_toBook.f k l1_0 a1_1 a1_2 a1_3 l1_4 a1_5 l1_6 l1_7 l1_8).bind fun bt338 => ((laws_eqBook.f k bt297.1 bt297.2.1 bt297.2.2.1 bt297.2.2.2.1 bt297.2.2.2.2.1 bt297.2.2.2.2.2.1 bt297.2.2.2.2.2.2.1 bt297.2.2.2.2.2.2.2.1 bt297.2.2.2.2.2.2.2.2 bt338.1 bt338.2.1 bt338.2.2.1 bt338.2.2.2.1 bt338.2.2.2.2.1 bt338.2.2.2.2.2.1 bt338.2.2.2.2.2.2.1 bt338.2.2.2.2.2.2.2.1 bt338.2.2.2.2.2.2.2.2).bind fun t357 => (if t357 = true then (some true) else (some false)))) else (some false))))))))))))))) = some r := h
  clear h
  replace H := Option.bind_eq_some_iff.mp H
  obtain ⟨t236, A30, H⟩ := H
  replace H : (if t236 < 0 then (some true) else ((laws_szBook.f k l1_0 a1_1 a1_2 a1_3 l1_4 a1_5 l1_6 l1_7 l1_8 t236).bind fun t237 => (if t237 < 0 then (some true) else ((laws_toBook.f k l0_0 a0_1 a0_2 a0_3 l0_4 a0_5 l0_6 l0_7 l0_8).bind fun bt238 => ((laws_toBook.f k l1_0 a1_1 a1_2 a1_3 l1_4 a1_5 l1_6 l1_7 l1_8).bind fun bt257 => ((spec_SameBooks.f k bt238.1 bt238.2.1 bt238.2.2.1 bt238.2.2.2.1 bt238.2.2.2.2.1 bt238.2.2.2.2.2.1 bt238.2.2.2.2.2.2.1 bt238.2.2.2.2.2.2.2.1 bt238.2.2.2.2.2.2.2.2 bt257.1 bt257.2.1 bt257.2.2.1 bt257.2.2.2.1 bt257.2.2.2.2.1 bt257.2.2.2.2.2.1 bt257.2.2.2.2.2.2.1 bt257.2.2.2.2.2.2.2.1 bt257.2.2.2.2.2.2.2.2).bind fun t276 => ((laws_toBook.f k l0_0 a0_1 a0_2 a0_3 l0_4 a0_5 l0_6 l0_7 l0_8).bind fun bt277 => ((laws_toBook.f k l1_0 a1_1 a1_2 a1_3 l1_4 a1_5 l1_6 l1_7 l1_8).bind fun bt297 => ((impl_SameBooks.f k bt277.1 bt277.2.1 bt277.2.2.1 bt277.2.2.2.1 bt277.2.2.2.2.1 bt277.2.2.2.2.2.1 bt277.2.2.2.2.2.2.1 bt277.2.2.2.2.2.2.2.1 bt277.2.2.2.2.2.2.2.2 bt297.1 bt297.2.1 bt297.2.2.1 bt297.2.2.2.1 bt297.2.2.2.2.1 bt297.2.2.2.2.2.1 bt297.2.2.2.2.2.2.1 bt297.2.2.2.2.2.2.2.1 bt297.2.2.2.2.2.2.2.2).bind fun t317 => (if (t317 != t276) = true then (some false) else ((laws_toBook.f k l0_0 a0_1 a0_2 a0_3 l0_4 a0_5 l0_6 l0_7 l0_8).bind fun bt318 => ((laws_eqBook.f k bt277.1 bt277.2.1 bt277.2.2.1 bt277.2.2.2.1 bt277.2.2.2.2.1 bt277.2.2.2.2.2.1 bt277.2.2.2.2.2.2.1 bt277.2.2.2.2.2.2.2.1 bt277.2.2.2.2.2.2.2.2 bt318.1 bt318.2.1 bt318.2.2.1 bt318.2.2.2.1 bt318.2.2.2.2.1 bt318.2.2.2.2.2.1 bt318.2.2.2.2.2.2.1 bt318.2.2.2.2.2.2.2.1 bt318.2.2.2.2.2.2.2.2).bind fun t337 => (if t337 = true then ((laws_toBook.f k l1_0 a1_1 a1_2 a1_3 l1_4 a1_5 l1_6 l1_7 l1_8).bind fun bt338 => ((laws_eqBook.f k bt297.1 bt297.2.1 bt297.2.2.1 bt297.2.2.2.1 bt297.2.2.2.2.1 bt297.2.2.2.2.2.1 bt297.2.2.2.2.2.2.1 bt297.2.2.2.2.2.2.2.1 bt297.2.2.2.2.2.2.2.2 bt338.1 bt338.2.1 bt338.2.2.1 bt338.2.2.2.1 bt338.2.2.2.2.1 bt338.2.2.2.2.2.1 bt338.2.2.2.2.2.2.1 bt338.2.2.2.2.2.2.2.1 bt338.2.2.2.2.2.2.2.2).bind fun t357 => (if t357 = true then (some true) else (some false)))) else (some false)))))))))))))) = some r := H
  have A3 := am A30
  clear A30
  by_cases c4 : t236 < 0
  · rw [if_pos c4] at H
    have c4b0 : decide (t236 < 0) = true := decide_eq_true c4
    clear c4
    obtain rfl := Option.some.inj H
    go_enter Try.func6, Try.ntmps6
    go_wp2_with (first | ((with_reducible refine gate_dst (N := 2) rfl ?_); refine box_event ?hg (N := 2) ?hd (cs := #[.slice A0_0 l0_0.length c0_0, .int .i64 a0_1, .int .i64 a0_2, .int .i64 a0_3, .slice A0_4 l0_4.length c0_4, .bool a0_5, .slice A0_6 l0_6.length c0_6, .slice A0_7 l0_7.length c0_7, .slice A0_8 l0_8.length c0_8]) (t := 59) ?hr ?_; (case hd => rfl); (case hg => rfl); (case hr => first | (go_simp; done) | (go_simp; rfl)); intro gb234 hg w5 hbox hb; have BK234 := am (hbox); have GW234 := am ((bsz hg : w.heap.size ≤ gb234)); have GE234 := am ((bsz hg : w.heap.size ≤ gb234)); replace HB := am (below_step bel hb); clear hb hbox hg) | ((with_reducible refine gate_dst (N := 3) rfl ?_); refine box_event ?hg (N := 3) ?hd (cs := #[.slice A1_0 l1_0.length c1_0, .int .i64 a1_1, .int .i64 a1_2, .int .i64 a1_3, .slice A1_4 l1_4.length c1_4, .bool a1_5, .slice A1_6 l1_6.length c1_6, .slice A1_7 l1_7.length c1_7, .slice A1_8 l1_8.length c1_8]) (t := 59) ?hr ?_; (case hd => rfl); (case hg => rfl); (case hr => first | (go_simp; done) | (go_simp; rfl)); intro gb235 hg w6 hbox hb; have BK235 := am (hbox); have GW235 := am ((bsz hg : w.heap.size ≤ gb235)); have GE235 := am ((bsz hg : w.heap.size ≤ gb235)); have NB234_235 := am ((nlt hg BK234.out : gb234 ≠ gb235)); have NB235_234 := am ((ngt hg BK234.out : gb235 ≠ gb234)); replace BK234 := am (bb BK234.out hb); replace HB := am (below_step bel hb); clear hb hbox hg; have hnb7 := NB234_235.out; have hnc7 := NB235_234.out; obtain ⟨hcz8_0, hcz8_1, hcz8_2, hcz8_3, hcz8_4, hcz8_5, hcz8_6, hcz8_7, hcz8_8, hfz8_0, hfz8_1, hfz8_2, hfz8_3, hfz8_4, hfz8_5, hfz8_6, hfz8_7, hfz8_8⟩ := cf9 BK234.out) | ((with_reducible refine gate_callee (f := 28) rfl ?_); refine goesL_ (some 12) rfl rfl Try.func28 (by kernel_rfl) rfl #[.agg #[.slice A0_0 l0_0.length c0_0, .int .i64 a0_1, .int .i64 a0_2, .int .i64 a0_3, .slice A0_4 l0_4.length c0_4, .bool a0_5, .slice A0_6 l0_6.length c0_6, .slice A0_7 l0_7.length c0_7, .slice A0_8 l0_8.length c0_8], .int .i64 1048576] rfl ga ?_; (with_reducible refine (laws_szBook.calls k _ _ l0_0 a0_1 a0_2 a0_3 _ _ l0_4 a0_5 _ _ l0_6 _ _ l0_7 _ _ l0_8 1048576 t236 _ ?side1 ?side2 ?side3 ?side4 ?side5 ?side6 ?side7 ?side8 ?side9 ?side10 A3.out).mono ?_); (case side1 => exact ck (Kd.C_below HR0_0.out HB.out)); (case side2 => exact HC0_0.out); (case side3 => exact ck (Kd.C_below HR0_4.out HB.out)); (case side4 => exact HC0_4.out); (case side5 => exact ck (Kd.C_below HR0_6.out HB.out)); (case side6 => exact HC0_6.out); (case side7 => exact ck (Kd.C_below HR0_7.out HB.out)); (case side8 => exact HC0_7.out); (case side9 => exact ck (Kd.C_below HR0_8.out HB.out)); (case side10 => exact HC0_8.out); rintro e w9 ⟨rfl, hb⟩; refine ⟨_, rfl, ?_⟩; replace BK234 := am (bb BK234.out hb); replace BK235 := am (bb BK235.out hb); replace HB := am (below_step bel hb); (try clear hb)))
    go_ret
    exact ⟨er, bel⟩
  · rw [if_neg c4] at H
    have c4b0 : decide (t236 < 0) = false := decide_eq_false c4
    clear c4
    replace H := Option.bind_eq_some_iff.mp H
    obtain ⟨t237, A100, H⟩ := H
    replace H : (if t237 < 0 then (some true) else ((laws_toBook.f k l0_0 a0_1 a0_2 a0_3 l0_4 a0_5 l0_6 l0_7 l0_8).bind fun bt238 => ((laws_toBook.f k l1_0 a1_1 a1_2 a1_3 l1_4 a1_5 l1_6 l1_7 l1_8).bind fun bt257 => ((spec_SameBooks.f k bt238.1 bt238.2.1 bt238.2.2.1 bt238.2.2.2.1 bt238.2.2.2.2.1 bt238.2.2.2.2.2.1 bt238.2.2.2.2.2.2.1 bt238.2.2.2.2.2.2.2.1 bt238.2.2.2.2.2.2.2.2 bt257.1 bt257.2.1 bt257.2.2.1 bt257.2.2.2.1 bt257.2.2.2.2.1 bt257.2.2.2.2.2.1 bt257.2.2.2.2.2.2.1 bt257.2.2.2.2.2.2.2.1 bt257.2.2.2.2.2.2.2.2).bind fun t276 => ((laws_toBook.f k l0_0 a0_1 a0_2 a0_3 l0_4 a0_5 l0_6 l0_7 l0_8).bind fun bt277 => ((laws_toBook.f k l1_0 a1_1 a1_2 a1_3 l1_4 a1_5 l1_6 l1_7 l1_8).bind fun bt297 => ((impl_SameBooks.f k bt277.1 bt277.2.1 bt277.2.2.1 bt277.2.2.2.1 bt277.2.2.2.2.1 bt277.2.2.2.2.2.1 bt277.2.2.2.2.2.2.1 bt277.2.2.2.2.2.2.2.1 bt277.2.2.2.2.2.2.2.2 bt297.1 bt297.2.1 bt297.2.2.1 bt297.2.2.2.1 bt297.2.2.2.2.1 bt297.2.2.2.2.2.1 bt297.2.2.2.2.2.2.1 bt297.2.2.2.2.2.2.2.1 bt297.2.2.2.2.2.2.2.2).bind fun t317 => (if (t317 != t276) = true then (some false) else ((laws_toBook.f k l0_0 a0_1 a0_2 a0_3 l0_4 a0_5 l0_6 l0_7 l0_8).bind fun bt318 => ((laws_eqBook.f k bt277.1 bt277.2.1 bt277.2.2.1 bt277.2.2.2.1 bt277.2.2.2.2.1 bt277.2.2.2.2.2.1 bt277.2.2.2.2.2.2.1 bt277.2.2.2.2.2.2.2.1 bt277.2.2.2.2.2.2.2.2 bt318.1 bt318.2.1 bt318.2.2.1 bt318.2.2.2.1 bt318.2.2.2.2.1 bt318.2.2.2.2.2.1 bt318.2.2.2.2.2.2.1 bt318.2.2.2.2.2.2.2.1 bt318.2.2.2.2.2.2.2.2).bind fun t337 => (if t337 = true then ((laws_toBook.f k l1_0 a1_1 a1_2 a1_3 l1_4 a1_5 l1_6 l1_7 l1_8).bind fun bt338 => ((laws_eqBook.f k bt297.1 bt297.2.1 bt297.2.2.1 bt297.2.2.2.1 bt297.2.2.2.2.1 bt297.2.2.2.2.2.1 bt297.2.2.2.2.2.2.1 bt297.2.2.2.2.2.2.2.1 bt297.2.2.2.2.2.2.2.2 bt338.1 bt338.2.1 bt338.2.2.1 bt338.2.2.2.1 bt338.2.2.2.2.1 bt338.2.2.2.2.2.1 bt338.2.2.2.2.2.2.1 bt338.2.2.2.2.2.2.2.1 bt338.2.2.2.2.2.2.2.2).bind fun t357 => (if t357 = true then (some true) else (some false)))) else (some false)))))))))))) = some r := H
    have A10 := am A100
    clear A100
    by_cases c11 : t237 < 0
    · rw [if_pos c11] at H
      have c11b0 : decide (t237 < 0) = true := decide_eq_true c11
      clear c11
      obtain rfl := Option.some.inj H
      go_enter Try.func6, Try.ntmps6
      go_wp2_with (first | ((with_reducible refine gate_dst (N := 2) rfl ?_); refine box_event ?hg (N := 2) ?hd (cs := #[.slice A0_0 l0_0.length c0_0, .int .i64 a0_1, .int .i64 a0_2, .int .i64 a0_3, .slice A0_4 l0_4.length c0_4, .bool a0_5, .slice A0_6 l0_6.length c0_6, .slice A0_7 l0_7.length c0_7, .slice A0_8 l0_8.length c0_8]) (t := 59) ?hr ?_; (case hd => rfl); (case hg => rfl); (case hr => first | (go_simp; done) | (go_simp; rfl)); intro gb234 hg w12 hbox hb; have BK234 := am (hbox); have GW234 := am ((bsz hg : w.heap.size ≤ gb234)); have GE234 := am ((bsz hg : w.heap.size ≤ gb234)); replace HB := am (below_step bel hb); clear hb hbox hg) | ((with_reducible refine gate_dst (N := 3) rfl ?_); refine box_event ?hg (N := 3) ?hd (cs := #[.slice A1_0 l1_0.length c1_0, .int .i64 a1_1, .int .i64 a1_2, .int .i64 a1_3, .slice A1_4 l1_4.length c1_4, .bool a1_5, .slice A1_6 l1_6.length c1_6, .slice A1_7 l1_7.length c1_7, .slice A1_8 l1_8.length c1_8]) (t := 59) ?hr ?_; (case hd => rfl); (case hg => rfl); (case hr => first | (go_simp; done) | (go_simp; rfl)); intro gb235 hg w13 hbox hb; have BK235 := am (hbox); have GW235 := am ((bsz hg : w.heap.size ≤ gb235)); have GE235 := am ((bsz hg : w.heap.size ≤ gb235)); have NB234_235 := am ((nlt hg BK234.out : gb234 ≠ gb235)); have NB235_234 := am ((ngt hg BK234.out : gb235 ≠ gb234)); replace BK234 := am (bb BK234.out hb); replace HB := am (below_step bel hb); clear hb hbox hg; have hnb14 := NB234_235.out; have hnc14 := NB235_234.out; obtain ⟨hcz15_0, hcz15_1, hcz15_2, hcz15_3, hcz15_4, hcz15_5, hcz15_6, hcz15_7, hcz15_8, hfz15_0, hfz15_1, hfz15_2, hfz15_3, hfz15_4, hfz15_5, hfz15_6, hfz15_7, hfz15_8⟩ := cf9 BK234.out) | ((with_reducible refine gate_callee (f := 28) rfl ?_); refine goesL_ (some 12) rfl rfl Try.func28 (by kernel_rfl) rfl #[.agg #[.slice A0_0 l0_0.length c0_0, .int .i64 a0_1, .int .i64 a0_2, .int .i64 a0_3, .slice A0_4 l0_4.length c0_4, .bool a0_5, .slice A0_6 l0_6.length c0_6, .slice A0_7 l0_7.length c0_7, .slice A0_8 l0_8.length c0_8], .int .i64 1048576] rfl ga ?_; (with_reducible refine (laws_szBook.calls k _ _ l0_0 a0_1 a0_2 a0_3 _ _ l0_4 a0_5 _ _ l0_6 _ _ l0_7 _ _ l0_8 1048576 t236 _ ?side1 ?side2 ?side3 ?side4 ?side5 ?side6 ?side7 ?side8 ?side9 ?side10 A3.out).mono ?_); (case side1 => exact ck (Kd.C_below HR0_0.out HB.out)); (case side2 => exact HC0_0.out); (case side3 => exact ck (Kd.C_below HR0_4.out HB.out)); (case side4 => exact HC0_4.out); (case side5 => exact ck (Kd.C_below HR0_6.out HB.out)); (case side6 => exact HC0_6.out); (case side7 => exact ck (Kd.C_below HR0_7.out HB.out)); (case side8 => exact HC0_7.out); (case side9 => exact ck (Kd.C_below HR0_8.out HB.out)); (case side10 => exact HC0_8.out); rintro e w16 ⟨rfl, hb⟩; refine ⟨_, rfl, ?_⟩; replace BK234 := am (bb BK234.out hb); replace BK235 := am (bb BK235.out hb); replace HB := am (below_step bel hb); (try clear hb); obtain ⟨hcz17_0, hcz17_1, hcz17_2, hcz17_3, hcz17_4, hcz17_5, hcz17_6, hcz17_7, hcz17_8, hfz17_0, hfz17_1, hfz17_2, hfz17_3, hfz17_4, hfz17_5, hfz17_6, hfz17_7, hfz17_8⟩ := cf9 BK235.out) | ((with_reducible refine gate_callee (f := 28) rfl ?_); refine goesL_ (some 17) rfl rfl Try.func28 (by kernel_rfl) rfl #[.agg #[.slice A1_0 l1_0.length c1_0, .int .i64 a1_1, .int .i64 a1_2, .int .i64 a1_3, .slice A1_4 l1_4.length c1_4, .bool a1_5, .slice A1_6 l1_6.length c1_6, .slice A1_7 l1_7.length c1_7, .slice A1_8 l1_8.length c1_8], .int .i64 t236] rfl ga ?_; (with_reducible refine (laws_szBook.calls k _ _ l1_0 a1_1 a1_2 a1_3 _ _ l1_4 a1_5 _ _ l1_6 _ _ l1_7 _ _ l1_8 t236 t237 _ ?side1 ?side2 ?side3 ?side4 ?side5 ?side6 ?side7 ?side8 ?side9 ?side10 A10.out).mono ?_); (case side1 => exact ck (Kd.C_below HR1_0.out HB.out)); (case side2 => exact HC1_0.out); (case side3 => exact ck (Kd.C_below HR1_4.out HB.out)); (case side4 => exact HC1_4.out); (case side5 => exact ck (Kd.C_below HR1_6.out HB.out)); (case side6 => exact HC1_6.out); (case side7 => exact ck (Kd.C_below HR1_7.out HB.out)); (case side8 => exact HC1_7.out); (case side9 => exact ck (Kd.C_below HR1_8.out HB.out)); (case side10 => exact HC1_8.out); rintro e w18 ⟨rfl, hb⟩; refine ⟨_, rfl, ?_⟩; replace BK234 := am (bb BK234.out hb); replace BK235 := am (bb BK235.out hb); replace HB := am (below_step bel hb); (try clear hb)))
      go_ret
      exact ⟨er, bel⟩
    · rw [if_neg c11] at H
      have c11b0 : decide (t237 < 0) = false := decide_eq_false c11
      clear c11
      replace H := Option.bind_eq_some_iff.mp H
      obtain ⟨⟨t238, t241, t242, t243, t244, t247, t248, t251, t254⟩, A190, H⟩ := H
      replace H : ((laws_toBook.f k l1_0 a1_1 a1_2 a1_3 l1_4 a1_5 l1_6 l1_7 l1_8).bind fun bt257 => ((spec_SameBooks.f k t238 t241 t242 t243 t244 t247 t248 t251 t254 bt257.1 bt257.2.1 bt257.2.2.1 bt257.2.2.2.1 bt257.2.2.2.2.1 bt257.2.2.2.2.2.1 bt257.2.2.2.2.2.2.1 bt257.2.2.2.2.2.2.2.1 bt257.2.2.2.2.2.2.2.2).bind fun t276 => ((laws_toBook.f k l0_0 a0_1 a0_2 a0_3 l0_4 a0_5 l0_6 l0_7 l0_8).bind fun bt277 => ((laws_toBook.f k l1_0 a1_1 a1_2 a1_3 l1_4 a1_5 l1_6 l1_7 l1_8).bind fun bt297 => ((impl_SameBooks.f k bt277.1 bt277.2.1 bt277.2.2.1 bt277.2.2.2.1 bt277.2.2.2.2.1 bt277.2.2.2.2.2.1 bt277.2.2.2.2.2.2.1 bt277.2.2.2.2.2.2.2.1 bt277.2.2.2.2.2.2.2.2 bt297.1 bt297.2.1 bt297.2.2.1 bt297.2.2.2.1 bt297.2.2.2.2.1 bt297.2.2.2.2.2.1 bt297.2.2.2.2.2.2.1 bt297.2.2.2.2.2.2.2.1 bt297.2.2.2.2.2.2.2.2).bind fun t317 => (if (t317 != t276) = true then (some false) else ((laws_toBook.f k l0_0 a0_1 a0_2 a0_3 l0_4 a0_5 l0_6 l0_7 l0_8).bind fun bt318 => ((laws_eqBook.f k bt277.1 bt277.2.1 bt277.2.2.1 bt277.2.2.2.1 bt277.2.2.2.2.1 bt277.2.2.2.2.2.1 bt277.2.2.2.2.2.2.1 bt277.2.2.2.2.2.2.2.1 bt277.2.2.2.2.2.2.2.2 bt318.1 bt318.2.1 bt318.2.2.1 bt318.2.2.2.1 bt318.2.2.2.2.1 bt318.2.2.2.2.2.1 bt318.2.2.2.2.2.2.1 bt318.2.2.2.2.2.2.2.1 bt318.2.2.2.2.2.2.2.2).bind fun t337 => (if t337 = true then ((laws_toBook.f k l1_0 a1_1 a1_2 a1_3 l1_4 a1_5 l1_6 l1_7 l1_8).bind fun bt338 => ((laws_eqBook.f k bt297.1 bt297.2.1 bt297.2.2.1 bt297.2.2.2.1 bt297.2.2.2.2.1 bt297.2.2.2.2.2.1 bt297.2.2.2.2.2.2.1 bt297.2.2.2.2.2.2.2.1 bt297.2.2.2.2.2.2.2.2 bt338.1 bt338.2.1 bt338.2.2.1 bt338.2.2.2.1 bt338.2.2.2.2.1 bt338.2.2.2.2.2.1 bt338.2.2.2.2.2.2.1 bt338.2.2.2.2.2.2.2.1 bt338.2.2.2.2.2.2.2.2).bind fun t357 => (if t357 = true then (some true) else (some false)))) else (some false)))))))))) = some r := H
      have A19 := am A190
      clear A190
      replace H := Option.bind_eq_some_iff.mp H
      obtain ⟨⟨t257, t260, t261, t262, t263, t266, t267, t270, t273⟩, A200, H⟩ := H
      replace H : ((spec_SameBooks.f k t238 t241 t242 t243 t244 t247 t248 t251 t254 t257 t260 t261 t262 t263 t266 t267 t270 t273).bind fun t276 => ((laws_toBook.f k l0_0 a0_1 a0_2 a0_3 l0_4 a0_5 l0_6 l0_7 l0_8).bind fun bt277 => ((laws_toBook.f k l1_0 a1_1 a1_2 a1_3 l1_4 a1_5 l1_6 l1_7 l1_8).bind fun bt297 => ((impl_SameBooks.f k bt277.1 bt277.2.1 bt277.2.2.1 bt277.2.2.2.1 bt277.2.2.2.2.1 bt277.2.2.2.2.2.1 bt277.2.2.2.2.2.2.1 bt277.2.2.2.2.2.2.2.1 bt277.2.2.2.2.2.2.2.2 bt297.1 bt297.2.1 bt297.2.2.1 bt297.2.2.2.1 bt297.2.2.2.2.1 bt297.2.2.2.2.2.1 bt297.2.2.2.2.2.2.1 bt297.2.2.2.2.2.2.2.1 bt297.2.2.2.2.2.2.2.2).bind fun t317 => (if (t317 != t276) = true then (some false) else ((laws_toBook.f k l0_0 a0_1 a0_2 a0_3 l0_4 a0_5 l0_6 l0_7 l0_8).bind fun bt318 => ((laws_eqBook.f k bt277.1 bt277.2.1 bt277.2.2.1 bt277.2.2.2.1 bt277.2.2.2.2.1 bt277.2.2.2.2.2.1 bt277.2.2.2.2.2.2.1 bt277.2.2.2.2.2.2.2.1 bt277.2.2.2.2.2.2.2.2 bt318.1 bt318.2.1 bt318.2.2.1 bt318.2.2.2.1 bt318.2.2.2.2.1 bt318.2.2.2.2.2.1 bt318.2.2.2.2.2.2.1 bt318.2.2.2.2.2.2.2.1 bt318.2.2.2.2.2.2.2.2).bind fun t337 => (if t337 = true then ((laws_toBook.f k l1_0 a1_1 a1_2 a1_3 l1_4 a1_5 l1_6 l1_7 l1_8).bind fun bt338 => ((laws_eqBook.f k bt297.1 bt297.2.1 bt297.2.2.1 bt297.2.2.2.1 bt297.2.2.2.2.1 bt297.2.2.2.2.2.1 bt297.2.2.2.2.2.2.1 bt297.2.2.2.2.2.2.2.1 bt297.2.2.2.2.2.2.2.2 bt338.1 bt338.2.1 bt338.2.2.1 bt338.2.2.2.1 bt338.2.2.2.2.1 bt338.2.2.2.2.2.1 bt338.2.2.2.2.2.2.1 bt338.2.2.2.2.2.2.2.1 bt338.2.2.2.2.2.2.2.2).bind fun t357 => (if t357 = true then (some true) else (some false)))) else (some false))))))))) = some r := H
      have A20 := am A200
      clear A200
      replace H := Option.bind_eq_some_iff.mp H
      obtain ⟨t276, A210, H⟩ := H
      replace H : ((laws_toBook.f k l0_0 a0_1 a0_2 a0_3 l0_4 a0_5 l0_6 l0_7 l0_8).bind fun bt277 => ((laws_toBook.f k l1_0 a1_1 a1_2 a1_3 l1_4 a1_5 l1_6 l1_7 l1_8).bind fun bt297 => ((impl_SameBooks.f k bt277.1 bt277.2.1 bt277.2.2.1 bt277.2.2.2.1 bt277.2.2.2.2.1 bt277.2.2.2.2.2.1 bt277.2.2.2.2.2.2.1 bt277.2.2.2.2.2.2.2.1 bt277.2.2.2.2.2.2.2.2 bt297.1 bt297.2.1 bt297.2.2.1 bt297.2.2.2.1 bt297.2.2.2.2.1 bt297.2.2.2.2.2.1 bt297.2.2.2.2.2.2.1 bt297.2.2.2.2.2.2.2.1 bt297.2.2.2.2.2.2.2.2).bind fun t317 => (if (t317 != t276) = true then (some false) else ((laws_toBook.f k l0_0 a0_1 a0_2 a0_3 l0_4 a0_5 l0_6 l0_7 l0_8).bind fun bt318 => ((laws_eqBook.f k bt277.1 bt277.2.1 bt277.2.2.1 bt277.2.2.2.1 bt277.2.2.2.2.1 bt277.2.2.2.2.2.1 bt277.2.2.2.2.2.2.1 bt277.2.2.2.2.2.2.2.1 bt277.2.2.2.2.2.2.2.2 bt318.1 bt318.2.1 bt318.2.2.1 bt318.2.2.2.1 bt318.2.2.2.2.1 bt318.2.2.2.2.2.1 bt318.2.2.2.2.2.2.1 bt318.2.2.2.2.2.2.2.1 bt318.2.2.2.2.2.2.2.2).bind fun t337 => (if t337 = true then ((laws_toBook.f k l1_0 a1_1 a1_2 a1_3 l1_4 a1_5 l1_6 l1_7 l1_8).bind fun bt338 => ((laws_eqBook.f k bt297.1 bt297.2.1 bt297.2.2.1 bt297.2.2.2.1 bt297.2.2.2.2.1 bt297.2.2.2.2.2.1 bt297.2.2.2.2.2.2.1 bt297.2.2.2.2.2.2.2.1 bt297.2.2.2.2.2.2.2.2 bt338.1 bt338.2.1 bt338.2.2.1 bt338.2.2.2.1 bt338.2.2.2.2.1 bt338.2.2.2.2.2.1 bt338.2.2.2.2.2.2.1 bt338.2.2.2.2.2.2.2.1 bt338.2.2.2.2.2.2.2.2).bind fun t357 => (if t357 = true then (some true) else (some false)))) else (some false)))))))) = some r := H
      have A21 := am A210
      clear A210
      replace H := Option.bind_eq_some_iff.mp H
      obtain ⟨⟨t277, t280, t281, t282, t283, t286, t287, t290, t293⟩, A220, H⟩ := H
      replace H : ((laws_toBook.f k l1_0 a1_1 a1_2 a1_3 l1_4 a1_5 l1_6 l1_7 l1_8).bind fun bt297 => ((impl_SameBooks.f k t277 t280 t281 t282 t283 t286 t287 t290 t293 bt297.1 bt297.2.1 bt297.2.2.1 bt297.2.2.2.1 bt297.2.2.2.2.1 bt297.2.2.2.2.2.1 bt297.2.2.2.2.2.2.1 bt297.2.2.2.2.2.2.2.1 bt297.2.2.2.2.2.2.2.2).bind fun t317 => (if (t317 != t276) = true then (some false) else ((laws_toBook.f k l0_0 a0_1 a0_2 a0_3 l0_4 a0_5 l0_6 l0_7 l0_8).bind fun bt318 => ((laws_eqBook.f k t277 t280 t281 t282 t283 t286 t287 t290 t293 bt318.1 bt318.2.1 bt318.2.2.1 bt318.2.2.2.1 bt318.2.2.2.2.1 bt318.2.2.2.2.2.1 bt318.2.2.2.2.2.2.1 bt318.2.2.2.2.2.2.2.1 bt318.2.2.2.2.2.2.2.2).bind fun t337 => (if t337 = true then ((laws_toBook.f k l1_0 a1_1 a1_2 a1_3 l1_4 a1_5 l1_6 l1_7 l1_8).bind fun bt338 => ((laws_eqBook.f k bt297.1 bt297.2.1 bt297.2.2.1 bt297.2.2.2.1 bt297.2.2.2.2.1 bt297.2.2.2.2.2.1 bt297.2.2.2.2.2.2.1 bt297.2.2.2.2.2.2.2.1 bt297.2.2.2.2.2.2.2.2 bt338.1 bt338.2.1 bt338.2.2.1 bt338.2.2.2.1 bt338.2.2.2.2.1 bt338.2.2.2.2.2.1 bt338.2.2.2.2.2.2.1 bt338.2.2.2.2.2.2.2.1 bt338.2.2.2.2.2.2.2.2).bind fun t357 => (if t357 = true then (some true) else (some false)))) else (some false))))))) = some r := H
      have A22 := am A220
      clear A220
      replace H := Option.bind_eq_some_iff.mp H
      obtain ⟨⟨t297, t300, t301, t302, t303, t306, t307, t310, t313⟩, A230, H⟩ := H
      replace H : ((impl_SameBooks.f k t277 t280 t281 t282 t283 t286 t287 t290 t293 t297 t300 t301 t302 t303 t306 t307 t310 t313).bind fun t317 => (if (t317 != t276) = true then (some false) else ((laws_toBook.f k l0_0 a0_1 a0_2 a0_3 l0_4 a0_5 l0_6 l0_7 l0_8).bind fun bt318 => ((laws_eqBook.f k t277 t280 t281 t282 t283 t286 t287 t290 t293 bt318.1 bt318.2.1 bt318.2.2.1 bt318.2.2.2.1 bt318.2.2.2.2.1 bt318.2.2.2.2.2.1 bt318.2.2.2.2.2.2.1 bt318.2.2.2.2.2.2.2.1 bt318.2.2.2.2.2.2.2.2).bind fun t337 => (if t337 = true then ((laws_toBook.f k l1_0 a1_1 a1_2 a1_3 l1_4 a1_5 l1_6 l1_7 l1_8).bind fun bt338 => ((laws_eqBook.f k t297 t300 t301 t302 t303 t306 t307 t310 t313 bt338.1 bt338.2.1 bt338.2.2.1 bt338.2.2.2.1 bt338.2.2.2.2.1 bt338.2.2.2.2.2.1 bt338.2.2.2.2.2.2.1 bt338.2.2.2.2.2.2.2.1 bt338.2.2.2.2.2.2.2.2).bind fun t357 => (if t357 = true then (some true) else (some false)))) else (some false)))))) = some r := H
      have A23 := am A230
      clear A230
      replace H := Option.bind_eq_some_iff.mp H
      obtain ⟨t317, A240, H⟩ := H
      replace H : (if (t317 != t276) = true then (some false) else ((laws_toBook.f k l0_0 a0_1 a0_2 a0_3 l0_4 a0_5 l0_6 l0_7 l0_8).bind fun bt318 => ((laws_eqBook.f k t277 t280 t281 t282 t283 t286 t287 t290 t293 bt318.1 bt318.2.1 bt318.2.2.1 bt318.2.2.2.1 bt318.2.2.2.2.1 bt318.2.2.2.2.2.1 bt318.2.2.2.2.2.2.1 bt318.2.2.2.2.2.2.2.1 bt318.2.2.2.2.2.2.2.2).bind fun t337 => (if t337 = true then ((laws_toBook.f k l1_0 a1_1 a1_2 a1_3 l1_4 a1_5 l1_6 l1_7 l1_8).bind fun bt338 => ((laws_eqBook.f k t297 t300 t301 t302 t303 t306 t307 t310 t313 bt338.1 bt338.2.1 bt338.2.2.1 bt338.2.2.2.1 bt338.2.2.2.2.1 bt338.2.2.2.2.2.1 bt338.2.2.2.2.2.2.1 bt338.2.2.2.2.2.2.2.1 bt338.2.2.2.2.2.2.2.2).bind fun t357 => (if t357 = true then (some true) else (some false)))) else (some false))))) = some r := H
      have A24 := am A240
      clear A240
      by_cases c25 : (t317 != t276) = true
      · rw [if_pos c25] at H
        have c25b0 : (t317 != t276) = true := c25
        (try (have c25b1 : decide (t317 = t276) = false := by simpa using c25))
        (try (have c25b2 : (t317 == t276) = false := by simpa using c25))
        (try (have c25b3 : ¬ (t317 = t276) := by simpa using c25))
        clear c25
        obtain rfl := Option.some.inj H
        go_enter Try.func6, Try.ntmps6
        try go_wp2_with (first | ((with_reducible refine gate_dst (N := 2) rfl ?_); refine box_event ?hg (N := 2) ?hd (cs := #[.slice A0_0 l0_0.length c0_0, .int .i64 a0_1, .int .i64 a0_2, .int .i64 a0_3, .slice A0_4 l0_4.length c0_4, .bool a0_5, .slice A0_6 l0_6.length c0_6, .slice A0_7 l0_7.length c0_7, .slice A0_8 l0_8.length c0_8]) (t := 59) ?hr ?_; (case hd => rfl); (case hg => rfl); (case hr => first | (go_simp; done) | (go_simp; rfl)); intro gb234 hg w26 hbox hb; have BK234 := am (hbox); have GW234 := am ((bsz hg : w.heap.size ≤ gb234)); have GE234 := am ((bsz hg : w.heap.size ≤ gb234)); replace HB := am (below_step bel hb); clear hb hbox hg) | ((with_reducible refine gate_dst (N := 3) rfl ?_); refine box_event ?hg (N := 3) ?hd (cs := #[.slice A1_0 l1_0.length c1_0, .int .i64 a1_1, .int .i64 a1_2, .int .i64 a1_3, .slice A1_4 l1_4.length c1_4, .bool a1_5, .slice A1_6 l1_6.length c1_6, .slice A1_7 l1_7.length c1_7, .slice A1_8 l1_8.length c1_8]) (t := 59) ?hr ?_; (case hd => rfl); (case hg => rfl); (case hr => first | (go_simp; done) | (go_simp; rfl)); intro gb235 hg w27 hbox hb; have BK235 := am (hbox); have GW235 := am ((bsz hg : w.heap.size ≤ gb235)); have GE235 := am ((bsz hg : w.heap.size ≤ gb235)); have NB234_235 := am ((nlt hg BK234.out : gb234 ≠ gb235)); have NB235_234 := am ((ngt hg BK234.out : gb235 ≠ gb234)); replace BK234 := am (bb BK234.out hb); replace HB := am (below_step bel hb); clear hb hbox hg; have hnb28 := NB234_235.out; have hnc28 := NB235_234.out; obtain ⟨hcz29_0, hcz29_1, hcz29_2, hcz29_3, hcz29_4, hcz29_5, hcz29_6, hcz29_7, hcz29_8, hfz29_0, hfz29_1, hfz29_2, hfz29_3, hfz29_4, hfz29_5, hfz29_6, hfz29_7, hfz29_8⟩ := cf9 BK234.out) | ((with_reducible refine gate_callee (f := 28) rfl ?_); refine goesL_ (some 12) rfl rfl Try.func28 (by kernel_rfl) rfl #[.agg #[.slice A0_0 l0_0.length c0_0, .int .i64 a0_1, .int .i64 a0_2, .int .i64 a0_3, .slice A0_4 l0_4.length c0_4, .bool a0_5, .slice A0_6 l0_6.length c0_6, .slice A0_7 l0_7.length c0_7, .slice A0_8 l0_8.length c0_8], .int .i64 1048576] rfl ga ?_; (with_reducible refine (laws_szBook.calls k _ _ l0_0 a0_1 a0_2 a0_3 _ _ l0_4 a0_5 _ _ l0_6 _ _ l0_7 _ _ l0_8 1048576 t236 _ ?side1 ?side2 ?side3 ?side4 ?side5 ?side6 ?side7 ?side8 ?side9 ?side10 A3.out).mono ?_); (case side1 => exact ck (Kd.C_below HR0_0.out HB.out)); (case side2 => exact HC0_0.out); (case side3 => exact ck (Kd.C_below HR0_4.out HB.out)); (case side4 => exact HC0_4.out); (case side5 => exact ck (Kd.C_below HR0_6.out HB.out)); (case side6 => exact HC0_6.out); (case side7 => exact ck (Kd.C_below HR0_7.out HB.out)); (case side8 => exact HC0_7.out); (case side9 => exact ck (Kd.C_below HR0_8.out HB.out)); (case side10 => exact HC0_8.out); rintro e w30 ⟨rfl, hb⟩; refine ⟨_, rfl, ?_⟩; replace BK234 := am (bb BK234.out hb); replace BK235 := am (bb BK235.out hb); replace HB := am (below_step bel hb); (try clear hb); obtain ⟨hcz31_0, hcz31_1, hcz31_2, hcz31_3, hcz31_4, hcz31_5, hcz31_6, hcz31_7, hcz31_8, hfz31_0, hfz31_1, hfz31_2, hfz31_3, hfz31_4, hfz31_5, hfz31_6, hfz31_7, hfz31_8⟩ := cf9 BK235.out) | ((with_reducible refine gate_callee (f := 28) rfl ?_); refine goesL_ (some 17) rfl rfl Try.func28 (by kernel_rfl) rfl #[.agg #[.slice A1_0 l1_0.length c1_0, .int .i64 a1_1, .int .i64 a1_2, .int .i64 a1_3, .slice A1_4 l1_4.length c1_4, .bool a1_5, .slice A1_6 l1_6.length c1_6, .slice A1_7 l1_7.length c1_7, .slice A1_8 l1_8.length c1_8], .int .i64 t236] rfl ga ?_; (with_reducible refine (laws_szBook.calls k _ _ l1_0 a1_1 a1_2 a1_3 _ _ l1_4 a1_5 _ _ l1_6 _ _ l1_7 _ _ l1_8 t236 t237 _ ?side1 ?side2 ?side3 ?side4 ?side5 ?side6 ?side7 ?side8 ?side9 ?side10 A10.out).mono ?_); (case side1 => exact ck (Kd.C_below HR1_0.out HB.out)); (case side2 => exact HC1_0.out); (case side3 => exact ck (Kd.C_below HR1_4.out HB.out)); (case side4 => exact HC1_4.out); (case side5 => exact ck (Kd.C_below HR1_6.out HB.out)); (case side6 => exact HC1_6.out); (case side7 => exact ck (Kd.C_below HR1_7.out HB.out)); (case side8 => exact HC1_7.out); (case side9 => exact ck (Kd.C_below HR1_8.out HB.out)); (case side10 => exact HC1_8.out); rintro e w32 ⟨rfl, hb⟩; refine ⟨_, rfl, ?_⟩; replace BK234 := am (bb BK234.out hb); replace BK235 := am (bb BK235.out hb); replace HB := am (below_step bel hb); (try clear hb)))
        replace BK234 := am (blk_drew BK234.out)
        replace BK235 := am (blk_drew BK235.out)
        replace HB := am (below_drew1 HB.out)
        refine start_ (n := 6) (S := fun w' => w'.cell? ⟨gb234, 0, none⟩ = some (.slice A0_0 l0_0.length c0_0) ∧ w'.cell? ⟨gb234, 1, none⟩ = some (.int .i64 a0_1) ∧ w'.cell? ⟨gb234, 2, none⟩ = some (.int .i64 a0_2) ∧ w'.cell? ⟨gb234, 3, none⟩ = some (.int .i64 a0_3) ∧ w'.cell? ⟨gb234, 4, none⟩ = some (.slice A0_4 l0_4.length c0_4) ∧ w'.cell? ⟨gb234, 5, none⟩ = some (.bool a0_5) ∧ w'.cell? ⟨gb234, 6, none⟩ = some (.slice A0_6 l0_6.length c0_6) ∧ w'.cell? ⟨gb234, 7, none⟩ = some (.slice A0_7 l0_7.length c0_7) ∧ w'.cell? ⟨gb234, 8, none⟩ = some (.slice A0_8 l0_8.length c0_8) ∧ w'.cell? ⟨gb235, 0, none⟩ = some (.slice A1_0 l1_0.length c1_0) ∧ w'.cell? ⟨gb235, 1, none⟩ = some (.int .i64 a1_1) ∧ w'.cell? ⟨gb235, 2, none⟩ = some (.int .i64 a1_2) ∧ w'.cell? ⟨gb235, 3, none⟩ = some (.int .i64 a1_3) ∧ w'.cell? ⟨gb235, 4, none⟩ = some (.slice A1_4 l1_4.length c1_4) ∧ w'.cell? ⟨gb235, 5, none⟩ = some (.bool a1_5) ∧ w'.cell? ⟨gb235, 6, none⟩ = some (.slice A1_6 l1_6.length c1_6) ∧ w'.cell? ⟨gb235, 7, none⟩ = some (.slice A1_7 l1_7.length c1_7) ∧ w'.cell? ⟨gb235, 8, none⟩ = some (.slice A1_8 l1_8.length c1_8)) (ds := []) #[false, false, false, false, false, false] (by kernel_rfl) rfl rfl ⟨(blk_cell BK234.out 0).trans rfl, (blk_cell BK234.out 1).trans rfl, (blk_cell BK234.out 2).trans rfl, (blk_cell BK234.out 3).trans rfl, (blk_cell BK234.out 4).trans rfl, (blk_cell BK234.out 5).trans rfl, (blk_cell BK234.out 6).trans rfl, (blk_cell BK234.out 7).trans rfl, (blk_cell BK234.out 8).trans rfl, (blk_cell BK235.out 0).trans rfl, (blk_cell BK235.out 1).trans rfl, (blk_cell BK235.out 2).trans rfl, (blk_cell BK235.out 3).trans rfl, (blk_cell BK235.out 4).trans rfl, (blk_cell BK235.out 5).trans rfl, (blk_cell BK235.out 6).trans rfl, (blk_cell BK235.out 7).trans rfl, (blk_cell BK235.out 8).trans rfl⟩ (fun hHeld => ?_)
        generalize w32.drew = w33 at BK234 BK235 HB hHeld ⊢
        refine take_ (i := 0) (N := some 20) (v := ?_) (a' := ?_) #[true, false, false, false, false, false] rfl rfl (by kernel_rfl) (fun _ _ _ h => h) (Or.inl ⟨by rfl, ?_⟩) hHeld ?_ ?_
        rotate_left
        · rintro w' ⟨s0, s1, s2, s3, s4, s5, s6, s7, s8, s9, s10, s11, s12, s13, s14, s15, s16, s17⟩
          go_simp
          with_reducible rfl
        rotate_left
        · simp only [Act.put, List.setIfInBounds_toArray, List.set_cons_zero, List.set_cons_succ, i64_w, i32_w]
          rfl
        refine take_ (i := 2) (N := some 22) (v := ?_) (a' := ?_) #[true, false, true, false, false, false] rfl rfl (by kernel_rfl) (fun _ _ _ h => h) (Or.inl ⟨by rfl, ?_⟩) hHeld ?_ ?_
        rotate_left
        · rintro w' ⟨s0, s1, s2, s3, s4, s5, s6, s7, s8, s9, s10, s11, s12, s13, s14, s15, s16, s17⟩
          go_simp
          with_reducible rfl
        rotate_left
        · simp only [Act.put, List.setIfInBounds_toArray, List.set_cons_zero, List.set_cons_succ, i64_w, i32_w]
          rfl
        refine one_ (i := 1) (N := some 21) #[true, true, true, false, false, false] rfl rfl (by kernel_rfl) (by decide) (fun K hK => ?_)
        refine goes_ Try.func30 (by kernel_rfl) rfl #[.agg #[.slice A0_0 l0_0.length c0_0, .int .i64 a0_1, .int .i64 a0_2, .int .i64 a0_3, .slice A0_4 l0_4.length c0_4, .bool a0_5, .slice A0_6 l0_6.length c0_6, .slice A0_7 l0_7.length c0_7, .slice A0_8 l0_8.length c0_8]] (by rfl) rfl rfl ga ?_
        with_reducible refine (laws_toBook.calls k _ _ l0_0 a0_1 a0_2 a0_3 _ _ l0_4 a0_5 _ _ l0_6 _ _ l0_7 _ _ l0_8 t238 t241 t242 t243 t244 t247 t248 t251 t254 _ ?side1 ?side2 ?side3 ?side4 ?side5 ?side6 ?side7 ?side8 ?side9 ?side10 A19.out).mono ?_
        (case side1 => exact ck (Kd.C_below HR0_0.out HB.out))
        (case side2 => exact HC0_0.out)
        (case side3 => exact ck (Kd.C_below HR0_4.out HB.out))
        (case side4 => exact HC0_4.out)
        (case side5 => exact ck (Kd.C_below HR0_6.out HB.out))
        (case side6 => exact HC0_6.out)
        (case side7 => exact ck (Kd.C_below HR0_7.out HB.out))
        (case side8 => exact HC0_7.out)
        (case side9 => exact ck (Kd.C_below HR0_8.out HB.out))
        (case side10 => exact HC0_8.out)
        rintro e w34 ⟨v239, v245, v249, v252, v255, rfl, ho0, ho1, ho2, ho3, ho4, hb⟩
        refine ⟨_, rfl, ?_⟩
        have HO240 := am (Kd.R_lower ho0 (below_size bel))
        have HO246 := am (Kd.R_lower ho1 (below_size bel))
        have HO250 := am (Kd.R_lower ho2 (below_size bel))
        have HO253 := am (Kd.R_lower ho3 (below_size bel))
        have HO256 := am (Kd.R_lower ho4 (below_size bel))
        replace BK234 := am (bb BK234.out hb)
        replace BK235 := am (bb BK235.out hb)
        replace HB := am (below_step bel hb)
        (try clear hb)
        (try clear hb2)
        (try clear hk)
        (try clear hi)
        (try clear ho0)
        (try clear ho1)
        (try clear ho2)
        (try clear ho3)
        (try clear ho4)
        refine hK.out _ _ ⟨(blk_cell BK234.out 0).trans rfl, (blk_cell BK234.out 1).trans rfl, (blk_cell BK234.out 2).trans rfl, (blk_cell BK234.out 3).trans rfl, (blk_cell BK234.out 4).trans rfl, (blk_cell BK234.out 5).trans rfl, (blk_cell BK234.out 6).trans rfl, (blk_cell BK234.out 7).trans rfl, (blk_cell BK234.out 8).trans rfl, (blk_cell BK235.out 0).trans rfl, (blk_cell BK235.out 1).trans rfl, (blk_cell BK235.out 2).trans rfl, (blk_cell BK235.out 3).trans rfl, (blk_cell BK235.out 4).trans rfl, (blk_cell BK235.out 5).trans rfl, (blk_cell BK235.out 6).trans rfl, (blk_cell BK235.out 7).trans rfl, (blk_cell BK235.out 8).trans rfl⟩ (fun hHeld => ?_)
        clear hK K
        refine norm_ (a' := ?_) ?_ ?_
        rotate_left
        · show Act.put _ (some 21) _ = _
          simp only [Act.put, List.setIfInBounds_toArray, List.set_cons_zero, List.set_cons_succ, i64_w, i32_w]
          rfl
        refine one_ (i := 3) (N := some 23) #[true, true, true, true, false, false] rfl rfl (by kernel_rfl) (by decide) (fun K hK => ?_)
        refine goes_ Try.func30 (by kernel_rfl) rfl #[.agg #[.slice A1_0 l1_0.length c1_0, .int .i64 a1_1, .int .i64 a1_2, .int .i64 a1_3, .slice A1_4 l1_4.length c1_4, .bool a1_5, .slice A1_6 l1_6.length c1_6, .slice A1_7 l1_7.length c1_7, .slice A1_8 l1_8.length c1_8]] (by rfl) rfl rfl ga ?_
        with_reducible refine (laws_toBook.calls k _ _ l1_0 a1_1 a1_2 a1_3 _ _ l1_4 a1_5 _ _ l1_6 _ _ l1_7 _ _ l1_8 t257 t260 t261 t262 t263 t266 t267 t270 t273 _ ?side1 ?side2 ?side3 ?side4 ?side5 ?side6 ?side7 ?side8 ?side9 ?side10 A20.out).mono ?_
        (case side1 => exact ck (Kd.C_below HR1_0.out HB.out))
        (case side2 => exact HC1_0.out)
        (case side3 => exact ck (Kd.C_below HR1_4.out HB.out))
        (case side4 => exact HC1_4.out)
        (case side5 => exact ck (Kd.C_below HR1_6.out HB.out))
        (case side6 => exact HC1_6.out)
        (case side7 => exact ck (Kd.C_below HR1_7.out HB.out))
        (case side8 => exact HC1_7.out)
        (case side9 => exact ck (Kd.C_below HR1_8.out HB.out))
        (case side10 => exact HC1_8.out)
        rintro e w35 ⟨v258, v264, v268, v271, v274, rfl, ho0, ho1, ho2, ho3, ho4, hb⟩
        refine ⟨_, rfl, ?_⟩
        have HO259 := am (Kd.R_lower (Kd.R_new' ho0 (rl HO240)) (below_size bel))
        have HO265 := am (Kd.R_lower (Kd.R_new' (Kd.R_new' (Kd.R_new' ho1 (rl HO246)) (rl HO253)) (rl HO256)) (below_size bel))
        have HO269 := am (Kd.R_lower (Kd.R_new' ho2 (rl HO250)) (below_size bel))
        have HO272 := am (Kd.R_lower (Kd.R_new' (Kd.R_new' (Kd.R_new' ho3 (rl HO246)) (rl HO253)) (rl HO256)) (below_size bel))
        have HO275 := am (Kd.R_lower (Kd.R_new' (Kd.R_new' (Kd.R_new' ho4 (rl HO246)) (rl HO253)) (rl HO256)) (below_size bel))
        replace HO240 := am (Kd.R_elder' (rk HO240.out) (Kd.R_base ho0) hb)
        replace HO246 := am (Kd.R_mono (Kd.R_told (Kd.R_told (Kd.R_told (Kd.R_old (rk HO246.out) hb) (Kd.R_base ho1)) (Kd.R_base ho3)) (Kd.R_base ho4)) (fun _ h_ => h_.1))
        replace HO250 := am (Kd.R_elder' (rk HO250.out) (Kd.R_base ho2) hb)
        replace HO253 := am (Kd.R_mono (Kd.R_told (Kd.R_told (Kd.R_told (Kd.R_old (rk HO253.out) hb) (Kd.R_base ho1)) (Kd.R_base ho3)) (Kd.R_base ho4)) (fun _ h_ => h_.1))
        replace HO256 := am (Kd.R_mono (Kd.R_told (Kd.R_told (Kd.R_told (Kd.R_old (rk HO256.out) hb) (Kd.R_base ho1)) (Kd.R_base ho3)) (Kd.R_base ho4)) (fun _ h_ => h_.1))
        replace BK234 := am (bb BK234.out hb)
        replace BK235 := am (bb BK235.out hb)
        replace HB := am (below_step bel hb)
        (try clear hb)
        (try clear hb2)
        (try clear hk)
        (try clear hi)
        (try clear ho0)
        (try clear ho1)
        (try clear ho2)
        (try clear ho3)
        (try clear ho4)
        obtain ⟨Ao36, co36, eo36⟩ := Kd.R_slice HO240.out
        (first | subst eo36 | (injection eo36 with f1_ f2_ f3_; have f4_ := f1_.symm; have f5_ := f3_.symm; clear f1_ f2_ f3_; subst f4_; subst f5_))
        obtain ⟨Ao37, co37, eo37⟩ := Kd.R_slice HO246.out
        (first | subst eo37 | (injection eo37 with f1_ f2_ f3_; have f4_ := f1_.symm; have f5_ := f3_.symm; clear f1_ f2_ f3_; subst f4_; subst f5_))
        obtain ⟨Ao38, co38, eo38⟩ := Kd.R_slice HO250.out
        (first | subst eo38 | (injection eo38 with f1_ f2_ f3_; have f4_ := f1_.symm; have f5_ := f3_.symm; clear f1_ f2_ f3_; subst f4_; subst f5_))
        obtain ⟨Ao39, co39, eo39⟩ := Kd.R_slice HO253.out
        (first | subst eo39 | (injection eo39 with f1_ f2_ f3_; have f4_ := f1_.symm; have f5_ := f3_.symm; clear f1_ f2_ f3_; subst f4_; subst f5_))
        obtain ⟨Ao40, co40, eo40⟩ := Kd.R_slice HO256.out
        (first | subst eo40 | (injection eo40 with f1_ f2_ f3_; have f4_ := f1_.symm; have f5_ := f3_.symm; clear f1_ f2_ f3_; subst f4_; subst f5_))
        obtain ⟨Ao41, co41, eo41⟩ := Kd.R_slice HO259.out
        (first | subst eo41 | (injection eo41 with f1_ f2_ f3_; have f4_ := f1_.symm; have f5_ := f3_.symm; clear f1_ f2_ f3_; subst f4_; subst f5_))
        obtain ⟨Ao42, co42, eo42⟩ := Kd.R_slice HO265.out
        (first | subst eo42 | (injection eo42 with f1_ f2_ f3_; have f4_ := f1_.symm; have f5_ := f3_.symm; clear f1_ f2_ f3_; subst f4_; subst f5_))
        obtain ⟨Ao43, co43, eo43⟩ := Kd.R_slice HO269.out
        (first | subst eo43 | (injection eo43 with f1_ f2_ f3_; have f4_ := f1_.symm; have f5_ := f3_.symm; clear f1_ f2_ f3_; subst f4_; subst f5_))
        obtain ⟨Ao44, co44, eo44⟩ := Kd.R_slice HO272.out
        (first | subst eo44 | (injection eo44 with f1_ f2_ f3_; have f4_ := f1_.symm; have f5_ := f3_.symm; clear f1_ f2_ f3_; subst f4_; subst f5_))
        obtain ⟨Ao45, co45, eo45⟩ := Kd.R_slice HO275.out
        (first | subst eo45 | (injection eo45 with f1_ f2_ f3_; have f4_ := f1_.symm; have f5_ := f3_.symm; clear f1_ f2_ f3_; subst f4_; subst f5_))
        refine hK.out _ _ ⟨(blk_cell BK234.out 0).trans rfl, (blk_cell BK234.out 1).trans rfl, (blk_cell BK234.out 2).trans rfl, (blk_cell BK234.out 3).trans rfl, (blk_cell BK234.out 4).trans rfl, (blk_cell BK234.out 5).trans rfl, (blk_cell BK234.out 6).trans rfl, (blk_cell BK234.out 7).trans rfl, (blk_cell BK234.out 8).trans rfl, (blk_cell BK235.out 0).trans rfl, (blk_cell BK235.out 1).trans rfl, (blk_cell BK235.out 2).trans rfl, (blk_cell BK235.out 3).trans rfl, (blk_cell BK235.out 4).trans rfl, (blk_cell BK235.out 5).trans rfl, (blk_cell BK235.out 6).trans rfl, (blk_cell BK235.out 7).trans rfl, (blk_cell BK235.out 8).trans rfl⟩ (fun hHeld => ?_)
        clear hK K
        refine norm_ (a' := ?_) ?_ ?_
        rotate_left
        · show Act.put _ (some 23) _ = _
          simp only [Act.put, List.setIfInBounds_toArray, List.set_cons_zero, List.set_cons_succ, i64_w, i32_w]
          rfl
        refine one_ (i := 4) (N := some 24) #[true, true, true, true, true, false] rfl rfl (by kernel_rfl) (by decide) (fun K hK => ?_)
        refine goes_ Try.func29 (by kernel_rfl) rfl #[.agg #[.slice Ao36 t238.length co36, .int .i64 t241, .int .i64 t242, .int .i64 t243, .slice Ao37 t244.length co37, .bool t247, .slice Ao38 t248.length co38, .slice Ao39 t251.length co39, .slice Ao40 t254.length co40], .agg #[.slice Ao41 t257.length co41, .int .i64 t260, .int .i64 t261, .int .i64 t262, .slice Ao42 t263.length co42, .bool t266, .slice Ao43 t267.length co43, .slice Ao44 t270.length co44, .slice Ao45 t273.length co45]] (by rfl) rfl rfl ga ?_
        with_reducible refine (spec_SameBooks.calls k _ _ t238 t241 t242 t243 _ _ t244 t247 _ _ t248 _ _ t251 _ _ t254 _ _ t257 t260 t261 t262 _ _ t263 t266 _ _ t267 _ _ t270 _ _ t273 t276 _ ?side1 ?side2 ?side3 ?side4 ?side5 ?side6 ?side7 ?side8 ?side9 ?side10 ?side11 ?side12 ?side13 ?side14 ?side15 ?side16 ?side17 ?side18 ?side19 ?side20 A21.out).mono ?_
        (case side1 => exact cr HO240)
        (case side2 => exact (Kd.R_reads' HO240.out).2.1)
        (case side3 => exact cr HO246)
        (case side4 => exact (Kd.R_reads' HO246.out).2.1)
        (case side5 => exact cr HO250)
        (case side6 => exact (Kd.R_reads' HO250.out).2.1)
        (case side7 => exact cr HO253)
        (case side8 => exact (Kd.R_reads' HO253.out).2.1)
        (case side9 => exact cr HO256)
        (case side10 => exact (Kd.R_reads' HO256.out).2.1)
        (case side11 => exact cr HO259)
        (case side12 => exact (Kd.R_reads' HO259.out).2.1)
        (case side13 => exact cr HO265)
        (case side14 => exact (Kd.R_reads' HO265.out).2.1)
        (case side15 => exact cr HO269)
        (case side16 => exact (Kd.R_reads' HO269.out).2.1)
        (case side17 => exact cr HO272)
        (case side18 => exact (Kd.R_reads' HO272.out).2.1)
        (case side19 => exact cr HO275)
        (case side20 => exact (Kd.R_reads' HO275.out).2.1)
        rintro e w46 ⟨rfl, hb⟩
        refine ⟨_, rfl, ?_⟩
        replace HO240 := rb HO240 hb
        replace HO246 := rb HO246 hb
        replace HO250 := rb HO250 hb
        replace HO253 := rb HO253 hb
        replace HO256 := rb HO256 hb
        replace HO259 := rb HO259 hb
        replace HO265 := rb HO265 hb
        replace HO269 := rb HO269 hb
        replace HO272 := rb HO272 hb
        replace HO275 := rb HO275 hb
        replace BK234 := am (bb BK234.out hb)
        replace BK235 := am (bb BK235.out hb)
        replace HB := am (below_step bel hb)
        (try clear hb)
        (try clear hb2)
        (try clear hk)
        (try clear hi)
        refine hK.out _ _ ⟨(blk_cell BK234.out 0).trans rfl, (blk_cell BK234.out 1).trans rfl, (blk_cell BK234.out 2).trans rfl, (blk_cell BK234.out 3).trans rfl, (blk_cell BK234.out 4).trans rfl, (blk_cell BK234.out 5).trans rfl, (blk_cell BK234.out 6).trans rfl, (blk_cell BK234.out 7).trans rfl, (blk_cell BK234.out 8).trans rfl, (blk_cell BK235.out 0).trans rfl, (blk_cell BK235.out 1).trans rfl, (blk_cell BK235.out 2).trans rfl, (blk_cell BK235.out 3).trans rfl, (blk_cell BK235.out 4).trans rfl, (blk_cell BK235.out 5).trans rfl, (blk_cell BK235.out 6).trans rfl, (blk_cell BK235.out 7).trans rfl, (blk_cell BK235.out 8).trans rfl⟩ (fun hHeld => ?_)
        clear hK K
        refine norm_ (a' := ?_) ?_ ?_
        rotate_left
        · show Act.put _ (some 24) _ = _
          simp only [Act.put, List.setIfInBounds_toArray, List.set_cons_zero, List.set_cons_succ, i64_w, i32_w]
          rfl
        refine pure_ (i := 5) (N := some 6) (v := ?_) (a' := ?_) #[true, true, true, true, true, true] rfl rfl (by kernel_rfl) (fun _ _ _ h => h) (Or.inl ⟨by rfl, ?_⟩) ?_ ?_
        rotate_left
        · intro w'
          go_simp
          with_reducible rfl
        rotate_left
        · simp only [Act.put, List.setIfInBounds_toArray, List.set_cons_zero, List.set_cons_succ, i64_w, i32_w]
          rfl
        refine done_ (by kernel_rfl) ?_
        obtain ⟨hcz47_0, hcz47_1, hcz47_2, hcz47_3, hcz47_4, hcz47_5, hcz47_6, hcz47_7, hcz47_8, hfz47_0, hfz47_1, hfz47_2, hfz47_3, hfz47_4, hfz47_5, hfz47_6, hfz47_7, hfz47_8⟩ := cf9 BK234.out
        try go_wp2_with (first | ((with_reducible refine gate_callee (f := 30) rfl ?_); refine goesL_ (some 26) rfl rfl Try.func30 (by kernel_rfl) rfl #[.agg #[.slice A0_0 l0_0.length c0_0, .int .i64 a0_1, .int .i64 a0_2, .int .i64 a0_3, .slice A0_4 l0_4.length c0_4, .bool a0_5, .slice A0_6 l0_6.length c0_6, .slice A0_7 l0_7.length c0_7, .slice A0_8 l0_8.length c0_8]] rfl ga ?_; (with_reducible refine (laws_toBook.calls k _ _ l0_0 a0_1 a0_2 a0_3 _ _ l0_4 a0_5 _ _ l0_6 _ _ l0_7 _ _ l0_8 t277 t280 t281 t282 t283 t286 t287 t290 t293 _ ?side1 ?side2 ?side3 ?side4 ?side5 ?side6 ?side7 ?side8 ?side9 ?side10 A22.out).mono ?_); (case side1 => exact ck (Kd.C_below HR0_0.out HB.out)); (case side2 => exact HC0_0.out); (case side3 => exact ck (Kd.C_below HR0_4.out HB.out)); (case side4 => exact HC0_4.out); (case side5 => exact ck (Kd.C_below HR0_6.out HB.out)); (case side6 => exact HC0_6.out); (case side7 => exact ck (Kd.C_below HR0_7.out HB.out)); (case side8 => exact HC0_7.out); (case side9 => exact ck (Kd.C_below HR0_8.out HB.out)); (case side10 => exact HC0_8.out); rintro e w48 ⟨v278, v284, v288, v291, v294, rfl, ho0, ho1, ho2, ho3, ho4, hb⟩; refine ⟨_, rfl, ?_⟩; have HO279 := am (Kd.R_lower (Kd.R_new' (Kd.R_new' ho0 (rl HO240)) (rl HO259)) (below_size bel)); have HO285 := am (Kd.R_lower (Kd.R_new' (Kd.R_new' (Kd.R_new' (Kd.R_new' (Kd.R_new' (Kd.R_new' ho1 (rl HO246)) (rl HO253)) (rl HO256)) (rl HO265)) (rl HO272)) (rl HO275)) (below_size bel)); have HO289 := am (Kd.R_lower (Kd.R_new' (Kd.R_new' ho2 (rl HO250)) (rl HO269)) (below_size bel)); have HO292 := am (Kd.R_lower (Kd.R_new' (Kd.R_new' (Kd.R_new' (Kd.R_new' (Kd.R_new' (Kd.R_new' ho3 (rl HO246)) (rl HO253)) (rl HO256)) (rl HO265)) (rl HO272)) (rl HO275)) (below_size bel)); have HO295 := am (Kd.R_lower (Kd.R_new' (Kd.R_new' (Kd.R_new' (Kd.R_new' (Kd.R_new' (Kd.R_new' ho4 (rl HO246)) (rl HO253)) (rl HO256)) (rl HO265)) (rl HO272)) (rl HO275)) (below_size bel)); replace HO240 := am (Kd.R_elder' (rk HO240.out) (Kd.R_base ho0) hb); replace HO246 := am (Kd.R_mono (Kd.R_told (Kd.R_told (Kd.R_told (Kd.R_old (rk HO246.out) hb) (Kd.R_base ho1)) (Kd.R_base ho3)) (Kd.R_base ho4)) (fun _ h_ => h_.1)); replace HO250 := am (Kd.R_elder' (rk HO250.out) (Kd.R_base ho2) hb); replace HO253 := am (Kd.R_mono (Kd.R_told (Kd.R_told (Kd.R_told (Kd.R_old (rk HO253.out) hb) (Kd.R_base ho1)) (Kd.R_base ho3)) (Kd.R_base ho4)) (fun _ h_ => h_.1)); replace HO256 := am (Kd.R_mono (Kd.R_told (Kd.R_told (Kd.R_told (Kd.R_old (rk HO256.out) hb) (Kd.R_base ho1)) (Kd.R_base ho3)) (Kd.R_base ho4)) (fun _ h_ => h_.1)); replace HO259 := am (Kd.R_elder' (rk HO259.out) (Kd.R_base ho0) hb); replace HO265 := am (Kd.R_mono (Kd.R_told (Kd.R_told (Kd.R_told (Kd.R_old (rk HO265.out) hb) (Kd.R_base ho1)) (Kd.R_base ho3)) (Kd.R_base ho4)) (fun _ h_ => h_.1)); replace HO269 := am (Kd.R_elder' (rk HO269.out) (Kd.R_base ho2) hb); replace HO272 := am (Kd.R_mono (Kd.R_told (Kd.R_told (Kd.R_told (Kd.R_old (rk HO272.out) hb) (Kd.R_base ho1)) (Kd.R_base ho3)) (Kd.R_base ho4)) (fun _ h_ => h_.1)); replace HO275 := am (Kd.R_mono (Kd.R_told (Kd.R_told (Kd.R_told (Kd.R_old (rk HO275.out) hb) (Kd.R_base ho1)) (Kd.R_base ho3)) (Kd.R_base ho4)) (fun _ h_ => h_.1)); replace BK234 := am (bb BK234.out hb); replace BK235 := am (bb BK235.out hb); replace HB := am (below_step bel hb); (try clear hb); (try clear ho0); (try clear ho1); (try clear ho2); (try clear ho3); (try clear ho4)) | ((with_reducible refine gate_dst (N := 7) rfl ?_); refine box_event ?hg (N := 7) ?hd (cs := #[.slice none 0 0, .int .i64 0, .int .i64 0, .int .i64 0, .slice none 0 0, .bool false, .slice none 0 0, .slice none 0 0, .slice none 0 0]) (t := 65) ?hr ?_; (case hd => rfl); (case hg => rfl); (case hr => first | (go_simp; done) | (go_simp; rfl)); intro gb296 hg w49 hbox hb; have BK296 := am (hbox); have GW296 := am ((bsz hg : w.heap.size ≤ gb296)); have GE296 := am ((bsz hg : w.heap.size ≤ gb296)); have NB234_296 := am ((nlt hg BK234.out : gb234 ≠ gb296)); have NB296_234 := am ((ngt hg BK234.out : gb296 ≠ gb234)); have NB235_296 := am ((nlt hg BK235.out : gb235 ≠ gb296)); have NB296_235 := am ((ngt hg BK235.out : gb296 ≠ gb235)); replace HO240 := rb HO240 hb; replace HO246 := rb HO246 hb; replace HO250 := rb HO250 hb; replace HO253 := rb HO253 hb; replace HO256 := rb HO256 hb; replace HO259 := rb HO259 hb; replace HO265 := rb HO265 hb; replace HO269 := rb HO269 hb; replace HO272 := rb HO272 hb; replace HO275 := rb HO275 hb; replace HO279 := rb HO279 hb; replace HO285 := rb HO285 hb; replace HO289 := rb HO289 hb; replace HO292 := rb HO292 hb; replace HO295 := rb HO295 hb; replace BK234 := am (bb BK234.out hb); replace BK235 := am (bb BK235.out hb); replace HB := am (below_step bel hb); clear hb hbox hg; obtain ⟨Ao50, co50, eo50⟩ := Kd.R_slice HO279.out; subst eo50; have hnb51 := NB296_234.out; have hnc51 := NB234_296.out; have hnb52 := NB296_235.out; have hnc52 := NB235_296.out; obtain ⟨hcz53_0, hcz53_1, hcz53_2, hcz53_3, hcz53_4, hcz53_5, hcz53_6, hcz53_7, hcz53_8, hfz53_0, hfz53_1, hfz53_2, hfz53_3, hfz53_4, hfz53_5, hfz53_6, hfz53_7, hfz53_8⟩ := cf9 BK296.out; obtain ⟨Ao54, co54, eo54⟩ := Kd.R_slice HO285.out; subst eo54; obtain ⟨Ao55, co55, eo55⟩ := Kd.R_slice HO289.out; subst eo55; obtain ⟨Ao56, co56, eo56⟩ := Kd.R_slice HO292.out; subst eo56; obtain ⟨Ao57, co57, eo57⟩ := Kd.R_slice HO295.out; subst eo57; obtain ⟨hcz58_0, hcz58_1, hcz58_2, hcz58_3, hcz58_4, hcz58_5, hcz58_6, hcz58_7, hcz58_8, hfz58_0, hfz58_1, hfz58_2, hfz58_3, hfz58_4, hfz58_5, hfz58_6, hfz58_7, hfz58_8⟩ := cf9 BK235.out) | ((with_reducible refine gate_callee (f := 30) rfl ?_); refine goesL_ (some 28) rfl rfl Try.func30 (by kernel_rfl) rfl #[.agg #[.slice A1_0 l1_0.length c1_0, .int .i64 a1_1, .int .i64 a1_2, .int .i64 a1_3, .slice A1_4 l1_4.length c1_4, .bool a1_5, .slice A1_6 l1_6.length c1_6, .slice A1_7 l1_7.length c1_7, .slice A1_8 l1_8.length c1_8]] rfl ga ?_; (with_reducible refine (laws_toBook.calls k _ _ l1_0 a1_1 a1_2 a1_3 _ _ l1_4 a1_5 _ _ l1_6 _ _ l1_7 _ _ l1_8 t297 t300 t301 t302 t303 t306 t307 t310 t313 _ ?side1 ?side2 ?side3 ?side4 ?side5 ?side6 ?side7 ?side8 ?side9 ?side10 A23.out).mono ?_); (case side1 => exact Kd.C_below HR1_0.out bel); (case side2 => exact HC1_0.out); (case side3 => exact Kd.C_below HR1_4.out bel); (case side4 => exact HC1_4.out); (case side5 => exact Kd.C_below HR1_6.out bel); (case side6 => exact HC1_6.out); (case side7 => exact Kd.C_below HR1_7.out bel); (case side8 => exact HC1_7.out); (case side9 => exact Kd.C_below HR1_8.out bel); (case side10 => exact HC1_8.out); rintro e w59 ⟨v298, v304, v308, v311, v314, rfl, ho0, ho1, ho2, ho3, ho4, hb⟩; refine ⟨_, rfl, ?_⟩; have HO299 := am (Kd.R_lower (Kd.R_new' (Kd.R_new' (Kd.R_new' ho0 (Kd.R_lt (rf9 HO240 BK296))) (Kd.R_lt (rf9 HO259 BK296))) (Kd.R_lt (rf9 HO279 BK296))) (below_size bel)); have HO305 := am (Kd.R_lower (Kd.R_new' (Kd.R_new' (Kd.R_new' (Kd.R_new' (Kd.R_new' (Kd.R_new' (Kd.R_new' (Kd.R_new' (Kd.R_new' ho1 (Kd.R_lt (rf9 HO246 BK296))) (Kd.R_lt (rf9 HO253 BK296))) (Kd.R_lt (rf9 HO256 BK296))) (Kd.R_lt (rf9 HO265 BK296))) (Kd.R_lt (rf9 HO272 BK296))) (Kd.R_lt (rf9 HO275 BK296))) (Kd.R_lt (rf9 HO285 BK296))) (Kd.R_lt (rf9 HO292 BK296))) (Kd.R_lt (rf9 HO295 BK296))) (below_size bel)); have HO309 := am (Kd.R_lower (Kd.R_new' (Kd.R_new' (Kd.R_new' ho2 (Kd.R_lt (rf9 HO250 BK296))) (Kd.R_lt (rf9 HO269 BK296))) (Kd.R_lt (rf9 HO289 BK296))) (below_size bel)); have HO312 := am (Kd.R_lower (Kd.R_new' (Kd.R_new' (Kd.R_new' (Kd.R_new' (Kd.R_new' (Kd.R_new' (Kd.R_new' (Kd.R_new' (Kd.R_new' ho3 (Kd.R_lt (rf9 HO246 BK296))) (Kd.R_lt (rf9 HO253 BK296))) (Kd.R_lt (rf9 HO256 BK296))) (Kd.R_lt (rf9 HO265 BK296))) (Kd.R_lt (rf9 HO272 BK296))) (Kd.R_lt (rf9 HO275 BK296))) (Kd.R_lt (rf9 HO285 BK296))) (Kd.R_lt (rf9 HO292 BK296))) (Kd.R_lt (rf9 HO295 BK296))) (below_size bel)); have HO315 := am (Kd.R_lower (Kd.R_new' (Kd.R_new' (Kd.R_new' (Kd.R_new' (Kd.R_new' (Kd.R_new' (Kd.R_new' (Kd.R_new' (Kd.R_new' ho4 (Kd.R_lt (rf9 HO246 BK296))) (Kd.R_lt (rf9 HO253 BK296))) (Kd.R_lt (rf9 HO256 BK296))) (Kd.R_lt (rf9 HO265 BK296))) (Kd.R_lt (rf9 HO272 BK296))) (Kd.R_lt (rf9 HO275 BK296))) (Kd.R_lt (rf9 HO285 BK296))) (Kd.R_lt (rf9 HO292 BK296))) (Kd.R_lt (rf9 HO295 BK296))) (below_size bel)); replace HO240 := am (Kd.R_elder' (rf9 HO240 BK296) (Kd.R_base ho0) hb); replace HO246 := am (Kd.R_mono (Kd.R_told (Kd.R_told (Kd.R_told (Kd.R_old (rf9 HO246 BK296) hb) (Kd.R_base ho1)) (Kd.R_base ho3)) (Kd.R_base ho4)) (fun _ h_ => h_.1)); replace HO250 := am (Kd.R_elder' (rf9 HO250 BK296) (Kd.R_base ho2) hb); replace HO253 := am (Kd.R_mono (Kd.R_told (Kd.R_told (Kd.R_told (Kd.R_old (rf9 HO253 BK296) hb) (Kd.R_base ho1)) (Kd.R_base ho3)) (Kd.R_base ho4)) (fun _ h_ => h_.1)); replace HO256 := am (Kd.R_mono (Kd.R_told (Kd.R_told (Kd.R_told (Kd.R_old (rf9 HO256 BK296) hb) (Kd.R_base ho1)) (Kd.R_base ho3)) (Kd.R_base ho4)) (fun _ h_ => h_.1)); replace HO259 := am (Kd.R_elder' (rf9 HO259 BK296) (Kd.R_base ho0) hb); replace HO265 := am (Kd.R_mono (Kd.R_told (Kd.R_told (Kd.R_told (Kd.R_old (rf9 HO265 BK296) hb) (Kd.R_base ho1)) (Kd.R_base ho3)) (Kd.R_base ho4)) (fun _ h_ => h_.1)); replace HO269 := am (Kd.R_elder' (rf9 HO269 BK296) (Kd.R_base ho2) hb); replace HO272 := am (Kd.R_mono (Kd.R_told (Kd.R_told (Kd.R_told (Kd.R_old (rf9 HO272 BK296) hb) (Kd.R_base ho1)) (Kd.R_base ho3)) (Kd.R_base ho4)) (fun _ h_ => h_.1)); replace HO275 := am (Kd.R_mono (Kd.R_told (Kd.R_told (Kd.R_told (Kd.R_old (rf9 HO275 BK296) hb) (Kd.R_base ho1)) (Kd.R_base ho3)) (Kd.R_base ho4)) (fun _ h_ => h_.1)); replace HO279 := am (Kd.R_elder' (rf9 HO279 BK296) (Kd.R_base ho0) hb); replace HO285 := am (Kd.R_mono (Kd.R_told (Kd.R_told (Kd.R_told (Kd.R_old (rf9 HO285 BK296) hb) (Kd.R_base ho1)) (Kd.R_base ho3)) (Kd.R_base ho4)) (fun _ h_ => h_.1)); replace HO289 := am (Kd.R_elder' (rf9 HO289 BK296) (Kd.R_base ho2) hb); replace HO292 := am (Kd.R_mono (Kd.R_told (Kd.R_told (Kd.R_told (Kd.R_old (rf9 HO292 BK296) hb) (Kd.R_base ho1)) (Kd.R_base ho3)) (Kd.R_base ho4)) (fun _ h_ => h_.1)); replace HO295 := am (Kd.R_mono (Kd.R_told (Kd.R_told (Kd.R_told (Kd.R_old (rf9 HO295 BK296) hb) (Kd.R_base ho1)) (Kd.R_base ho3)) (Kd.R_base ho4)) (fun _ h_ => h_.1)); replace BK234 := am (bb BK234.out hb); replace BK235 := am (bb BK235.out hb); replace BK296 := am (blk_below (g := gb296) (o := .cells #[.slice Ao50 t277.length co50, .int .i64 t280, .int .i64 t281, .int .i64 t282, .slice Ao54 t283.length co54, .bool t286, .slice Ao55 t287.length co55, .slice Ao56 t290.length co56, .slice Ao57 t293.length co57] 65 (0, 0)) (by (with_reducible repeat (first | refine blk_drewN ?_ _ | refine blk_drew ?_ | refine blk_alloc ?_ _)); refine blk_put (cs := #[.slice Ao50 t277.length co50, .int .i64 t280, .int .i64 t281, .int .i64 t282, .slice Ao54 t283.length co54, .bool t286, .slice Ao55 t287.length co55, .slice Ao56 t290.length co56, .slice none 0 0]) ?_ 8 _ rfl; (with_reducible repeat (first | refine blk_drewN ?_ _ | refine blk_drew ?_ | refine blk_alloc ?_ _)); refine blk_put (cs := #[.slice Ao50 t277.length co50, .int .i64 t280, .int .i64 t281, .int .i64 t282, .slice Ao54 t283.length co54, .bool t286, .slice Ao55 t287.length co55, .slice none 0 0, .slice none 0 0]) ?_ 7 _ rfl; (with_reducible repeat (first | refine blk_drewN ?_ _ | refine blk_drew ?_ | refine blk_alloc ?_ _)); refine blk_put (cs := #[.slice Ao50 t277.length co50, .int .i64 t280, .int .i64 t281, .int .i64 t282, .slice Ao54 t283.length co54, .bool t286, .slice none 0 0, .slice none 0 0, .slice none 0 0]) ?_ 6 _ rfl; (with_reducible repeat (first | refine blk_drewN ?_ _ | refine blk_drew ?_ | refine blk_alloc ?_ _)); refine blk_put (cs := #[.slice Ao50 t277.length co50, .int .i64 t280, .int .i64 t281, .int .i64 t282, .slice Ao54 t283.length co54, .bool false, .slice none 0 0, .slice none 0 0, .slice none 0 0]) ?_ 5 _ rfl; (with_reducible repeat (first | refine blk_drewN ?_ _ | refine blk_drew ?_ | refine blk_alloc ?_ _)); refine blk_put (cs := #[.slice Ao50 t277.length co50, .int .i64 t280, .int .i64 t281, .int .i64 t282, .slice none 0 0, .bool false, .slice none 0 0, .slice none 0 0, .slice none 0 0]) ?_ 4 _ rfl; (with_reducible repeat (first | refine blk_drewN ?_ _ | refine blk_drew ?_ | refine blk_alloc ?_ _)); refine blk_put (cs := #[.slice Ao50 t277.length co50, .int .i64 t280, .int .i64 t281, .int .i64 0, .slice none 0 0, .bool false, .slice none 0 0, .slice none 0 0, .slice none 0 0]) ?_ 3 _ rfl; (with_reducible repeat (first | refine blk_drewN ?_ _ | refine blk_drew ?_ | refine blk_alloc ?_ _)); refine blk_put (cs := #[.slice Ao50 t277.length co50, .int .i64 t280, .int .i64 0, .int .i64 0, .slice none 0 0, .bool false, .slice none 0 0, .slice none 0 0, .slice none 0 0]) ?_ 2 _ rfl; (with_reducible repeat (first | refine blk_drewN ?_ _ | refine blk_drew ?_ | refine blk_alloc ?_ _)); refine blk_put (cs := #[.slice Ao50 t277.length co50, .int .i64 0, .int .i64 0, .int .i64 0, .slice none 0 0, .bool false, .slice none 0 0, .slice none 0 0, .slice none 0 0]) ?_ 1 _ rfl; (with_reducible repeat (first | refine blk_drewN ?_ _ | refine blk_drew ?_ | refine blk_alloc ?_ _)); refine blk_put (cs := #[.slice none 0 0, .int .i64 0, .int .i64 0, .int .i64 0, .slice none 0 0, .bool false, .slice none 0 0, .slice none 0 0, .slice none 0 0]) ?_ 0 _ rfl; (with_reducible repeat (first | refine blk_drewN ?_ _ | refine blk_drew ?_ | refine blk_alloc ?_ _)); exact BK296.out) hb); replace HB := am (below_step bel hb); (try clear hb); (try clear ho0); (try clear ho1); (try clear ho2); (try clear ho3); (try clear ho4)) | ((with_reducible refine gate_dst (N := 8) rfl ?_); refine box_event ?hg (N := 8) ?hd (cs := #[.slice none 0 0, .int .i64 0, .int .i64 0, .int .i64 0, .slice none 0 0, .bool false, .slice none 0 0, .slice none 0 0, .slice none 0 0]) (t := 65) ?hr ?_; (case hd => rfl); (case hg => rfl); (case hr => first | (go_simp; done) | (go_simp; rfl)); intro gb316 hg w60 hbox hb; have BK316 := am (hbox); have GW316 := am ((bsz hg : w.heap.size ≤ gb316)); have GE316 := am ((bsz hg : w.heap.size ≤ gb316)); have NB234_316 := am ((nlt hg BK234.out : gb234 ≠ gb316)); have NB316_234 := am ((ngt hg BK234.out : gb316 ≠ gb234)); have NB235_316 := am ((nlt hg BK235.out : gb235 ≠ gb316)); have NB316_235 := am ((ngt hg BK235.out : gb316 ≠ gb235)); have NB296_316 := am ((nlt hg BK296.out : gb296 ≠ gb316)); have NB316_296 := am ((ngt hg BK296.out : gb316 ≠ gb296)); replace HO240 := rb HO240 hb; replace HO246 := rb HO246 hb; replace HO250 := rb HO250 hb; replace HO253 := rb HO253 hb; replace HO256 := rb HO256 hb; replace HO259 := rb HO259 hb; replace HO265 := rb HO265 hb; replace HO269 := rb HO269 hb; replace HO272 := rb HO272 hb; replace HO275 := rb HO275 hb; replace HO279 := rb HO279 hb; replace HO285 := rb HO285 hb; replace HO289 := rb HO289 hb; replace HO292 := rb HO292 hb; replace HO295 := rb HO295 hb; replace HO299 := rb HO299 hb; replace HO305 := rb HO305 hb; replace HO309 := rb HO309 hb; replace HO312 := rb HO312 hb; replace HO315 := rb HO315 hb; replace BK234 := am (bb BK234.out hb); replace BK235 := am (bb BK235.out hb); replace BK296 := am (bb BK296.out hb); replace HB := am (below_step bel hb); clear hb hbox hg; obtain ⟨Ao61, co61, eo61⟩ := Kd.R_slice HO299.out; subst eo61; have hnb62 := NB316_234.out; have hnc62 := NB234_316.out; have hnb63 := NB316_235.out; have hnc63 := NB235_316.out; have hnb64 := NB316_296.out; have hnc64 := NB296_316.out; obtain ⟨hcz65_0, hcz65_1, hcz65_2, hcz65_3, hcz65_4, hcz65_5, hcz65_6, hcz65_7, hcz65_8, hfz65_0, hfz65_1, hfz65_2, hfz65_3, hfz65_4, hfz65_5, hfz65_6, hfz65_7, hfz65_8⟩ := cf9 BK316.out; obtain ⟨Ao66, co66, eo66⟩ := Kd.R_slice HO305.out; subst eo66; obtain ⟨Ao67, co67, eo67⟩ := Kd.R_slice HO309.out; subst eo67; obtain ⟨Ao68, co68, eo68⟩ := Kd.R_slice HO312.out; subst eo68; obtain ⟨Ao69, co69, eo69⟩ := Kd.R_slice HO315.out; subst eo69; obtain ⟨hcz70_0, hcz70_1, hcz70_2, hcz70_3, hcz70_4, hcz70_5, hcz70_6, hcz70_7, hcz70_8, hfz70_0, hfz70_1, hfz70_2, hfz70_3, hfz70_4, hfz70_5, hfz70_6, hfz70_7, hfz70_8⟩ := cf9 BK296.out) | ((with_reducible refine gate_callee (f := 31) rfl ?_); refine goesL_ (some 31) rfl rfl Try.func31 (by kernel_rfl) rfl #[.agg #[.slice Ao50 t277.length co50, .int .i64 t280, .int .i64 t281, .int .i64 t282, .slice Ao54 t283.length co54, .bool t286, .slice Ao55 t287.length co55, .slice Ao56 t290.length co56, .slice Ao57 t293.length co57], .agg #[.slice Ao61 t297.length co61, .int .i64 t300, .int .i64 t301, .int .i64 t302, .slice Ao66 t303.length co66, .bool t306, .slice Ao67 t307.length co67, .slice Ao68 t310.length co68, .slice Ao69 t313.length co69]] rfl ga ?_; (with_reducible refine (impl_SameBooks.calls k _ _ t277 t280 t281 t282 _ _ t283 t286 _ _ t287 _ _ t290 _ _ t293 _ _ t297 t300 t301 t302 _ _ t303 t306 _ _ t307 _ _ t310 _ _ t313 t317 _ ?side1 ?side2 ?side3 ?side4 ?side5 ?side6 ?side7 ?side8 ?side9 ?side10 ?side11 ?side12 ?side13 ?side14 ?side15 ?side16 ?side17 ?side18 ?side19 ?side20 A24.out).mono ?_); (case side1 => exact (Kd.R_reads' (rf9 HO279 BK316)).2.2); (case side2 => exact (Kd.R_reads' HO279.out).2.1); (case side3 => exact (Kd.R_reads' (rf9 HO285 BK316)).2.2); (case side4 => exact (Kd.R_reads' HO285.out).2.1); (case side5 => exact (Kd.R_reads' (rf9 HO289 BK316)).2.2); (case side6 => exact (Kd.R_reads' HO289.out).2.1); (case side7 => exact (Kd.R_reads' (rf9 HO292 BK316)).2.2); (case side8 => exact (Kd.R_reads' HO292.out).2.1); (case side9 => exact (Kd.R_reads' (rf9 HO295 BK316)).2.2); (case side10 => exact (Kd.R_reads' HO295.out).2.1); (case side11 => exact (Kd.R_reads' (rf9 HO299 BK316)).2.2); (case side12 => exact (Kd.R_reads' HO299.out).2.1); (case side13 => exact (Kd.R_reads' (rf9 HO305 BK316)).2.2); (case side14 => exact (Kd.R_reads' HO305.out).2.1); (case side15 => exact (Kd.R_reads' (rf9 HO309 BK316)).2.2); (case side16 => exact (Kd.R_reads' HO309.out).2.1); (case side17 => exact (Kd.R_reads' (rf9 HO312 BK316)).2.2); (case side18 => exact (Kd.R_reads' HO312.out).2.1); (case side19 => exact (Kd.R_reads' (rf9 HO315 BK316)).2.2); (case side20 => exact (Kd.R_reads' HO315.out).2.1); rintro e w71 ⟨rfl, hb⟩; refine ⟨_, rfl, ?_⟩; replace HO240 := am (Kd.R_below (rf9 HO240 BK316) hb); replace HO246 := am (Kd.R_below (rf9 HO246 BK316) hb); replace HO250 := am (Kd.R_below (rf9 HO250 BK316) hb); replace HO253 := am (Kd.R_below (rf9 HO253 BK316) hb); replace HO256 := am (Kd.R_below (rf9 HO256 BK316) hb); replace HO259 := am (Kd.R_below (rf9 HO259 BK316) hb); replace HO265 := am (Kd.R_below (rf9 HO265 BK316) hb); replace HO269 := am (Kd.R_below (rf9 HO269 BK316) hb); replace HO272 := am (Kd.R_below (rf9 HO272 BK316) hb); replace HO275 := am (Kd.R_below (rf9 HO275 BK316) hb); replace HO279 := am (Kd.R_below (rf9 HO279 BK316) hb); replace HO285 := am (Kd.R_below (rf9 HO285 BK316) hb); replace HO289 := am (Kd.R_below (rf9 HO289 BK316) hb); replace HO292 := am (Kd.R_below (rf9 HO292 BK316) hb); replace HO295 := am (Kd.R_below (rf9 HO295 BK316) hb); replace HO299 := am (Kd.R_below (rf9 HO299 BK316) hb); replace HO305 := am (Kd.R_below (rf9 HO305 BK316) hb); replace HO309 := am (Kd.R_below (rf9 HO309 BK316) hb); replace HO312 := am (Kd.R_below (rf9 HO312 BK316) hb); replace HO315 := am (Kd.R_below (rf9 HO315 BK316) hb); replace BK234 := am (bb BK234.out hb); replace BK235 := am (bb BK235.out hb); replace BK296 := am (bb BK296.out hb); replace BK316 := am (blk_below (g := gb316) (o := .cells #[.slice Ao61 t297.length co61, .int .i64 t300, .int .i64 t301, .int .i64 t302, .slice Ao66 t303.length co66, .bool t306, .slice Ao67 t307.length co67, .slice Ao68 t310.length co68, .slice Ao69 t313.length co69] 65 (0, 0)) (by (with_reducible repeat (first | refine blk_drewN ?_ _ | refine blk_drew ?_ | refine blk_alloc ?_ _)); refine blk_put (cs := #[.slice Ao61 t297.length co61, .int .i64 t300, .int .i64 t301, .int .i64 t302, .slice Ao66 t303.length co66, .bool t306, .slice Ao67 t307.length co67, .slice Ao68 t310.length co68, .slice none 0 0]) ?_ 8 _ rfl; (with_reducible repeat (first | refine blk_drewN ?_ _ | refine blk_drew ?_ | refine blk_alloc ?_ _)); refine blk_put (cs := #[.slice Ao61 t297.length co61, .int .i64 t300, .int .i64 t301, .int .i64 t302, .slice Ao66 t303.length co66, .bool t306, .slice Ao67 t307.length co67, .slice none 0 0, .slice none 0 0]) ?_ 7 _ rfl; (with_reducible repeat (first | refine blk_drewN ?_ _ | refine blk_drew ?_ | refine blk_alloc ?_ _)); refine blk_put (cs := #[.slice Ao61 t297.length co61, .int .i64 t300, .int .i64 t301, .int .i64 t302, .slice Ao66 t303.length co66, .bool t306, .slice none 0 0, .slice none 0 0, .slice none 0 0]) ?_ 6 _ rfl; (with_reducible repeat (first | refine blk_drewN ?_ _ | refine blk_drew ?_ | refine blk_alloc ?_ _)); refine blk_put (cs := #[.slice Ao61 t297.length co61, .int .i64 t300, .int .i64 t301, .int .i64 t302, .slice Ao66 t303.length co66, .bool false, .slice none 0 0, .slice none 0 0, .slice none 0 0]) ?_ 5 _ rfl; (with_reducible repeat (first | refine blk_drewN ?_ _ | refine blk_drew ?_ | refine blk_alloc ?_ _)); refine blk_put (cs := #[.slice Ao61 t297.length co61, .int .i64 t300, .int .i64 t301, .int .i64 t302, .slice none 0 0, .bool false, .slice none 0 0, .slice none 0 0, .slice none 0 0]) ?_ 4 _ rfl; (with_reducible repeat (first | refine blk_drewN ?_ _ | refine blk_drew ?_ | refine blk_alloc ?_ _)); refine blk_put (cs := #[.slice Ao61 t297.length co61, .int .i64 t300, .int .i64 t301, .int .i64 0, .slice none 0 0, .bool false, .slice none 0 0, .slice none 0 0, .slice none 0 0]) ?_ 3 _ rfl; (with_reducible repeat (first | refine blk_drewN ?_ _ | refine blk_drew ?_ | refine blk_alloc ?_ _)); refine blk_put (cs := #[.slice Ao61 t297.length co61, .int .i64 t300, .int .i64 0, .int .i64 0, .slice none 0 0, .bool false, .slice none 0 0, .slice none 0 0, .slice none 0 0]) ?_ 2 _ rfl; (with_reducible repeat (first | refine blk_drewN ?_ _ | refine blk_drew ?_ | refine blk_alloc ?_ _)); refine blk_put (cs := #[.slice Ao61 t297.length co61, .int .i64 0, .int .i64 0, .int .i64 0, .slice none 0 0, .bool false, .slice none 0 0, .slice none 0 0, .slice none 0 0]) ?_ 1 _ rfl; (with_reducible repeat (first | refine blk_drewN ?_ _ | refine blk_drew ?_ | refine blk_alloc ?_ _)); refine blk_put (cs := #[.slice none 0 0, .int .i64 0, .int .i64 0, .int .i64 0, .slice none 0 0, .bool false, .slice none 0 0, .slice none 0 0, .slice none 0 0]) ?_ 0 _ rfl; (with_reducible repeat (first | refine blk_drewN ?_ _ | refine blk_drew ?_ | refine blk_alloc ?_ _)); exact BK316.out) hb); replace HB := am (below_step bel hb); (try clear hb)))
        go_ret
        exact ⟨er, bel⟩
      · rw [if_neg c25] at H
        have c25b0 : (t317 != t276) = false := by simpa using c25
        (try (have c25b1 : decide (t317 = t276) = true := by simpa using c25))
        (try (have c25b2 : (t317 == t276) = true := by simpa using c25))
        clear c25
        replace H := Option.bind_eq_some_iff.mp H
        obtain ⟨⟨t318, t321, t322, t323, t324, t327, t328, t331, t334⟩, A720, H⟩ := H
        replace H : ((laws_eqBook.f k t277 t280 t281 t282 t283 t286 t287 t290 t293 t318 t321 t322 t323 t324 t327 t328 t331 t334).bind fun t337 => (if t337 = true then ((laws_toBook.f k l1_0 a1_1 a1_2 a1_3 l1_4 a1_5 l1_6 l1_7 l1_8).bind fun bt338 => ((laws_eqBook.f k t297 t300 t301 t302 t303 t306 t307 t310 t313 bt338.1 bt338.2.1 bt338.2.2.1 bt338.2.2.2.1 bt338.2.2.2.2.1 bt338.2.2.2.2.2.1 bt338.2.2.2.2.2.2.1 bt338.2.2.2.2.2.2.2.1 bt338.2.2.2.2.2.2.2.2).bind fun t357 => (if t357 = true then (some true) else (some false)))) else (some false))) = some r := H
        have A72 := am A720
        clear A720
        replace H := Option.bind_eq_some_iff.mp H
        obtain ⟨t337, A730, H⟩ := H
        replace H : (if t337 = true then ((laws_toBook.f k l1_0 a1_1 a1_2 a1_3 l1_4 a1_5 l1_6 l1_7 l1_8).bind fun bt338 => ((laws_eqBook.f k t297 t300 t301 t302 t303 t306 t307 t310 t313 bt338.1 bt338.2.1 bt338.2.2.1 bt338.2.2.2.1 bt338.2.2.2.2.1 bt338.2.2.2.2.2.1 bt338.2.2.2.2.2.2.1 bt338.2.2.2.2.2.2.2.1 bt338.2.2.2.2.2.2.2.2).bind fun t357 => (if t357 = true then (some true) else (some false)))) else (some false)) = some r := H
        have A73 := am A730
        clear A730
        by_cases c74 : t337 = true
        · subst c74
          have H1 : ((laws_toBook.f k l1_0 a1_1 a1_2 a1_3 l1_4 a1_5 l1_6 l1_7 l1_8).bind fun bt338 => ((laws_eqBook.f k t297 t300 t301 t302 t303 t306 t307 t310 t313 bt338.1 bt338.2.1 bt338.2.2.1 bt338.2.2.2.1 bt338.2.2.2.2.1 bt338.2.2.2.2.2.1 bt338.2.2.2.2.2.2.1 bt338.2.2.2.2.2.2.2.1 bt338.2.2.2.2.2.2.2.2).bind fun t357 => (if t357 = true then (some true) else (some false)))) = some r := by rw [if_pos rfl] at H; exact H
          clear H
          have H := H1
          clear H1
          replace H := Option.bind_eq_some_iff.mp H
          obtain ⟨⟨t338, t341, t342, t343, t344, t347, t348, t351, t354⟩, A750, H⟩ := H
          replace H : ((laws_eqBook.f k t297 t300 t301 t302 t303 t306 t307 t310 t313 t338 t341 t342 t343 t344 t347 t348 t351 t354).bind fun t357 => (if t357 = true then (some true) else (some false))) = some r := H
          have A75 := am A750
          clear A750
          replace H := Option.bind_eq_some_iff.mp H
          obtain ⟨t357, A760, H⟩ := H
          replace H : (if t357 = true then (some true) else (some false)) = some r := H
          have A76 := am A760
          clear A760
          by_cases c77 : t357 = true
          · subst c77
            have H1 : (some true) = some r := by rw [if_pos rfl] at H; exact H
            clear H
            have H := H1
            clear H1
            obtain rfl := Option.some.inj H
            go_enter Try.func6, Try.ntmps6
            try go_wp2_with (first | ((with_reducible refine gate_dst (N := 2) rfl ?_); refine box_event ?hg (N := 2) ?hd (cs := #[.slice A0_0 l0_0.length c0_0, .int .i64 a0_1, .int .i64 a0_2, .int .i64 a0_3, .slice A0_4 l0_4.length c0_4, .bool a0_5, .slice A0_6 l0_6.length c0_6, .slice A0_7 l0_7.length c0_7, .slice A0_8 l0_8.length c0_8]) (t := 59) ?hr ?_; (case hd => rfl); (case hg => rfl); (case hr => first | (go_simp; done) | (go_simp; rfl)); intro gb234 hg w78 hbox hb; have BK234 := am (hbox); have GW234 := am ((bsz hg : w.heap.size ≤ gb234)); have GE234 := am ((bsz hg : w.heap.size ≤ gb234)); replace HB := am (below_step bel hb); clear hb hbox hg) | ((with_reducible refine gate_dst (N := 3) rfl ?_); refine box_event ?hg (N := 3) ?hd (cs := #[.slice A1_0 l1_0.length c1_0, .int .i64 a1_1, .int .i64 a1_2, .int .i64 a1_3, .slice A1_4 l1_4.length c1_4, .bool a1_5, .slice A1_6 l1_6.length c1_6, .slice A1_7 l1_7.length c1_7, .slice A1_8 l1_8.length c1_8]) (t := 59) ?hr ?_; (case hd => rfl); (case hg => rfl); (case hr => first | (go_simp; done) | (go_simp; rfl)); intro gb235 hg w79 hbox hb; have BK235 := am (hbox); have GW235 := am ((bsz hg : w.heap.size ≤ gb235)); have GE235 := am ((bsz hg : w.heap.size ≤ gb235)); have NB234_235 := am ((nlt hg BK234.out : gb234 ≠ gb235)); have NB235_234 := am ((ngt hg BK234.out : gb235 ≠ gb234)); replace BK234 := am (bb BK234.out hb); replace HB := am (below_step bel hb); clear hb hbox hg; have hnb80 := NB234_235.out; have hnc80 := NB235_234.out; obtain ⟨hcz81_0, hcz81_1, hcz81_2, hcz81_3, hcz81_4, hcz81_5, hcz81_6, hcz81_7, hcz81_8, hfz81_0, hfz81_1, hfz81_2, hfz81_3, hfz81_4, hfz81_5, hfz81_6, hfz81_7, hfz81_8⟩ := cf9 BK234.out) | ((with_reducible refine gate_callee (f := 28) rfl ?_); refine goesL_ (some 12) rfl rfl Try.func28 (by kernel_rfl) rfl #[.agg #[.slice A0_0 l0_0.length c0_0, .int .i64 a0_1, .int .i64 a0_2, .int .i64 a0_3, .slice A0_4 l0_4.length c0_4, .bool a0_5, .slice A0_6 l0_6.length c0_6, .slice A0_7 l0_7.length c0_7, .slice A0_8 l0_8.length c0_8], .int .i64 1048576] rfl ga ?_; (with_reducible refine (laws_szBook.calls k _ _ l0_0 a0_1 a0_2 a0_3 _ _ l0_4 a0_5 _ _ l0_6 _ _ l0_7 _ _ l0_8 1048576 t236 _ ?side1 ?side2 ?side3 ?side4 ?side5 ?side6 ?side7 ?side8 ?side9 ?side10 A3.out).mono ?_); (case side1 => exact ck (Kd.C_below HR0_0.out HB.out)); (case side2 => exact HC0_0.out); (case side3 => exact ck (Kd.C_below HR0_4.out HB.out)); (case side4 => exact HC0_4.out); (case side5 => exact ck (Kd.C_below HR0_6.out HB.out)); (case side6 => exact HC0_6.out); (case side7 => exact ck (Kd.C_below HR0_7.out HB.out)); (case side8 => exact HC0_7.out); (case side9 => exact ck (Kd.C_below HR0_8.out HB.out)); (case side10 => exact HC0_8.out); rintro e w82 ⟨rfl, hb⟩; refine ⟨_, rfl, ?_⟩; replace BK234 := am (bb BK234.out hb); replace BK235 := am (bb BK235.out hb); replace HB := am (below_step bel hb); (try clear hb); obtain ⟨hcz83_0, hcz83_1, hcz83_2, hcz83_3, hcz83_4, hcz83_5, hcz83_6, hcz83_7, hcz83_8, hfz83_0, hfz83_1, hfz83_2, hfz83_3, hfz83_4, hfz83_5, hfz83_6, hfz83_7, hfz83_8⟩ := cf9 BK235.out) | ((with_reducible refine gate_callee (f := 28) rfl ?_); refine goesL_ (some 17) rfl rfl Try.func28 (by kernel_rfl) rfl #[.agg #[.slice A1_0 l1_0.length c1_0, .int .i64 a1_1, .int .i64 a1_2, .int .i64 a1_3, .slice A1_4 l1_4.length c1_4, .bool a1_5, .slice A1_6 l1_6.length c1_6, .slice A1_7 l1_7.length c1_7, .slice A1_8 l1_8.length c1_8], .int .i64 t236] rfl ga ?_; (with_reducible refine (laws_szBook.calls k _ _ l1_0 a1_1 a1_2 a1_3 _ _ l1_4 a1_5 _ _ l1_6 _ _ l1_7 _ _ l1_8 t236 t237 _ ?side1 ?side2 ?side3 ?side4 ?side5 ?side6 ?side7 ?side8 ?side9 ?side10 A10.out).mono ?_); (case side1 => exact ck (Kd.C_below HR1_0.out HB.out)); (case side2 => exact HC1_0.out); (case side3 => exact ck (Kd.C_below HR1_4.out HB.out)); (case side4 => exact HC1_4.out); (case side5 => exact ck (Kd.C_below HR1_6.out HB.out)); (case side6 => exact HC1_6.out); (case side7 => exact ck (Kd.C_below HR1_7.out HB.out)); (case side8 => exact HC1_7.out); (case side9 => exact ck (Kd.C_below HR1_8.out HB.out)); (case side10 => exact HC1_8.out); rintro e w84 ⟨rfl, hb⟩; refine ⟨_, rfl, ?_⟩; replace BK234 := am (bb BK234.out hb); replace BK235 := am (bb BK235.out hb); replace HB := am (below_step bel hb); (try clear hb)))
            replace BK234 := am (blk_drew BK234.out)
            replace BK235 := am (blk_drew BK235.out)
            replace HB := am (below_drew1 HB.out)
            refine start_ (n := 6) (S := fun w' => w'.cell? ⟨gb234, 0, none⟩ = some (.slice A0_0 l0_0.length c0_0) ∧ w'.cell? ⟨gb234, 1, none⟩ = some (.int .i64 a0_1) ∧ w'.cell? ⟨gb234, 2, none⟩ = some (.int .i64 a0_2) ∧ w'.cell? ⟨gb234, 3, none⟩ = some (.int .i64 a0_3) ∧ w'.cell? ⟨gb234, 4, none⟩ = some (.slice A0_4 l0_4.length c0_4) ∧ w'.cell? ⟨gb234, 5, none⟩ = some (.bool a0_5) ∧ w'.cell? ⟨gb234, 6, none⟩ = some (.slice A0_6 l0_6.length c0_6) ∧ w'.cell? ⟨gb234, 7, none⟩ = some (.slice A0_7 l0_7.length c0_7) ∧ w'.cell? ⟨gb234, 8, none⟩ = some (.slice A0_8 l0_8.length c0_8) ∧ w'.cell? ⟨gb235, 0, none⟩ = some (.slice A1_0 l1_0.length c1_0) ∧ w'.cell? ⟨gb235, 1, none⟩ = some (.int .i64 a1_1) ∧ w'.cell? ⟨gb235, 2, none⟩ = some (.int .i64 a1_2) ∧ w'.cell? ⟨gb235, 3, none⟩ = some (.int .i64 a1_3) ∧ w'.cell? ⟨gb235, 4, none⟩ = some (.slice A1_4 l1_4.length c1_4) ∧ w'.cell? ⟨gb235, 5, none⟩ = some (.bool a1_5) ∧ w'.cell? ⟨gb235, 6, none⟩ = some (.slice A1_6 l1_6.length c1_6) ∧ w'.cell? ⟨gb235, 7, none⟩ = some (.slice A1_7 l1_7.length c1_7) ∧ w'.cell? ⟨gb235, 8, none⟩ = some (.slice A1_8 l1_8.length c1_8)) (ds := []) #[false, false, false, false, false, false] (by kernel_rfl) rfl rfl ⟨(blk_cell BK234.out 0).trans rfl, (blk_cell BK234.out 1).trans rfl, (blk_cell BK234.out 2).trans rfl, (blk_cell BK234.out 3).trans rfl, (blk_cell BK234.out 4).trans rfl, (blk_cell BK234.out 5).trans rfl, (blk_cell BK234.out 6).trans rfl, (blk_cell BK234.out 7).trans rfl, (blk_cell BK234.out 8).trans rfl, (blk_cell BK235.out 0).trans rfl, (blk_cell BK235.out 1).trans rfl, (blk_cell BK235.out 2).trans rfl, (blk_cell BK235.out 3).trans rfl, (blk_cell BK235.out 4).trans rfl, (blk_cell BK235.out 5).trans rfl, (blk_cell BK235.out 6).trans rfl, (blk_cell BK235.out 7).trans rfl, (blk_cell BK235.out 8).trans rfl⟩ (fun hHeld => ?_)
            generalize w84.drew = w85 at BK234 BK235 HB hHeld ⊢
            refine take_ (i := 0) (N := some 20) (v := ?_) (a' := ?_) #[true, false, false, false, false, false] rfl rfl (by kernel_rfl) (fun _ _ _ h => h) (Or.inl ⟨by rfl, ?_⟩) hHeld ?_ ?_
            rotate_left
            · rintro w' ⟨s0, s1, s2, s3, s4, s5, s6, s7, s8, s9, s10, s11, s12, s13, s14, s15, s16, s17⟩
              go_simp
              with_reducible rfl
            rotate_left
            · simp only [Act.put, List.setIfInBounds_toArray, List.set_cons_zero, List.set_cons_succ, i64_w, i32_w]
              rfl
            refine take_ (i := 2) (N := some 22) (v := ?_) (a' := ?_) #[true, false, true, false, false, false] rfl rfl (by kernel_rfl) (fun _ _ _ h => h) (Or.inl ⟨by rfl, ?_⟩) hHeld ?_ ?_
            rotate_left
            · rintro w' ⟨s0, s1, s2, s3, s4, s5, s6, s7, s8, s9, s10, s11, s12, s13, s14, s15, s16, s17⟩
              go_simp
              with_reducible rfl
            rotate_left
            · simp only [Act.put, List.setIfInBounds_toArray, List.set_cons_zero, List.set_cons_succ, i64_w, i32_w]
              rfl
            refine one_ (i := 1) (N := some 21) #[true, true, true, false, false, false] rfl rfl (by kernel_rfl) (by decide) (fun K hK => ?_)
            refine goes_ Try.func30 (by kernel_rfl) rfl #[.agg #[.slice A0_0 l0_0.length c0_0, .int .i64 a0_1, .int .i64 a0_2, .int .i64 a0_3, .slice A0_4 l0_4.length c0_4, .bool a0_5, .slice A0_6 l0_6.length c0_6, .slice A0_7 l0_7.length c0_7, .slice A0_8 l0_8.length c0_8]] (by rfl) rfl rfl ga ?_
            with_reducible refine (laws_toBook.calls k _ _ l0_0 a0_1 a0_2 a0_3 _ _ l0_4 a0_5 _ _ l0_6 _ _ l0_7 _ _ l0_8 t238 t241 t242 t243 t244 t247 t248 t251 t254 _ ?side1 ?side2 ?side3 ?side4 ?side5 ?side6 ?side7 ?side8 ?side9 ?side10 A19.out).mono ?_
            (case side1 => exact ck (Kd.C_below HR0_0.out HB.out))
            (case side2 => exact HC0_0.out)
            (case side3 => exact ck (Kd.C_below HR0_4.out HB.out))
            (case side4 => exact HC0_4.out)
            (case side5 => exact ck (Kd.C_below HR0_6.out HB.out))
            (case side6 => exact HC0_6.out)
            (case side7 => exact ck (Kd.C_below HR0_7.out HB.out))
            (case side8 => exact HC0_7.out)
            (case side9 => exact ck (Kd.C_below HR0_8.out HB.out))
            (case side10 => exact HC0_8.out)
            rintro e w86 ⟨v239, v245, v249, v252, v255, rfl, ho0, ho1, ho2, ho3, ho4, hb⟩
            refine ⟨_, rfl, ?_⟩
            have HO240 := am (Kd.R_lower ho0 (below_size bel))
            have HO246 := am (Kd.R_lower ho1 (below_size bel))
            have HO250 := am (Kd.R_lower ho2 (below_size bel))
            have HO253 := am (Kd.R_lower ho3 (below_size bel))
            have HO256 := am (Kd.R_lower ho4 (below_size bel))
            replace BK234 := am (bb BK234.out hb)
            replace BK235 := am (bb BK235.out hb)
            replace HB := am (below_step bel hb)
            (try clear hb)
            (try clear hb2)
            (try clear hk)
            (try clear hi)
            (try clear ho0)
            (try clear ho1)
            (try clear ho2)
            (try clear ho3)
            (try clear ho4)
            refine hK.out _ _ ⟨(blk_cell BK234.out 0).trans rfl, (blk_cell BK234.out 1).trans rfl, (blk_cell BK234.out 2).trans rfl, (blk_cell BK234.out 3).trans rfl, (blk_cell BK234.out 4).trans rfl, (blk_cell BK234.out 5).trans rfl, (blk_cell BK234.out 6).trans rfl, (blk_cell BK234.out 7).trans rfl, (blk_cell BK234.out 8).trans rfl, (blk_cell BK235.out 0).trans rfl, (blk_cell BK235.out 1).trans rfl, (blk_cell BK235.out 2).trans rfl, (blk_cell BK235.out 3).trans rfl, (blk_cell BK235.out 4).trans rfl, (blk_cell BK235.out 5).trans rfl, (blk_cell BK235.out 6).trans rfl, (blk_cell BK235.out 7).trans rfl, (blk_cell BK235.out 8).trans rfl⟩ (fun hHeld => ?_)
            clear hK K
            refine norm_ (a' := ?_) ?_ ?_
            rotate_left
            · show Act.put _ (some 21) _ = _
              simp only [Act.put, List.setIfInBounds_toArray, List.set_cons_zero, List.set_cons_succ, i64_w, i32_w]
              rfl
            refine one_ (i := 3) (N := some 23) #[true, true, true, true, false, false] rfl rfl (by kernel_rfl) (by decide) (fun K hK => ?_)
            refine goes_ Try.func30 (by kernel_rfl) rfl #[.agg #[.slice A1_0 l1_0.length c1_0, .int .i64 a1_1, .int .i64 a1_2, .int .i64 a1_3, .slice A1_4 l1_4.length c1_4, .bool a1_5, .slice A1_6 l1_6.length c1_6, .slice A1_7 l1_7.length c1_7, .slice A1_8 l1_8.length c1_8]] (by rfl) rfl rfl ga ?_
            with_reducible refine (laws_toBook.calls k _ _ l1_0 a1_1 a1_2 a1_3 _ _ l1_4 a1_5 _ _ l1_6 _ _ l1_7 _ _ l1_8 t257 t260 t261 t262 t263 t266 t267 t270 t273 _ ?side1 ?side2 ?side3 ?side4 ?side5 ?side6 ?side7 ?side8 ?side9 ?side10 A20.out).mono ?_
            (case side1 => exact ck (Kd.C_below HR1_0.out HB.out))
            (case side2 => exact HC1_0.out)
            (case side3 => exact ck (Kd.C_below HR1_4.out HB.out))
            (case side4 => exact HC1_4.out)
            (case side5 => exact ck (Kd.C_below HR1_6.out HB.out))
            (case side6 => exact HC1_6.out)
            (case side7 => exact ck (Kd.C_below HR1_7.out HB.out))
            (case side8 => exact HC1_7.out)
            (case side9 => exact ck (Kd.C_below HR1_8.out HB.out))
            (case side10 => exact HC1_8.out)
            rintro e w87 ⟨v258, v264, v268, v271, v274, rfl, ho0, ho1, ho2, ho3, ho4, hb⟩
            refine ⟨_, rfl, ?_⟩
            have HO259 := am (Kd.R_lower (Kd.R_new' ho0 (rl HO240)) (below_size bel))
            have HO265 := am (Kd.R_lower (Kd.R_new' (Kd.R_new' (Kd.R_new' ho1 (rl HO246)) (rl HO253)) (rl HO256)) (below_size bel))
            have HO269 := am (Kd.R_lower (Kd.R_new' ho2 (rl HO250)) (below_size bel))
            have HO272 := am (Kd.R_lower (Kd.R_new' (Kd.R_new' (Kd.R_new' ho3 (rl HO246)) (rl HO253)) (rl HO256)) (below_size bel))
            have HO275 := am (Kd.R_lower (Kd.R_new' (Kd.R_new' (Kd.R_new' ho4 (rl HO246)) (rl HO253)) (rl HO256)) (below_size bel))
            replace HO240 := am (Kd.R_elder' (rk HO240.out) (Kd.R_base ho0) hb)
            replace HO246 := am (Kd.R_mono (Kd.R_told (Kd.R_told (Kd.R_told (Kd.R_old (rk HO246.out) hb) (Kd.R_base ho1)) (Kd.R_base ho3)) (Kd.R_base ho4)) (fun _ h_ => h_.1))
            replace HO250 := am (Kd.R_elder' (rk HO250.out) (Kd.R_base ho2) hb)
            replace HO253 := am (Kd.R_mono (Kd.R_told (Kd.R_told (Kd.R_told (Kd.R_old (rk HO253.out) hb) (Kd.R_base ho1)) (Kd.R_base ho3)) (Kd.R_base ho4)) (fun _ h_ => h_.1))
            replace HO256 := am (Kd.R_mono (Kd.R_told (Kd.R_told (Kd.R_told (Kd.R_old (rk HO256.out) hb) (Kd.R_base ho1)) (Kd.R_base ho3)) (Kd.R_base ho4)) (fun _ h_ => h_.1))
            replace BK234 := am (bb BK234.out hb)
            replace BK235 := am (bb BK235.out hb)
            replace HB := am (below_step bel hb)
            (try clear hb)
            (try clear hb2)
            (try clear hk)
            (try clear hi)
            (try clear ho0)
            (try clear ho1)
            (try clear ho2)
            (try clear ho3)
            (try clear ho4)
            obtain ⟨Ao88, co88, eo88⟩ := Kd.R_slice HO240.out
            (first | subst eo88 | (injection eo88 with f1_ f2_ f3_; have f4_ := f1_.symm; have f5_ := f3_.symm; clear f1_ f2_ f3_; subst f4_; subst f5_))
            obtain ⟨Ao89, co89, eo89⟩ := Kd.R_slice HO246.out
            (first | subst eo89 | (injection eo89 with f1_ f2_ f3_; have f4_ := f1_.symm; have f5_ := f3_.symm; clear f1_ f2_ f3_; subst f4_; subst f5_))
            obtain ⟨Ao90, co90, eo90⟩ := Kd.R_slice HO250.out
            (first | subst eo90 | (injection eo90 with f1_ f2_ f3_; have f4_ := f1_.symm; have f5_ := f3_.symm; clear f1_ f2_ f3_; subst f4_; subst f5_))
            obtain ⟨Ao91, co91, eo91⟩ := Kd.R_slice HO253.out
            (first | subst eo91 | (injection eo91 with f1_ f2_ f3_; have f4_ := f1_.symm; have f5_ := f3_.symm; clear f1_ f2_ f3_; subst f4_; subst f5_))
            obtain ⟨Ao92, co92, eo92⟩ := Kd.R_slice HO256.out
            (first | subst eo92 | (injection eo92 with f1_ f2_ f3_; have f4_ := f1_.symm; have f5_ := f3_.symm; clear f1_ f2_ f3_; subst f4_; subst f5_))
            obtain ⟨Ao93, co93, eo93⟩ := Kd.R_slice HO259.out
            (first | subst eo93 | (injection eo93 with f1_ f2_ f3_; have f4_ := f1_.symm; have f5_ := f3_.symm; clear f1_ f2_ f3_; subst f4_; subst f5_))
            obtain ⟨Ao94, co94, eo94⟩ := Kd.R_slice HO265.out
            (first | subst eo94 | (injection eo94 with f1_ f2_ f3_; have f4_ := f1_.symm; have f5_ := f3_.symm; clear f1_ f2_ f3_; subst f4_; subst f5_))
            obtain ⟨Ao95, co95, eo95⟩ := Kd.R_slice HO269.out
            (first | subst eo95 | (injection eo95 with f1_ f2_ f3_; have f4_ := f1_.symm; have f5_ := f3_.symm; clear f1_ f2_ f3_; subst f4_; subst f5_))
            obtain ⟨Ao96, co96, eo96⟩ := Kd.R_slice HO272.out
            (first | subst eo96 | (injection eo96 with f1_ f2_ f3_; have f4_ := f1_.symm; have f5_ := f3_.symm; clear f1_ f2_ f3_; subst f4_; subst f5_))
            obtain ⟨Ao97, co97, eo97⟩ := Kd.R_slice HO275.out
            (first | subst eo97 | (injection eo97 with f1_ f2_ f3_; have f4_ := f1_.symm; have f5_ := f3_.symm; clear f1_ f2_ f3_; subst f4_; subst f5_))
            refine hK.out _ _ ⟨(blk_cell BK234.out 0).trans rfl, (blk_cell BK234.out 1).trans rfl, (blk_cell BK234.out 2).trans rfl, (blk_cell BK234.out 3).trans rfl, (blk_cell BK234.out 4).trans rfl, (blk_cell BK234.out 5).trans rfl, (blk_cell BK234.out 6).trans rfl, (blk_cell BK234.out 7).trans rfl, (blk_cell BK234.out 8).trans rfl, (blk_cell BK235.out 0).trans rfl, (blk_cell BK235.out 1).trans rfl, (blk_cell BK235.out 2).trans rfl, (blk_cell BK235.out 3).trans rfl, (blk_cell BK235.out 4).trans rfl, (blk_cell BK235.out 5).trans rfl, (blk_cell BK235.out 6).trans rfl, (blk_cell BK235.out 7).trans rfl, (blk_cell BK235.out 8).trans rfl⟩ (fun hHeld => ?_)
            clear hK K
            refine norm_ (a' := ?_) ?_ ?_
            rotate_left
            · show Act.put _ (some 23) _ = _
              simp only [Act.put, List.setIfInBounds_toArray, List.set_cons_zero, List.set_cons_succ, i64_w, i32_w]
              rfl
            refine one_ (i := 4) (N := some 24) #[true, true, true, true, true, false] rfl rfl (by kernel_rfl) (by decide) (fun K hK => ?_)
            refine goes_ Try.func29 (by kernel_rfl) rfl #[.agg #[.slice Ao88 t238.length co88, .int .i64 t241, .int .i64 t242, .int .i64 t243, .slice Ao89 t244.length co89, .bool t247, .slice Ao90 t248.length co90, .slice Ao91 t251.length co91, .slice Ao92 t254.length co92], .agg #[.slice Ao93 t257.length co93, .int .i64 t260, .int .i64 t261, .int .i64 t262, .slice Ao94 t263.length co94, .bool t266, .slice Ao95 t267.length co95, .slice Ao96 t270.length co96, .slice Ao97 t273.length co97]] (by rfl) rfl rfl ga ?_
            with_reducible refine (spec_SameBooks.calls k _ _ t238 t241 t242 t243 _ _ t244 t247 _ _ t248 _ _ t251 _ _ t254 _ _ t257 t260 t261 t262 _ _ t263 t266 _ _ t267 _ _ t270 _ _ t273 t276 _ ?side1 ?side2 ?side3 ?side4 ?side5 ?side6 ?side7 ?side8 ?side9 ?side10 ?side11 ?side12 ?side13 ?side14 ?side15 ?side16 ?side17 ?side18 ?side19 ?side20 A21.out).mono ?_
            (case side1 => exact cr HO240)
            (case side2 => exact (Kd.R_reads' HO240.out).2.1)
            (case side3 => exact cr HO246)
            (case side4 => exact (Kd.R_reads' HO246.out).2.1)
            (case side5 => exact cr HO250)
            (case side6 => exact (Kd.R_reads' HO250.out).2.1)
            (case side7 => exact cr HO253)
            (case side8 => exact (Kd.R_reads' HO253.out).2.1)
            (case side9 => exact cr HO256)
            (case side10 => exact (Kd.R_reads' HO256.out).2.1)
            (case side11 => exact cr HO259)
            (case side12 => exact (Kd.R_reads' HO259.out).2.1)
            (case side13 => exact cr HO265)
            (case side14 => exact (Kd.R_reads' HO265.out).2.1)
            (case side15 => exact cr HO269)
            (case side16 => exact (Kd.R_reads' HO269.out).2.1)
            (case side17 => exact cr HO272)
            (case side18 => exact (Kd.R_reads' HO272.out).2.1)
            (case side19 => exact cr HO275)
            (case side20 => exact (Kd.R_reads' HO275.out).2.1)
            rintro e w98 ⟨rfl, hb⟩
            refine ⟨_, rfl, ?_⟩
            replace HO240 := rb HO240 hb
            replace HO246 := rb HO246 hb
            replace HO250 := rb HO250 hb
            replace HO253 := rb HO253 hb
            replace HO256 := rb HO256 hb
            replace HO259 := rb HO259 hb
            replace HO265 := rb HO265 hb
            replace HO269 := rb HO269 hb
            replace HO272 := rb HO272 hb
            replace HO275 := rb HO275 hb
            replace BK234 := am (bb BK234.out hb)
            replace BK235 := am (bb BK235.out hb)
            replace HB := am (below_step bel hb)
            (try clear hb)
            (try clear hb2)
            (try clear hk)
            (try clear hi)
            refine hK.out _ _ ⟨(blk_cell BK234.out 0).trans rfl, (blk_cell BK234.out 1).trans rfl, (blk_cell BK234.out 2).trans rfl, (blk_cell BK234.out 3).trans rfl, (blk_cell BK234.out 4).trans rfl, (blk_cell BK234.out 5).trans rfl, (blk_cell BK234.out 6).trans rfl, (blk_cell BK234.out 7).trans rfl, (blk_cell BK234.out 8).trans rfl, (blk_cell BK235.out 0).trans rfl, (blk_cell BK235.out 1).trans rfl, (blk_cell BK235.out 2).trans rfl, (blk_cell BK235.out 3).trans rfl, (blk_cell BK235.out 4).trans rfl, (blk_cell BK235.out 5).trans rfl, (blk_cell BK235.out 6).trans rfl, (blk_cell BK235.out 7).trans rfl, (blk_cell BK235.out 8).trans rfl⟩ (fun hHeld => ?_)
            clear hK K
            refine norm_ (a' := ?_) ?_ ?_
            rotate_left
            · show Act.put _ (some 24) _ = _
              simp only [Act.put, List.setIfInBounds_toArray, List.set_cons_zero, List.set_cons_succ, i64_w, i32_w]
              rfl
            refine pure_ (i := 5) (N := some 6) (v := ?_) (a' := ?_) #[true, true, true, true, true, true] rfl rfl (by kernel_rfl) (fun _ _ _ h => h) (Or.inl ⟨by rfl, ?_⟩) ?_ ?_
            rotate_left
            · intro w'
              go_simp
              with_reducible rfl
            rotate_left
            · simp only [Act.put, List.setIfInBounds_toArray, List.set_cons_zero, List.set_cons_succ, i64_w, i32_w]
              rfl
            refine done_ (by kernel_rfl) ?_
            obtain ⟨hcz99_0, hcz99_1, hcz99_2, hcz99_3, hcz99_4, hcz99_5, hcz99_6, hcz99_7, hcz99_8, hfz99_0, hfz99_1, hfz99_2, hfz99_3, hfz99_4, hfz99_5, hfz99_6, hfz99_7, hfz99_8⟩ := cf9 BK234.out
            try go_wp2_with (first | ((with_reducible refine gate_callee (f := 30) rfl ?_); refine goesL_ (some 26) rfl rfl Try.func30 (by kernel_rfl) rfl #[.agg #[.slice A0_0 l0_0.length c0_0, .int .i64 a0_1, .int .i64 a0_2, .int .i64 a0_3, .slice A0_4 l0_4.length c0_4, .bool a0_5, .slice A0_6 l0_6.length c0_6, .slice A0_7 l0_7.length c0_7, .slice A0_8 l0_8.length c0_8]] rfl ga ?_; (with_reducible refine (laws_toBook.calls k _ _ l0_0 a0_1 a0_2 a0_3 _ _ l0_4 a0_5 _ _ l0_6 _ _ l0_7 _ _ l0_8 t277 t280 t281 t282 t283 t286 t287 t290 t293 _ ?side1 ?side2 ?side3 ?side4 ?side5 ?side6 ?side7 ?side8 ?side9 ?side10 A22.out).mono ?_); (case side1 => exact ck (Kd.C_below HR0_0.out HB.out)); (case side2 => exact HC0_0.out); (case side3 => exact ck (Kd.C_below HR0_4.out HB.out)); (case side4 => exact HC0_4.out); (case side5 => exact ck (Kd.C_below HR0_6.out HB.out)); (case side6 => exact HC0_6.out); (case side7 => exact ck (Kd.C_below HR0_7.out HB.out)); (case side8 => exact HC0_7.out); (case side9 => exact ck (Kd.C_below HR0_8.out HB.out)); (case side10 => exact HC0_8.out); rintro e w100 ⟨v278, v284, v288, v291, v294, rfl, ho0, ho1, ho2, ho3, ho4, hb⟩; refine ⟨_, rfl, ?_⟩; have HO279 := am (Kd.R_lower (Kd.R_new' (Kd.R_new' ho0 (rl HO240)) (rl HO259)) (below_size bel)); have HO285 := am (Kd.R_lower (Kd.R_new' (Kd.R_new' (Kd.R_new' (Kd.R_new' (Kd.R_new' (Kd.R_new' ho1 (rl HO246)) (rl HO253)) (rl HO256)) (rl HO265)) (rl HO272)) (rl HO275)) (below_size bel)); have HO289 := am (Kd.R_lower (Kd.R_new' (Kd.R_new' ho2 (rl HO250)) (rl HO269)) (below_size bel)); have HO292 := am (Kd.R_lower (Kd.R_new' (Kd.R_new' (Kd.R_new' (Kd.R_new' (Kd.R_new' (Kd.R_new' ho3 (rl HO246)) (rl HO253)) (rl HO256)) (rl HO265)) (rl HO272)) (rl HO275)) (below_size bel)); have HO295 := am (Kd.R_lower (Kd.R_new' (Kd.R_new' (Kd.R_new' (Kd.R_new' (Kd.R_new' (Kd.R_new' ho4 (rl HO246)) (rl HO253)) (rl HO256)) (rl HO265)) (rl HO272)) (rl HO275)) (below_size bel)); replace HO240 := am (Kd.R_elder' (rk HO240.out) (Kd.R_base ho0) hb); replace HO246 := am (Kd.R_mono (Kd.R_told (Kd.R_told (Kd.R_told (Kd.R_old (rk HO246.out) hb) (Kd.R_base ho1)) (Kd.R_base ho3)) (Kd.R_base ho4)) (fun _ h_ => h_.1)); replace HO250 := am (Kd.R_elder' (rk HO250.out) (Kd.R_base ho2) hb); replace HO253 := am (Kd.R_mono (Kd.R_told (Kd.R_told (Kd.R_told (Kd.R_old (rk HO253.out) hb) (Kd.R_base ho1)) (Kd.R_base ho3)) (Kd.R_base ho4)) (fun _ h_ => h_.1)); replace HO256 := am (Kd.R_mono (Kd.R_told (Kd.R_told (Kd.R_told (Kd.R_old (rk HO256.out) hb) (Kd.R_base ho1)) (Kd.R_base ho3)) (Kd.R_base ho4)) (fun _ h_ => h_.1)); replace HO259 := am (Kd.R_elder' (rk HO259.out) (Kd.R_base ho0) hb); replace HO265 := am (Kd.R_mono (Kd.R_told (Kd.R_told (Kd.R_told (Kd.R_old (rk HO265.out) hb) (Kd.R_base ho1)) (Kd.R_base ho3)) (Kd.R_base ho4)) (fun _ h_ => h_.1)); replace HO269 := am (Kd.R_elder' (rk HO269.out) (Kd.R_base ho2) hb); replace HO272 := am (Kd.R_mono (Kd.R_told (Kd.R_told (Kd.R_told (Kd.R_old (rk HO272.out) hb) (Kd.R_base ho1)) (Kd.R_base ho3)) (Kd.R_base ho4)) (fun _ h_ => h_.1)); replace HO275 := am (Kd.R_mono (Kd.R_told (Kd.R_told (Kd.R_told (Kd.R_old (rk HO275.out) hb) (Kd.R_base ho1)) (Kd.R_base ho3)) (Kd.R_base ho4)) (fun _ h_ => h_.1)); replace BK234 := am (bb BK234.out hb); replace BK235 := am (bb BK235.out hb); replace HB := am (below_step bel hb); (try clear hb); (try clear ho0); (try clear ho1); (try clear ho2); (try clear ho3); (try clear ho4)) | ((with_reducible refine gate_dst (N := 7) rfl ?_); refine box_event ?hg (N := 7) ?hd (cs := #[.slice none 0 0, .int .i64 0, .int .i64 0, .int .i64 0, .slice none 0 0, .bool false, .slice none 0 0, .slice none 0 0, .slice none 0 0]) (t := 65) ?hr ?_; (case hd => rfl); (case hg => rfl); (case hr => first | (go_simp; done) | (go_simp; rfl)); intro gb296 hg w101 hbox hb; have BK296 := am (hbox); have GW296 := am ((bsz hg : w.heap.size ≤ gb296)); have GE296 := am ((bsz hg : w.heap.size ≤ gb296)); have NB234_296 := am ((nlt hg BK234.out : gb234 ≠ gb296)); have NB296_234 := am ((ngt hg BK234.out : gb296 ≠ gb234)); have NB235_296 := am ((nlt hg BK235.out : gb235 ≠ gb296)); have NB296_235 := am ((ngt hg BK235.out : gb296 ≠ gb235)); replace HO240 := rb HO240 hb; replace HO246 := rb HO246 hb; replace HO250 := rb HO250 hb; replace HO253 := rb HO253 hb; replace HO256 := rb HO256 hb; replace HO259 := rb HO259 hb; replace HO265 := rb HO265 hb; replace HO269 := rb HO269 hb; replace HO272 := rb HO272 hb; replace HO275 := rb HO275 hb; replace HO279 := rb HO279 hb; replace HO285 := rb HO285 hb; replace HO289 := rb HO289 hb; replace HO292 := rb HO292 hb; replace HO295 := rb HO295 hb; replace BK234 := am (bb BK234.out hb); replace BK235 := am (bb BK235.out hb); replace HB := am (below_step bel hb); clear hb hbox hg; obtain ⟨Ao102, co102, eo102⟩ := Kd.R_slice HO279.out; subst eo102; have hnb103 := NB296_234.out; have hnc103 := NB234_296.out; have hnb104 := NB296_235.out; have hnc104 := NB235_296.out; obtain ⟨hcz105_0, hcz105_1, hcz105_2, hcz105_3, hcz105_4, hcz105_5, hcz105_6, hcz105_7, hcz105_8, hfz105_0, hfz105_1, hfz105_2, hfz105_3, hfz105_4, hfz105_5, hfz105_6, hfz105_7, hfz105_8⟩ := cf9 BK296.out; obtain ⟨Ao106, co106, eo106⟩ := Kd.R_slice HO285.out; subst eo106; obtain ⟨Ao107, co107, eo107⟩ := Kd.R_slice HO289.out; subst eo107; obtain ⟨Ao108, co108, eo108⟩ := Kd.R_slice HO292.out; subst eo108; obtain ⟨Ao109, co109, eo109⟩ := Kd.R_slice HO295.out; subst eo109; obtain ⟨hcz110_0, hcz110_1, hcz110_2, hcz110_3, hcz110_4, hcz110_5, hcz110_6, hcz110_7, hcz110_8, hfz110_0, hfz110_1, hfz110_2, hfz110_3, hfz110_4, hfz110_5, hfz110_6, hfz110_7, hfz110_8⟩ := cf9 BK235.out) | ((with_reducible refine gate_callee (f := 30) rfl ?_); refine goesL_ (some 28) rfl rfl Try.func30 (by kernel_rfl) rfl #[.agg #[.slice A1_0 l1_0.length c1_0, .int .i64 a1_1, .int .i64 a1_2, .int .i64 a1_3, .slice A1_4 l1_4.length c1_4, .bool a1_5, .slice A1_6 l1_6.length c1_6, .slice A1_7 l1_7.length c1_7, .slice A1_8 l1_8.length c1_8]] rfl ga ?_; (with_reducible refine (laws_toBook.calls k _ _ l1_0 a1_1 a1_2 a1_3 _ _ l1_4 a1_5 _ _ l1_6 _ _ l1_7 _ _ l1_8 t297 t300 t301 t302 t303 t306 t307 t310 t313 _ ?side1 ?side2 ?side3 ?side4 ?side5 ?side6 ?side7 ?side8 ?side9 ?side10 A23.out).mono ?_); (case side1 => exact Kd.C_below HR1_0.out bel); (case side2 => exact HC1_0.out); (case side3 => exact Kd.C_below HR1_4.out bel); (case side4 => exact HC1_4.out); (case side5 => exact Kd.C_below HR1_6.out bel); (case side6 => exact HC1_6.out); (case side7 => exact Kd.C_below HR1_7.out bel); (case side8 => exact HC1_7.out); (case side9 => exact Kd.C_below HR1_8.out bel); (case side10 => exact HC1_8.out); rintro e w111 ⟨v298, v304, v308, v311, v314, rfl, ho0, ho1, ho2, ho3, ho4, hb⟩; refine ⟨_, rfl, ?_⟩; have HO299 := am (Kd.R_lower (Kd.R_new' (Kd.R_new' (Kd.R_new' ho0 (Kd.R_lt (rf9 HO240 BK296))) (Kd.R_lt (rf9 HO259 BK296))) (Kd.R_lt (rf9 HO279 BK296))) (below_size bel)); have HO305 := am (Kd.R_lower (Kd.R_new' (Kd.R_new' (Kd.R_new' (Kd.R_new' (Kd.R_new' (Kd.R_new' (Kd.R_new' (Kd.R_new' (Kd.R_new' ho1 (Kd.R_lt (rf9 HO246 BK296))) (Kd.R_lt (rf9 HO253 BK296))) (Kd.R_lt (rf9 HO256 BK296))) (Kd.R_lt (rf9 HO265 BK296))) (Kd.R_lt (rf9 HO272 BK296))) (Kd.R_lt (rf9 HO275 BK296))) (Kd.R_lt (rf9 HO285 BK296))) (Kd.R_lt (rf9 HO292 BK296))) (Kd.R_lt (rf9 HO295 BK296))) (below_size bel)); have HO309 := am (Kd.R_lower (Kd.R_new' (Kd.R_new' (Kd.R_new' ho2 (Kd.R_lt (rf9 HO250 BK296))) (Kd.R_lt (rf9 HO269 BK296))) (Kd.R_lt (rf9 HO289 BK296))) (below_size bel)); have HO312 := am (Kd.R_lower (Kd.R_new' (Kd.R_new' (Kd.R_new' (Kd.R_new' (Kd.R_new' (Kd.R_new' (Kd.R_new' (Kd.R_new' (Kd.R_new' ho3 (Kd.R_lt (rf9 HO246 BK296))) (Kd.R_lt (rf9 HO253 BK296))) (Kd.R_lt (rf9 HO256 BK296))) (Kd.R_lt (rf9 HO265 BK296))) (Kd.R_lt (rf9 HO272 BK296))) (Kd.R_lt (rf9 HO275 BK296))) (Kd.R_lt (rf9 HO285 BK296))) (Kd.R_lt (rf9 HO292 BK296))) (Kd.R_lt (rf9 HO295 BK296))) (below_size bel)); have HO315 := am (Kd.R_lower (Kd.R_new' (Kd.R_new' (Kd.R_new' (Kd.R_new' (Kd.R_new' (Kd.R_new' (Kd.R_new' (Kd.R_new' (Kd.R_new' ho4 (Kd.R_lt (rf9 HO246 BK296))) (Kd.R_lt (rf9 HO253 BK296))) (Kd.R_lt (rf9 HO256 BK296))) (Kd.R_lt (rf9 HO265 BK296))) (Kd.R_lt (rf9 HO272 BK296))) (Kd.R_lt (rf9 HO275 BK296))) (Kd.R_lt (rf9 HO285 BK296))) (Kd.R_lt (rf9 HO292 BK296))) (Kd.R_lt (rf9 HO295 BK296))) (below_size bel)); replace HO240 := am (Kd.R_elder' (rf9 HO240 BK296) (Kd.R_base ho0) hb); replace HO246 := am (Kd.R_mono (Kd.R_told (Kd.R_told (Kd.R_told (Kd.R_old (rf9 HO246 BK296) hb) (Kd.R_base ho1)) (Kd.R_base ho3)) (Kd.R_base ho4)) (fun _ h_ => h_.1)); replace HO250 := am (Kd.R_elder' (rf9 HO250 BK296) (Kd.R_base ho2) hb); replace HO253 := am (Kd.R_mono (Kd.R_told (Kd.R_told (Kd.R_told (Kd.R_old (rf9 HO253 BK296) hb) (Kd.R_base ho1)) (Kd.R_base ho3)) (Kd.R_base ho4)) (fun _ h_ => h_.1)); replace HO256 := am (Kd.R_mono (Kd.R_told (Kd.R_told (Kd.R_told (Kd.R_old (rf9 HO256 BK296) hb) (Kd.R_base ho1)) (Kd.R_base ho3)) (Kd.R_base ho4)) (fun _ h_ => h_.1)); replace HO259 := am (Kd.R_elder' (rf9 HO259 BK296) (Kd.R_base ho0) hb); replace HO265 := am (Kd.R_mono (Kd.R_told (Kd.R_told (Kd.R_told (Kd.R_old (rf9 HO265 BK296) hb) (Kd.R_base ho1)) (Kd.R_base ho3)) (Kd.R_base ho4)) (fun _ h_ => h_.1)); replace HO269 := am (Kd.R_elder' (rf9 HO269 BK296) (Kd.R_base ho2) hb); replace HO272 := am (Kd.R_mono (Kd.R_told (Kd.R_told (Kd.R_told (Kd.R_old (rf9 HO272 BK296) hb) (Kd.R_base ho1)) (Kd.R_base ho3)) (Kd.R_base ho4)) (fun _ h_ => h_.1)); replace HO275 := am (Kd.R_mono (Kd.R_told (Kd.R_told (Kd.R_told (Kd.R_old (rf9 HO275 BK296) hb) (Kd.R_base ho1)) (Kd.R_base ho3)) (Kd.R_base ho4)) (fun _ h_ => h_.1)); replace HO279 := am (Kd.R_elder' (rf9 HO279 BK296) (Kd.R_base ho0) hb); replace HO285 := am (Kd.R_mono (Kd.R_told (Kd.R_told (Kd.R_told (Kd.R_old (rf9 HO285 BK296) hb) (Kd.R_base ho1)) (Kd.R_base ho3)) (Kd.R_base ho4)) (fun _ h_ => h_.1)); replace HO289 := am (Kd.R_elder' (rf9 HO289 BK296) (Kd.R_base ho2) hb); replace HO292 := am (Kd.R_mono (Kd.R_told (Kd.R_told (Kd.R_told (Kd.R_old (rf9 HO292 BK296) hb) (Kd.R_base ho1)) (Kd.R_base ho3)) (Kd.R_base ho4)) (fun _ h_ => h_.1)); replace HO295 := am (Kd.R_mono (Kd.R_told (Kd.R_told (Kd.R_told (Kd.R_old (rf9 HO295 BK296) hb) (Kd.R_base ho1)) (Kd.R_base ho3)) (Kd.R_base ho4)) (fun _ h_ => h_.1)); replace BK234 := am (bb BK234.out hb); replace BK235 := am (bb BK235.out hb); replace BK296 := am (blk_below (g := gb296) (o := .cells #[.slice Ao102 t277.length co102, .int .i64 t280, .int .i64 t281, .int .i64 t282, .slice Ao106 t283.length co106, .bool t286, .slice Ao107 t287.length co107, .slice Ao108 t290.length co108, .slice Ao109 t293.length co109] 65 (0, 0)) (by (with_reducible repeat (first | refine blk_drewN ?_ _ | refine blk_drew ?_ | refine blk_alloc ?_ _)); refine blk_put (cs := #[.slice Ao102 t277.length co102, .int .i64 t280, .int .i64 t281, .int .i64 t282, .slice Ao106 t283.length co106, .bool t286, .slice Ao107 t287.length co107, .slice Ao108 t290.length co108, .slice none 0 0]) ?_ 8 _ rfl; (with_reducible repeat (first | refine blk_drewN ?_ _ | refine blk_drew ?_ | refine blk_alloc ?_ _)); refine blk_put (cs := #[.slice Ao102 t277.length co102, .int .i64 t280, .int .i64 t281, .int .i64 t282, .slice Ao106 t283.length co106, .bool t286, .slice Ao107 t287.length co107, .slice none 0 0, .slice none 0 0]) ?_ 7 _ rfl; (with_reducible repeat (first | refine blk_drewN ?_ _ | refine blk_drew ?_ | refine blk_alloc ?_ _)); refine blk_put (cs := #[.slice Ao102 t277.length co102, .int .i64 t280, .int .i64 t281, .int .i64 t282, .slice Ao106 t283.length co106, .bool t286, .slice none 0 0, .slice none 0 0, .slice none 0 0]) ?_ 6 _ rfl; (with_reducible repeat (first | refine blk_drewN ?_ _ | refine blk_drew ?_ | refine blk_alloc ?_ _)); refine blk_put (cs := #[.slice Ao102 t277.length co102, .int .i64 t280, .int .i64 t281, .int .i64 t282, .slice Ao106 t283.length co106, .bool false, .slice none 0 0, .slice none 0 0, .slice none 0 0]) ?_ 5 _ rfl; (with_reducible repeat (first | refine blk_drewN ?_ _ | refine blk_drew ?_ | refine blk_alloc ?_ _)); refine blk_put (cs := #[.slice Ao102 t277.length co102, .int .i64 t280, .int .i64 t281, .int .i64 t282, .slice none 0 0, .bool false, .slice none 0 0, .slice none 0 0, .slice none 0 0]) ?_ 4 _ rfl; (with_reducible repeat (first | refine blk_drewN ?_ _ | refine blk_drew ?_ | refine blk_alloc ?_ _)); refine blk_put (cs := #[.slice Ao102 t277.length co102, .int .i64 t280, .int .i64 t281, .int .i64 0, .slice none 0 0, .bool false, .slice none 0 0, .slice none 0 0, .slice none 0 0]) ?_ 3 _ rfl; (with_reducible repeat (first | refine blk_drewN ?_ _ | refine blk_drew ?_ | refine blk_alloc ?_ _)); refine blk_put (cs := #[.slice Ao102 t277.length co102, .int .i64 t280, .int .i64 0, .int .i64 0, .slice none 0 0, .bool false, .slice none 0 0, .slice none 0 0, .slice none 0 0]) ?_ 2 _ rfl; (with_reducible repeat (first | refine blk_drewN ?_ _ | refine blk_drew ?_ | refine blk_alloc ?_ _)); refine blk_put (cs := #[.slice Ao102 t277.length co102, .int .i64 0, .int .i64 0, .int .i64 0, .slice none 0 0, .bool false, .slice none 0 0, .slice none 0 0, .slice none 0 0]) ?_ 1 _ rfl; (with_reducible repeat (first | refine blk_drewN ?_ _ | refine blk_drew ?_ | refine blk_alloc ?_ _)); refine blk_put (cs := #[.slice none 0 0, .int .i64 0, .int .i64 0, .int .i64 0, .slice none 0 0, .bool false, .slice none 0 0, .slice none 0 0, .slice none 0 0]) ?_ 0 _ rfl; (with_reducible repeat (first | refine blk_drewN ?_ _ | refine blk_drew ?_ | refine blk_alloc ?_ _)); exact BK296.out) hb); replace HB := am (below_step bel hb); (try clear hb); (try clear ho0); (try clear ho1); (try clear ho2); (try clear ho3); (try clear ho4)) | ((with_reducible refine gate_dst (N := 8) rfl ?_); refine box_event ?hg (N := 8) ?hd (cs := #[.slice none 0 0, .int .i64 0, .int .i64 0, .int .i64 0, .slice none 0 0, .bool false, .slice none 0 0, .slice none 0 0, .slice none 0 0]) (t := 65) ?hr ?_; (case hd => rfl); (case hg => rfl); (case hr => first | (go_simp; done) | (go_simp; rfl)); intro gb316 hg w112 hbox hb; have BK316 := am (hbox); have GW316 := am ((bsz hg : w.heap.size ≤ gb316)); have GE316 := am ((bsz hg : w.heap.size ≤ gb316)); have NB234_316 := am ((nlt hg BK234.out : gb234 ≠ gb316)); have NB316_234 := am ((ngt hg BK234.out : gb316 ≠ gb234)); have NB235_316 := am ((nlt hg BK235.out : gb235 ≠ gb316)); have NB316_235 := am ((ngt hg BK235.out : gb316 ≠ gb235)); have NB296_316 := am ((nlt hg BK296.out : gb296 ≠ gb316)); have NB316_296 := am ((ngt hg BK296.out : gb316 ≠ gb296)); replace HO240 := rb HO240 hb; replace HO246 := rb HO246 hb; replace HO250 := rb HO250 hb; replace HO253 := rb HO253 hb; replace HO256 := rb HO256 hb; replace HO259 := rb HO259 hb; replace HO265 := rb HO265 hb; replace HO269 := rb HO269 hb; replace HO272 := rb HO272 hb; replace HO275 := rb HO275 hb; replace HO279 := rb HO279 hb; replace HO285 := rb HO285 hb; replace HO289 := rb HO289 hb; replace HO292 := rb HO292 hb; replace HO295 := rb HO295 hb; replace HO299 := rb HO299 hb; replace HO305 := rb HO305 hb; replace HO309 := rb HO309 hb; replace HO312 := rb HO312 hb; replace HO315 := rb HO315 hb; replace BK234 := am (bb BK234.out hb); replace BK235 := am (bb BK235.out hb); replace BK296 := am (bb BK296.out hb); replace HB := am (below_step bel hb); clear hb hbox hg; obtain ⟨Ao113, co113, eo113⟩ := Kd.R_slice HO299.out; subst eo113; have hnb114 := NB316_234.out; have hnc114 := NB234_316.out; have hnb115 := NB316_235.out; have hnc115 := NB235_316.out; have hnb116 := NB316_296.out; have hnc116 := NB296_316.out; obtain ⟨hcz117_0, hcz117_1, hcz117_2, hcz117_3, hcz117_4, hcz117_5, hcz117_6, hcz117_7, hcz117_8, hfz117_0, hfz117_1, hfz117_2, hfz117_3, hfz117_4, hfz117_5, hfz117_6, hfz117_7, hfz117_8⟩ := cf9 BK316.out; obtain ⟨Ao118, co118, eo118⟩ := Kd.R_slice HO305.out; subst eo118; obtain ⟨Ao119, co119, eo119⟩ := Kd.R_slice HO309.out; subst eo119; obtain ⟨Ao120, co120, eo120⟩ := Kd.R_slice HO312.out; subst eo120; obtain ⟨Ao121, co121, eo121⟩ := Kd.R_slice HO315.out; subst eo121; obtain ⟨hcz122_0, hcz122_1, hcz122_2, hcz122_3, hcz122_4, hcz122_5, hcz122_6, hcz122_7, hcz122_8, hfz122_0, hfz122_1, hfz122_2, hfz122_3, hfz122_4, hfz122_5, hfz122_6, hfz122_7, hfz122_8⟩ := cf9 BK296.out) | ((with_reducible refine gate_callee (f := 31) rfl ?_); refine goesL_ (some 31) rfl rfl Try.func31 (by kernel_rfl) rfl #[.agg #[.slice Ao102 t277.length co102, .int .i64 t280, .int .i64 t281, .int .i64 t282, .slice Ao106 t283.length co106, .bool t286, .slice Ao107 t287.length co107, .slice Ao108 t290.length co108, .slice Ao109 t293.length co109], .agg #[.slice Ao113 t297.length co113, .int .i64 t300, .int .i64 t301, .int .i64 t302, .slice Ao118 t303.length co118, .bool t306, .slice Ao119 t307.length co119, .slice Ao120 t310.length co120, .slice Ao121 t313.length co121]] rfl ga ?_; (with_reducible refine (impl_SameBooks.calls k _ _ t277 t280 t281 t282 _ _ t283 t286 _ _ t287 _ _ t290 _ _ t293 _ _ t297 t300 t301 t302 _ _ t303 t306 _ _ t307 _ _ t310 _ _ t313 t317 _ ?side1 ?side2 ?side3 ?side4 ?side5 ?side6 ?side7 ?side8 ?side9 ?side10 ?side11 ?side12 ?side13 ?side14 ?side15 ?side16 ?side17 ?side18 ?side19 ?side20 A24.out).mono ?_); (case side1 => exact (Kd.R_reads' (rf9 HO279 BK316)).2.2); (case side2 => exact (Kd.R_reads' HO279.out).2.1); (case side3 => exact (Kd.R_reads' (rf9 HO285 BK316)).2.2); (case side4 => exact (Kd.R_reads' HO285.out).2.1); (case side5 => exact (Kd.R_reads' (rf9 HO289 BK316)).2.2); (case side6 => exact (Kd.R_reads' HO289.out).2.1); (case side7 => exact (Kd.R_reads' (rf9 HO292 BK316)).2.2); (case side8 => exact (Kd.R_reads' HO292.out).2.1); (case side9 => exact (Kd.R_reads' (rf9 HO295 BK316)).2.2); (case side10 => exact (Kd.R_reads' HO295.out).2.1); (case side11 => exact (Kd.R_reads' (rf9 HO299 BK316)).2.2); (case side12 => exact (Kd.R_reads' HO299.out).2.1); (case side13 => exact (Kd.R_reads' (rf9 HO305 BK316)).2.2); (case side14 => exact (Kd.R_reads' HO305.out).2.1); (case side15 => exact (Kd.R_reads' (rf9 HO309 BK316)).2.2); (case side16 => exact (Kd.R_reads' HO309.out).2.1); (case side17 => exact (Kd.R_reads' (rf9 HO312 BK316)).2.2); (case side18 => exact (Kd.R_reads' HO312.out).2.1); (case side19 => exact (Kd.R_reads' (rf9 HO315 BK316)).2.2); (case side20 => exact (Kd.R_reads' HO315.out).2.1); rintro e w123 ⟨rfl, hb⟩; refine ⟨_, rfl, ?_⟩; replace HO240 := am (Kd.R_below (rf9 HO240 BK316) hb); replace HO246 := am (Kd.R_below (rf9 HO246 BK316) hb); replace HO250 := am (Kd.R_below (rf9 HO250 BK316) hb); replace HO253 := am (Kd.R_below (rf9 HO253 BK316) hb); replace HO256 := am (Kd.R_below (rf9 HO256 BK316) hb); replace HO259 := am (Kd.R_below (rf9 HO259 BK316) hb); replace HO265 := am (Kd.R_below (rf9 HO265 BK316) hb); replace HO269 := am (Kd.R_below (rf9 HO269 BK316) hb); replace HO272 := am (Kd.R_below (rf9 HO272 BK316) hb); replace HO275 := am (Kd.R_below (rf9 HO275 BK316) hb); replace HO279 := am (Kd.R_below (rf9 HO279 BK316) hb); replace HO285 := am (Kd.R_below (rf9 HO285 BK316) hb); replace HO289 := am (Kd.R_below (rf9 HO289 BK316) hb); replace HO292 := am (Kd.R_below (rf9 HO292 BK316) hb); replace HO295 := am (Kd.R_below (rf9 HO295 BK316) hb); replace HO299 := am (Kd.R_below (rf9 HO299 BK316) hb); replace HO305 := am (Kd.R_below (rf9 HO305 BK316) hb); replace HO309 := am (Kd.R_below (rf9 HO309 BK316) hb); replace HO312 := am (Kd.R_below (rf9 HO312 BK316) hb); replace HO315 := am (Kd.R_below (rf9 HO315 BK316) hb); replace BK234 := am (bb BK234.out hb); replace BK235 := am (bb BK235.out hb); replace BK296 := am (bb BK296.out hb); replace BK316 := am (blk_below (g := gb316) (o := .cells #[.slice Ao113 t297.length co113, .int .i64 t300, .int .i64 t301, .int .i64 t302, .slice Ao118 t303.length co118, .bool t306, .slice Ao119 t307.length co119, .slice Ao120 t310.length co120, .slice Ao121 t313.length co121] 65 (0, 0)) (by (with_reducible repeat (first | refine blk_drewN ?_ _ | refine blk_drew ?_ | refine blk_alloc ?_ _)); refine blk_put (cs := #[.slice Ao113 t297.length co113, .int .i64 t300, .int .i64 t301, .int .i64 t302, .slice Ao118 t303.length co118, .bool t306, .slice Ao119 t307.length co119, .slice Ao120 t310.length co120, .slice none 0 0]) ?_ 8 _ rfl; (with_reducible repeat (first | refine blk_drewN ?_ _ | refine blk_drew ?_ | refine blk_alloc ?_ _)); refine blk_put (cs := #[.slice Ao113 t297.length co113, .int .i64 t300, .int .i64 t301, .int .i64 t302, .slice Ao118 t303.length co118, .bool t306, .slice Ao119 t307.length co119, .slice none 0 0, .slice none 0 0]) ?_ 7 _ rfl; (with_reducible repeat (first | refine blk_drewN ?_ _ | refine blk_drew ?_ | refine blk_alloc ?_ _)); refine blk_put (cs := #[.slice Ao113 t297.length co113, .int .i64 t300, .int .i64 t301, .int .i64 t302, .slice Ao118 t303.length co118, .bool t306, .slice none 0 0, .slice none 0 0, .slice none 0 0]) ?_ 6 _ rfl; (with_reducible repeat (first | refine blk_drewN ?_ _ | refine blk_drew ?_ | refine blk_alloc ?_ _)); refine blk_put (cs := #[.slice Ao113 t297.length co113, .int .i64 t300, .int .i64 t301, .int .i64 t302, .slice Ao118 t303.length co118, .bool false, .slice none 0 0, .slice none 0 0, .slice none 0 0]) ?_ 5 _ rfl; (with_reducible repeat (first | refine blk_drewN ?_ _ | refine blk_drew ?_ | refine blk_alloc ?_ _)); refine blk_put (cs := #[.slice Ao113 t297.length co113, .int .i64 t300, .int .i64 t301, .int .i64 t302, .slice none 0 0, .bool false, .slice none 0 0, .slice none 0 0, .slice none 0 0]) ?_ 4 _ rfl; (with_reducible repeat (first | refine blk_drewN ?_ _ | refine blk_drew ?_ | refine blk_alloc ?_ _)); refine blk_put (cs := #[.slice Ao113 t297.length co113, .int .i64 t300, .int .i64 t301, .int .i64 0, .slice none 0 0, .bool false, .slice none 0 0, .slice none 0 0, .slice none 0 0]) ?_ 3 _ rfl; (with_reducible repeat (first | refine blk_drewN ?_ _ | refine blk_drew ?_ | refine blk_alloc ?_ _)); refine blk_put (cs := #[.slice Ao113 t297.length co113, .int .i64 t300, .int .i64 0, .int .i64 0, .slice none 0 0, .bool false, .slice none 0 0, .slice none 0 0, .slice none 0 0]) ?_ 2 _ rfl; (with_reducible repeat (first | refine blk_drewN ?_ _ | refine blk_drew ?_ | refine blk_alloc ?_ _)); refine blk_put (cs := #[.slice Ao113 t297.length co113, .int .i64 0, .int .i64 0, .int .i64 0, .slice none 0 0, .bool false, .slice none 0 0, .slice none 0 0, .slice none 0 0]) ?_ 1 _ rfl; (with_reducible repeat (first | refine blk_drewN ?_ _ | refine blk_drew ?_ | refine blk_alloc ?_ _)); refine blk_put (cs := #[.slice none 0 0, .int .i64 0, .int .i64 0, .int .i64 0, .slice none 0 0, .bool false, .slice none 0 0, .slice none 0 0, .slice none 0 0]) ?_ 0 _ rfl; (with_reducible repeat (first | refine blk_drewN ?_ _ | refine blk_drew ?_ | refine blk_alloc ?_ _)); exact BK316.out) hb); replace HB := am (below_step bel hb); (try clear hb)))
            replace HO240 := rd1 HO240
            replace HO246 := rd1 HO246
            replace HO250 := rd1 HO250
            replace HO253 := rd1 HO253
            replace HO256 := rd1 HO256
            replace HO259 := rd1 HO259
            replace HO265 := rd1 HO265
            replace HO269 := rd1 HO269
            replace HO272 := rd1 HO272
            replace HO275 := rd1 HO275
            replace HO279 := rd1 HO279
            replace HO285 := rd1 HO285
            replace HO289 := rd1 HO289
            replace HO292 := rd1 HO292
            replace HO295 := rd1 HO295
            replace HO299 := rd1 HO299
            replace HO305 := rd1 HO305
            replace HO309 := rd1 HO309
            replace HO312 := rd1 HO312
            replace HO315 := rd1 HO315
            replace BK234 := am (blk_drew BK234.out)
            replace BK235 := am (blk_drew BK235.out)
            replace BK296 := am (blk_drew BK296.out)
            replace BK316 := am (blk_drew BK316.out)
            replace HB := am (below_drew1 HB.out)
            refine start_ (n := 5) (S := fun w' => w'.cell? ⟨gb296, 0, none⟩ = some (.slice Ao102 t277.length co102) ∧ w'.cell? ⟨gb296, 1, none⟩ = some (.int .i64 t280) ∧ w'.cell? ⟨gb296, 2, none⟩ = some (.int .i64 t281) ∧ w'.cell? ⟨gb296, 3, none⟩ = some (.int .i64 t282) ∧ w'.cell? ⟨gb296, 4, none⟩ = some (.slice Ao106 t283.length co106) ∧ w'.cell? ⟨gb296, 5, none⟩ = some (.bool t286) ∧ w'.cell? ⟨gb296, 6, none⟩ = some (.slice Ao107 t287.length co107) ∧ w'.cell? ⟨gb296, 7, none⟩ = some (.slice Ao108 t290.length co108) ∧ w'.cell? ⟨gb296, 8, none⟩ = some (.slice Ao109 t293.length co109) ∧ w'.cell? ⟨gb234, 0, none⟩ = some (.slice A0_0 l0_0.length c0_0) ∧ w'.cell? ⟨gb234, 1, none⟩ = some (.int .i64 a0_1) ∧ w'.cell? ⟨gb234, 2, none⟩ = some (.int .i64 a0_2) ∧ w'.cell? ⟨gb234, 3, none⟩ = some (.int .i64 a0_3) ∧ w'.cell? ⟨gb234, 4, none⟩ = some (.slice A0_4 l0_4.length c0_4) ∧ w'.cell? ⟨gb234, 5, none⟩ = some (.bool a0_5) ∧ w'.cell? ⟨gb234, 6, none⟩ = some (.slice A0_6 l0_6.length c0_6) ∧ w'.cell? ⟨gb234, 7, none⟩ = some (.slice A0_7 l0_7.length c0_7) ∧ w'.cell? ⟨gb234, 8, none⟩ = some (.slice A0_8 l0_8.length c0_8)) (ds := []) #[false, false, false, false, false] (by kernel_rfl) rfl rfl ⟨(blk_cell BK296.out 0).trans rfl, (blk_cell BK296.out 1).trans rfl, (blk_cell BK296.out 2).trans rfl, (blk_cell BK296.out 3).trans rfl, (blk_cell BK296.out 4).trans rfl, (blk_cell BK296.out 5).trans rfl, (blk_cell BK296.out 6).trans rfl, (blk_cell BK296.out 7).trans rfl, (blk_cell BK296.out 8).trans rfl, (blk_cell BK234.out 0).trans rfl, (blk_cell BK234.out 1).trans rfl, (blk_cell BK234.out 2).trans rfl, (blk_cell BK234.out 3).trans rfl, (blk_cell BK234.out 4).trans rfl, (blk_cell BK234.out 5).trans rfl, (blk_cell BK234.out 6).trans rfl, (blk_cell BK234.out 7).trans rfl, (blk_cell BK234.out 8).trans rfl⟩ (fun hHeld => ?_)
            generalize w123.drew = w124 at HO240 HO246 HO250 HO253 HO256 HO259 HO265 HO269 HO272 HO275 HO279 HO285 HO289 HO292 HO295 HO299 HO305 HO309 HO312 HO315 BK234 BK235 BK296 BK316 HB hHeld ⊢
            refine take_ (i := 0) (N := some 35) (v := ?_) (a' := ?_) #[true, false, false, false, false] rfl rfl (by kernel_rfl) (fun _ _ _ h => h) (Or.inl ⟨by rfl, ?_⟩) hHeld ?_ ?_
            rotate_left
            · rintro w' ⟨s0, s1, s2, s3, s4, s5, s6, s7, s8, s9, s10, s11, s12, s13, s14, s15, s16, s17⟩
              go_simp
              with_reducible rfl
            rotate_left
            · simp only [Act.put, List.setIfInBounds_toArray, List.set_cons_zero, List.set_cons_succ, i64_w, i32_w]
              rfl
            refine take_ (i := 1) (N := some 36) (v := ?_) (a' := ?_) #[true, true, false, false, false] rfl rfl (by kernel_rfl) (fun _ _ _ h => h) (Or.inl ⟨by rfl, ?_⟩) hHeld ?_ ?_
            rotate_left
            · rintro w' ⟨s0, s1, s2, s3, s4, s5, s6, s7, s8, s9, s10, s11, s12, s13, s14, s15, s16, s17⟩
              go_simp
              with_reducible rfl
            rotate_left
            · simp only [Act.put, List.setIfInBounds_toArray, List.set_cons_zero, List.set_cons_succ, i64_w, i32_w]
              rfl
            refine one_ (i := 2) (N := some 37) #[true, true, true, false, false] rfl rfl (by kernel_rfl) (by decide) (fun K hK => ?_)
            refine goes_ Try.func30 (by kernel_rfl) rfl #[.agg #[.slice A0_0 l0_0.length c0_0, .int .i64 a0_1, .int .i64 a0_2, .int .i64 a0_3, .slice A0_4 l0_4.length c0_4, .bool a0_5, .slice A0_6 l0_6.length c0_6, .slice A0_7 l0_7.length c0_7, .slice A0_8 l0_8.length c0_8]] (by rfl) rfl rfl ga ?_
            with_reducible refine (laws_toBook.calls k _ _ l0_0 a0_1 a0_2 a0_3 _ _ l0_4 a0_5 _ _ l0_6 _ _ l0_7 _ _ l0_8 t318 t321 t322 t323 t324 t327 t328 t331 t334 _ ?side1 ?side2 ?side3 ?side4 ?side5 ?side6 ?side7 ?side8 ?side9 ?side10 A72.out).mono ?_
            (case side1 => exact ck (Kd.C_below HR0_0.out HB.out))
            (case side2 => exact HC0_0.out)
            (case side3 => exact ck (Kd.C_below HR0_4.out HB.out))
            (case side4 => exact HC0_4.out)
            (case side5 => exact ck (Kd.C_below HR0_6.out HB.out))
            (case side6 => exact HC0_6.out)
            (case side7 => exact ck (Kd.C_below HR0_7.out HB.out))
            (case side8 => exact HC0_7.out)
            (case side9 => exact ck (Kd.C_below HR0_8.out HB.out))
            (case side10 => exact HC0_8.out)
            rintro e w125 ⟨v319, v325, v329, v332, v335, rfl, ho0, ho1, ho2, ho3, ho4, hb⟩
            refine ⟨_, rfl, ?_⟩
            have HO320 := am (Kd.R_lower (Kd.R_new' (Kd.R_new' (Kd.R_new' (Kd.R_new' ho0 (rl HO240)) (rl HO259)) (rl HO279)) (rl HO299)) (below_size bel))
            have HO326 := am (Kd.R_lower (Kd.R_new' (Kd.R_new' (Kd.R_new' (Kd.R_new' (Kd.R_new' (Kd.R_new' (Kd.R_new' (Kd.R_new' (Kd.R_new' (Kd.R_new' (Kd.R_new' (Kd.R_new' ho1 (rl HO246)) (rl HO253)) (rl HO256)) (rl HO265)) (rl HO272)) (rl HO275)) (rl HO285)) (rl HO292)) (rl HO295)) (rl HO305)) (rl HO312)) (rl HO315)) (below_size bel))
            have HO330 := am (Kd.R_lower (Kd.R_new' (Kd.R_new' (Kd.R_new' (Kd.R_new' ho2 (rl HO250)) (rl HO269)) (rl HO289)) (rl HO309)) (below_size bel))
            have HO333 := am (Kd.R_lower (Kd.R_new' (Kd.R_new' (Kd.R_new' (Kd.R_new' (Kd.R_new' (Kd.R_new' (Kd.R_new' (Kd.R_new' (Kd.R_new' (Kd.R_new' (Kd.R_new' (Kd.R_new' ho3 (rl HO246)) (rl HO253)) (rl HO256)) (rl HO265)) (rl HO272)) (rl HO275)) (rl HO285)) (rl HO292)) (rl HO295)) (rl HO305)) (rl HO312)) (rl HO315)) (below_size bel))
            have HO336 := am (Kd.R_lower (Kd.R_new' (Kd.R_new' (Kd.R_new' (Kd.R_new' (Kd.R_new' (Kd.R_new' (Kd.R_new' (Kd.R_new' (Kd.R_new' (Kd.R_new' (Kd.R_new' (Kd.R_new' ho4 (rl HO246)) (rl HO253)) (rl HO256)) (rl HO265)) (rl HO272)) (rl HO275)) (rl HO285)) (rl HO292)) (rl HO295)) (rl HO305)) (rl HO312)) (rl HO315)) (below_size bel))
            replace HO240 := am (Kd.R_elder' (rk HO240.out) (Kd.R_base ho0) hb)
            replace HO246 := am (Kd.R_mono (Kd.R_told (Kd.R_told (Kd.R_told (Kd.R_old (rk HO246.out) hb) (Kd.R_base ho1)) (Kd.R_base ho3)) (Kd.R_base ho4)) (fun _ h_ => h_.1))
            replace HO250 := am (Kd.R_elder' (rk HO250.out) (Kd.R_base ho2) hb)
            replace HO253 := am (Kd.R_mono (Kd.R_told (Kd.R_told (Kd.R_told (Kd.R_old (rk HO253.out) hb) (Kd.R_base ho1)) (Kd.R_base ho3)) (Kd.R_base ho4)) (fun _ h_ => h_.1))
            replace HO256 := am (Kd.R_mono (Kd.R_told (Kd.R_told (Kd.R_told (Kd.R_old (rk HO256.out) hb) (Kd.R_base ho1)) (Kd.R_base ho3)) (Kd.R_base ho4)) (fun _ h_ => h_.1))
            replace HO259 := am (Kd.R_elder' (rk HO259.out) (Kd.R_base ho0) hb)
            replace HO265 := am (Kd.R_mono (Kd.R_told (Kd.R_told (Kd.R_told (Kd.R_old (rk HO265.out) hb) (Kd.R_base ho1)) (Kd.R_base ho3)) (Kd.R_base ho4)) (fun _ h_ => h_.1))
            replace HO269 := am (Kd.R_elder' (rk HO269.out) (Kd.R_base ho2) hb)
            replace HO272 := am (Kd.R_mono (Kd.R_told (Kd.R_told (Kd.R_told (Kd.R_old (rk HO272.out) hb) (Kd.R_base ho1)) (Kd.R_base ho3)) (Kd.R_base ho4)) (fun _ h_ => h_.1))
            replace HO275 := am (Kd.R_mono (Kd.R_told (Kd.R_told (Kd.R_told (Kd.R_old (rk HO275.out) hb) (Kd.R_base ho1)) (Kd.R_base ho3)) (Kd.R_base ho4)) (fun _ h_ => h_.1))
            replace HO279 := am (Kd.R_elder' (rk HO279.out) (Kd.R_base ho0) hb)
            replace HO285 := am (Kd.R_mono (Kd.R_told (Kd.R_told (Kd.R_told (Kd.R_old (rk HO285.out) hb) (Kd.R_base ho1)) (Kd.R_base ho3)) (Kd.R_base ho4)) (fun _ h_ => h_.1))
            replace HO289 := am (Kd.R_elder' (rk HO289.out) (Kd.R_base ho2) hb)
            replace HO292 := am (Kd.R_mono (Kd.R_told (Kd.R_told (Kd.R_told (Kd.R_old (rk HO292.out) hb) (Kd.R_base ho1)) (Kd.R_base ho3)) (Kd.R_base ho4)) (fun _ h_ => h_.1))
            replace HO295 := am (Kd.R_mono (Kd.R_told (Kd.R_told (Kd.R_told (Kd.R_old (rk HO295.out) hb) (Kd.R_base ho1)) (Kd.R_base ho3)) (Kd.R_base ho4)) (fun _ h_ => h_.1))
            replace HO299 := am (Kd.R_elder' (rk HO299.out) (Kd.R_base ho0) hb)
            replace HO305 := am (Kd.R_mono (Kd.R_told (Kd.R_told (Kd.R_told (Kd.R_old (rk HO305.out) hb) (Kd.R_base ho1)) (Kd.R_base ho3)) (Kd.R_base ho4)) (fun _ h_ => h_.1))
            replace HO309 := am (Kd.R_elder' (rk HO309.out) (Kd.R_base ho2) hb)
            replace HO312 := am (Kd.R_mono (Kd.R_told (Kd.R_told (Kd.R_told (Kd.R_old (rk HO312.out) hb) (Kd.R_base ho1)) (Kd.R_base ho3)) (Kd.R_base ho4)) (fun _ h_ => h_.1))
            replace HO315 := am (Kd.R_mono (Kd.R_told (Kd.R_told (Kd.R_told (Kd.R_old (rk HO315.out) hb) (Kd.R_base ho1)) (Kd.R_base ho3)) (Kd.R_base ho4)) (fun _ h_ => h_.1))
            replace BK234 := am (bb BK234.out hb)
            replace BK235 := am (bb BK235.out hb)
            replace BK296 := am (bb BK296.out hb)
            replace BK316 := am (bb BK316.out hb)
            replace HB := am (below_step bel hb)
            (try clear hb)
            (try clear hb2)
            (try clear hk)
            (try clear hi)
            (try clear ho0)
            (try clear ho1)
            (try clear ho2)
            (try clear ho3)
            (try clear ho4)
            obtain ⟨Ao126, co126, eo126⟩ := Kd.R_slice HO320.out
            (first | subst eo126 | (injection eo126 with f1_ f2_ f3_; have f4_ := f1_.symm; have f5_ := f3_.symm; clear f1_ f2_ f3_; subst f4_; subst f5_))
            obtain ⟨Ao127, co127, eo127⟩ := Kd.R_slice HO326.out
            (first | subst eo127 | (injection eo127 with f1_ f2_ f3_; have f4_ := f1_.symm; have f5_ := f3_.symm; clear f1_ f2_ f3_; subst f4_; subst f5_))
            obtain ⟨Ao128, co128, eo128⟩ := Kd.R_slice HO330.out
            (first | subst eo128 | (injection eo128 with f1_ f2_ f3_; have f4_ := f1_.symm; have f5_ := f3_.symm; clear f1_ f2_ f3_; subst f4_; subst f5_))
            obtain ⟨Ao129, co129, eo129⟩ := Kd.R_slice HO333.out
            (first | subst eo129 | (injection eo129 with f1_ f2_ f3_; have f4_ := f1_.symm; have f5_ := f3_.symm; clear f1_ f2_ f3_; subst f4_; subst f5_))
            obtain ⟨Ao130, co130, eo130⟩ := Kd.R_slice HO336.out
            (first | subst eo130 | (injection eo130 with f1_ f2_ f3_; have f4_ := f1_.symm; have f5_ := f3_.symm; clear f1_ f2_ f3_; subst f4_; subst f5_))
            refine hK.out _ _ ⟨(blk_cell BK296.out 0).trans rfl, (blk_cell BK296.out 1).trans rfl, (blk_cell BK296.out 2).trans rfl, (blk_cell BK296.out 3).trans rfl, (blk_cell BK296.out 4).trans rfl, (blk_cell BK296.out 5).trans rfl, (blk_cell BK296.out 6).trans rfl, (blk_cell BK296.out 7).trans rfl, (blk_cell BK296.out 8).trans rfl, (blk_cell BK234.out 0).trans rfl, (blk_cell BK234.out 1).trans rfl, (blk_cell BK234.out 2).trans rfl, (blk_cell BK234.out 3).trans rfl, (blk_cell BK234.out 4).trans rfl, (blk_cell BK234.out 5).trans rfl, (blk_cell BK234.out 6).trans rfl, (blk_cell BK234.out 7).trans rfl, (blk_cell BK234.out 8).trans rfl⟩ (fun hHeld => ?_)
            clear hK K
            refine norm_ (a' := ?_) ?_ ?_
            rotate_left
            · show Act.put _ (some 37) _ = _
              simp only [Act.put, List.setIfInBounds_toArray, List.set_cons_zero, List.set_cons_succ, i64_w, i32_w]
              rfl
            refine one_ (i := 3) (N := some 38) #[true, true, true, true, false] rfl rfl (by kernel_rfl) (by decide) (fun K hK => ?_)
            refine goes_ Try.func32 (by kernel_rfl) rfl #[.agg #[.slice Ao102 t277.length co102, .int .i64 t280, .int .i64 t281, .int .i64 t282, .slice Ao106 t283.length co106, .bool t286, .slice Ao107 t287.length co107, .slice Ao108 t290.length co108, .slice Ao109 t293.length co109], .agg #[.slice Ao126 t318.length co126, .int .i64 t321, .int .i64 t322, .int .i64 t323, .slice Ao127 t324.length co127, .bool t327, .slice Ao128 t328.length co128, .slice Ao129 t331.length co129, .slice Ao130 t334.length co130]] (by rfl) rfl rfl ga ?_
            with_reducible refine (laws_eqBook.calls k _ _ t277 t280 t281 t282 _ _ t283 t286 _ _ t287 _ _ t290 _ _ t293 _ _ t318 t321 t322 t323 _ _ t324 t327 _ _ t328 _ _ t331 _ _ t334 true _ ?side1 ?side2 ?side3 ?side4 ?side5 ?side6 ?side7 ?side8 ?side9 ?side10 ?side11 ?side12 ?side13 ?side14 ?side15 ?side16 ?side17 ?side18 ?side19 ?side20 A73.out).mono ?_
            (case side1 => exact cr HO279)
            (case side2 => exact (Kd.R_reads' HO279.out).2.1)
            (case side3 => exact cr HO285)
            (case side4 => exact (Kd.R_reads' HO285.out).2.1)
            (case side5 => exact cr HO289)
            (case side6 => exact (Kd.R_reads' HO289.out).2.1)
            (case side7 => exact cr HO292)
            (case side8 => exact (Kd.R_reads' HO292.out).2.1)
            (case side9 => exact cr HO295)
            (case side10 => exact (Kd.R_reads' HO295.out).2.1)
            (case side11 => exact cr HO320)
            (case side12 => exact (Kd.R_reads' HO320.out).2.1)
            (case side13 => exact cr HO326)
            (case side14 => exact (Kd.R_reads' HO326.out).2.1)
            (case side15 => exact cr HO330)
            (case side16 => exact (Kd.R_reads' HO330.out).2.1)
            (case side17 => exact cr HO333)
            (case side18 => exact (Kd.R_reads' HO333.out).2.1)
            (case side19 => exact cr HO336)
            (case side20 => exact (Kd.R_reads' HO336.out).2.1)
            rintro e w131 ⟨rfl, hb⟩
            refine ⟨_, rfl, ?_⟩
            replace HO240 := rb HO240 hb
            replace HO246 := rb HO246 hb
            replace HO250 := rb HO250 hb
            replace HO253 := rb HO253 hb
            replace HO256 := rb HO256 hb
            replace HO259 := rb HO259 hb
            replace HO265 := rb HO265 hb
            replace HO269 := rb HO269 hb
            replace HO272 := rb HO272 hb
            replace HO275 := rb HO275 hb
            replace HO279 := rb HO279 hb
            replace HO285 := rb HO285 hb
            replace HO289 := rb HO289 hb
            replace HO292 := rb HO292 hb
            replace HO295 := rb HO295 hb
            replace HO299 := rb HO299 hb
            replace HO305 := rb HO305 hb
            replace HO309 := rb HO309 hb
            replace HO312 := rb HO312 hb
            replace HO315 := rb HO315 hb
            replace HO320 := rb HO320 hb
            replace HO326 := rb HO326 hb
            replace HO330 := rb HO330 hb
            replace HO333 := rb HO333 hb
            replace HO336 := rb HO336 hb
            replace BK234 := am (bb BK234.out hb)
            replace BK235 := am (bb BK235.out hb)
            replace BK296 := am (bb BK296.out hb)
            replace BK316 := am (bb BK316.out hb)
            replace HB := am (below_step bel hb)
            (try clear hb)
            (try clear hb2)
            (try clear hk)
            (try clear hi)
            refine hK.out _ _ ⟨(blk_cell BK296.out 0).trans rfl, (blk_cell BK296.out 1).trans rfl, (blk_cell BK296.out 2).trans rfl, (blk_cell BK296.out 3).trans rfl, (blk_cell BK296.out 4).trans rfl, (blk_cell BK296.out 5).trans rfl, (blk_cell BK296.out 6).trans rfl, (blk_cell BK296.out 7).trans rfl, (blk_cell BK296.out 8).trans rfl, (blk_cell BK234.out 0).trans rfl, (blk_cell BK234.out 1).trans rfl, (blk_cell BK234.out 2).trans rfl, (blk_cell BK234.out 3).trans rfl, (blk_cell BK234.out 4).trans rfl, (blk_cell BK234.out 5).trans rfl, (blk_cell BK234.out 6).trans rfl, (blk_cell BK234.out 7).trans rfl, (blk_cell BK234.out 8).trans rfl⟩ (fun hHeld => ?_)
            clear hK K
            refine norm_ (a' := ?_) ?_ ?_
            rotate_left
            · show Act.put _ (some 38) _ = _
              simp only [Act.put, List.setIfInBounds_toArray, List.set_cons_zero, List.set_cons_succ, i64_w, i32_w]
              rfl
            refine pure_ (i := 4) (N := some 39) (v := ?_) (a' := ?_) #[true, true, true, true, true] rfl rfl (by kernel_rfl) (fun _ _ _ h => h) (Or.inl ⟨by rfl, ?_⟩) ?_ ?_
            rotate_left
            · intro w'
              go_simp
              with_reducible rfl
            rotate_left
            · simp only [Act.put, List.setIfInBounds_toArray, List.set_cons_zero, List.set_cons_succ, i64_w, i32_w]
              rfl
            refine done_ (by kernel_rfl) ?_
            try go_wp2
            replace HO240 := rd1 HO240
            replace HO246 := rd1 HO246
            replace HO250 := rd1 HO250
            replace HO253 := rd1 HO253
            replace HO256 := rd1 HO256
            replace HO259 := rd1 HO259
            replace HO265 := rd1 HO265
            replace HO269 := rd1 HO269
            replace HO272 := rd1 HO272
            replace HO275 := rd1 HO275
            replace HO279 := rd1 HO279
            replace HO285 := rd1 HO285
            replace HO289 := rd1 HO289
            replace HO292 := rd1 HO292
            replace HO295 := rd1 HO295
            replace HO299 := rd1 HO299
            replace HO305 := rd1 HO305
            replace HO309 := rd1 HO309
            replace HO312 := rd1 HO312
            replace HO315 := rd1 HO315
            replace HO320 := rd1 HO320
            replace HO326 := rd1 HO326
            replace HO330 := rd1 HO330
            replace HO333 := rd1 HO333
            replace HO336 := rd1 HO336
            replace BK234 := am (blk_drew BK234.out)
            replace BK235 := am (blk_drew BK235.out)
            replace BK296 := am (blk_drew BK296.out)
            replace BK316 := am (blk_drew BK316.out)
            replace HB := am (below_drew1 HB.out)
            refine start_ (n := 5) (S := fun w' => w'.cell? ⟨gb316, 0, none⟩ = some (.slice Ao113 t297.length co113) ∧ w'.cell? ⟨gb316, 1, none⟩ = some (.int .i64 t300) ∧ w'.cell? ⟨gb316, 2, none⟩ = some (.int .i64 t301) ∧ w'.cell? ⟨gb316, 3, none⟩ = some (.int .i64 t302) ∧ w'.cell? ⟨gb316, 4, none⟩ = some (.slice Ao118 t303.length co118) ∧ w'.cell? ⟨gb316, 5, none⟩ = some (.bool t306) ∧ w'.cell? ⟨gb316, 6, none⟩ = some (.slice Ao119 t307.length co119) ∧ w'.cell? ⟨gb316, 7, none⟩ = some (.slice Ao120 t310.length co120) ∧ w'.cell? ⟨gb316, 8, none⟩ = some (.slice Ao121 t313.length co121) ∧ w'.cell? ⟨gb235, 0, none⟩ = some (.slice A1_0 l1_0.length c1_0) ∧ w'.cell? ⟨gb235, 1, none⟩ = some (.int .i64 a1_1) ∧ w'.cell? ⟨gb235, 2, none⟩ = some (.int .i64 a1_2) ∧ w'.cell? ⟨gb235, 3, none⟩ = some (.int .i64 a1_3) ∧ w'.cell? ⟨gb235, 4, none⟩ = some (.slice A1_4 l1_4.length c1_4) ∧ w'.cell? ⟨gb235, 5, none⟩ = some (.bool a1_5) ∧ w'.cell? ⟨gb235, 6, none⟩ = some (.slice A1_6 l1_6.length c1_6) ∧ w'.cell? ⟨gb235, 7, none⟩ = some (.slice A1_7 l1_7.length c1_7) ∧ w'.cell? ⟨gb235, 8, none⟩ = some (.slice A1_8 l1_8.length c1_8)) (ds := []) #[false, false, false, false, false] (by kernel_rfl) rfl rfl ⟨(blk_cell BK316.out 0).trans rfl, (blk_cell BK316.out 1).trans rfl, (blk_cell BK316.out 2).trans rfl, (blk_cell BK316.out 3).trans rfl, (blk_cell BK316.out 4).trans rfl, (blk_cell BK316.out 5).trans rfl, (blk_cell BK316.out 6).trans rfl, (blk_cell BK316.out 7).trans rfl, (blk_cell BK316.out 8).trans rfl, (blk_cell BK235.out 0).trans rfl, (blk_cell BK235.out 1).trans rfl, (blk_cell BK235.out 2).trans rfl, (blk_cell BK235.out 3).trans rfl, (blk_cell BK235.out 4).trans rfl, (blk_cell BK235.out 5).trans rfl, (blk_cell BK235.out 6).trans rfl, (blk_cell BK235.out 7).trans rfl, (blk_cell BK235.out 8).trans rfl⟩ (fun hHeld => ?_)
            generalize w131.drew = w132 at HO240 HO246 HO250 HO253 HO256 HO259 HO265 HO269 HO272 HO275 HO279 HO285 HO289 HO292 HO295 HO299 HO305 HO309 HO312 HO315 HO320 HO326 HO330 HO333 HO336 BK234 BK235 BK296 BK316 HB hHeld ⊢
            refine take_ (i := 0) (N := some 40) (v := ?_) (a' := ?_) #[true, false, false, false, false] rfl rfl (by kernel_rfl) (fun _ _ _ h => h) (Or.inl ⟨by rfl, ?_⟩) hHeld ?_ ?_
            rotate_left
            · rintro w' ⟨s0, s1, s2, s3, s4, s5, s6, s7, s8, s9, s10, s11, s12, s13, s14, s15, s16, s17⟩
              go_simp
              with_reducible rfl
            rotate_left
            · simp only [Act.put, List.setIfInBounds_toArray, List.set_cons_zero, List.set_cons_succ, i64_w, i32_w]
              rfl
            refine take_ (i := 1) (N := some 41) (v := ?_) (a' := ?_) #[true, true, false, false, false] rfl rfl (by kernel_rfl) (fun _ _ _ h => h) (Or.inl ⟨by rfl, ?_⟩) hHeld ?_ ?_
            rotate_left
            · rintro w' ⟨s0, s1, s2, s3, s4, s5, s6, s7, s8, s9, s10, s11, s12, s13, s14, s15, s16, s17⟩
              go_simp
              with_reducible rfl
            rotate_left
            · simp only [Act.put, List.setIfInBounds_toArray, List.set_cons_zero, List.set_cons_succ, i64_w, i32_w]
              rfl
            refine one_ (i := 2) (N := some 42) #[true, true, true, false, false] rfl rfl (by kernel_rfl) (by decide) (fun K hK => ?_)
            refine goes_ Try.func30 (by kernel_rfl) rfl #[.agg #[.slice A1_0 l1_0.length c1_0, .int .i64 a1_1, .int .i64 a1_2, .int .i64 a1_3, .slice A1_4 l1_4.length c1_4, .bool a1_5, .slice A1_6 l1_6.length c1_6, .slice A1_7 l1_7.length c1_7, .slice A1_8 l1_8.length c1_8]] (by rfl) rfl rfl ga ?_
            with_reducible refine (laws_toBook.calls k _ _ l1_0 a1_1 a1_2 a1_3 _ _ l1_4 a1_5 _ _ l1_6 _ _ l1_7 _ _ l1_8 t338 t341 t342 t343 t344 t347 t348 t351 t354 _ ?side1 ?side2 ?side3 ?side4 ?side5 ?side6 ?side7 ?side8 ?side9 ?side10 A75.out).mono ?_
            (case side1 => exact ck (Kd.C_below HR1_0.out HB.out))
            (case side2 => exact HC1_0.out)
            (case side3 => exact ck (Kd.C_below HR1_4.out HB.out))
            (case side4 => exact HC1_4.out)
            (case side5 => exact ck (Kd.C_below HR1_6.out HB.out))
            (case side6 => exact HC1_6.out)
            (case side7 => exact ck (Kd.C_below HR1_7.out HB.out))
            (case side8 => exact HC1_7.out)
            (case side9 => exact ck (Kd.C_below HR1_8.out HB.out))
            (case side10 => exact HC1_8.out)
            rintro e w133 ⟨v339, v345, v349, v352, v355, rfl, ho0, ho1, ho2, ho3, ho4, hb⟩
            refine ⟨_, rfl, ?_⟩
            have HO340 := am (Kd.R_lower (Kd.R_new' (Kd.R_new' (Kd.R_new' (Kd.R_new' (Kd.R_new' ho0 (rl HO240)) (rl HO259)) (rl HO279)) (rl HO299)) (rl HO320)) (below_size bel))
            have HO346 := am (Kd.R_lower (Kd.R_new' (Kd.R_new' (Kd.R_new' (Kd.R_new' (Kd.R_new' (Kd.R_new' (Kd.R_new' (Kd.R_new' (Kd.R_new' (Kd.R_new' (Kd.R_new' (Kd.R_new' (Kd.R_new' (Kd.R_new' (Kd.R_new' ho1 (rl HO246)) (rl HO253)) (rl HO256)) (rl HO265)) (rl HO272)) (rl HO275)) (rl HO285)) (rl HO292)) (rl HO295)) (rl HO305)) (rl HO312)) (rl HO315)) (rl HO326)) (rl HO333)) (rl HO336)) (below_size bel))
            have HO350 := am (Kd.R_lower (Kd.R_new' (Kd.R_new' (Kd.R_new' (Kd.R_new' (Kd.R_new' ho2 (rl HO250)) (rl HO269)) (rl HO289)) (rl HO309)) (rl HO330)) (below_size bel))
            have HO353 := am (Kd.R_lower (Kd.R_new' (Kd.R_new' (Kd.R_new' (Kd.R_new' (Kd.R_new' (Kd.R_new' (Kd.R_new' (Kd.R_new' (Kd.R_new' (Kd.R_new' (Kd.R_new' (Kd.R_new' (Kd.R_new' (Kd.R_new' (Kd.R_new' ho3 (rl HO246)) (rl HO253)) (rl HO256)) (rl HO265)) (rl HO272)) (rl HO275)) (rl HO285)) (rl HO292)) (rl HO295)) (rl HO305)) (rl HO312)) (rl HO315)) (rl HO326)) (rl HO333)) (rl HO336)) (below_size bel))
            have HO356 := am (Kd.R_lower (Kd.R_new' (Kd.R_new' (Kd.R_new' (Kd.R_new' (Kd.R_new' (Kd.R_new' (Kd.R_new' (Kd.R_new' (Kd.R_new' (Kd.R_new' (Kd.R_new' (Kd.R_new' (Kd.R_new' (Kd.R_new' (Kd.R_new' ho4 (rl HO246)) (rl HO253)) (rl HO256)) (rl HO265)) (rl HO272)) (rl HO275)) (rl HO285)) (rl HO292)) (rl HO295)) (rl HO305)) (rl HO312)) (rl HO315)) (rl HO326)) (rl HO333)) (rl HO336)) (below_size bel))
            replace HO240 := am (Kd.R_elder' (rk HO240.out) (Kd.R_base ho0) hb)
            replace HO246 := am (Kd.R_mono (Kd.R_told (Kd.R_told (Kd.R_told (Kd.R_old (rk HO246.out) hb) (Kd.R_base ho1)) (Kd.R_base ho3)) (Kd.R_base ho4)) (fun _ h_ => h_.1))
            replace HO250 := am (Kd.R_elder' (rk HO250.out) (Kd.R_base ho2) hb)
            replace HO253 := am (Kd.R_mono (Kd.R_told (Kd.R_told (Kd.R_told (Kd.R_old (rk HO253.out) hb) (Kd.R_base ho1)) (Kd.R_base ho3)) (Kd.R_base ho4)) (fun _ h_ => h_.1))
            replace HO256 := am (Kd.R_mono (Kd.R_told (Kd.R_told (Kd.R_told (Kd.R_old (rk HO256.out) hb) (Kd.R_base ho1)) (Kd.R_base ho3)) (Kd.R_base ho4)) (fun _ h_ => h_.1))
            replace HO259 := am (Kd.R_elder' (rk HO259.out) (Kd.R_base ho0) hb)
            replace HO265 := am (Kd.R_mono (Kd.R_told (Kd.R_told (Kd.R_told (Kd.R_old (rk HO265.out) hb) (Kd.R_base ho1)) (Kd.R_base ho3)) (Kd.R_base ho4)) (fun _ h_ => h_.1))
            replace HO269 := am (Kd.R_elder' (rk HO269.out) (Kd.R_base ho2) hb)
            replace HO272 := am (Kd.R_mono (Kd.R_told (Kd.R_told (Kd.R_told (Kd.R_old (rk HO272.out) hb) (Kd.R_base ho1)) (Kd.R_base ho3)) (Kd.R_base ho4)) (fun _ h_ => h_.1))
            replace HO275 := am (Kd.R_mono (Kd.R_told (Kd.R_told (Kd.R_told (Kd.R_old (rk HO275.out) hb) (Kd.R_base ho1)) (Kd.R_base ho3)) (Kd.R_base ho4)) (fun _ h_ => h_.1))
            replace HO279 := am (Kd.R_elder' (rk HO279.out) (Kd.R_base ho0) hb)
            replace HO285 := am (Kd.R_mono (Kd.R_told (Kd.R_told (Kd.R_told (Kd.R_old (rk HO285.out) hb) (Kd.R_base ho1)) (Kd.R_base ho3)) (Kd.R_base ho4)) (fun _ h_ => h_.1))
            replace HO289 := am (Kd.R_elder' (rk HO289.out) (Kd.R_base ho2) hb)
            replace HO292 := am (Kd.R_mono (Kd.R_told (Kd.R_told (Kd.R_told (Kd.R_old (rk HO292.out) hb) (Kd.R_base ho1)) (Kd.R_base ho3)) (Kd.R_base ho4)) (fun _ h_ => h_.1))
            replace HO295 := am (Kd.R_mono (Kd.R_told (Kd.R_told (Kd.R_told (Kd.R_old (rk HO295.out) hb) (Kd.R_base ho1)) (Kd.R_base ho3)) (Kd.R_base ho4)) (fun _ h_ => h_.1))
            replace HO299 := am (Kd.R_elder' (rk HO299.out) (Kd.R_base ho0) hb)
            replace HO305 := am (Kd.R_mono (Kd.R_told (Kd.R_told (Kd.R_told (Kd.R_old (rk HO305.out) hb) (Kd.R_base ho1)) (Kd.R_base ho3)) (Kd.R_base ho4)) (fun _ h_ => h_.1))
            replace HO309 := am (Kd.R_elder' (rk HO309.out) (Kd.R_base ho2) hb)
            replace HO312 := am (Kd.R_mono (Kd.R_told (Kd.R_told (Kd.R_told (Kd.R_old (rk HO312.out) hb) (Kd.R_base ho1)) (Kd.R_base ho3)) (Kd.R_base ho4)) (fun _ h_ => h_.1))
            replace HO315 := am (Kd.R_mono (Kd.R_told (Kd.R_told (Kd.R_told (Kd.R_old (rk HO315.out) hb) (Kd.R_base ho1)) (Kd.R_base ho3)) (Kd.R_base ho4)) (fun _ h_ => h_.1))
            replace HO320 := am (Kd.R_elder' (rk HO320.out) (Kd.R_base ho0) hb)
            replace HO326 := am (Kd.R_mono (Kd.R_told (Kd.R_told (Kd.R_told (Kd.R_old (rk HO326.out) hb) (Kd.R_base ho1)) (Kd.R_base ho3)) (Kd.R_base ho4)) (fun _ h_ => h_.1))
            replace HO330 := am (Kd.R_elder' (rk HO330.out) (Kd.R_base ho2) hb)
            replace HO333 := am (Kd.R_mono (Kd.R_told (Kd.R_told (Kd.R_told (Kd.R_old (rk HO333.out) hb) (Kd.R_base ho1)) (Kd.R_base ho3)) (Kd.R_base ho4)) (fun _ h_ => h_.1))
            replace HO336 := am (Kd.R_mono (Kd.R_told (Kd.R_told (Kd.R_told (Kd.R_old (rk HO336.out) hb) (Kd.R_base ho1)) (Kd.R_base ho3)) (Kd.R_base ho4)) (fun _ h_ => h_.1))
            replace BK234 := am (bb BK234.out hb)
            replace BK235 := am (bb BK235.out hb)
            replace BK296 := am (bb BK296.out hb)
            replace BK316 := am (bb BK316.out hb)
            replace HB := am (below_step bel hb)
            (try clear hb)
            (try clear hb2)
            (try clear hk)
            (try clear hi)
            (try clear ho0)
            (try clear ho1)
            (try clear ho2)
            (try clear ho3)
            (try clear ho4)
            obtain ⟨Ao134, co134, eo134⟩ := Kd.R_slice HO340.out
            (first | subst eo134 | (injection eo134 with f1_ f2_ f3_; have f4_ := f1_.symm; have f5_ := f3_.symm; clear f1_ f2_ f3_; subst f4_; subst f5_))
            obtain ⟨Ao135, co135, eo135⟩ := Kd.R_slice HO346.out
            (first | subst eo135 | (injection eo135 with f1_ f2_ f3_; have f4_ := f1_.symm; have f5_ := f3_.symm; clear f1_ f2_ f3_; subst f4_; subst f5_))
            obtain ⟨Ao136, co136, eo136⟩ := Kd.R_slice HO350.out
            (first | subst eo136 | (injection eo136 with f1_ f2_ f3_; have f4_ := f1_.symm; have f5_ := f3_.symm; clear f1_ f2_ f3_; subst f4_; subst f5_))
            obtain ⟨Ao137, co137, eo137⟩ := Kd.R_slice HO353.out
            (first | subst eo137 | (injection eo137 with f1_ f2_ f3_; have f4_ := f1_.symm; have f5_ := f3_.symm; clear f1_ f2_ f3_; subst f4_; subst f5_))
            obtain ⟨Ao138, co138, eo138⟩ := Kd.R_slice HO356.out
            (first | subst eo138 | (injection eo138 with f1_ f2_ f3_; have f4_ := f1_.symm; have f5_ := f3_.symm; clear f1_ f2_ f3_; subst f4_; subst f5_))
            refine hK.out _ _ ⟨(blk_cell BK316.out 0).trans rfl, (blk_cell BK316.out 1).trans rfl, (blk_cell BK316.out 2).trans rfl, (blk_cell BK316.out 3).trans rfl, (blk_cell BK316.out 4).trans rfl, (blk_cell BK316.out 5).trans rfl, (blk_cell BK316.out 6).trans rfl, (blk_cell BK316.out 7).trans rfl, (blk_cell BK316.out 8).trans rfl, (blk_cell BK235.out 0).trans rfl, (blk_cell BK235.out 1).trans rfl, (blk_cell BK235.out 2).trans rfl, (blk_cell BK235.out 3).trans rfl, (blk_cell BK235.out 4).trans rfl, (blk_cell BK235.out 5).trans rfl, (blk_cell BK235.out 6).trans rfl, (blk_cell BK235.out 7).trans rfl, (blk_cell BK235.out 8).trans rfl⟩ (fun hHeld => ?_)
            clear hK K
            refine norm_ (a' := ?_) ?_ ?_
            rotate_left
            · show Act.put _ (some 42) _ = _
              simp only [Act.put, List.setIfInBounds_toArray, List.set_cons_zero, List.set_cons_succ, i64_w, i32_w]
              rfl
            refine one_ (i := 3) (N := some 43) #[true, true, true, true, false] rfl rfl (by kernel_rfl) (by decide) (fun K hK => ?_)
            refine goes_ Try.func32 (by kernel_rfl) rfl #[.agg #[.slice Ao113 t297.length co113, .int .i64 t300, .int .i64 t301, .int .i64 t302, .slice Ao118 t303.length co118, .bool t306, .slice Ao119 t307.length co119, .slice Ao120 t310.length co120, .slice Ao121 t313.length co121], .agg #[.slice Ao134 t338.length co134, .int .i64 t341, .int .i64 t342, .int .i64 t343, .slice Ao135 t344.length co135, .bool t347, .slice Ao136 t348.length co136, .slice Ao137 t351.length co137, .slice Ao138 t354.length co138]] (by rfl) rfl rfl ga ?_
            with_reducible refine (laws_eqBook.calls k _ _ t297 t300 t301 t302 _ _ t303 t306 _ _ t307 _ _ t310 _ _ t313 _ _ t338 t341 t342 t343 _ _ t344 t347 _ _ t348 _ _ t351 _ _ t354 true _ ?side1 ?side2 ?side3 ?side4 ?side5 ?side6 ?side7 ?side8 ?side9 ?side10 ?side11 ?side12 ?side13 ?side14 ?side15 ?side16 ?side17 ?side18 ?side19 ?side20 A76.out).mono ?_
            (case side1 => exact cr HO299)
            (case side2 => exact (Kd.R_reads' HO299.out).2.1)
            (case side3 => exact cr HO305)
            (case side4 => exact (Kd.R_reads' HO305.out).2.1)
            (case side5 => exact cr HO309)
            (case side6 => exact (Kd.R_reads' HO309.out).2.1)
            (case side7 => exact cr HO312)
            (case side8 => exact (Kd.R_reads' HO312.out).2.1)
            (case side9 => exact cr HO315)
            (case side10 => exact (Kd.R_reads' HO315.out).2.1)
            (case side11 => exact cr HO340)
            (case side12 => exact (Kd.R_reads' HO340.out).2.1)
            (case side13 => exact cr HO346)
            (case side14 => exact (Kd.R_reads' HO346.out).2.1)
            (case side15 => exact cr HO350)
            (case side16 => exact (Kd.R_reads' HO350.out).2.1)
            (case side17 => exact cr HO353)
            (case side18 => exact (Kd.R_reads' HO353.out).2.1)
            (case side19 => exact cr HO356)
            (case side20 => exact (Kd.R_reads' HO356.out).2.1)
            rintro e w139 ⟨rfl, hb⟩
            refine ⟨_, rfl, ?_⟩
            replace HO240 := rb HO240 hb
            replace HO246 := rb HO246 hb
            replace HO250 := rb HO250 hb
            replace HO253 := rb HO253 hb
            replace HO256 := rb HO256 hb
            replace HO259 := rb HO259 hb
            replace HO265 := rb HO265 hb
            replace HO269 := rb HO269 hb
            replace HO272 := rb HO272 hb
            replace HO275 := rb HO275 hb
            replace HO279 := rb HO279 hb
            replace HO285 := rb HO285 hb
            replace HO289 := rb HO289 hb
            replace HO292 := rb HO292 hb
            replace HO295 := rb HO295 hb
            replace HO299 := rb HO299 hb
            replace HO305 := rb HO305 hb
            replace HO309 := rb HO309 hb
            replace HO312 := rb HO312 hb
            replace HO315 := rb HO315 hb
            replace HO320 := rb HO320 hb
            replace HO326 := rb HO326 hb
            replace HO330 := rb HO330 hb
            replace HO333 := rb HO333 hb
            replace HO336 := rb HO336 hb
            replace HO340 := rb HO340 hb
            replace HO346 := rb HO346 hb
            replace HO350 := rb HO350 hb
            replace HO353 := rb HO353 hb
            replace HO356 := rb HO356 hb
            replace BK234 := am (bb BK234.out hb)
            replace BK235 := am (bb BK235.out hb)
            replace BK296 := am (bb BK296.out hb)
            replace BK316 := am (bb BK316.out hb)
            replace HB := am (below_step bel hb)
            (try clear hb)
            (try clear hb2)
            (try clear hk)
            (try clear hi)
            refine hK.out _ _ ⟨(blk_cell BK316.out 0).trans rfl, (blk_cell BK316.out 1).trans rfl, (blk_cell BK316.out 2).trans rfl, (blk_cell BK316.out 3).trans rfl, (blk_cell BK316.out 4).trans rfl, (blk_cell BK316.out 5).trans rfl, (blk_cell BK316.out 6).trans rfl, (blk_cell BK316.out 7).trans rfl, (blk_cell BK316.out 8).trans rfl, (blk_cell BK235.out 0).trans rfl, (blk_cell BK235.out 1).trans rfl, (blk_cell BK235.out 2).trans rfl, (blk_cell BK235.out 3).trans rfl, (blk_cell BK235.out 4).trans rfl, (blk_cell BK235.out 5).trans rfl, (blk_cell BK235.out 6).trans rfl, (blk_cell BK235.out 7).trans rfl, (blk_cell BK235.out 8).trans rfl⟩ (fun hHeld => ?_)
            clear hK K
            refine norm_ (a' := ?_) ?_ ?_
            rotate_left
            · show Act.put _ (some 43) _ = _
              simp only [Act.put, List.setIfInBounds_toArray, List.set_cons_zero, List.set_cons_succ, i64_w, i32_w]
              rfl
            refine pure_ (i := 4) (N := some 44) (v := ?_) (a' := ?_) #[true, true, true, true, true] rfl rfl (by kernel_rfl) (fun _ _ _ h => h) (Or.inl ⟨by rfl, ?_⟩) ?_ ?_
            rotate_left
            · intro w'
              go_simp
              with_reducible rfl
            rotate_left
            · simp only [Act.put, List.setIfInBounds_toArray, List.set_cons_zero, List.set_cons_succ, i64_w, i32_w]
              rfl
            refine done_ (by kernel_rfl) ?_
            try go_wp2
            go_ret
            exact ⟨er, bel⟩
          · replace c77 := Bool.eq_false_iff.mpr c77
            subst c77
            have H1 : (some false) = some r := by rw [if_neg (show ¬ (false = true) by decide)] at H; exact H
            clear H
            have H := H1
            clear H1
            obtain rfl := Option.some.inj H
            go_enter Try.func6, Try.ntmps6
            try go_wp2_with (first | ((with_reducible refine gate_dst (N := 2) rfl ?_); refine box_event ?hg (N := 2) ?hd (cs := #[.slice A0_0 l0_0.length c0_0, .int .i64 a0_1, .int .i64 a0_2, .int .i64 a0_3, .slice A0_4 l0_4.length c0_4, .bool a0_5, .slice A0_6 l0_6.length c0_6, .slice A0_7 l0_7.length c0_7, .slice A0_8 l0_8.length c0_8]) (t := 59) ?hr ?_; (case hd => rfl); (case hg => rfl); (case hr => first | (go_simp; done) | (go_simp; rfl)); intro gb234 hg w140 hbox hb; have BK234 := am (hbox); have GW234 := am ((bsz hg : w.heap.size ≤ gb234)); have GE234 := am ((bsz hg : w.heap.size ≤ gb234)); replace HB := am (below_step bel hb); clear hb hbox hg) | ((with_reducible refine gate_dst (N := 3) rfl ?_); refine box_event ?hg (N := 3) ?hd (cs := #[.slice A1_0 l1_0.length c1_0, .int .i64 a1_1, .int .i64 a1_2, .int .i64 a1_3, .slice A1_4 l1_4.length c1_4, .bool a1_5, .slice A1_6 l1_6.length c1_6, .slice A1_7 l1_7.length c1_7, .slice A1_8 l1_8.length c1_8]) (t := 59) ?hr ?_; (case hd => rfl); (case hg => rfl); (case hr => first | (go_simp; done) | (go_simp; rfl)); intro gb235 hg w141 hbox hb; have BK235 := am (hbox); have GW235 := am ((bsz hg : w.heap.size ≤ gb235)); have GE235 := am ((bsz hg : w.heap.size ≤ gb235)); have NB234_235 := am ((nlt hg BK234.out : gb234 ≠ gb235)); have NB235_234 := am ((ngt hg BK234.out : gb235 ≠ gb234)); replace BK234 := am (bb BK234.out hb); replace HB := am (below_step bel hb); clear hb hbox hg; have hnb142 := NB234_235.out; have hnc142 := NB235_234.out; obtain ⟨hcz143_0, hcz143_1, hcz143_2, hcz143_3, hcz143_4, hcz143_5, hcz143_6, hcz143_7, hcz143_8, hfz143_0, hfz143_1, hfz143_2, hfz143_3, hfz143_4, hfz143_5, hfz143_6, hfz143_7, hfz143_8⟩ := cf9 BK234.out) | ((with_reducible refine gate_callee (f := 28) rfl ?_); refine goesL_ (some 12) rfl rfl Try.func28 (by kernel_rfl) rfl #[.agg #[.slice A0_0 l0_0.length c0_0, .int .i64 a0_1, .int .i64 a0_2, .int .i64 a0_3, .slice A0_4 l0_4.length c0_4, .bool a0_5, .slice A0_6 l0_6.length c0_6, .slice A0_7 l0_7.length c0_7, .slice A0_8 l0_8.length c0_8], .int .i64 1048576] rfl ga ?_; (with_reducible refine (laws_szBook.calls k _ _ l0_0 a0_1 a0_2 a0_3 _ _ l0_4 a0_5 _ _ l0_6 _ _ l0_7 _ _ l0_8 1048576 t236 _ ?side1 ?side2 ?side3 ?side4 ?side5 ?side6 ?side7 ?side8 ?side9 ?side10 A3.out).mono ?_); (case side1 => exact ck (Kd.C_below HR0_0.out HB.out)); (case side2 => exact HC0_0.out); (case side3 => exact ck (Kd.C_below HR0_4.out HB.out)); (case side4 => exact HC0_4.out); (case side5 => exact ck (Kd.C_below HR0_6.out HB.out)); (case side6 => exact HC0_6.out); (case side7 => exact ck (Kd.C_below HR0_7.out HB.out)); (case side8 => exact HC0_7.out); (case side9 => exact ck (Kd.C_below HR0_8.out HB.out)); (case side10 => exact HC0_8.out); rintro e w144 ⟨rfl, hb⟩; refine ⟨_, rfl, ?_⟩; replace BK234 := am (bb BK234.out hb); replace BK235 := am (bb BK235.out hb); replace HB := am (below_step bel hb); (try clear hb); obtain ⟨hcz145_0, hcz145_1, hcz145_2, hcz145_3, hcz145_4, hcz145_5, hcz145_6, hcz145_7, hcz145_8, hfz145_0, hfz145_1, hfz145_2, hfz145_3, hfz145_4, hfz145_5, hfz145_6, hfz145_7, hfz145_8⟩ := cf9 BK235.out) | ((with_reducible refine gate_callee (f := 28) rfl ?_); refine goesL_ (some 17) rfl rfl Try.func28 (by kernel_rfl) rfl #[.agg #[.slice A1_0 l1_0.length c1_0, .int .i64 a1_1, .int .i64 a1_2, .int .i64 a1_3, .slice A1_4 l1_4.length c1_4, .bool a1_5, .slice A1_6 l1_6.length c1_6, .slice A1_7 l1_7.length c1_7, .slice A1_8 l1_8.length c1_8], .int .i64 t236] rfl ga ?_; (with_reducible refine (laws_szBook.calls k _ _ l1_0 a1_1 a1_2 a1_3 _ _ l1_4 a1_5 _ _ l1_6 _ _ l1_7 _ _ l1_8 t236 t237 _ ?side1 ?side2 ?side3 ?side4 ?side5 ?side6 ?side7 ?side8 ?side9 ?side10 A10.out).mono ?_); (case side1 => exact ck (Kd.C_below HR1_0.out HB.out)); (case side2 => exact HC1_0.out); (case side3 => exact ck (Kd.C_below HR1_4.out HB.out)); (case side4 => exact HC1_4.out); (case side5 => exact ck (Kd.C_below HR1_6.out HB.out)); (case side6 => exact HC1_6.out); (case side7 => exact ck (Kd.C_below HR1_7.out HB.out)); (case side8 => exact HC1_7.out); (case side9 => exact ck (Kd.C_below HR1_8.out HB.out)); (case side10 => exact HC1_8.out); rintro e w146 ⟨rfl, hb⟩; refine ⟨_, rfl, ?_⟩; replace BK234 := am (bb BK234.out hb); replace BK235 := am (bb BK235.out hb); replace HB := am (below_step bel hb); (try clear hb)))
            replace BK234 := am (blk_drew BK234.out)
            replace BK235 := am (blk_drew BK235.out)
            replace HB := am (below_drew1 HB.out)
            refine start_ (n := 6) (S := fun w' => w'.cell? ⟨gb234, 0, none⟩ = some (.slice A0_0 l0_0.length c0_0) ∧ w'.cell? ⟨gb234, 1, none⟩ = some (.int .i64 a0_1) ∧ w'.cell? ⟨gb234, 2, none⟩ = some (.int .i64 a0_2) ∧ w'.cell? ⟨gb234, 3, none⟩ = some (.int .i64 a0_3) ∧ w'.cell? ⟨gb234, 4, none⟩ = some (.slice A0_4 l0_4.length c0_4) ∧ w'.cell? ⟨gb234, 5, none⟩ = some (.bool a0_5) ∧ w'.cell? ⟨gb234, 6, none⟩ = some (.slice A0_6 l0_6.length c0_6) ∧ w'.cell? ⟨gb234, 7, none⟩ = some (.slice A0_7 l0_7.length c0_7) ∧ w'.cell? ⟨gb234, 8, none⟩ = some (.slice A0_8 l0_8.length c0_8) ∧ w'.cell? ⟨gb235, 0, none⟩ = some (.slice A1_0 l1_0.length c1_0) ∧ w'.cell? ⟨gb235, 1, none⟩ = some (.int .i64 a1_1) ∧ w'.cell? ⟨gb235, 2, none⟩ = some (.int .i64 a1_2) ∧ w'.cell? ⟨gb235, 3, none⟩ = some (.int .i64 a1_3) ∧ w'.cell? ⟨gb235, 4, none⟩ = some (.slice A1_4 l1_4.length c1_4) ∧ w'.cell? ⟨gb235, 5, none⟩ = some (.bool a1_5) ∧ w'.cell? ⟨gb235, 6, none⟩ = some (.slice A1_6 l1_6.length c1_6) ∧ w'.cell? ⟨gb235, 7, none⟩ = some (.slice A1_7 l1_7.length c1_7) ∧ w'.cell? ⟨gb235, 8, none⟩ = some (.slice A1_8 l1_8.length c1_8)) (ds := []) #[false, false, false, false, false, false] (by kernel_rfl) rfl rfl ⟨(blk_cell BK234.out 0).trans rfl, (blk_cell BK234.out 1).trans rfl, (blk_cell BK234.out 2).trans rfl, (blk_cell BK234.out 3).trans rfl, (blk_cell BK234.out 4).trans rfl, (blk_cell BK234.out 5).trans rfl, (blk_cell BK234.out 6).trans rfl, (blk_cell BK234.out 7).trans rfl, (blk_cell BK234.out 8).trans rfl, (blk_cell BK235.out 0).trans rfl, (blk_cell BK235.out 1).trans rfl, (blk_cell BK235.out 2).trans rfl, (blk_cell BK235.out 3).trans rfl, (blk_cell BK235.out 4).trans rfl, (blk_cell BK235.out 5).trans rfl, (blk_cell BK235.out 6).trans rfl, (blk_cell BK235.out 7).trans rfl, (blk_cell BK235.out 8).trans rfl⟩ (fun hHeld => ?_)
            generalize w146.drew = w147 at BK234 BK235 HB hHeld ⊢
            refine take_ (i := 0) (N := some 20) (v := ?_) (a' := ?_) #[true, false, false, false, false, false] rfl rfl (by kernel_rfl) (fun _ _ _ h => h) (Or.inl ⟨by rfl, ?_⟩) hHeld ?_ ?_
            rotate_left
            · rintro w' ⟨s0, s1, s2, s3, s4, s5, s6, s7, s8, s9, s10, s11, s12, s13, s14, s15, s16, s17⟩
              go_simp
              with_reducible rfl
            rotate_left
            · simp only [Act.put, List.setIfInBounds_toArray, List.set_cons_zero, List.set_cons_succ, i64_w, i32_w]
              rfl
            refine take_ (i := 2) (N := some 22) (v := ?_) (a' := ?_) #[true, false, true, false, false, false] rfl rfl (by kernel_rfl) (fun _ _ _ h => h) (Or.inl ⟨by rfl, ?_⟩) hHeld ?_ ?_
            rotate_left
            · rintro w' ⟨s0, s1, s2, s3, s4, s5, s6, s7, s8, s9, s10, s11, s12, s13, s14, s15, s16, s17⟩
              go_simp
              with_reducible rfl
            rotate_left
            · simp only [Act.put, List.setIfInBounds_toArray, List.set_cons_zero, List.set_cons_succ, i64_w, i32_w]
              rfl
            refine one_ (i := 1) (N := some 21) #[true, true, true, false, false, false] rfl rfl (by kernel_rfl) (by decide) (fun K hK => ?_)
            refine goes_ Try.func30 (by kernel_rfl) rfl #[.agg #[.slice A0_0 l0_0.length c0_0, .int .i64 a0_1, .int .i64 a0_2, .int .i64 a0_3, .slice A0_4 l0_4.length c0_4, .bool a0_5, .slice A0_6 l0_6.length c0_6, .slice A0_7 l0_7.length c0_7, .slice A0_8 l0_8.length c0_8]] (by rfl) rfl rfl ga ?_
            with_reducible refine (laws_toBook.calls k _ _ l0_0 a0_1 a0_2 a0_3 _ _ l0_4 a0_5 _ _ l0_6 _ _ l0_7 _ _ l0_8 t238 t241 t242 t243 t244 t247 t248 t251 t254 _ ?side1 ?side2 ?side3 ?side4 ?side5 ?side6 ?side7 ?side8 ?side9 ?side10 A19.out).mono ?_
            (case side1 => exact ck (Kd.C_below HR0_0.out HB.out))
            (case side2 => exact HC0_0.out)
            (case side3 => exact ck (Kd.C_below HR0_4.out HB.out))
            (case side4 => exact HC0_4.out)
            (case side5 => exact ck (Kd.C_below HR0_6.out HB.out))
            (case side6 => exact HC0_6.out)
            (case side7 => exact ck (Kd.C_below HR0_7.out HB.out))
            (case side8 => exact HC0_7.out)
            (case side9 => exact ck (Kd.C_below HR0_8.out HB.out))
            (case side10 => exact HC0_8.out)
            rintro e w148 ⟨v239, v245, v249, v252, v255, rfl, ho0, ho1, ho2, ho3, ho4, hb⟩
            refine ⟨_, rfl, ?_⟩
            have HO240 := am (Kd.R_lower ho0 (below_size bel))
            have HO246 := am (Kd.R_lower ho1 (below_size bel))
            have HO250 := am (Kd.R_lower ho2 (below_size bel))
            have HO253 := am (Kd.R_lower ho3 (below_size bel))
            have HO256 := am (Kd.R_lower ho4 (below_size bel))
            replace BK234 := am (bb BK234.out hb)
            replace BK235 := am (bb BK235.out hb)
            replace HB := am (below_step bel hb)
            (try clear hb)
            (try clear hb2)
            (try clear hk)
            (try clear hi)
            (try clear ho0)
            (try clear ho1)
            (try clear ho2)
            (try clear ho3)
            (try clear ho4)
            refine hK.out _ _ ⟨(blk_cell BK234.out 0).trans rfl, (blk_cell BK234.out 1).trans rfl, (blk_cell BK234.out 2).trans rfl, (blk_cell BK234.out 3).trans rfl, (blk_cell BK234.out 4).trans rfl, (blk_cell BK234.out 5).trans rfl, (blk_cell BK234.out 6).trans rfl, (blk_cell BK234.out 7).trans rfl, (blk_cell BK234.out 8).trans rfl, (blk_cell BK235.out 0).trans rfl, (blk_cell BK235.out 1).trans rfl, (blk_cell BK235.out 2).trans rfl, (blk_cell BK235.out 3).trans rfl, (blk_cell BK235.out 4).trans rfl, (blk_cell BK235.out 5).trans rfl, (blk_cell BK235.out 6).trans rfl, (blk_cell BK235.out 7).trans rfl, (blk_cell BK235.out 8).trans rfl⟩ (fun hHeld => ?_)
            clear hK K
            refine norm_ (a' := ?_) ?_ ?_
            rotate_left
            · show Act.put _ (some 21) _ = _
              simp only [Act.put, List.setIfInBounds_toArray, List.set_cons_zero, List.set_cons_succ, i64_w, i32_w]
              rfl
            refine one_ (i := 3) (N := some 23) #[true, true, true, true, false, false] rfl rfl (by kernel_rfl) (by decide) (fun K hK => ?_)
            refine goes_ Try.func30 (by kernel_rfl) rfl #[.agg #[.slice A1_0 l1_0.length c1_0, .int .i64 a1_1, .int .i64 a1_2, .int .i64 a1_3, .slice A1_4 l1_4.length c1_4, .bool a1_5, .slice A1_6 l1_6.length c1_6, .slice A1_7 l1_7.length c1_7, .slice A1_8 l1_8.length c1_8]] (by rfl) rfl rfl ga ?_
            with_reducible refine (laws_toBook.calls k _ _ l1_0 a1_1 a1_2 a1_3 _ _ l1_4 a1_5 _ _ l1_6 _ _ l1_7 _ _ l1_8 t257 t260 t261 t262 t263 t266 t267 t270 t273 _ ?side1 ?side2 ?side3 ?side4 ?side5 ?side6 ?side7 ?side8 ?side9 ?side10 A20.out).mono ?_
            (case side1 => exact ck (Kd.C_below HR1_0.out HB.out))
            (case side2 => exact HC1_0.out)
            (case side3 => exact ck (Kd.C_below HR1_4.out HB.out))
            (case side4 => exact HC1_4.out)
            (case side5 => exact ck (Kd.C_below HR1_6.out HB.out))
            (case side6 => exact HC1_6.out)
            (case side7 => exact ck (Kd.C_below HR1_7.out HB.out))
            (case side8 => exact HC1_7.out)
            (case side9 => exact ck (Kd.C_below HR1_8.out HB.out))
            (case side10 => exact HC1_8.out)
            rintro e w149 ⟨v258, v264, v268, v271, v274, rfl, ho0, ho1, ho2, ho3, ho4, hb⟩
            refine ⟨_, rfl, ?_⟩
            have HO259 := am (Kd.R_lower (Kd.R_new' ho0 (rl HO240)) (below_size bel))
            have HO265 := am (Kd.R_lower (Kd.R_new' (Kd.R_new' (Kd.R_new' ho1 (rl HO246)) (rl HO253)) (rl HO256)) (below_size bel))
            have HO269 := am (Kd.R_lower (Kd.R_new' ho2 (rl HO250)) (below_size bel))
            have HO272 := am (Kd.R_lower (Kd.R_new' (Kd.R_new' (Kd.R_new' ho3 (rl HO246)) (rl HO253)) (rl HO256)) (below_size bel))
            have HO275 := am (Kd.R_lower (Kd.R_new' (Kd.R_new' (Kd.R_new' ho4 (rl HO246)) (rl HO253)) (rl HO256)) (below_size bel))
            replace HO240 := am (Kd.R_elder' (rk HO240.out) (Kd.R_base ho0) hb)
            replace HO246 := am (Kd.R_mono (Kd.R_told (Kd.R_told (Kd.R_told (Kd.R_old (rk HO246.out) hb) (Kd.R_base ho1)) (Kd.R_base ho3)) (Kd.R_base ho4)) (fun _ h_ => h_.1))
            replace HO250 := am (Kd.R_elder' (rk HO250.out) (Kd.R_base ho2) hb)
            replace HO253 := am (Kd.R_mono (Kd.R_told (Kd.R_told (Kd.R_told (Kd.R_old (rk HO253.out) hb) (Kd.R_base ho1)) (Kd.R_base ho3)) (Kd.R_base ho4)) (fun _ h_ => h_.1))
            replace HO256 := am (Kd.R_mono (Kd.R_told (Kd.R_told (Kd.R_told (Kd.R_old (rk HO256.out) hb) (Kd.R_base ho1)) (Kd.R_base ho3)) (Kd.R_base ho4)) (fun _ h_ => h_.1))
            replace BK234 := am (bb BK234.out hb)
            replace BK235 := am (bb BK235.out hb)
            replace HB := am (below_step bel hb)
            (try clear hb)
            (try clear hb2)
            (try clear hk)
            (try clear hi)
            (try clear ho0)
            (try clear ho1)
            (try clear ho2)
            (try clear ho3)
            (try clear ho4)
            obtain ⟨Ao150, co150, eo150⟩ := Kd.R_slice HO240.out
            (first | subst eo150 | (injection eo150 with f1_ f2_ f3_; have f4_ := f1_.symm; have f5_ := f3_.symm; clear f1_ f2_ f3_; subst f4_; subst f5_))
            obtain ⟨Ao151, co151, eo151⟩ := Kd.R_slice HO246.out
            (first | subst eo151 | (injection eo151 with f1_ f2_ f3_; have f4_ := f1_.symm; have f5_ := f3_.symm; clear f1_ f2_ f3_; subst f4_; subst f5_))
            obtain ⟨Ao152, co152, eo152⟩ := Kd.R_slice HO250.out
            (first | subst eo152 | (injection eo152 with f1_ f2_ f3_; have f4_ := f1_.symm; have f5_ := f3_.symm; clear f1_ f2_ f3_; subst f4_; subst f5_))
            obtain ⟨Ao153, co153, eo153⟩ := Kd.R_slice HO253.out
            (first | subst eo153 | (injection eo153 with f1_ f2_ f3_; have f4_ := f1_.symm; have f5_ := f3_.symm; clear f1_ f2_ f3_; subst f4_; subst f5_))
            obtain ⟨Ao154, co154, eo154⟩ := Kd.R_slice HO256.out
            (first | subst eo154 | (injection eo154 with f1_ f2_ f3_; have f4_ := f1_.symm; have f5_ := f3_.symm; clear f1_ f2_ f3_; subst f4_; subst f5_))
            obtain ⟨Ao155, co155, eo155⟩ := Kd.R_slice HO259.out
            (first | subst eo155 | (injection eo155 with f1_ f2_ f3_; have f4_ := f1_.symm; have f5_ := f3_.symm; clear f1_ f2_ f3_; subst f4_; subst f5_))
            obtain ⟨Ao156, co156, eo156⟩ := Kd.R_slice HO265.out
            (first | subst eo156 | (injection eo156 with f1_ f2_ f3_; have f4_ := f1_.symm; have f5_ := f3_.symm; clear f1_ f2_ f3_; subst f4_; subst f5_))
            obtain ⟨Ao157, co157, eo157⟩ := Kd.R_slice HO269.out
            (first | subst eo157 | (injection eo157 with f1_ f2_ f3_; have f4_ := f1_.symm; have f5_ := f3_.symm; clear f1_ f2_ f3_; subst f4_; subst f5_))
            obtain ⟨Ao158, co158, eo158⟩ := Kd.R_slice HO272.out
            (first | subst eo158 | (injection eo158 with f1_ f2_ f3_; have f4_ := f1_.symm; have f5_ := f3_.symm; clear f1_ f2_ f3_; subst f4_; subst f5_))
            obtain ⟨Ao159, co159, eo159⟩ := Kd.R_slice HO275.out
            (first | subst eo159 | (injection eo159 with f1_ f2_ f3_; have f4_ := f1_.symm; have f5_ := f3_.symm; clear f1_ f2_ f3_; subst f4_; subst f5_))
            refine hK.out _ _ ⟨(blk_cell BK234.out 0).trans rfl, (blk_cell BK234.out 1).trans rfl, (blk_cell BK234.out 2).trans rfl, (blk_cell BK234.out 3).trans rfl, (blk_cell BK234.out 4).trans rfl, (blk_cell BK234.out 5).trans rfl, (blk_cell BK234.out 6).trans rfl, (blk_cell BK234.out 7).trans rfl, (blk_cell BK234.out 8).trans rfl, (blk_cell BK235.out 0).trans rfl, (blk_cell BK235.out 1).trans rfl, (blk_cell BK235.out 2).trans rfl, (blk_cell BK235.out 3).trans rfl, (blk_cell BK235.out 4).trans rfl, (blk_cell BK235.out 5).trans rfl, (blk_cell BK235.out 6).trans rfl, (blk_cell BK235.out 7).trans rfl, (blk_cell BK235.out 8).trans rfl⟩ (fun hHeld => ?_)
            clear hK K
            refine norm_ (a' := ?_) ?_ ?_
            rotate_left
            · show Act.put _ (some 23) _ = _
              simp only [Act.put, List.setIfInBounds_toArray, List.set_cons_zero, List.set_cons_succ, i64_w, i32_w]
              rfl
            refine one_ (i := 4) (N := some 24) #[true, true, true, true, true, false] rfl rfl (by kernel_rfl) (by decide) (fun K hK => ?_)
            refine goes_ Try.func29 (by kernel_rfl) rfl #[.agg #[.slice Ao150 t238.length co150, .int .i64 t241, .int .i64 t242, .int .i64 t243, .slice Ao151 t244.length co151, .bool t247, .slice Ao152 t248.length co152, .slice Ao153 t251.length co153, .slice Ao154 t254.length co154], .agg #[.slice Ao155 t257.length co155, .int .i64 t260, .int .i64 t261, .int .i64 t262, .slice Ao156 t263.length co156, .bool t266, .slice Ao157 t267.length co157, .slice Ao158 t270.length co158, .slice Ao159 t273.length co159]] (by rfl) rfl rfl ga ?_
            with_reducible refine (spec_SameBooks.calls k _ _ t238 t241 t242 t243 _ _ t244 t247 _ _ t248 _ _ t251 _ _ t254 _ _ t257 t260 t261 t262 _ _ t263 t266 _ _ t267 _ _ t270 _ _ t273 t276 _ ?side1 ?side2 ?side3 ?side4 ?side5 ?side6 ?side7 ?side8 ?side9 ?side10 ?side11 ?side12 ?side13 ?side14 ?side15 ?side16 ?side17 ?side18 ?side19 ?side20 A21.out).mono ?_
            (case side1 => exact cr HO240)
            (case side2 => exact (Kd.R_reads' HO240.out).2.1)
            (case side3 => exact cr HO246)
            (case side4 => exact (Kd.R_reads' HO246.out).2.1)
            (case side5 => exact cr HO250)
            (case side6 => exact (Kd.R_reads' HO250.out).2.1)
            (case side7 => exact cr HO253)
            (case side8 => exact (Kd.R_reads' HO253.out).2.1)
            (case side9 => exact cr HO256)
            (case side10 => exact (Kd.R_reads' HO256.out).2.1)
            (case side11 => exact cr HO259)
            (case side12 => exact (Kd.R_reads' HO259.out).2.1)
            (case side13 => exact cr HO265)
            (case side14 => exact (Kd.R_reads' HO265.out).2.1)
            (case side15 => exact cr HO269)
            (case side16 => exact (Kd.R_reads' HO269.out).2.1)
            (case side17 => exact cr HO272)
            (case side18 => exact (Kd.R_reads' HO272.out).2.1)
            (case side19 => exact cr HO275)
            (case side20 => exact (Kd.R_reads' HO275.out).2.1)
            rintro e w160 ⟨rfl, hb⟩
            refine ⟨_, rfl, ?_⟩
            replace HO240 := rb HO240 hb
            replace HO246 := rb HO246 hb
            replace HO250 := rb HO250 hb
            replace HO253 := rb HO253 hb
            replace HO256 := rb HO256 hb
            replace HO259 := rb HO259 hb
            replace HO265 := rb HO265 hb
            replace HO269 := rb HO269 hb
            replace HO272 := rb HO272 hb
            replace HO275 := rb HO275 hb
            replace BK234 := am (bb BK234.out hb)
            replace BK235 := am (bb BK235.out hb)
            replace HB := am (below_step bel hb)
            (try clear hb)
            (try clear hb2)
            (try clear hk)
            (try clear hi)
            refine hK.out _ _ ⟨(blk_cell BK234.out 0).trans rfl, (blk_cell BK234.out 1).trans rfl, (blk_cell BK234.out 2).trans rfl, (blk_cell BK234.out 3).trans rfl, (blk_cell BK234.out 4).trans rfl, (blk_cell BK234.out 5).trans rfl, (blk_cell BK234.out 6).trans rfl, (blk_cell BK234.out 7).trans rfl, (blk_cell BK234.out 8).trans rfl, (blk_cell BK235.out 0).trans rfl, (blk_cell BK235.out 1).trans rfl, (blk_cell BK235.out 2).trans rfl, (blk_cell BK235.out 3).trans rfl, (blk_cell BK235.out 4).trans rfl, (blk_cell BK235.out 5).trans rfl, (blk_cell BK235.out 6).trans rfl, (blk_cell BK235.out 7).trans rfl, (blk_cell BK235.out 8).trans rfl⟩ (fun hHeld => ?_)
            clear hK K
            refine norm_ (a' := ?_) ?_ ?_
            rotate_left
            · show Act.put _ (some 24) _ = _
              simp only [Act.put, List.setIfInBounds_toArray, List.set_cons_zero, List.set_cons_succ, i64_w, i32_w]
              rfl
            refine pure_ (i := 5) (N := some 6) (v := ?_) (a' := ?_) #[true, true, true, true, true, true] rfl rfl (by kernel_rfl) (fun _ _ _ h => h) (Or.inl ⟨by rfl, ?_⟩) ?_ ?_
            rotate_left
            · intro w'
              go_simp
              with_reducible rfl
            rotate_left
            · simp only [Act.put, List.setIfInBounds_toArray, List.set_cons_zero, List.set_cons_succ, i64_w, i32_w]
              rfl
            refine done_ (by kernel_rfl) ?_
            obtain ⟨hcz161_0, hcz161_1, hcz161_2, hcz161_3, hcz161_4, hcz161_5, hcz161_6, hcz161_7, hcz161_8, hfz161_0, hfz161_1, hfz161_2, hfz161_3, hfz161_4, hfz161_5, hfz161_6, hfz161_7, hfz161_8⟩ := cf9 BK234.out
            try go_wp2_with (first | ((with_reducible refine gate_callee (f := 30) rfl ?_); refine goesL_ (some 26) rfl rfl Try.func30 (by kernel_rfl) rfl #[.agg #[.slice A0_0 l0_0.length c0_0, .int .i64 a0_1, .int .i64 a0_2, .int .i64 a0_3, .slice A0_4 l0_4.length c0_4, .bool a0_5, .slice A0_6 l0_6.length c0_6, .slice A0_7 l0_7.length c0_7, .slice A0_8 l0_8.length c0_8]] rfl ga ?_; (with_reducible refine (laws_toBook.calls k _ _ l0_0 a0_1 a0_2 a0_3 _ _ l0_4 a0_5 _ _ l0_6 _ _ l0_7 _ _ l0_8 t277 t280 t281 t282 t283 t286 t287 t290 t293 _ ?side1 ?side2 ?side3 ?side4 ?side5 ?side6 ?side7 ?side8 ?side9 ?side10 A22.out).mono ?_); (case side1 => exact ck (Kd.C_below HR0_0.out HB.out)); (case side2 => exact HC0_0.out); (case side3 => exact ck (Kd.C_below HR0_4.out HB.out)); (case side4 => exact HC0_4.out); (case side5 => exact ck (Kd.C_below HR0_6.out HB.out)); (case side6 => exact HC0_6.out); (case side7 => exact ck (Kd.C_below HR0_7.out HB.out)); (case side8 => exact HC0_7.out); (case side9 => exact ck (Kd.C_below HR0_8.out HB.out)); (case side10 => exact HC0_8.out); rintro e w162 ⟨v278, v284, v288, v291, v294, rfl, ho0, ho1, ho2, ho3, ho4, hb⟩; refine ⟨_, rfl, ?_⟩; have HO279 := am (Kd.R_lower (Kd.R_new' (Kd.R_new' ho0 (rl HO240)) (rl HO259)) (below_size bel)); have HO285 := am (Kd.R_lower (Kd.R_new' (Kd.R_new' (Kd.R_new' (Kd.R_new' (Kd.R_new' (Kd.R_new' ho1 (rl HO246)) (rl HO253)) (rl HO256)) (rl HO265)) (rl HO272)) (rl HO275)) (below_size bel)); have HO289 := am (Kd.R_lower (Kd.R_new' (Kd.R_new' ho2 (rl HO250)) (rl HO269)) (below_size bel)); have HO292 := am (Kd.R_lower (Kd.R_new' (Kd.R_new' (Kd.R_new' (Kd.R_new' (Kd.R_new' (Kd.R_new' ho3 (rl HO246)) (rl HO253)) (rl HO256)) (rl HO265)) (rl HO272)) (rl HO275)) (below_size bel)); have HO295 := am (Kd.R_lower (Kd.R_new' (Kd.R_new' (Kd.R_new' (Kd.R_new' (Kd.R_new' (Kd.R_new' ho4 (rl HO246)) (rl HO253)) (rl HO256)) (rl HO265)) (rl HO272)) (rl HO275)) (below_size bel)); replace HO240 := am (Kd.R_elder' (rk HO240.out) (Kd.R_base ho0) hb); replace HO246 := am (Kd.R_mono (Kd.R_told (Kd.R_told (Kd.R_told (Kd.R_old (rk HO246.out) hb) (Kd.R_base ho1)) (Kd.R_base ho3)) (Kd.R_base ho4)) (fun _ h_ => h_.1)); replace HO250 := am (Kd.R_elder' (rk HO250.out) (Kd.R_base ho2) hb); replace HO253 := am (Kd.R_mono (Kd.R_told (Kd.R_told (Kd.R_told (Kd.R_old (rk HO253.out) hb) (Kd.R_base ho1)) (Kd.R_base ho3)) (Kd.R_base ho4)) (fun _ h_ => h_.1)); replace HO256 := am (Kd.R_mono (Kd.R_told (Kd.R_told (Kd.R_told (Kd.R_old (rk HO256.out) hb) (Kd.R_base ho1)) (Kd.R_base ho3)) (Kd.R_base ho4)) (fun _ h_ => h_.1)); replace HO259 := am (Kd.R_elder' (rk HO259.out) (Kd.R_base ho0) hb); replace HO265 := am (Kd.R_mono (Kd.R_told (Kd.R_told (Kd.R_told (Kd.R_old (rk HO265.out) hb) (Kd.R_base ho1)) (Kd.R_base ho3)) (Kd.R_base ho4)) (fun _ h_ => h_.1)); replace HO269 := am (Kd.R_elder' (rk HO269.out) (Kd.R_base ho2) hb); replace HO272 := am (Kd.R_mono (Kd.R_told (Kd.R_told (Kd.R_told (Kd.R_old (rk HO272.out) hb) (Kd.R_base ho1)) (Kd.R_base ho3)) (Kd.R_base ho4)) (fun _ h_ => h_.1)); replace HO275 := am (Kd.R_mono (Kd.R_told (Kd.R_told (Kd.R_told (Kd.R_old (rk HO275.out) hb) (Kd.R_base ho1)) (Kd.R_base ho3)) (Kd.R_base ho4)) (fun _ h_ => h_.1)); replace BK234 := am (bb BK234.out hb); replace BK235 := am (bb BK235.out hb); replace HB := am (below_step bel hb); (try clear hb); (try clear ho0); (try clear ho1); (try clear ho2); (try clear ho3); (try clear ho4)) | ((with_reducible refine gate_dst (N := 7) rfl ?_); refine box_event ?hg (N := 7) ?hd (cs := #[.slice none 0 0, .int .i64 0, .int .i64 0, .int .i64 0, .slice none 0 0, .bool false, .slice none 0 0, .slice none 0 0, .slice none 0 0]) (t := 65) ?hr ?_; (case hd => rfl); (case hg => rfl); (case hr => first | (go_simp; done) | (go_simp; rfl)); intro gb296 hg w163 hbox hb; have BK296 := am (hbox); have GW296 := am ((bsz hg : w.heap.size ≤ gb296)); have GE296 := am ((bsz hg : w.heap.size ≤ gb296)); have NB234_296 := am ((nlt hg BK234.out : gb234 ≠ gb296)); have NB296_234 := am ((ngt hg BK234.out : gb296 ≠ gb234)); have NB235_296 := am ((nlt hg BK235.out : gb235 ≠ gb296)); have NB296_235 := am ((ngt hg BK235.out : gb296 ≠ gb235)); replace HO240 := rb HO240 hb; replace HO246 := rb HO246 hb; replace HO250 := rb HO250 hb; replace HO253 := rb HO253 hb; replace HO256 := rb HO256 hb; replace HO259 := rb HO259 hb; replace HO265 := rb HO265 hb; replace HO269 := rb HO269 hb; replace HO272 := rb HO272 hb; replace HO275 := rb HO275 hb; replace HO279 := rb HO279 hb; replace HO285 := rb HO285 hb; replace HO289 := rb HO289 hb; replace HO292 := rb HO292 hb; replace HO295 := rb HO295 hb; replace BK234 := am (bb BK234.out hb); replace BK235 := am (bb BK235.out hb); replace HB := am (below_step bel hb); clear hb hbox hg; obtain ⟨Ao164, co164, eo164⟩ := Kd.R_slice HO279.out; subst eo164; have hnb165 := NB296_234.out; have hnc165 := NB234_296.out; have hnb166 := NB296_235.out; have hnc166 := NB235_296.out; obtain ⟨hcz167_0, hcz167_1, hcz167_2, hcz167_3, hcz167_4, hcz167_5, hcz167_6, hcz167_7, hcz167_8, hfz167_0, hfz167_1, hfz167_2, hfz167_3, hfz167_4, hfz167_5, hfz167_6, hfz167_7, hfz167_8⟩ := cf9 BK296.out; obtain ⟨Ao168, co168, eo168⟩ := Kd.R_slice HO285.out; subst eo168; obtain ⟨Ao169, co169, eo169⟩ := Kd.R_slice HO289.out; subst eo169; obtain ⟨Ao170, co170, eo170⟩ := Kd.R_slice HO292.out; subst eo170; obtain ⟨Ao171, co171, eo171⟩ := Kd.R_slice HO295.out; subst eo171; obtain ⟨hcz172_0, hcz172_1, hcz172_2, hcz172_3, hcz172_4, hcz172_5, hcz172_6, hcz172_7, hcz172_8, hfz172_0, hfz172_1, hfz172_2, hfz172_3, hfz172_4, hfz172_5, hfz172_6, hfz172_7, hfz172_8⟩ := cf9 BK235.out) | ((with_reducible refine gate_callee (f := 30) rfl ?_); refine goesL_ (some 28) rfl rfl Try.func30 (by kernel_rfl) rfl #[.agg #[.slice A1_0 l1_0.length c1_0, .int .i64 a1_1, .int .i64 a1_2, .int .i64 a1_3, .slice A1_4 l1_4.length c1_4, .bool a1_5, .slice A1_6 l1_6.length c1_6, .slice A1_7 l1_7.length c1_7, .slice A1_8 l1_8.length c1_8]] rfl ga ?_; (with_reducible refine (laws_toBook.calls k _ _ l1_0 a1_1 a1_2 a1_3 _ _ l1_4 a1_5 _ _ l1_6 _ _ l1_7 _ _ l1_8 t297 t300 t301 t302 t303 t306 t307 t310 t313 _ ?side1 ?side2 ?side3 ?side4 ?side5 ?side6 ?side7 ?side8 ?side9 ?side10 A23.out).mono ?_); (case side1 => exact Kd.C_below HR1_0.out bel); (case side2 => exact HC1_0.out); (case side3 => exact Kd.C_below HR1_4.out bel); (case side4 => exact HC1_4.out); (case side5 => exact Kd.C_below HR1_6.out bel); (case side6 => exact HC1_6.out); (case side7 => exact Kd.C_below HR1_7.out bel); (case side8 => exact HC1_7.out); (case side9 => exact Kd.C_below HR1_8.out bel); (case side10 => exact HC1_8.out); rintro e w173 ⟨v298, v304, v308, v311, v314, rfl, ho0, ho1, ho2, ho3, ho4, hb⟩; refine ⟨_, rfl, ?_⟩; have HO299 := am (Kd.R_lower (Kd.R_new' (Kd.R_new' (Kd.R_new' ho0 (Kd.R_lt (rf9 HO240 BK296))) (Kd.R_lt (rf9 HO259 BK296))) (Kd.R_lt (rf9 HO279 BK296))) (below_size bel)); have HO305 := am (Kd.R_lower (Kd.R_new' (Kd.R_new' (Kd.R_new' (Kd.R_new' (Kd.R_new' (Kd.R_new' (Kd.R_new' (Kd.R_new' (Kd.R_new' ho1 (Kd.R_lt (rf9 HO246 BK296))) (Kd.R_lt (rf9 HO253 BK296))) (Kd.R_lt (rf9 HO256 BK296))) (Kd.R_lt (rf9 HO265 BK296))) (Kd.R_lt (rf9 HO272 BK296))) (Kd.R_lt (rf9 HO275 BK296))) (Kd.R_lt (rf9 HO285 BK296))) (Kd.R_lt (rf9 HO292 BK296))) (Kd.R_lt (rf9 HO295 BK296))) (below_size bel)); have HO309 := am (Kd.R_lower (Kd.R_new' (Kd.R_new' (Kd.R_new' ho2 (Kd.R_lt (rf9 HO250 BK296))) (Kd.R_lt (rf9 HO269 BK296))) (Kd.R_lt (rf9 HO289 BK296))) (below_size bel)); have HO312 := am (Kd.R_lower (Kd.R_new' (Kd.R_new' (Kd.R_new' (Kd.R_new' (Kd.R_new' (Kd.R_new' (Kd.R_new' (Kd.R_new' (Kd.R_new' ho3 (Kd.R_lt (rf9 HO246 BK296))) (Kd.R_lt (rf9 HO253 BK296))) (Kd.R_lt (rf9 HO256 BK296))) (Kd.R_lt (rf9 HO265 BK296))) (Kd.R_lt (rf9 HO272 BK296))) (Kd.R_lt (rf9 HO275 BK296))) (Kd.R_lt (rf9 HO285 BK296))) (Kd.R_lt (rf9 HO292 BK296))) (Kd.R_lt (rf9 HO295 BK296))) (below_size bel)); have HO315 := am (Kd.R_lower (Kd.R_new' (Kd.R_new' (Kd.R_new' (Kd.R_new' (Kd.R_new' (Kd.R_new' (Kd.R_new' (Kd.R_new' (Kd.R_new' ho4 (Kd.R_lt (rf9 HO246 BK296))) (Kd.R_lt (rf9 HO253 BK296))) (Kd.R_lt (rf9 HO256 BK296))) (Kd.R_lt (rf9 HO265 BK296))) (Kd.R_lt (rf9 HO272 BK296))) (Kd.R_lt (rf9 HO275 BK296))) (Kd.R_lt (rf9 HO285 BK296))) (Kd.R_lt (rf9 HO292 BK296))) (Kd.R_lt (rf9 HO295 BK296))) (below_size bel)); replace HO240 := am (Kd.R_elder' (rf9 HO240 BK296) (Kd.R_base ho0) hb); replace HO246 := am (Kd.R_mono (Kd.R_told (Kd.R_told (Kd.R_told (Kd.R_old (rf9 HO246 BK296) hb) (Kd.R_base ho1)) (Kd.R_base ho3)) (Kd.R_base ho4)) (fun _ h_ => h_.1)); replace HO250 := am (Kd.R_elder' (rf9 HO250 BK296) (Kd.R_base ho2) hb); replace HO253 := am (Kd.R_mono (Kd.R_told (Kd.R_told (Kd.R_told (Kd.R_old (rf9 HO253 BK296) hb) (Kd.R_base ho1)) (Kd.R_base ho3)) (Kd.R_base ho4)) (fun _ h_ => h_.1)); replace HO256 := am (Kd.R_mono (Kd.R_told (Kd.R_told (Kd.R_told (Kd.R_old (rf9 HO256 BK296) hb) (Kd.R_base ho1)) (Kd.R_base ho3)) (Kd.R_base ho4)) (fun _ h_ => h_.1)); replace HO259 := am (Kd.R_elder' (rf9 HO259 BK296) (Kd.R_base ho0) hb); replace HO265 := am (Kd.R_mono (Kd.R_told (Kd.R_told (Kd.R_told (Kd.R_old (rf9 HO265 BK296) hb) (Kd.R_base ho1)) (Kd.R_base ho3)) (Kd.R_base ho4)) (fun _ h_ => h_.1)); replace HO269 := am (Kd.R_elder' (rf9 HO269 BK296) (Kd.R_base ho2) hb); replace HO272 := am (Kd.R_mono (Kd.R_told (Kd.R_told (Kd.R_told (Kd.R_old (rf9 HO272 BK296) hb) (Kd.R_base ho1)) (Kd.R_base ho3)) (Kd.R_base ho4)) (fun _ h_ => h_.1)); replace HO275 := am (Kd.R_mono (Kd.R_told (Kd.R_told (Kd.R_told (Kd.R_old (rf9 HO275 BK296) hb) (Kd.R_base ho1)) (Kd.R_base ho3)) (Kd.R_base ho4)) (fun _ h_ => h_.1)); replace HO279 := am (Kd.R_elder' (rf9 HO279 BK296) (Kd.R_base ho0) hb); replace HO285 := am (Kd.R_mono (Kd.R_told (Kd.R_told (Kd.R_told (Kd.R_old (rf9 HO285 BK296) hb) (Kd.R_base ho1)) (Kd.R_base ho3)) (Kd.R_base ho4)) (fun _ h_ => h_.1)); replace HO289 := am (Kd.R_elder' (rf9 HO289 BK296) (Kd.R_base ho2) hb); replace HO292 := am (Kd.R_mono (Kd.R_told (Kd.R_told (Kd.R_told (Kd.R_old (rf9 HO292 BK296) hb) (Kd.R_base ho1)) (Kd.R_base ho3)) (Kd.R_base ho4)) (fun _ h_ => h_.1)); replace HO295 := am (Kd.R_mono (Kd.R_told (Kd.R_told (Kd.R_told (Kd.R_old (rf9 HO295 BK296) hb) (Kd.R_base ho1)) (Kd.R_base ho3)) (Kd.R_base ho4)) (fun _ h_ => h_.1)); replace BK234 := am (bb BK234.out hb); replace BK235 := am (bb BK235.out hb); replace BK296 := am (blk_below (g := gb296) (o := .cells #[.slice Ao164 t277.length co164, .int .i64 t280, .int .i64 t281, .int .i64 t282, .slice Ao168 t283.length co168, .bool t286, .slice Ao169 t287.length co169, .slice Ao170 t290.length co170, .slice Ao171 t293.length co171] 65 (0, 0)) (by (with_reducible repeat (first | refine blk_drewN ?_ _ | refine blk_drew ?_ | refine blk_alloc ?_ _)); refine blk_put (cs := #[.slice Ao164 t277.length co164, .int .i64 t280, .int .i64 t281, .int .i64 t282, .slice Ao168 t283.length co168, .bool t286, .slice Ao169 t287.length co169, .slice Ao170 t290.length co170, .slice none 0 0]) ?_ 8 _ rfl; (with_reducible repeat (first | refine blk_drewN ?_ _ | refine blk_drew ?_ | refine blk_alloc ?_ _)); refine blk_put (cs := #[.slice Ao164 t277.length co164, .int .i64 t280, .int .i64 t281, .int .i64 t282, .slice Ao168 t283.length co168, .bool t286, .slice Ao169 t287.length co169, .slice none 0 0, .slice none 0 0]) ?_ 7 _ rfl; (with_reducible repeat (first | refine blk_drewN ?_ _ | refine blk_drew ?_ | refine blk_alloc ?_ _)); refine blk_put (cs := #[.slice Ao164 t277.length co164, .int .i64 t280, .int .i64 t281, .int .i64 t282, .slice Ao168 t283.length co168, .bool t286, .slice none 0 0, .slice none 0 0, .slice none 0 0]) ?_ 6 _ rfl; (with_reducible repeat (first | refine blk_drewN ?_ _ | refine blk_drew ?_ | refine blk_alloc ?_ _)); refine blk_put (cs := #[.slice Ao164 t277.length co164, .int .i64 t280, .int .i64 t281, .int .i64 t282, .slice Ao168 t283.length co168, .bool false, .slice none 0 0, .slice none 0 0, .slice none 0 0]) ?_ 5 _ rfl; (with_reducible repeat (first | refine blk_drewN ?_ _ | refine blk_drew ?_ | refine blk_alloc ?_ _)); refine blk_put (cs := #[.slice Ao164 t277.length co164, .int .i64 t280, .int .i64 t281, .int .i64 t282, .slice none 0 0, .bool false, .slice none 0 0, .slice none 0 0, .slice none 0 0]) ?_ 4 _ rfl; (with_reducible repeat (first | refine blk_drewN ?_ _ | refine blk_drew ?_ | refine blk_alloc ?_ _)); refine blk_put (cs := #[.slice Ao164 t277.length co164, .int .i64 t280, .int .i64 t281, .int .i64 0, .slice none 0 0, .bool false, .slice none 0 0, .slice none 0 0, .slice none 0 0]) ?_ 3 _ rfl; (with_reducible repeat (first | refine blk_drewN ?_ _ | refine blk_drew ?_ | refine blk_alloc ?_ _)); refine blk_put (cs := #[.slice Ao164 t277.length co164, .int .i64 t280, .int .i64 0, .int .i64 0, .slice none 0 0, .bool false, .slice none 0 0, .slice none 0 0, .slice none 0 0]) ?_ 2 _ rfl; (with_reducible repeat (first | refine blk_drewN ?_ _ | refine blk_drew ?_ | refine blk_alloc ?_ _)); refine blk_put (cs := #[.slice Ao164 t277.length co164, .int .i64 0, .int .i64 0, .int .i64 0, .slice none 0 0, .bool false, .slice none 0 0, .slice none 0 0, .slice none 0 0]) ?_ 1 _ rfl; (with_reducible repeat (first | refine blk_drewN ?_ _ | refine blk_drew ?_ | refine blk_alloc ?_ _)); refine blk_put (cs := #[.slice none 0 0, .int .i64 0, .int .i64 0, .int .i64 0, .slice none 0 0, .bool false, .slice none 0 0, .slice none 0 0, .slice none 0 0]) ?_ 0 _ rfl; (with_reducible repeat (first | refine blk_drewN ?_ _ | refine blk_drew ?_ | refine blk_alloc ?_ _)); exact BK296.out) hb); replace HB := am (below_step bel hb); (try clear hb); (try clear ho0); (try clear ho1); (try clear ho2); (try clear ho3); (try clear ho4)) | ((with_reducible refine gate_dst (N := 8) rfl ?_); refine box_event ?hg (N := 8) ?hd (cs := #[.slice none 0 0, .int .i64 0, .int .i64 0, .int .i64 0, .slice none 0 0, .bool false, .slice none 0 0, .slice none 0 0, .slice none 0 0]) (t := 65) ?hr ?_; (case hd => rfl); (case hg => rfl); (case hr => first | (go_simp; done) | (go_simp; rfl)); intro gb316 hg w174 hbox hb; have BK316 := am (hbox); have GW316 := am ((bsz hg : w.heap.size ≤ gb316)); have GE316 := am ((bsz hg : w.heap.size ≤ gb316)); have NB234_316 := am ((nlt hg BK234.out : gb234 ≠ gb316)); have NB316_234 := am ((ngt hg BK234.out : gb316 ≠ gb234)); have NB235_316 := am ((nlt hg BK235.out : gb235 ≠ gb316)); have NB316_235 := am ((ngt hg BK235.out : gb316 ≠ gb235)); have NB296_316 := am ((nlt hg BK296.out : gb296 ≠ gb316)); have NB316_296 := am ((ngt hg BK296.out : gb316 ≠ gb296)); replace HO240 := rb HO240 hb; replace HO246 := rb HO246 hb; replace HO250 := rb HO250 hb; replace HO253 := rb HO253 hb; replace HO256 := rb HO256 hb; replace HO259 := rb HO259 hb; replace HO265 := rb HO265 hb; replace HO269 := rb HO269 hb; replace HO272 := rb HO272 hb; replace HO275 := rb HO275 hb; replace HO279 := rb HO279 hb; replace HO285 := rb HO285 hb; replace HO289 := rb HO289 hb; replace HO292 := rb HO292 hb; replace HO295 := rb HO295 hb; replace HO299 := rb HO299 hb; replace HO305 := rb HO305 hb; replace HO309 := rb HO309 hb; replace HO312 := rb HO312 hb; replace HO315 := rb HO315 hb; replace BK234 := am (bb BK234.out hb); replace BK235 := am (bb BK235.out hb); replace BK296 := am (bb BK296.out hb); replace HB := am (below_step bel hb); clear hb hbox hg; obtain ⟨Ao175, co175, eo175⟩ := Kd.R_slice HO299.out; subst eo175; have hnb176 := NB316_234.out; have hnc176 := NB234_316.out; have hnb177 := NB316_235.out; have hnc177 := NB235_316.out; have hnb178 := NB316_296.out; have hnc178 := NB296_316.out; obtain ⟨hcz179_0, hcz179_1, hcz179_2, hcz179_3, hcz179_4, hcz179_5, hcz179_6, hcz179_7, hcz179_8, hfz179_0, hfz179_1, hfz179_2, hfz179_3, hfz179_4, hfz179_5, hfz179_6, hfz179_7, hfz179_8⟩ := cf9 BK316.out; obtain ⟨Ao180, co180, eo180⟩ := Kd.R_slice HO305.out; subst eo180; obtain ⟨Ao181, co181, eo181⟩ := Kd.R_slice HO309.out; subst eo181; obtain ⟨Ao182, co182, eo182⟩ := Kd.R_slice HO312.out; subst eo182; obtain ⟨Ao183, co183, eo183⟩ := Kd.R_slice HO315.out; subst eo183; obtain ⟨hcz184_0, hcz184_1, hcz184_2, hcz184_3, hcz184_4, hcz184_5, hcz184_6, hcz184_7, hcz184_8, hfz184_0, hfz184_1, hfz184_2, hfz184_3, hfz184_4, hfz184_5, hfz184_6, hfz184_7, hfz184_8⟩ := cf9 BK296.out) | ((with_reducible refine gate_callee (f := 31) rfl ?_); refine goesL_ (some 31) rfl rfl Try.func31 (by kernel_rfl) rfl #[.agg #[.slice Ao164 t277.length co164, .int .i64 t280, .int .i64 t281, .int .i64 t282, .slice Ao168 t283.length co168, .bool t286, .slice Ao169 t287.length co169, .slice Ao170 t290.length co170, .slice Ao171 t293.length co171], .agg #[.slice Ao175 t297.length co175, .int .i64 t300, .int .i64 t301, .int .i64 t302, .slice Ao180 t303.length co180, .bool t306, .slice Ao181 t307.length co181, .slice Ao182 t310.length co182, .slice Ao183 t313.length co183]] rfl ga ?_; (with_reducible refine (impl_SameBooks.calls k _ _ t277 t280 t281 t282 _ _ t283 t286 _ _ t287 _ _ t290 _ _ t293 _ _ t297 t300 t301 t302 _ _ t303 t306 _ _ t307 _ _ t310 _ _ t313 t317 _ ?side1 ?side2 ?side3 ?side4 ?side5 ?side6 ?side7 ?side8 ?side9 ?side10 ?side11 ?side12 ?side13 ?side14 ?side15 ?side16 ?side17 ?side18 ?side19 ?side20 A24.out).mono ?_); (case side1 => exact (Kd.R_reads' (rf9 HO279 BK316)).2.2); (case side2 => exact (Kd.R_reads' HO279.out).2.1); (case side3 => exact (Kd.R_reads' (rf9 HO285 BK316)).2.2); (case side4 => exact (Kd.R_reads' HO285.out).2.1); (case side5 => exact (Kd.R_reads' (rf9 HO289 BK316)).2.2); (case side6 => exact (Kd.R_reads' HO289.out).2.1); (case side7 => exact (Kd.R_reads' (rf9 HO292 BK316)).2.2); (case side8 => exact (Kd.R_reads' HO292.out).2.1); (case side9 => exact (Kd.R_reads' (rf9 HO295 BK316)).2.2); (case side10 => exact (Kd.R_reads' HO295.out).2.1); (case side11 => exact (Kd.R_reads' (rf9 HO299 BK316)).2.2); (case side12 => exact (Kd.R_reads' HO299.out).2.1); (case side13 => exact (Kd.R_reads' (rf9 HO305 BK316)).2.2); (case side14 => exact (Kd.R_reads' HO305.out).2.1); (case side15 => exact (Kd.R_reads' (rf9 HO309 BK316)).2.2); (case side16 => exact (Kd.R_reads' HO309.out).2.1); (case side17 => exact (Kd.R_reads' (rf9 HO312 BK316)).2.2); (case side18 => exact (Kd.R_reads' HO312.out).2.1); (case side19 => exact (Kd.R_reads' (rf9 HO315 BK316)).2.2); (case side20 => exact (Kd.R_reads' HO315.out).2.1); rintro e w185 ⟨rfl, hb⟩; refine ⟨_, rfl, ?_⟩; replace HO240 := am (Kd.R_below (rf9 HO240 BK316) hb); replace HO246 := am (Kd.R_below (rf9 HO246 BK316) hb); replace HO250 := am (Kd.R_below (rf9 HO250 BK316) hb); replace HO253 := am (Kd.R_below (rf9 HO253 BK316) hb); replace HO256 := am (Kd.R_below (rf9 HO256 BK316) hb); replace HO259 := am (Kd.R_below (rf9 HO259 BK316) hb); replace HO265 := am (Kd.R_below (rf9 HO265 BK316) hb); replace HO269 := am (Kd.R_below (rf9 HO269 BK316) hb); replace HO272 := am (Kd.R_below (rf9 HO272 BK316) hb); replace HO275 := am (Kd.R_below (rf9 HO275 BK316) hb); replace HO279 := am (Kd.R_below (rf9 HO279 BK316) hb); replace HO285 := am (Kd.R_below (rf9 HO285 BK316) hb); replace HO289 := am (Kd.R_below (rf9 HO289 BK316) hb); replace HO292 := am (Kd.R_below (rf9 HO292 BK316) hb); replace HO295 := am (Kd.R_below (rf9 HO295 BK316) hb); replace HO299 := am (Kd.R_below (rf9 HO299 BK316) hb); replace HO305 := am (Kd.R_below (rf9 HO305 BK316) hb); replace HO309 := am (Kd.R_below (rf9 HO309 BK316) hb); replace HO312 := am (Kd.R_below (rf9 HO312 BK316) hb); replace HO315 := am (Kd.R_below (rf9 HO315 BK316) hb); replace BK234 := am (bb BK234.out hb); replace BK235 := am (bb BK235.out hb); replace BK296 := am (bb BK296.out hb); replace BK316 := am (blk_below (g := gb316) (o := .cells #[.slice Ao175 t297.length co175, .int .i64 t300, .int .i64 t301, .int .i64 t302, .slice Ao180 t303.length co180, .bool t306, .slice Ao181 t307.length co181, .slice Ao182 t310.length co182, .slice Ao183 t313.length co183] 65 (0, 0)) (by (with_reducible repeat (first | refine blk_drewN ?_ _ | refine blk_drew ?_ | refine blk_alloc ?_ _)); refine blk_put (cs := #[.slice Ao175 t297.length co175, .int .i64 t300, .int .i64 t301, .int .i64 t302, .slice Ao180 t303.length co180, .bool t306, .slice Ao181 t307.length co181, .slice Ao182 t310.length co182, .slice none 0 0]) ?_ 8 _ rfl; (with_reducible repeat (first | refine blk_drewN ?_ _ | refine blk_drew ?_ | refine blk_alloc ?_ _)); refine blk_put (cs := #[.slice Ao175 t297.length co175, .int .i64 t300, .int .i64 t301, .int .i64 t302, .slice Ao180 t303.length co180, .bool t306, .slice Ao181 t307.length co181, .slice none 0 0, .slice none 0 0]) ?_ 7 _ rfl; (with_reducible repeat (first | refine blk_drewN ?_ _ | refine blk_drew ?_ | refine blk_alloc ?_ _)); refine blk_put (cs := #[.slice Ao175 t297.length co175, .int .i64 t300, .int .i64 t301, .int .i64 t302, .slice Ao180 t303.length co180, .bool t306, .slice none 0 0, .slice none 0 0, .slice none 0 0]) ?_ 6 _ rfl; (with_reducible repeat (first | refine blk_drewN ?_ _ | refine blk_drew ?_ | refine blk_alloc ?_ _)); refine blk_put (cs := #[.slice Ao175 t297.length co175, .int .i64 t300, .int .i64 t301, .int .i64 t302, .slice Ao180 t303.length co180, .bool false, .slice none 0 0, .slice none 0 0, .slice none 0 0]) ?_ 5 _ rfl; (with_reducible repeat (first | refine blk_drewN ?_ _ | refine blk_drew ?_ | refine blk_alloc ?_ _)); refine blk_put (cs := #[.slice Ao175 t297.length co175, .int .i64 t300, .int .i64 t301, .int .i64 t302, .slice none 0 0, .bool false, .slice none 0 0, .slice none 0 0, .slice none 0 0]) ?_ 4 _ rfl; (with_reducible repeat (first | refine blk_drewN ?_ _ | refine blk_drew ?_ | refine blk_alloc ?_ _)); refine blk_put (cs := #[.slice Ao175 t297.length co175, .int .i64 t300, .int .i64 t301, .int .i64 0, .slice none 0 0, .bool false, .slice none 0 0, .slice none 0 0, .slice none 0 0]) ?_ 3 _ rfl; (with_reducible repeat (first | refine blk_drewN ?_ _ | refine blk_drew ?_ | refine blk_alloc ?_ _)); refine blk_put (cs := #[.slice Ao175 t297.length co175, .int .i64 t300, .int .i64 0, .int .i64 0, .slice none 0 0, .bool false, .slice none 0 0, .slice none 0 0, .slice none 0 0]) ?_ 2 _ rfl; (with_reducible repeat (first | refine blk_drewN ?_ _ | refine blk_drew ?_ | refine blk_alloc ?_ _)); refine blk_put (cs := #[.slice Ao175 t297.length co175, .int .i64 0, .int .i64 0, .int .i64 0, .slice none 0 0, .bool false, .slice none 0 0, .slice none 0 0, .slice none 0 0]) ?_ 1 _ rfl; (with_reducible repeat (first | refine blk_drewN ?_ _ | refine blk_drew ?_ | refine blk_alloc ?_ _)); refine blk_put (cs := #[.slice none 0 0, .int .i64 0, .int .i64 0, .int .i64 0, .slice none 0 0, .bool false, .slice none 0 0, .slice none 0 0, .slice none 0 0]) ?_ 0 _ rfl; (with_reducible repeat (first | refine blk_drewN ?_ _ | refine blk_drew ?_ | refine blk_alloc ?_ _)); exact BK316.out) hb); replace HB := am (below_step bel hb); (try clear hb)))
            replace HO240 := rd1 HO240
            replace HO246 := rd1 HO246
            replace HO250 := rd1 HO250
            replace HO253 := rd1 HO253
            replace HO256 := rd1 HO256
            replace HO259 := rd1 HO259
            replace HO265 := rd1 HO265
            replace HO269 := rd1 HO269
            replace HO272 := rd1 HO272
            replace HO275 := rd1 HO275
            replace HO279 := rd1 HO279
            replace HO285 := rd1 HO285
            replace HO289 := rd1 HO289
            replace HO292 := rd1 HO292
            replace HO295 := rd1 HO295
            replace HO299 := rd1 HO299
            replace HO305 := rd1 HO305
            replace HO309 := rd1 HO309
            replace HO312 := rd1 HO312
            replace HO315 := rd1 HO315
            replace BK234 := am (blk_drew BK234.out)
            replace BK235 := am (blk_drew BK235.out)
            replace BK296 := am (blk_drew BK296.out)
            replace BK316 := am (blk_drew BK316.out)
            replace HB := am (below_drew1 HB.out)
            refine start_ (n := 5) (S := fun w' => w'.cell? ⟨gb296, 0, none⟩ = some (.slice Ao164 t277.length co164) ∧ w'.cell? ⟨gb296, 1, none⟩ = some (.int .i64 t280) ∧ w'.cell? ⟨gb296, 2, none⟩ = some (.int .i64 t281) ∧ w'.cell? ⟨gb296, 3, none⟩ = some (.int .i64 t282) ∧ w'.cell? ⟨gb296, 4, none⟩ = some (.slice Ao168 t283.length co168) ∧ w'.cell? ⟨gb296, 5, none⟩ = some (.bool t286) ∧ w'.cell? ⟨gb296, 6, none⟩ = some (.slice Ao169 t287.length co169) ∧ w'.cell? ⟨gb296, 7, none⟩ = some (.slice Ao170 t290.length co170) ∧ w'.cell? ⟨gb296, 8, none⟩ = some (.slice Ao171 t293.length co171) ∧ w'.cell? ⟨gb234, 0, none⟩ = some (.slice A0_0 l0_0.length c0_0) ∧ w'.cell? ⟨gb234, 1, none⟩ = some (.int .i64 a0_1) ∧ w'.cell? ⟨gb234, 2, none⟩ = some (.int .i64 a0_2) ∧ w'.cell? ⟨gb234, 3, none⟩ = some (.int .i64 a0_3) ∧ w'.cell? ⟨gb234, 4, none⟩ = some (.slice A0_4 l0_4.length c0_4) ∧ w'.cell? ⟨gb234, 5, none⟩ = some (.bool a0_5) ∧ w'.cell? ⟨gb234, 6, none⟩ = some (.slice A0_6 l0_6.length c0_6) ∧ w'.cell? ⟨gb234, 7, none⟩ = some (.slice A0_7 l0_7.length c0_7) ∧ w'.cell? ⟨gb234, 8, none⟩ = some (.slice A0_8 l0_8.length c0_8)) (ds := []) #[false, false, false, false, false] (by kernel_rfl) rfl rfl ⟨(blk_cell BK296.out 0).trans rfl, (blk_cell BK296.out 1).trans rfl, (blk_cell BK296.out 2).trans rfl, (blk_cell BK296.out 3).trans rfl, (blk_cell BK296.out 4).trans rfl, (blk_cell BK296.out 5).trans rfl, (blk_cell BK296.out 6).trans rfl, (blk_cell BK296.out 7).trans rfl, (blk_cell BK296.out 8).trans rfl, (blk_cell BK234.out 0).trans rfl, (blk_cell BK234.out 1).trans rfl, (blk_cell BK234.out 2).trans rfl, (blk_cell BK234.out 3).trans rfl, (blk_cell BK234.out 4).trans rfl, (blk_cell BK234.out 5).trans rfl, (blk_cell BK234.out 6).trans rfl, (blk_cell BK234.out 7).trans rfl, (blk_cell BK234.out 8).trans rfl⟩ (fun hHeld => ?_)
            generalize w185.drew = w186 at HO240 HO246 HO250 HO253 HO256 HO259 HO265 HO269 HO272 HO275 HO279 HO285 HO289 HO292 HO295 HO299 HO305 HO309 HO312 HO315 BK234 BK235 BK296 BK316 HB hHeld ⊢
            refine take_ (i := 0) (N := some 35) (v := ?_) (a' := ?_) #[true, false, false, false, false] rfl rfl (by kernel_rfl) (fun _ _ _ h => h) (Or.inl ⟨by rfl, ?_⟩) hHeld ?_ ?_
            rotate_left
            · rintro w' ⟨s0, s1, s2, s3, s4, s5, s6, s7, s8, s9, s10, s11, s12, s13, s14, s15, s16, s17⟩
              go_simp
              with_reducible rfl
            rotate_left
            · simp only [Act.put, List.setIfInBounds_toArray, List.set_cons_zero, List.set_cons_succ, i64_w, i32_w]
              rfl
            refine take_ (i := 1) (N := some 36) (v := ?_) (a' := ?_) #[true, true, false, false, false] rfl rfl (by kernel_rfl) (fun _ _ _ h => h) (Or.inl ⟨by rfl, ?_⟩) hHeld ?_ ?_
            rotate_left
            · rintro w' ⟨s0, s1, s2, s3, s4, s5, s6, s7, s8, s9, s10, s11, s12, s13, s14, s15, s16, s17⟩
              go_simp
              with_reducible rfl
            rotate_left
            · simp only [Act.put, List.setIfInBounds_toArray, List.set_cons_zero, List.set_cons_succ, i64_w, i32_w]
              rfl
            refine one_ (i := 2) (N := some 37) #[true, true, true, false, false] rfl rfl (by kernel_rfl) (by decide) (fun K hK => ?_)
            refine goes_ Try.func30 (by kernel_rfl) rfl #[.agg #[.slice A0_0 l0_0.length c0_0, .int .i64 a0_1, .int .i64 a0_2, .int .i64 a0_3, .slice A0_4 l0_4.length c0_4, .bool a0_5, .slice A0_6 l0_6.length c0_6, .slice A0_7 l0_7.length c0_7, .slice A0_8 l0_8.length c0_8]] (by rfl) rfl rfl ga ?_
            with_reducible refine (laws_toBook.calls k _ _ l0_0 a0_1 a0_2 a0_3 _ _ l0_4 a0_5 _ _ l0_6 _ _ l0_7 _ _ l0_8 t318 t321 t322 t323 t324 t327 t328 t331 t334 _ ?side1 ?side2 ?side3 ?side4 ?side5 ?side6 ?side7 ?side8 ?side9 ?side10 A72.out).mono ?_
            (case side1 => exact ck (Kd.C_below HR0_0.out HB.out))
            (case side2 => exact HC0_0.out)
            (case side3 => exact ck (Kd.C_below HR0_4.out HB.out))
            (case side4 => exact HC0_4.out)
            (case side5 => exact ck (Kd.C_below HR0_6.out HB.out))
            (case side6 => exact HC0_6.out)
            (case side7 => exact ck (Kd.C_below HR0_7.out HB.out))
            (case side8 => exact HC0_7.out)
            (case side9 => exact ck (Kd.C_below HR0_8.out HB.out))
            (case side10 => exact HC0_8.out)
            rintro e w187 ⟨v319, v325, v329, v332, v335, rfl, ho0, ho1, ho2, ho3, ho4, hb⟩
            refine ⟨_, rfl, ?_⟩
            have HO320 := am (Kd.R_lower (Kd.R_new' (Kd.R_new' (Kd.R_new' (Kd.R_new' ho0 (rl HO240)) (rl HO259)) (rl HO279)) (rl HO299)) (below_size bel))
            have HO326 := am (Kd.R_lower (Kd.R_new' (Kd.R_new' (Kd.R_new' (Kd.R_new' (Kd.R_new' (Kd.R_new' (Kd.R_new' (Kd.R_new' (Kd.R_new' (Kd.R_new' (Kd.R_new' (Kd.R_new' ho1 (rl HO246)) (rl HO253)) (rl HO256)) (rl HO265)) (rl HO272)) (rl HO275)) (rl HO285)) (rl HO292)) (rl HO295)) (rl HO305)) (rl HO312)) (rl HO315)) (below_size bel))
            have HO330 := am (Kd.R_lower (Kd.R_new' (Kd.R_new' (Kd.R_new' (Kd.R_new' ho2 (rl HO250)) (rl HO269)) (rl HO289)) (rl HO309)) (below_size bel))
            have HO333 := am (Kd.R_lower (Kd.R_new' (Kd.R_new' (Kd.R_new' (Kd.R_new' (Kd.R_new' (Kd.R_new' (Kd.R_new' (Kd.R_new' (Kd.R_new' (Kd.R_new' (Kd.R_new' (Kd.R_new' ho3 (rl HO246)) (rl HO253)) (rl HO256)) (rl HO265)) (rl HO272)) (rl HO275)) (rl HO285)) (rl HO292)) (rl HO295)) (rl HO305)) (rl HO312)) (rl HO315)) (below_size bel))
            have HO336 := am (Kd.R_lower (Kd.R_new' (Kd.R_new' (Kd.R_new' (Kd.R_new' (Kd.R_new' (Kd.R_new' (Kd.R_new' (Kd.R_new' (Kd.R_new' (Kd.R_new' (Kd.R_new' (Kd.R_new' ho4 (rl HO246)) (rl HO253)) (rl HO256)) (rl HO265)) (rl HO272)) (rl HO275)) (rl HO285)) (rl HO292)) (rl HO295)) (rl HO305)) (rl HO312)) (rl HO315)) (below_size bel))
            replace HO240 := am (Kd.R_elder' (rk HO240.out) (Kd.R_base ho0) hb)
            replace HO246 := am (Kd.R_mono (Kd.R_told (Kd.R_told (Kd.R_told (Kd.R_old (rk HO246.out) hb) (Kd.R_base ho1)) (Kd.R_base ho3)) (Kd.R_base ho4)) (fun _ h_ => h_.1))
            replace HO250 := am (Kd.R_elder' (rk HO250.out) (Kd.R_base ho2) hb)
            replace HO253 := am (Kd.R_mono (Kd.R_told (Kd.R_told (Kd.R_told (Kd.R_old (rk HO253.out) hb) (Kd.R_base ho1)) (Kd.R_base ho3)) (Kd.R_base ho4)) (fun _ h_ => h_.1))
            replace HO256 := am (Kd.R_mono (Kd.R_told (Kd.R_told (Kd.R_told (Kd.R_old (rk HO256.out) hb) (Kd.R_base ho1)) (Kd.R_base ho3)) (Kd.R_base ho4)) (fun _ h_ => h_.1))
            replace HO259 := am (Kd.R_elder' (rk HO259.out) (Kd.R_base ho0) hb)
            replace HO265 := am (Kd.R_mono (Kd.R_told (Kd.R_told (Kd.R_told (Kd.R_old (rk HO265.out) hb) (Kd.R_base ho1)) (Kd.R_base ho3)) (Kd.R_base ho4)) (fun _ h_ => h_.1))
            replace HO269 := am (Kd.R_elder' (rk HO269.out) (Kd.R_base ho2) hb)
            replace HO272 := am (Kd.R_mono (Kd.R_told (Kd.R_told (Kd.R_told (Kd.R_old (rk HO272.out) hb) (Kd.R_base ho1)) (Kd.R_base ho3)) (Kd.R_base ho4)) (fun _ h_ => h_.1))
            replace HO275 := am (Kd.R_mono (Kd.R_told (Kd.R_told (Kd.R_told (Kd.R_old (rk HO275.out) hb) (Kd.R_base ho1)) (Kd.R_base ho3)) (Kd.R_base ho4)) (fun _ h_ => h_.1))
            replace HO279 := am (Kd.R_elder' (rk HO279.out) (Kd.R_base ho0) hb)
            replace HO285 := am (Kd.R_mono (Kd.R_told (Kd.R_told (Kd.R_told (Kd.R_old (rk HO285.out) hb) (Kd.R_base ho1)) (Kd.R_base ho3)) (Kd.R_base ho4)) (fun _ h_ => h_.1))
            replace HO289 := am (Kd.R_elder' (rk HO289.out) (Kd.R_base ho2) hb)
            replace HO292 := am (Kd.R_mono (Kd.R_told (Kd.R_told (Kd.R_told (Kd.R_old (rk HO292.out) hb) (Kd.R_base ho1)) (Kd.R_base ho3)) (Kd.R_base ho4)) (fun _ h_ => h_.1))
            replace HO295 := am (Kd.R_mono (Kd.R_told (Kd.R_told (Kd.R_told (Kd.R_old (rk HO295.out) hb) (Kd.R_base ho1)) (Kd.R_base ho3)) (Kd.R_base ho4)) (fun _ h_ => h_.1))
            replace HO299 := am (Kd.R_elder' (rk HO299.out) (Kd.R_base ho0) hb)
            replace HO305 := am (Kd.R_mono (Kd.R_told (Kd.R_told (Kd.R_told (Kd.R_old (rk HO305.out) hb) (Kd.R_base ho1)) (Kd.R_base ho3)) (Kd.R_base ho4)) (fun _ h_ => h_.1))
            replace HO309 := am (Kd.R_elder' (rk HO309.out) (Kd.R_base ho2) hb)
            replace HO312 := am (Kd.R_mono (Kd.R_told (Kd.R_told (Kd.R_told (Kd.R_old (rk HO312.out) hb) (Kd.R_base ho1)) (Kd.R_base ho3)) (Kd.R_base ho4)) (fun _ h_ => h_.1))
            replace HO315 := am (Kd.R_mono (Kd.R_told (Kd.R_told (Kd.R_told (Kd.R_old (rk HO315.out) hb) (Kd.R_base ho1)) (Kd.R_base ho3)) (Kd.R_base ho4)) (fun _ h_ => h_.1))
            replace BK234 := am (bb BK234.out hb)
            replace BK235 := am (bb BK235.out hb)
            replace BK296 := am (bb BK296.out hb)
            replace BK316 := am (bb BK316.out hb)
            replace HB := am (below_step bel hb)
            (try clear hb)
            (try clear hb2)
            (try clear hk)
            (try clear hi)
            (try clear ho0)
            (try clear ho1)
            (try clear ho2)
            (try clear ho3)
            (try clear ho4)
            obtain ⟨Ao188, co188, eo188⟩ := Kd.R_slice HO320.out
            (first | subst eo188 | (injection eo188 with f1_ f2_ f3_; have f4_ := f1_.symm; have f5_ := f3_.symm; clear f1_ f2_ f3_; subst f4_; subst f5_))
            obtain ⟨Ao189, co189, eo189⟩ := Kd.R_slice HO326.out
            (first | subst eo189 | (injection eo189 with f1_ f2_ f3_; have f4_ := f1_.symm; have f5_ := f3_.symm; clear f1_ f2_ f3_; subst f4_; subst f5_))
            obtain ⟨Ao190, co190, eo190⟩ := Kd.R_slice HO330.out
            (first | subst eo190 | (injection eo190 with f1_ f2_ f3_; have f4_ := f1_.symm; have f5_ := f3_.symm; clear f1_ f2_ f3_; subst f4_; subst f5_))
            obtain ⟨Ao191, co191, eo191⟩ := Kd.R_slice HO333.out
            (first | subst eo191 | (injection eo191 with f1_ f2_ f3_; have f4_ := f1_.symm; have f5_ := f3_.symm; clear f1_ f2_ f3_; subst f4_; subst f5_))
            obtain ⟨Ao192, co192, eo192⟩ := Kd.R_slice HO336.out
            (first | subst eo192 | (injection eo192 with f1_ f2_ f3_; have f4_ := f1_.symm; have f5_ := f3_.symm; clear f1_ f2_ f3_; subst f4_; subst f5_))
            refine hK.out _ _ ⟨(blk_cell BK296.out 0).trans rfl, (blk_cell BK296.out 1).trans rfl, (blk_cell BK296.out 2).trans rfl, (blk_cell BK296.out 3).trans rfl, (blk_cell BK296.out 4).trans rfl, (blk_cell BK296.out 5).trans rfl, (blk_cell BK296.out 6).trans rfl, (blk_cell BK296.out 7).trans rfl, (blk_cell BK296.out 8).trans rfl, (blk_cell BK234.out 0).trans rfl, (blk_cell BK234.out 1).trans rfl, (blk_cell BK234.out 2).trans rfl, (blk_cell BK234.out 3).trans rfl, (blk_cell BK234.out 4).trans rfl, (blk_cell BK234.out 5).trans rfl, (blk_cell BK234.out 6).trans rfl, (blk_cell BK234.out 7).trans rfl, (blk_cell BK234.out 8).trans rfl⟩ (fun hHeld => ?_)
            clear hK K
            refine norm_ (a' := ?_) ?_ ?_
            rotate_left
            · show Act.put _ (some 37) _ = _
              simp only [Act.put, List.setIfInBounds_toArray, List.set_cons_zero, List.set_cons_succ, i64_w, i32_w]
              rfl
            refine one_ (i := 3) (N := some 38) #[true, true, true, true, false] rfl rfl (by kernel_rfl) (by decide) (fun K hK => ?_)
            refine goes_ Try.func32 (by kernel_rfl) rfl #[.agg #[.slice Ao164 t277.length co164, .int .i64 t280, .int .i64 t281, .int .i64 t282, .slice Ao168 t283.length co168, .bool t286, .slice Ao169 t287.length co169, .slice Ao170 t290.length co170, .slice Ao171 t293.length co171], .agg #[.slice Ao188 t318.length co188, .int .i64 t321, .int .i64 t322, .int .i64 t323, .slice Ao189 t324.length co189, .bool t327, .slice Ao190 t328.length co190, .slice Ao191 t331.length co191, .slice Ao192 t334.length co192]] (by rfl) rfl rfl ga ?_
            with_reducible refine (laws_eqBook.calls k _ _ t277 t280 t281 t282 _ _ t283 t286 _ _ t287 _ _ t290 _ _ t293 _ _ t318 t321 t322 t323 _ _ t324 t327 _ _ t328 _ _ t331 _ _ t334 true _ ?side1 ?side2 ?side3 ?side4 ?side5 ?side6 ?side7 ?side8 ?side9 ?side10 ?side11 ?side12 ?side13 ?side14 ?side15 ?side16 ?side17 ?side18 ?side19 ?side20 A73.out).mono ?_
            (case side1 => exact cr HO279)
            (case side2 => exact (Kd.R_reads' HO279.out).2.1)
            (case side3 => exact cr HO285)
            (case side4 => exact (Kd.R_reads' HO285.out).2.1)
            (case side5 => exact cr HO289)
            (case side6 => exact (Kd.R_reads' HO289.out).2.1)
            (case side7 => exact cr HO292)
            (case side8 => exact (Kd.R_reads' HO292.out).2.1)
            (case side9 => exact cr HO295)
            (case side10 => exact (Kd.R_reads' HO295.out).2.1)
            (case side11 => exact cr HO320)
            (case side12 => exact (Kd.R_reads' HO320.out).2.1)
            (case side13 => exact cr HO326)
            (case side14 => exact (Kd.R_reads' HO326.out).2.1)
            (case side15 => exact cr HO330)
            (case side16 => exact (Kd.R_reads' HO330.out).2.1)
            (case side17 => exact cr HO333)
            (case side18 => exact (Kd.R_reads' HO333.out).2.1)
            (case side19 => exact cr HO336)
            (case side20 => exact (Kd.R_reads' HO336.out).2.1)
            rintro e w193 ⟨rfl, hb⟩
            refine ⟨_, rfl, ?_⟩
            replace HO240 := rb HO240 hb
            replace HO246 := rb HO246 hb
            replace HO250 := rb HO250 hb
            replace HO253 := rb HO253 hb
            replace HO256 := rb HO256 hb
            replace HO259 := rb HO259 hb
            replace HO265 := rb HO265 hb
            replace HO269 := rb HO269 hb
            replace HO272 := rb HO272 hb
            replace HO275 := rb HO275 hb
            replace HO279 := rb HO279 hb
            replace HO285 := rb HO285 hb
            replace HO289 := rb HO289 hb
            replace HO292 := rb HO292 hb
            replace HO295 := rb HO295 hb
            replace HO299 := rb HO299 hb
            replace HO305 := rb HO305 hb
            replace HO309 := rb HO309 hb
            replace HO312 := rb HO312 hb
            replace HO315 := rb HO315 hb
            replace HO320 := rb HO320 hb
            replace HO326 := rb HO326 hb
            replace HO330 := rb HO330 hb
            replace HO333 := rb HO333 hb
            replace HO336 := rb HO336 hb
            replace BK234 := am (bb BK234.out hb)
            replace BK235 := am (bb BK235.out hb)
            replace BK296 := am (bb BK296.out hb)
            replace BK316 := am (bb BK316.out hb)
            replace HB := am (below_step bel hb)
            (try clear hb)
            (try clear hb2)
            (try clear hk)
            (try clear hi)
            refine hK.out _ _ ⟨(blk_cell BK296.out 0).trans rfl, (blk_cell BK296.out 1).trans rfl, (blk_cell BK296.out 2).trans rfl, (blk_cell BK296.out 3).trans rfl, (blk_cell BK296.out 4).trans rfl, (blk_cell BK296.out 5).trans rfl, (blk_cell BK296.out 6).trans rfl, (blk_cell BK296.out 7).trans rfl, (blk_cell BK296.out 8).trans rfl, (blk_cell BK234.out 0).trans rfl, (blk_cell BK234.out 1).trans rfl, (blk_cell BK234.out 2).trans rfl, (blk_cell BK234.out 3).trans rfl, (blk_cell BK234.out 4).trans rfl, (blk_cell BK234.out 5).trans rfl, (blk_cell BK234.out 6).trans rfl, (blk_cell BK234.out 7).trans rfl, (blk_cell BK234.out 8).trans rfl⟩ (fun hHeld => ?_)
            clear hK K
            refine norm_ (a' := ?_) ?_ ?_
            rotate_left
            · show Act.put _ (some 38) _ = _
              simp only [Act.put, List.setIfInBounds_toArray, List.set_cons_zero, List.set_cons_succ, i64_w, i32_w]
              rfl
            refine pure_ (i := 4) (N := some 39) (v := ?_) (a' := ?_) #[true, true, true, true, true] rfl rfl (by kernel_rfl) (fun _ _ _ h => h) (Or.inl ⟨by rfl, ?_⟩) ?_ ?_
            rotate_left
            · intro w'
              go_simp
              with_reducible rfl
            rotate_left
            · simp only [Act.put, List.setIfInBounds_toArray, List.set_cons_zero, List.set_cons_succ, i64_w, i32_w]
              rfl
            refine done_ (by kernel_rfl) ?_
            try go_wp2
            replace HO240 := rd1 HO240
            replace HO246 := rd1 HO246
            replace HO250 := rd1 HO250
            replace HO253 := rd1 HO253
            replace HO256 := rd1 HO256
            replace HO259 := rd1 HO259
            replace HO265 := rd1 HO265
            replace HO269 := rd1 HO269
            replace HO272 := rd1 HO272
            replace HO275 := rd1 HO275
            replace HO279 := rd1 HO279
            replace HO285 := rd1 HO285
            replace HO289 := rd1 HO289
            replace HO292 := rd1 HO292
            replace HO295 := rd1 HO295
            replace HO299 := rd1 HO299
            replace HO305 := rd1 HO305
            replace HO309 := rd1 HO309
            replace HO312 := rd1 HO312
            replace HO315 := rd1 HO315
            replace HO320 := rd1 HO320
            replace HO326 := rd1 HO326
            replace HO330 := rd1 HO330
            replace HO333 := rd1 HO333
            replace HO336 := rd1 HO336
            replace BK234 := am (blk_drew BK234.out)
            replace BK235 := am (blk_drew BK235.out)
            replace BK296 := am (blk_drew BK296.out)
            replace BK316 := am (blk_drew BK316.out)
            replace HB := am (below_drew1 HB.out)
            refine start_ (n := 5) (S := fun w' => w'.cell? ⟨gb316, 0, none⟩ = some (.slice Ao175 t297.length co175) ∧ w'.cell? ⟨gb316, 1, none⟩ = some (.int .i64 t300) ∧ w'.cell? ⟨gb316, 2, none⟩ = some (.int .i64 t301) ∧ w'.cell? ⟨gb316, 3, none⟩ = some (.int .i64 t302) ∧ w'.cell? ⟨gb316, 4, none⟩ = some (.slice Ao180 t303.length co180) ∧ w'.cell? ⟨gb316, 5, none⟩ = some (.bool t306) ∧ w'.cell? ⟨gb316, 6, none⟩ = some (.slice Ao181 t307.length co181) ∧ w'.cell? ⟨gb316, 7, none⟩ = some (.slice Ao182 t310.length co182) ∧ w'.cell? ⟨gb316, 8, none⟩ = some (.slice Ao183 t313.length co183) ∧ w'.cell? ⟨gb235, 0, none⟩ = some (.slice A1_0 l1_0.length c1_0) ∧ w'.cell? ⟨gb235, 1, none⟩ = some (.int .i64 a1_1) ∧ w'.cell? ⟨gb235, 2, none⟩ = some (.int .i64 a1_2) ∧ w'.cell? ⟨gb235, 3, none⟩ = some (.int .i64 a1_3) ∧ w'.cell? ⟨gb235, 4, none⟩ = some (.slice A1_4 l1_4.length c1_4) ∧ w'.cell? ⟨gb235, 5, none⟩ = some (.bool a1_5) ∧ w'.cell? ⟨gb235, 6, none⟩ = some (.slice A1_6 l1_6.length c1_6) ∧ w'.cell? ⟨gb235, 7, none⟩ = some (.slice A1_7 l1_7.length c1_7) ∧ w'.cell? ⟨gb235, 8, none⟩ = some (.slice A1_8 l1_8.length c1_8)) (ds := []) #[false, false, false, false, false] (by kernel_rfl) rfl rfl ⟨(blk_cell BK316.out 0).trans rfl, (blk_cell BK316.out 1).trans rfl, (blk_cell BK316.out 2).trans rfl, (blk_cell BK316.out 3).trans rfl, (blk_cell BK316.out 4).trans rfl, (blk_cell BK316.out 5).trans rfl, (blk_cell BK316.out 6).trans rfl, (blk_cell BK316.out 7).trans rfl, (blk_cell BK316.out 8).trans rfl, (blk_cell BK235.out 0).trans rfl, (blk_cell BK235.out 1).trans rfl, (blk_cell BK235.out 2).trans rfl, (blk_cell BK235.out 3).trans rfl, (blk_cell BK235.out 4).trans rfl, (blk_cell BK235.out 5).trans rfl, (blk_cell BK235.out 6).trans rfl, (blk_cell BK235.out 7).trans rfl, (blk_cell BK235.out 8).trans rfl⟩ (fun hHeld => ?_)
            generalize w193.drew = w194 at HO240 HO246 HO250 HO253 HO256 HO259 HO265 HO269 HO272 HO275 HO279 HO285 HO289 HO292 HO295 HO299 HO305 HO309 HO312 HO315 HO320 HO326 HO330 HO333 HO336 BK234 BK235 BK296 BK316 HB hHeld ⊢
            refine take_ (i := 0) (N := some 40) (v := ?_) (a' := ?_) #[true, false, false, false, false] rfl rfl (by kernel_rfl) (fun _ _ _ h => h) (Or.inl ⟨by rfl, ?_⟩) hHeld ?_ ?_
            rotate_left
            · rintro w' ⟨s0, s1, s2, s3, s4, s5, s6, s7, s8, s9, s10, s11, s12, s13, s14, s15, s16, s17⟩
              go_simp
              with_reducible rfl
            rotate_left
            · simp only [Act.put, List.setIfInBounds_toArray, List.set_cons_zero, List.set_cons_succ, i64_w, i32_w]
              rfl
            refine take_ (i := 1) (N := some 41) (v := ?_) (a' := ?_) #[true, true, false, false, false] rfl rfl (by kernel_rfl) (fun _ _ _ h => h) (Or.inl ⟨by rfl, ?_⟩) hHeld ?_ ?_
            rotate_left
            · rintro w' ⟨s0, s1, s2, s3, s4, s5, s6, s7, s8, s9, s10, s11, s12, s13, s14, s15, s16, s17⟩
              go_simp
              with_reducible rfl
            rotate_left
            · simp only [Act.put, List.setIfInBounds_toArray, List.set_cons_zero, List.set_cons_succ, i64_w, i32_w]
              rfl
            refine one_ (i := 2) (N := some 42) #[true, true, true, false, false] rfl rfl (by kernel_rfl) (by decide) (fun K hK => ?_)
            refine goes_ Try.func30 (by kernel_rfl) rfl #[.agg #[.slice A1_0 l1_0.length c1_0, .int .i64 a1_1, .int .i64 a1_2, .int .i64 a1_3, .slice A1_4 l1_4.length c1_4, .bool a1_5, .slice A1_6 l1_6.length c1_6, .slice A1_7 l1_7.length c1_7, .slice A1_8 l1_8.length c1_8]] (by rfl) rfl rfl ga ?_
            with_reducible refine (laws_toBook.calls k _ _ l1_0 a1_1 a1_2 a1_3 _ _ l1_4 a1_5 _ _ l1_6 _ _ l1_7 _ _ l1_8 t338 t341 t342 t343 t344 t347 t348 t351 t354 _ ?side1 ?side2 ?side3 ?side4 ?side5 ?side6 ?side7 ?side8 ?side9 ?side10 A75.out).mono ?_
            (case side1 => exact ck (Kd.C_below HR1_0.out HB.out))
            (case side2 => exact HC1_0.out)
            (case side3 => exact ck (Kd.C_below HR1_4.out HB.out))
            (case side4 => exact HC1_4.out)
            (case side5 => exact ck (Kd.C_below HR1_6.out HB.out))
            (case side6 => exact HC1_6.out)
            (case side7 => exact ck (Kd.C_below HR1_7.out HB.out))
            (case side8 => exact HC1_7.out)
            (case side9 => exact ck (Kd.C_below HR1_8.out HB.out))
            (case side10 => exact HC1_8.out)
            rintro e w195 ⟨v339, v345, v349, v352, v355, rfl, ho0, ho1, ho2, ho3, ho4, hb⟩
            refine ⟨_, rfl, ?_⟩
            have HO340 := am (Kd.R_lower (Kd.R_new' (Kd.R_new' (Kd.R_new' (Kd.R_new' (Kd.R_new' ho0 (rl HO240)) (rl HO259)) (rl HO279)) (rl HO299)) (rl HO320)) (below_size bel))
            have HO346 := am (Kd.R_lower (Kd.R_new' (Kd.R_new' (Kd.R_new' (Kd.R_new' (Kd.R_new' (Kd.R_new' (Kd.R_new' (Kd.R_new' (Kd.R_new' (Kd.R_new' (Kd.R_new' (Kd.R_new' (Kd.R_new' (Kd.R_new' (Kd.R_new' ho1 (rl HO246)) (rl HO253)) (rl HO256)) (rl HO265)) (rl HO272)) (rl HO275)) (rl HO285)) (rl HO292)) (rl HO295)) (rl HO305)) (rl HO312)) (rl HO315)) (rl HO326)) (rl HO333)) (rl HO336)) (below_size bel))
            have HO350 := am (Kd.R_lower (Kd.R_new' (Kd.R_new' (Kd.R_new' (Kd.R_new' (Kd.R_new' ho2 (rl HO250)) (rl HO269)) (rl HO289)) (rl HO309)) (rl HO330)) (below_size bel))
            have HO353 := am (Kd.R_lower (Kd.R_new' (Kd.R_new' (Kd.R_new' (Kd.R_new' (Kd.R_new' (Kd.R_new' (Kd.R_new' (Kd.R_new' (Kd.R_new' (Kd.R_new' (Kd.R_new' (Kd.R_new' (Kd.R_new' (Kd.R_new' (Kd.R_new' ho3 (rl HO246)) (rl HO253)) (rl HO256)) (rl HO265)) (rl HO272)) (rl HO275)) (rl HO285)) (rl HO292)) (rl HO295)) (rl HO305)) (rl HO312)) (rl HO315)) (rl HO326)) (rl HO333)) (rl HO336)) (below_size bel))
            have HO356 := am (Kd.R_lower (Kd.R_new' (Kd.R_new' (Kd.R_new' (Kd.R_new' (Kd.R_new' (Kd.R_new' (Kd.R_new' (Kd.R_new' (Kd.R_new' (Kd.R_new' (Kd.R_new' (Kd.R_new' (Kd.R_new' (Kd.R_new' (Kd.R_new' ho4 (rl HO246)) (rl HO253)) (rl HO256)) (rl HO265)) (rl HO272)) (rl HO275)) (rl HO285)) (rl HO292)) (rl HO295)) (rl HO305)) (rl HO312)) (rl HO315)) (rl HO326)) (rl HO333)) (rl HO336)) (below_size bel))
            replace HO240 := am (Kd.R_elder' (rk HO240.out) (Kd.R_base ho0) hb)
            replace HO246 := am (Kd.R_mono (Kd.R_told (Kd.R_told (Kd.R_told (Kd.R_old (rk HO246.out) hb) (Kd.R_base ho1)) (Kd.R_base ho3)) (Kd.R_base ho4)) (fun _ h_ => h_.1))
            replace HO250 := am (Kd.R_elder' (rk HO250.out) (Kd.R_base ho2) hb)
            replace HO253 := am (Kd.R_mono (Kd.R_told (Kd.R_told (Kd.R_told (Kd.R_old (rk HO253.out) hb) (Kd.R_base ho1)) (Kd.R_base ho3)) (Kd.R_base ho4)) (fun _ h_ => h_.1))
            replace HO256 := am (Kd.R_mono (Kd.R_told (Kd.R_told (Kd.R_told (Kd.R_old (rk HO256.out) hb) (Kd.R_base ho1)) (Kd.R_base ho3)) (Kd.R_base ho4)) (fun _ h_ => h_.1))
            replace HO259 := am (Kd.R_elder' (rk HO259.out) (Kd.R_base ho0) hb)
            replace HO265 := am (Kd.R_mono (Kd.R_told (Kd.R_told (Kd.R_told (Kd.R_old (rk HO265.out) hb) (Kd.R_base ho1)) (Kd.R_base ho3)) (Kd.R_base ho4)) (fun _ h_ => h_.1))
            replace HO269 := am (Kd.R_elder' (rk HO269.out) (Kd.R_base ho2) hb)
            replace HO272 := am (Kd.R_mono (Kd.R_told (Kd.R_told (Kd.R_told (Kd.R_old (rk HO272.out) hb) (Kd.R_base ho1)) (Kd.R_base ho3)) (Kd.R_base ho4)) (fun _ h_ => h_.1))
            replace HO275 := am (Kd.R_mono (Kd.R_told (Kd.R_told (Kd.R_told (Kd.R_old (rk HO275.out) hb) (Kd.R_base ho1)) (Kd.R_base ho3)) (Kd.R_base ho4)) (fun _ h_ => h_.1))
            replace HO279 := am (Kd.R_elder' (rk HO279.out) (Kd.R_base ho0) hb)
            replace HO285 := am (Kd.R_mono (Kd.R_told (Kd.R_told (Kd.R_told (Kd.R_old (rk HO285.out) hb) (Kd.R_base ho1)) (Kd.R_base ho3)) (Kd.R_base ho4)) (fun _ h_ => h_.1))
            replace HO289 := am (Kd.R_elder' (rk HO289.out) (Kd.R_base ho2) hb)
            replace HO292 := am (Kd.R_mono (Kd.R_told (Kd.R_told (Kd.R_told (Kd.R_old (rk HO292.out) hb) (Kd.R_base ho1)) (Kd.R_base ho3)) (Kd.R_base ho4)) (fun _ h_ => h_.1))
            replace HO295 := am (Kd.R_mono (Kd.R_told (Kd.R_told (Kd.R_told (Kd.R_old (rk HO295.out) hb) (Kd.R_base ho1)) (Kd.R_base ho3)) (Kd.R_base ho4)) (fun _ h_ => h_.1))
            replace HO299 := am (Kd.R_elder' (rk HO299.out) (Kd.R_base ho0) hb)
            replace HO305 := am (Kd.R_mono (Kd.R_told (Kd.R_told (Kd.R_told (Kd.R_old (rk HO305.out) hb) (Kd.R_base ho1)) (Kd.R_base ho3)) (Kd.R_base ho4)) (fun _ h_ => h_.1))
            replace HO309 := am (Kd.R_elder' (rk HO309.out) (Kd.R_base ho2) hb)
            replace HO312 := am (Kd.R_mono (Kd.R_told (Kd.R_told (Kd.R_told (Kd.R_old (rk HO312.out) hb) (Kd.R_base ho1)) (Kd.R_base ho3)) (Kd.R_base ho4)) (fun _ h_ => h_.1))
            replace HO315 := am (Kd.R_mono (Kd.R_told (Kd.R_told (Kd.R_told (Kd.R_old (rk HO315.out) hb) (Kd.R_base ho1)) (Kd.R_base ho3)) (Kd.R_base ho4)) (fun _ h_ => h_.1))
            replace HO320 := am (Kd.R_elder' (rk HO320.out) (Kd.R_base ho0) hb)
            replace HO326 := am (Kd.R_mono (Kd.R_told (Kd.R_told (Kd.R_told (Kd.R_old (rk HO326.out) hb) (Kd.R_base ho1)) (Kd.R_base ho3)) (Kd.R_base ho4)) (fun _ h_ => h_.1))
            replace HO330 := am (Kd.R_elder' (rk HO330.out) (Kd.R_base ho2) hb)
            replace HO333 := am (Kd.R_mono (Kd.R_told (Kd.R_told (Kd.R_told (Kd.R_old (rk HO333.out) hb) (Kd.R_base ho1)) (Kd.R_base ho3)) (Kd.R_base ho4)) (fun _ h_ => h_.1))
            replace HO336 := am (Kd.R_mono (Kd.R_told (Kd.R_told (Kd.R_told (Kd.R_old (rk HO336.out) hb) (Kd.R_base ho1)) (Kd.R_base ho3)) (Kd.R_base ho4)) (fun _ h_ => h_.1))
            replace BK234 := am (bb BK234.out hb)
            replace BK235 := am (bb BK235.out hb)
            replace BK296 := am (bb BK296.out hb)
            replace BK316 := am (bb BK316.out hb)
            replace HB := am (below_step bel hb)
            (try clear hb)
            (try clear hb2)
            (try clear hk)
            (try clear hi)
            (try clear ho0)
            (try clear ho1)
            (try clear ho2)
            (try clear ho3)
            (try clear ho4)
            obtain ⟨Ao196, co196, eo196⟩ := Kd.R_slice HO340.out
            (first | subst eo196 | (injection eo196 with f1_ f2_ f3_; have f4_ := f1_.symm; have f5_ := f3_.symm; clear f1_ f2_ f3_; subst f4_; subst f5_))
            obtain ⟨Ao197, co197, eo197⟩ := Kd.R_slice HO346.out
            (first | subst eo197 | (injection eo197 with f1_ f2_ f3_; have f4_ := f1_.symm; have f5_ := f3_.symm; clear f1_ f2_ f3_; subst f4_; subst f5_))
            obtain ⟨Ao198, co198, eo198⟩ := Kd.R_slice HO350.out
            (first | subst eo198 | (injection eo198 with f1_ f2_ f3_; have f4_ := f1_.symm; have f5_ := f3_.symm; clear f1_ f2_ f3_; subst f4_; subst f5_))
            obtain ⟨Ao199, co199, eo199⟩ := Kd.R_slice HO353.out
            (first | subst eo199 | (injection eo199 with f1_ f2_ f3_; have f4_ := f1_.symm; have f5_ := f3_.symm; clear f1_ f2_ f3_; subst f4_; subst f5_))
            obtain ⟨Ao200, co200, eo200⟩ := Kd.R_slice HO356.out
            (first | subst eo200 | (injection eo200 with f1_ f2_ f3_; have f4_ := f1_.symm; have f5_ := f3_.symm; clear f1_ f2_ f3_; subst f4_; subst f5_))
            refine hK.out _ _ ⟨(blk_cell BK316.out 0).trans rfl, (blk_cell BK316.out 1).trans rfl, (blk_cell BK316.out 2).trans rfl, (blk_cell BK316.out 3).trans rfl, (blk_cell BK316.out 4).trans rfl, (blk_cell BK316.out 5).trans rfl, (blk_cell BK316.out 6).trans rfl, (blk_cell BK316.out 7).trans rfl, (blk_cell BK316.out 8).trans rfl, (blk_cell BK235.out 0).trans rfl, (blk_cell BK235.out 1).trans rfl, (blk_cell BK235.out 2).trans rfl, (blk_cell BK235.out 3).trans rfl, (blk_cell BK235.out 4).trans rfl, (blk_cell BK235.out 5).trans rfl, (blk_cell BK235.out 6).trans rfl, (blk_cell BK235.out 7).trans rfl, (blk_cell BK235.out 8).trans rfl⟩ (fun hHeld => ?_)
            clear hK K
            refine norm_ (a' := ?_) ?_ ?_
            rotate_left
            · show Act.put _ (some 42) _ = _
              simp only [Act.put, List.setIfInBounds_toArray, List.set_cons_zero, List.set_cons_succ, i64_w, i32_w]
              rfl
            refine one_ (i := 3) (N := some 43) #[true, true, true, true, false] rfl rfl (by kernel_rfl) (by decide) (fun K hK => ?_)
            refine goes_ Try.func32 (by kernel_rfl) rfl #[.agg #[.slice Ao175 t297.length co175, .int .i64 t300, .int .i64 t301, .int .i64 t302, .slice Ao180 t303.length co180, .bool t306, .slice Ao181 t307.length co181, .slice Ao182 t310.length co182, .slice Ao183 t313.length co183], .agg #[.slice Ao196 t338.length co196, .int .i64 t341, .int .i64 t342, .int .i64 t343, .slice Ao197 t344.length co197, .bool t347, .slice Ao198 t348.length co198, .slice Ao199 t351.length co199, .slice Ao200 t354.length co200]] (by rfl) rfl rfl ga ?_
            with_reducible refine (laws_eqBook.calls k _ _ t297 t300 t301 t302 _ _ t303 t306 _ _ t307 _ _ t310 _ _ t313 _ _ t338 t341 t342 t343 _ _ t344 t347 _ _ t348 _ _ t351 _ _ t354 false _ ?side1 ?side2 ?side3 ?side4 ?side5 ?side6 ?side7 ?side8 ?side9 ?side10 ?side11 ?side12 ?side13 ?side14 ?side15 ?side16 ?side17 ?side18 ?side19 ?side20 A76.out).mono ?_
            (case side1 => exact cr HO299)
            (case side2 => exact (Kd.R_reads' HO299.out).2.1)
            (case side3 => exact cr HO305)
            (case side4 => exact (Kd.R_reads' HO305.out).2.1)
            (case side5 => exact cr HO309)
            (case side6 => exact (Kd.R_reads' HO309.out).2.1)
            (case side7 => exact cr HO312)
            (case side8 => exact (Kd.R_reads' HO312.out).2.1)
            (case side9 => exact cr HO315)
            (case side10 => exact (Kd.R_reads' HO315.out).2.1)
            (case side11 => exact cr HO340)
            (case side12 => exact (Kd.R_reads' HO340.out).2.1)
            (case side13 => exact cr HO346)
            (case side14 => exact (Kd.R_reads' HO346.out).2.1)
            (case side15 => exact cr HO350)
            (case side16 => exact (Kd.R_reads' HO350.out).2.1)
            (case side17 => exact cr HO353)
            (case side18 => exact (Kd.R_reads' HO353.out).2.1)
            (case side19 => exact cr HO356)
            (case side20 => exact (Kd.R_reads' HO356.out).2.1)
            rintro e w201 ⟨rfl, hb⟩
            refine ⟨_, rfl, ?_⟩
            replace HO240 := rb HO240 hb
            replace HO246 := rb HO246 hb
            replace HO250 := rb HO250 hb
            replace HO253 := rb HO253 hb
            replace HO256 := rb HO256 hb
            replace HO259 := rb HO259 hb
            replace HO265 := rb HO265 hb
            replace HO269 := rb HO269 hb
            replace HO272 := rb HO272 hb
            replace HO275 := rb HO275 hb
            replace HO279 := rb HO279 hb
            replace HO285 := rb HO285 hb
            replace HO289 := rb HO289 hb
            replace HO292 := rb HO292 hb
            replace HO295 := rb HO295 hb
            replace HO299 := rb HO299 hb
            replace HO305 := rb HO305 hb
            replace HO309 := rb HO309 hb
            replace HO312 := rb HO312 hb
            replace HO315 := rb HO315 hb
            replace HO320 := rb HO320 hb
            replace HO326 := rb HO326 hb
            replace HO330 := rb HO330 hb
            replace HO333 := rb HO333 hb
            replace HO336 := rb HO336 hb
            replace HO340 := rb HO340 hb
            replace HO346 := rb HO346 hb
            replace HO350 := rb HO350 hb
            replace HO353 := rb HO353 hb
            replace HO356 := rb HO356 hb
            replace BK234 := am (bb BK234.out hb)
            replace BK235 := am (bb BK235.out hb)
            replace BK296 := am (bb BK296.out hb)
            replace BK316 := am (bb BK316.out hb)
            replace HB := am (below_step bel hb)
            (try clear hb)
            (try clear hb2)
            (try clear hk)
            (try clear hi)
            refine hK.out _ _ ⟨(blk_cell BK316.out 0).trans rfl, (blk_cell BK316.out 1).trans rfl, (blk_cell BK316.out 2).trans rfl, (blk_cell BK316.out 3).trans rfl, (blk_cell BK316.out 4).trans rfl, (blk_cell BK316.out 5).trans rfl, (blk_cell BK316.out 6).trans rfl, (blk_cell BK316.out 7).trans rfl, (blk_cell BK316.out 8).trans rfl, (blk_cell BK235.out 0).trans rfl, (blk_cell BK235.out 1).trans rfl, (blk_cell BK235.out 2).trans rfl, (blk_cell BK235.out 3).trans rfl, (blk_cell BK235.out 4).trans rfl, (blk_cell BK235.out 5).trans rfl, (blk_cell BK235.out 6).trans rfl, (blk_cell BK235.out 7).trans rfl, (blk_cell BK235.out 8).trans rfl⟩ (fun hHeld => ?_)
            clear hK K
            refine norm_ (a' := ?_) ?_ ?_
            rotate_left
            · show Act.put _ (some 43) _ = _
              simp only [Act.put, List.setIfInBounds_toArray, List.set_cons_zero, List.set_cons_succ, i64_w, i32_w]
              rfl
            refine pure_ (i := 4) (N := some 44) (v := ?_) (a' := ?_) #[true, true, true, true, true] rfl rfl (by kernel_rfl) (fun _ _ _ h => h) (Or.inl ⟨by rfl, ?_⟩) ?_ ?_
            rotate_left
            · intro w'
              go_simp
              with_reducible rfl
            rotate_left
            · simp only [Act.put, List.setIfInBounds_toArray, List.set_cons_zero, List.set_cons_succ, i64_w, i32_w]
              rfl
            refine done_ (by kernel_rfl) ?_
            try go_wp2
            go_ret
            exact ⟨er, bel⟩
        · replace c74 := Bool.eq_false_iff.mpr c74
          subst c74
          have H1 : (some false) = some r := by rw [if_neg (show ¬ (false = true) by decide)] at H; exact H
          clear H
          have H := H1
          clear H1
          obtain rfl := Option.some.inj H
          go_enter Try.func6, Try.ntmps6
          try go_wp2_with (first | ((with_reducible refine gate_dst (N := 2) rfl ?_); refine box_event ?hg (N := 2) ?hd (cs := #[.slice A0_0 l0_0.length c0_0, .int .i64 a0_1, .int .i64 a0_2, .int .i64 a0_3, .slice A0_4 l0_4.length c0_4, .bool a0_5, .slice A0_6 l0_6.length c0_6, .slice A0_7 l0_7.length c0_7, .slice A0_8 l0_8.length c0_8]) (t := 59) ?hr ?_; (case hd => rfl); (case hg => rfl); (case hr => first | (go_simp; done) | (go_simp; rfl)); intro gb234 hg w202 hbox hb; have BK234 := am (hbox); have GW234 := am ((bsz hg : w.heap.size ≤ gb234)); have GE234 := am ((bsz hg : w.heap.size ≤ gb234)); replace HB := am (below_step bel hb); clear hb hbox hg) | ((with_reducible refine gate_dst (N := 3) rfl ?_); refine box_event ?hg (N := 3) ?hd (cs := #[.slice A1_0 l1_0.length c1_0, .int .i64 a1_1, .int .i64 a1_2, .int .i64 a1_3, .slice A1_4 l1_4.length c1_4, .bool a1_5, .slice A1_6 l1_6.length c1_6, .slice A1_7 l1_7.length c1_7, .slice A1_8 l1_8.length c1_8]) (t := 59) ?hr ?_; (case hd => rfl); (case hg => rfl); (case hr => first | (go_simp; done) | (go_simp; rfl)); intro gb235 hg w203 hbox hb; have BK235 := am (hbox); have GW235 := am ((bsz hg : w.heap.size ≤ gb235)); have GE235 := am ((bsz hg : w.heap.size ≤ gb235)); have NB234_235 := am ((nlt hg BK234.out : gb234 ≠ gb235)); have NB235_234 := am ((ngt hg BK234.out : gb235 ≠ gb234)); replace BK234 := am (bb BK234.out hb); replace HB := am (below_step bel hb); clear hb hbox hg; have hnb204 := NB234_235.out; have hnc204 := NB235_234.out; obtain ⟨hcz205_0, hcz205_1, hcz205_2, hcz205_3, hcz205_4, hcz205_5, hcz205_6, hcz205_7, hcz205_8, hfz205_0, hfz205_1, hfz205_2, hfz205_3, hfz205_4, hfz205_5, hfz205_6, hfz205_7, hfz205_8⟩ := cf9 BK234.out) | ((with_reducible refine gate_callee (f := 28) rfl ?_); refine goesL_ (some 12) rfl rfl Try.func28 (by kernel_rfl) rfl #[.agg #[.slice A0_0 l0_0.length c0_0, .int .i64 a0_1, .int .i64 a0_2, .int .i64 a0_3, .slice A0_4 l0_4.length c0_4, .bool a0_5, .slice A0_6 l0_6.length c0_6, .slice A0_7 l0_7.length c0_7, .slice A0_8 l0_8.length c0_8], .int .i64 1048576] rfl ga ?_; (with_reducible refine (laws_szBook.calls k _ _ l0_0 a0_1 a0_2 a0_3 _ _ l0_4 a0_5 _ _ l0_6 _ _ l0_7 _ _ l0_8 1048576 t236 _ ?side1 ?side2 ?side3 ?side4 ?side5 ?side6 ?side7 ?side8 ?side9 ?side10 A3.out).mono ?_); (case side1 => exact ck (Kd.C_below HR0_0.out HB.out)); (case side2 => exact HC0_0.out); (case side3 => exact ck (Kd.C_below HR0_4.out HB.out)); (case side4 => exact HC0_4.out); (case side5 => exact ck (Kd.C_below HR0_6.out HB.out)); (case side6 => exact HC0_6.out); (case side7 => exact ck (Kd.C_below HR0_7.out HB.out)); (case side8 => exact HC0_7.out); (case side9 => exact ck (Kd.C_below HR0_8.out HB.out)); (case side10 => exact HC0_8.out); rintro e w206 ⟨rfl, hb⟩; refine ⟨_, rfl, ?_⟩; replace BK234 := am (bb BK234.out hb); replace BK235 := am (bb BK235.out hb); replace HB := am (below_step bel hb); (try clear hb); obtain ⟨hcz207_0, hcz207_1, hcz207_2, hcz207_3, hcz207_4, hcz207_5, hcz207_6, hcz207_7, hcz207_8, hfz207_0, hfz207_1, hfz207_2, hfz207_3, hfz207_4, hfz207_5, hfz207_6, hfz207_7, hfz207_8⟩ := cf9 BK235.out) | ((with_reducible refine gate_callee (f := 28) rfl ?_); refine goesL_ (some 17) rfl rfl Try.func28 (by kernel_rfl) rfl #[.agg #[.slice A1_0 l1_0.length c1_0, .int .i64 a1_1, .int .i64 a1_2, .int .i64 a1_3, .slice A1_4 l1_4.length c1_4, .bool a1_5, .slice A1_6 l1_6.length c1_6, .slice A1_7 l1_7.length c1_7, .slice A1_8 l1_8.length c1_8], .int .i64 t236] rfl ga ?_; (with_reducible refine (laws_szBook.calls k _ _ l1_0 a1_1 a1_2 a1_3 _ _ l1_4 a1_5 _ _ l1_6 _ _ l1_7 _ _ l1_8 t236 t237 _ ?side1 ?side2 ?side3 ?side4 ?side5 ?side6 ?side7 ?side8 ?side9 ?side10 A10.out).mono ?_); (case side1 => exact ck (Kd.C_below HR1_0.out HB.out)); (case side2 => exact HC1_0.out); (case side3 => exact ck (Kd.C_below HR1_4.out HB.out)); (case side4 => exact HC1_4.out); (case side5 => exact ck (Kd.C_below HR1_6.out HB.out)); (case side6 => exact HC1_6.out); (case side7 => exact ck (Kd.C_below HR1_7.out HB.out)); (case side8 => exact HC1_7.out); (case side9 => exact ck (Kd.C_below HR1_8.out HB.out)); (case side10 => exact HC1_8.out); rintro e w208 ⟨rfl, hb⟩; refine ⟨_, rfl, ?_⟩; replace BK234 := am (bb BK234.out hb); replace BK235 := am (bb BK235.out hb); replace HB := am (below_step bel hb); (try clear hb)))
          replace BK234 := am (blk_drew BK234.out)
          replace BK235 := am (blk_drew BK235.out)
          replace HB := am (below_drew1 HB.out)
          refine start_ (n := 6) (S := fun w' => w'.cell? ⟨gb234, 0, none⟩ = some (.slice A0_0 l0_0.length c0_0) ∧ w'.cell? ⟨gb234, 1, none⟩ = some (.int .i64 a0_1) ∧ w'.cell? ⟨gb234, 2, none⟩ = some (.int .i64 a0_2) ∧ w'.cell? ⟨gb234, 3, none⟩ = some (.int .i64 a0_3) ∧ w'.cell? ⟨gb234, 4, none⟩ = some (.slice A0_4 l0_4.length c0_4) ∧ w'.cell? ⟨gb234, 5, none⟩ = some (.bool a0_5) ∧ w'.cell? ⟨gb234, 6, none⟩ = some (.slice A0_6 l0_6.length c0_6) ∧ w'.cell? ⟨gb234, 7, none⟩ = some (.slice A0_7 l0_7.length c0_7) ∧ w'.cell? ⟨gb234, 8, none⟩ = some (.slice A0_8 l0_8.length c0_8) ∧ w'.cell? ⟨gb235, 0, none⟩ = some (.slice A1_0 l1_0.length c1_0) ∧ w'.cell? ⟨gb235, 1, none⟩ = some (.int .i64 a1_1) ∧ w'.cell? ⟨gb235, 2, none⟩ = some (.int .i64 a1_2) ∧ w'.cell? ⟨gb235, 3, none⟩ = some (.int .i64 a1_3) ∧ w'.cell? ⟨gb235, 4, none⟩ = some (.slice A1_4 l1_4.length c1_4) ∧ w'.cell? ⟨gb235, 5, none⟩ = some (.bool a1_5) ∧ w'.cell? ⟨gb235, 6, none⟩ = some (.slice A1_6 l1_6.length c1_6) ∧ w'.cell? ⟨gb235, 7, none⟩ = some (.slice A1_7 l1_7.length c1_7) ∧ w'.cell? ⟨gb235, 8, none⟩ = some (.slice A1_8 l1_8.length c1_8)) (ds := []) #[false, false, false, false, false, false] (by kernel_rfl) rfl rfl ⟨(blk_cell BK234.out 0).trans rfl, (blk_cell BK234.out 1).trans rfl, (blk_cell BK234.out 2).trans rfl, (blk_cell BK234.out 3).trans rfl, (blk_cell BK234.out 4).trans rfl, (blk_cell BK234.out 5).trans rfl, (blk_cell BK234.out 6).trans rfl, (blk_cell BK234.out 7).trans rfl, (blk_cell BK234.out 8).trans rfl, (blk_cell BK235.out 0).trans rfl, (blk_cell BK235.out 1).trans rfl, (blk_cell BK235.out 2).trans rfl, (blk_cell BK235.out 3).trans rfl, (blk_cell BK235.out 4).trans rfl, (blk_cell BK235.out 5).trans rfl, (blk_cell BK235.out 6).trans rfl, (blk_cell BK235.out 7).trans rfl, (blk_cell BK235.out 8).trans rfl⟩ (fun hHeld => ?_)
          generalize w208.drew = w209 at BK234 BK235 HB hHeld ⊢
          refine take_ (i := 0) (N := some 20) (v := ?_) (a' := ?_) #[true, false, false, false, false, false] rfl rfl (by kernel_rfl) (fun _ _ _ h => h) (Or.inl ⟨by rfl, ?_⟩) hHeld ?_ ?_
          rotate_left
          · rintro w' ⟨s0, s1, s2, s3, s4, s5, s6, s7, s8, s9, s10, s11, s12, s13, s14, s15, s16, s17⟩
            go_simp
            with_reducible rfl
          rotate_left
          · simp only [Act.put, List.setIfInBounds_toArray, List.set_cons_zero, List.set_cons_succ, i64_w, i32_w]
            rfl
          refine take_ (i := 2) (N := some 22) (v := ?_) (a' := ?_) #[true, false, true, false, false, false] rfl rfl (by kernel_rfl) (fun _ _ _ h => h) (Or.inl ⟨by rfl, ?_⟩) hHeld ?_ ?_
          rotate_left
          · rintro w' ⟨s0, s1, s2, s3, s4, s5, s6, s7, s8, s9, s10, s11, s12, s13, s14, s15, s16, s17⟩
            go_simp
            with_reducible rfl
          rotate_left
          · simp only [Act.put, List.setIfInBounds_toArray, List.set_cons_zero, List.set_cons_succ, i64_w, i32_w]
            rfl
          refine one_ (i := 1) (N := some 21) #[true, true, true, false, false, false] rfl rfl (by kernel_rfl) (by decide) (fun K hK => ?_)
          refine goes_ Try.func30 (by kernel_rfl) rfl #[.agg #[.slice A0_0 l0_0.length c0_0, .int .i64 a0_1, .int .i64 a0_2, .int .i64 a0_3, .slice A0_4 l0_4.length c0_4, .bool a0_5, .slice A0_6 l0_6.length c0_6, .slice A0_7 l0_7.length c0_7, .slice A0_8 l0_8.length c0_8]] (by rfl) rfl rfl ga ?_
          with_reducible refine (laws_toBook.calls k _ _ l0_0 a0_1 a0_2 a0_3 _ _ l0_4 a0_5 _ _ l0_6 _ _ l0_7 _ _ l0_8 t238 t241 t242 t243 t244 t247 t248 t251 t254 _ ?side1 ?side2 ?side3 ?side4 ?side5 ?side6 ?side7 ?side8 ?side9 ?side10 A19.out).mono ?_
          (case side1 => exact ck (Kd.C_below HR0_0.out HB.out))
          (case side2 => exact HC0_0.out)
          (case side3 => exact ck (Kd.C_below HR0_4.out HB.out))
          (case side4 => exact HC0_4.out)
          (case side5 => exact ck (Kd.C_below HR0_6.out HB.out))
          (case side6 => exact HC0_6.out)
          (case side7 => exact ck (Kd.C_below HR0_7.out HB.out))
          (case side8 => exact HC0_7.out)
          (case side9 => exact ck (Kd.C_below HR0_8.out HB.out))
          (case side10 => exact HC0_8.out)
          rintro e w210 ⟨v239, v245, v249, v252, v255, rfl, ho0, ho1, ho2, ho3, ho4, hb⟩
          refine ⟨_, rfl, ?_⟩
          have HO240 := am (Kd.R_lower ho0 (below_size bel))
          have HO246 := am (Kd.R_lower ho1 (below_size bel))
          have HO250 := am (Kd.R_lower ho2 (below_size bel))
          have HO253 := am (Kd.R_lower ho3 (below_size bel))
          have HO256 := am (Kd.R_lower ho4 (below_size bel))
          replace BK234 := am (bb BK234.out hb)
          replace BK235 := am (bb BK235.out hb)
          replace HB := am (below_step bel hb)
          (try clear hb)
          (try clear hb2)
          (try clear hk)
          (try clear hi)
          (try clear ho0)
          (try clear ho1)
          (try clear ho2)
          (try clear ho3)
          (try clear ho4)
          refine hK.out _ _ ⟨(blk_cell BK234.out 0).trans rfl, (blk_cell BK234.out 1).trans rfl, (blk_cell BK234.out 2).trans rfl, (blk_cell BK234.out 3).trans rfl, (blk_cell BK234.out 4).trans rfl, (blk_cell BK234.out 5).trans rfl, (blk_cell BK234.out 6).trans rfl, (blk_cell BK234.out 7).trans rfl, (blk_cell BK234.out 8).trans rfl, (blk_cell BK235.out 0).trans rfl, (blk_cell BK235.out 1).trans rfl, (blk_cell BK235.out 2).trans rfl, (blk_cell BK235.out 3).trans rfl, (blk_cell BK235.out 4).trans rfl, (blk_cell BK235.out 5).trans rfl, (blk_cell BK235.out 6).trans rfl, (blk_cell BK235.out 7).trans rfl, (blk_cell BK235.out 8).trans rfl⟩ (fun hHeld => ?_)
          clear hK K
          refine norm_ (a' := ?_) ?_ ?_
          rotate_left
          · show Act.put _ (some 21) _ = _
            simp only [Act.put, List.setIfInBounds_toArray, List.set_cons_zero, List.set_cons_succ, i64_w, i32_w]
            rfl
          refine one_ (i := 3) (N := some 23) #[true, true, true, true, false, false] rfl rfl (by kernel_rfl) (by decide) (fun K hK => ?_)
          refine goes_ Try.func30 (by kernel_rfl) rfl #[.agg #[.slice A1_0 l1_0.length c1_0, .int .i64 a1_1, .int .i64 a1_2, .int .i64 a1_3, .slice A1_4 l1_4.length c1_4, .bool a1_5, .slice A1_6 l1_6.length c1_6, .slice A1_7 l1_7.length c1_7, .slice A1_8 l1_8.length c1_8]] (by rfl) rfl rfl ga ?_
          with_reducible refine (laws_toBook.calls k _ _ l1_0 a1_1 a1_2 a1_3 _ _ l1_4 a1_5 _ _ l1_6 _ _ l1_7 _ _ l1_8 t257 t260 t261 t262 t263 t266 t267 t270 t273 _ ?side1 ?side2 ?side3 ?side4 ?side5 ?side6 ?side7 ?side8 ?side9 ?side10 A20.out).mono ?_
          (case side1 => exact ck (Kd.C_below HR1_0.out HB.out))
          (case side2 => exact HC1_0.out)
          (case side3 => exact ck (Kd.C_below HR1_4.out HB.out))
          (case side4 => exact HC1_4.out)
          (case side5 => exact ck (Kd.C_below HR1_6.out HB.out))
          (case side6 => exact HC1_6.out)
          (case side7 => exact ck (Kd.C_below HR1_7.out HB.out))
          (case side8 => exact HC1_7.out)
          (case side9 => exact ck (Kd.C_below HR1_8.out HB.out))
          (case side10 => exact HC1_8.out)
          rintro e w211 ⟨v258, v264, v268, v271, v274, rfl, ho0, ho1, ho2, ho3, ho4, hb⟩
          refine ⟨_, rfl, ?_⟩
          have HO259 := am (Kd.R_lower (Kd.R_new' ho0 (rl HO240)) (below_size bel))
          have HO265 := am (Kd.R_lower (Kd.R_new' (Kd.R_new' (Kd.R_new' ho1 (rl HO246)) (rl HO253)) (rl HO256)) (below_size bel))
          have HO269 := am (Kd.R_lower (Kd.R_new' ho2 (rl HO250)) (below_size bel))
          have HO272 := am (Kd.R_lower (Kd.R_new' (Kd.R_new' (Kd.R_new' ho3 (rl HO246)) (rl HO253)) (rl HO256)) (below_size bel))
          have HO275 := am (Kd.R_lower (Kd.R_new' (Kd.R_new' (Kd.R_new' ho4 (rl HO246)) (rl HO253)) (rl HO256)) (below_size bel))
          replace HO240 := am (Kd.R_elder' (rk HO240.out) (Kd.R_base ho0) hb)
          replace HO246 := am (Kd.R_mono (Kd.R_told (Kd.R_told (Kd.R_told (Kd.R_old (rk HO246.out) hb) (Kd.R_base ho1)) (Kd.R_base ho3)) (Kd.R_base ho4)) (fun _ h_ => h_.1))
          replace HO250 := am (Kd.R_elder' (rk HO250.out) (Kd.R_base ho2) hb)
          replace HO253 := am (Kd.R_mono (Kd.R_told (Kd.R_told (Kd.R_told (Kd.R_old (rk HO253.out) hb) (Kd.R_base ho1)) (Kd.R_base ho3)) (Kd.R_base ho4)) (fun _ h_ => h_.1))
          replace HO256 := am (Kd.R_mono (Kd.R_told (Kd.R_told (Kd.R_told (Kd.R_old (rk HO256.out) hb) (Kd.R_base ho1)) (Kd.R_base ho3)) (Kd.R_base ho4)) (fun _ h_ => h_.1))
          replace BK234 := am (bb BK234.out hb)
          replace BK235 := am (bb BK235.out hb)
          replace HB := am (below_step bel hb)
          (try clear hb)
          (try clear hb2)
          (try clear hk)
          (try clear hi)
          (try clear ho0)
          (try clear ho1)
          (try clear ho2)
          (try clear ho3)
          (try clear ho4)
          obtain ⟨Ao212, co212, eo212⟩ := Kd.R_slice HO240.out
          (first | subst eo212 | (injection eo212 with f1_ f2_ f3_; have f4_ := f1_.symm; have f5_ := f3_.symm; clear f1_ f2_ f3_; subst f4_; subst f5_))
          obtain ⟨Ao213, co213, eo213⟩ := Kd.R_slice HO246.out
          (first | subst eo213 | (injection eo213 with f1_ f2_ f3_; have f4_ := f1_.symm; have f5_ := f3_.symm; clear f1_ f2_ f3_; subst f4_; subst f5_))
          obtain ⟨Ao214, co214, eo214⟩ := Kd.R_slice HO250.out
          (first | subst eo214 | (injection eo214 with f1_ f2_ f3_; have f4_ := f1_.symm; have f5_ := f3_.symm; clear f1_ f2_ f3_; subst f4_; subst f5_))
          obtain ⟨Ao215, co215, eo215⟩ := Kd.R_slice HO253.out
          (first | subst eo215 | (injection eo215 with f1_ f2_ f3_; have f4_ := f1_.symm; have f5_ := f3_.symm; clear f1_ f2_ f3_; subst f4_; subst f5_))
          obtain ⟨Ao216, co216, eo216⟩ := Kd.R_slice HO256.out
          (first | subst eo216 | (injection eo216 with f1_ f2_ f3_; have f4_ := f1_.symm; have f5_ := f3_.symm; clear f1_ f2_ f3_; subst f4_; subst f5_))
          obtain ⟨Ao217, co217, eo217⟩ := Kd.R_slice HO259.out
          (first | subst eo217 | (injection eo217 with f1_ f2_ f3_; have f4_ := f1_.symm; have f5_ := f3_.symm; clear f1_ f2_ f3_; subst f4_; subst f5_))
          obtain ⟨Ao218, co218, eo218⟩ := Kd.R_slice HO265.out
          (first | subst eo218 | (injection eo218 with f1_ f2_ f3_; have f4_ := f1_.symm; have f5_ := f3_.symm; clear f1_ f2_ f3_; subst f4_; subst f5_))
          obtain ⟨Ao219, co219, eo219⟩ := Kd.R_slice HO269.out
          (first | subst eo219 | (injection eo219 with f1_ f2_ f3_; have f4_ := f1_.symm; have f5_ := f3_.symm; clear f1_ f2_ f3_; subst f4_; subst f5_))
          obtain ⟨Ao220, co220, eo220⟩ := Kd.R_slice HO272.out
          (first | subst eo220 | (injection eo220 with f1_ f2_ f3_; have f4_ := f1_.symm; have f5_ := f3_.symm; clear f1_ f2_ f3_; subst f4_; subst f5_))
          obtain ⟨Ao221, co221, eo221⟩ := Kd.R_slice HO275.out
          (first | subst eo221 | (injection eo221 with f1_ f2_ f3_; have f4_ := f1_.symm; have f5_ := f3_.symm; clear f1_ f2_ f3_; subst f4_; subst f5_))
          refine hK.out _ _ ⟨(blk_cell BK234.out 0).trans rfl, (blk_cell BK234.out 1).trans rfl, (blk_cell BK234.out 2).trans rfl, (blk_cell BK234.out 3).trans rfl, (blk_cell BK234.out 4).trans rfl, (blk_cell BK234.out 5).trans rfl, (blk_cell BK234.out 6).trans rfl, (blk_cell BK234.out 7).trans rfl, (blk_cell BK234.out 8).trans rfl, (blk_cell BK235.out 0).trans rfl, (blk_cell BK235.out 1).trans rfl, (blk_cell BK235.out 2).trans rfl, (blk_cell BK235.out 3).trans rfl, (blk_cell BK235.out 4).trans rfl, (blk_cell BK235.out 5).trans rfl, (blk_cell BK235.out 6).trans rfl, (blk_cell BK235.out 7).trans rfl, (blk_cell BK235.out 8).trans rfl⟩ (fun hHeld => ?_)
          clear hK K
          refine norm_ (a' := ?_) ?_ ?_
          rotate_left
          · show Act.put _ (some 23) _ = _
            simp only [Act.put, List.setIfInBounds_toArray, List.set_cons_zero, List.set_cons_succ, i64_w, i32_w]
            rfl
          refine one_ (i := 4) (N := some 24) #[true, true, true, true, true, false] rfl rfl (by kernel_rfl) (by decide) (fun K hK => ?_)
          refine goes_ Try.func29 (by kernel_rfl) rfl #[.agg #[.slice Ao212 t238.length co212, .int .i64 t241, .int .i64 t242, .int .i64 t243, .slice Ao213 t244.length co213, .bool t247, .slice Ao214 t248.length co214, .slice Ao215 t251.length co215, .slice Ao216 t254.length co216], .agg #[.slice Ao217 t257.length co217, .int .i64 t260, .int .i64 t261, .int .i64 t262, .slice Ao218 t263.length co218, .bool t266, .slice Ao219 t267.length co219, .slice Ao220 t270.length co220, .slice Ao221 t273.length co221]] (by rfl) rfl rfl ga ?_
          with_reducible refine (spec_SameBooks.calls k _ _ t238 t241 t242 t243 _ _ t244 t247 _ _ t248 _ _ t251 _ _ t254 _ _ t257 t260 t261 t262 _ _ t263 t266 _ _ t267 _ _ t270 _ _ t273 t276 _ ?side1 ?side2 ?side3 ?side4 ?side5 ?side6 ?side7 ?side8 ?side9 ?side10 ?side11 ?side12 ?side13 ?side14 ?side15 ?side16 ?side17 ?side18 ?side19 ?side20 A21.out).mono ?_
          (case side1 => exact cr HO240)
          (case side2 => exact (Kd.R_reads' HO240.out).2.1)
          (case side3 => exact cr HO246)
          (case side4 => exact (Kd.R_reads' HO246.out).2.1)
          (case side5 => exact cr HO250)
          (case side6 => exact (Kd.R_reads' HO250.out).2.1)
          (case side7 => exact cr HO253)
          (case side8 => exact (Kd.R_reads' HO253.out).2.1)
          (case side9 => exact cr HO256)
          (case side10 => exact (Kd.R_reads' HO256.out).2.1)
          (case side11 => exact cr HO259)
          (case side12 => exact (Kd.R_reads' HO259.out).2.1)
          (case side13 => exact cr HO265)
          (case side14 => exact (Kd.R_reads' HO265.out).2.1)
          (case side15 => exact cr HO269)
          (case side16 => exact (Kd.R_reads' HO269.out).2.1)
          (case side17 => exact cr HO272)
          (case side18 => exact (Kd.R_reads' HO272.out).2.1)
          (case side19 => exact cr HO275)
          (case side20 => exact (Kd.R_reads' HO275.out).2.1)
          rintro e w222 ⟨rfl, hb⟩
          refine ⟨_, rfl, ?_⟩
          replace HO240 := rb HO240 hb
          replace HO246 := rb HO246 hb
          replace HO250 := rb HO250 hb
          replace HO253 := rb HO253 hb
          replace HO256 := rb HO256 hb
          replace HO259 := rb HO259 hb
          replace HO265 := rb HO265 hb
          replace HO269 := rb HO269 hb
          replace HO272 := rb HO272 hb
          replace HO275 := rb HO275 hb
          replace BK234 := am (bb BK234.out hb)
          replace BK235 := am (bb BK235.out hb)
          replace HB := am (below_step bel hb)
          (try clear hb)
          (try clear hb2)
          (try clear hk)
          (try clear hi)
          refine hK.out _ _ ⟨(blk_cell BK234.out 0).trans rfl, (blk_cell BK234.out 1).trans rfl, (blk_cell BK234.out 2).trans rfl, (blk_cell BK234.out 3).trans rfl, (blk_cell BK234.out 4).trans rfl, (blk_cell BK234.out 5).trans rfl, (blk_cell BK234.out 6).trans rfl, (blk_cell BK234.out 7).trans rfl, (blk_cell BK234.out 8).trans rfl, (blk_cell BK235.out 0).trans rfl, (blk_cell BK235.out 1).trans rfl, (blk_cell BK235.out 2).trans rfl, (blk_cell BK235.out 3).trans rfl, (blk_cell BK235.out 4).trans rfl, (blk_cell BK235.out 5).trans rfl, (blk_cell BK235.out 6).trans rfl, (blk_cell BK235.out 7).trans rfl, (blk_cell BK235.out 8).trans rfl⟩ (fun hHeld => ?_)
          clear hK K
          refine norm_ (a' := ?_) ?_ ?_
          rotate_left
          · show Act.put _ (some 24) _ = _
            simp only [Act.put, List.setIfInBounds_toArray, List.set_cons_zero, List.set_cons_succ, i64_w, i32_w]
            rfl
          refine pure_ (i := 5) (N := some 6) (v := ?_) (a' := ?_) #[true, true, true, true, true, true] rfl rfl (by kernel_rfl) (fun _ _ _ h => h) (Or.inl ⟨by rfl, ?_⟩) ?_ ?_
          rotate_left
          · intro w'
            go_simp
            with_reducible rfl
          rotate_left
          · simp only [Act.put, List.setIfInBounds_toArray, List.set_cons_zero, List.set_cons_succ, i64_w, i32_w]
            rfl
          refine done_ (by kernel_rfl) ?_
          obtain ⟨hcz223_0, hcz223_1, hcz223_2, hcz223_3, hcz223_4, hcz223_5, hcz223_6, hcz223_7, hcz223_8, hfz223_0, hfz223_1, hfz223_2, hfz223_3, hfz223_4, hfz223_5, hfz223_6, hfz223_7, hfz223_8⟩ := cf9 BK234.out
          try go_wp2_with (first | ((with_reducible refine gate_callee (f := 30) rfl ?_); refine goesL_ (some 26) rfl rfl Try.func30 (by kernel_rfl) rfl #[.agg #[.slice A0_0 l0_0.length c0_0, .int .i64 a0_1, .int .i64 a0_2, .int .i64 a0_3, .slice A0_4 l0_4.length c0_4, .bool a0_5, .slice A0_6 l0_6.length c0_6, .slice A0_7 l0_7.length c0_7, .slice A0_8 l0_8.length c0_8]] rfl ga ?_; (with_reducible refine (laws_toBook.calls k _ _ l0_0 a0_1 a0_2 a0_3 _ _ l0_4 a0_5 _ _ l0_6 _ _ l0_7 _ _ l0_8 t277 t280 t281 t282 t283 t286 t287 t290 t293 _ ?side1 ?side2 ?side3 ?side4 ?side5 ?side6 ?side7 ?side8 ?side9 ?side10 A22.out).mono ?_); (case side1 => exact ck (Kd.C_below HR0_0.out HB.out)); (case side2 => exact HC0_0.out); (case side3 => exact ck (Kd.C_below HR0_4.out HB.out)); (case side4 => exact HC0_4.out); (case side5 => exact ck (Kd.C_below HR0_6.out HB.out)); (case side6 => exact HC0_6.out); (case side7 => exact ck (Kd.C_below HR0_7.out HB.out)); (case side8 => exact HC0_7.out); (case side9 => exact ck (Kd.C_below HR0_8.out HB.out)); (case side10 => exact HC0_8.out); rintro e w224 ⟨v278, v284, v288, v291, v294, rfl, ho0, ho1, ho2, ho3, ho4, hb⟩; refine ⟨_, rfl, ?_⟩; have HO279 := am (Kd.R_lower (Kd.R_new' (Kd.R_new' ho0 (rl HO240)) (rl HO259)) (below_size bel)); have HO285 := am (Kd.R_lower (Kd.R_new' (Kd.R_new' (Kd.R_new' (Kd.R_new' (Kd.R_new' (Kd.R_new' ho1 (rl HO246)) (rl HO253)) (rl HO256)) (rl HO265)) (rl HO272)) (rl HO275)) (below_size bel)); have HO289 := am (Kd.R_lower (Kd.R_new' (Kd.R_new' ho2 (rl HO250)) (rl HO269)) (below_size bel)); have HO292 := am (Kd.R_lower (Kd.R_new' (Kd.R_new' (Kd.R_new' (Kd.R_new' (Kd.R_new' (Kd.R_new' ho3 (rl HO246)) (rl HO253)) (rl HO256)) (rl HO265)) (rl HO272)) (rl HO275)) (below_size bel)); have HO295 := am (Kd.R_lower (Kd.R_new' (Kd.R_new' (Kd.R_new' (Kd.R_new' (Kd.R_new' (Kd.R_new' ho4 (rl HO246)) (rl HO253)) (rl HO256)) (rl HO265)) (rl HO272)) (rl HO275)) (below_size bel)); replace HO240 := am (Kd.R_elder' (rk HO240.out) (Kd.R_base ho0) hb); replace HO246 := am (Kd.R_mono (Kd.R_told (Kd.R_told (Kd.R_told (Kd.R_old (rk HO246.out) hb) (Kd.R_base ho1)) (Kd.R_base ho3)) (Kd.R_base ho4)) (fun _ h_ => h_.1)); replace HO250 := am (Kd.R_elder' (rk HO250.out) (Kd.R_base ho2) hb); replace HO253 := am (Kd.R_mono (Kd.R_told (Kd.R_told (Kd.R_told (Kd.R_old (rk HO253.out) hb) (Kd.R_base ho1)) (Kd.R_base ho3)) (Kd.R_base ho4)) (fun _ h_ => h_.1)); replace HO256 := am (Kd.R_mono (Kd.R_told (Kd.R_told (Kd.R_told (Kd.R_old (rk HO256.out) hb) (Kd.R_base ho1)) (Kd.R_base ho3)) (Kd.R_base ho4)) (fun _ h_ => h_.1)); replace HO259 := am (Kd.R_elder' (rk HO259.out) (Kd.R_base ho0) hb); replace HO265 := am (Kd.R_mono (Kd.R_told (Kd.R_told (Kd.R_told (Kd.R_old (rk HO265.out) hb) (Kd.R_base ho1)) (Kd.R_base ho3)) (Kd.R_base ho4)) (fun _ h_ => h_.1)); replace HO269 := am (Kd.R_elder' (rk HO269.out) (Kd.R_base ho2) hb); replace HO272 := am (Kd.R_mono (Kd.R_told (Kd.R_told (Kd.R_told (Kd.R_old (rk HO272.out) hb) (Kd.R_base ho1)) (Kd.R_base ho3)) (Kd.R_base ho4)) (fun _ h_ => h_.1)); replace HO275 := am (Kd.R_mono (Kd.R_told (Kd.R_told (Kd.R_told (Kd.R_old (rk HO275.out) hb) (Kd.R_base ho1)) (Kd.R_base ho3)) (Kd.R_base ho4)) (fun _ h_ => h_.1)); replace BK234 := am (bb BK234.out hb); replace BK235 := am (bb BK235.out hb); replace HB := am (below_step bel hb); (try clear hb); (try clear ho0); (try clear ho1); (try clear ho2); (try clear ho3); (try clear ho4)) | ((with_reducible refine gate_dst (N := 7) rfl ?_); refine box_event ?hg (N := 7) ?hd (cs := #[.slice none 0 0, .int .i64 0, .int .i64 0, .int .i64 0, .slice none 0 0, .bool false, .slice none 0 0, .slice none 0 0, .slice none 0 0]) (t := 65) ?hr ?_; (case hd => rfl); (case hg => rfl); (case hr => first | (go_simp; done) | (go_simp; rfl)); intro gb296 hg w225 hbox hb; have BK296 := am (hbox); have GW296 := am ((bsz hg : w.heap.size ≤ gb296)); have GE296 := am ((bsz hg : w.heap.size ≤ gb296)); have NB234_296 := am ((nlt hg BK234.out : gb234 ≠ gb296)); have NB296_234 := am ((ngt hg BK234.out : gb296 ≠ gb234)); have NB235_296 := am ((nlt hg BK235.out : gb235 ≠ gb296)); have NB296_235 := am ((ngt hg BK235.out : gb296 ≠ gb235)); replace HO240 := rb HO240 hb; replace HO246 := rb HO246 hb; replace HO250 := rb HO250 hb; replace HO253 := rb HO253 hb; replace HO256 := rb HO256 hb; replace HO259 := rb HO259 hb; replace HO265 := rb HO265 hb; replace HO269 := rb HO269 hb; replace HO272 := rb HO272 hb; replace HO275 := rb HO275 hb; replace HO279 := rb HO279 hb; replace HO285 := rb HO285 hb; replace HO289 := rb HO289 hb; replace HO292 := rb HO292 hb; replace HO295 := rb HO295 hb; replace BK234 := am (bb BK234.out hb); replace BK235 := am (bb BK235.out hb); replace HB := am (below_step bel hb); clear hb hbox hg; obtain ⟨Ao226, co226, eo226⟩ := Kd.R_slice HO279.out; subst eo226; have hnb227 := NB296_234.out; have hnc227 := NB234_296.out; have hnb228 := NB296_235.out; have hnc228 := NB235_296.out; obtain ⟨hcz229_0, hcz229_1, hcz229_2, hcz229_3, hcz229_4, hcz229_5, hcz229_6, hcz229_7, hcz229_8, hfz229_0, hfz229_1, hfz229_2, hfz229_3, hfz229_4, hfz229_5, hfz229_6, hfz229_7, hfz229_8⟩ := cf9 BK296.out; obtain ⟨Ao230, co230, eo230⟩ := Kd.R_slice HO285.out; subst eo230; obtain ⟨Ao231, co231, eo231⟩ := Kd.R_slice HO289.out; subst eo231; obtain ⟨Ao232, co232, eo232⟩ := Kd.R_slice HO292.out; subst eo232; obtain ⟨Ao233, co233, eo233⟩ := Kd.R_slice HO295.out; subst eo233; obtain ⟨hcz234_0, hcz234_1, hcz234_2, hcz234_3, hcz234_4, hcz234_5, hcz234_6, hcz234_7, hcz234_8, hfz234_0, hfz234_1, hfz234_2, hfz234_3, hfz234_4, hfz234_5, hfz234_6, hfz234_7, hfz234_8⟩ := cf9 BK235.out) | ((with_reducible refine gate_callee (f := 30) rfl ?_); refine goesL_ (some 28) rfl rfl Try.func30 (by kernel_rfl) rfl #[.agg #[.slice A1_0 l1_0.length c1_0, .int .i64 a1_1, .int .i64 a1_2, .int .i64 a1_3, .slice A1_4 l1_4.length c1_4, .bool a1_5, .slice A1_6 l1_6.length c1_6, .slice A1_7 l1_7.length c1_7, .slice A1_8 l1_8.length c1_8]] rfl ga ?_; (with_reducible refine (laws_toBook.calls k _ _ l1_0 a1_1 a1_2 a1_3 _ _ l1_4 a1_5 _ _ l1_6 _ _ l1_7 _ _ l1_8 t297 t300 t301 t302 t303 t306 t307 t310 t313 _ ?side1 ?side2 ?side3 ?side4 ?side5 ?side6 ?side7 ?side8 ?side9 ?side10 A23.out).mono ?_); (case side1 => exact Kd.C_below HR1_0.out bel); (case side2 => exact HC1_0.out); (case side3 => exact Kd.C_below HR1_4.out bel); (case side4 => exact HC1_4.out); (case side5 => exact Kd.C_below HR1_6.out bel); (case side6 => exact HC1_6.out); (case side7 => exact Kd.C_below HR1_7.out bel); (case side8 => exact HC1_7.out); (case side9 => exact Kd.C_below HR1_8.out bel); (case side10 => exact HC1_8.out); rintro e w235 ⟨v298, v304, v308, v311, v314, rfl, ho0, ho1, ho2, ho3, ho4, hb⟩; refine ⟨_, rfl, ?_⟩; have HO299 := am (Kd.R_lower (Kd.R_new' (Kd.R_new' (Kd.R_new' ho0 (Kd.R_lt (rf9 HO240 BK296))) (Kd.R_lt (rf9 HO259 BK296))) (Kd.R_lt (rf9 HO279 BK296))) (below_size bel)); have HO305 := am (Kd.R_lower (Kd.R_new' (Kd.R_new' (Kd.R_new' (Kd.R_new' (Kd.R_new' (Kd.R_new' (Kd.R_new' (Kd.R_new' (Kd.R_new' ho1 (Kd.R_lt (rf9 HO246 BK296))) (Kd.R_lt (rf9 HO253 BK296))) (Kd.R_lt (rf9 HO256 BK296))) (Kd.R_lt (rf9 HO265 BK296))) (Kd.R_lt (rf9 HO272 BK296))) (Kd.R_lt (rf9 HO275 BK296))) (Kd.R_lt (rf9 HO285 BK296))) (Kd.R_lt (rf9 HO292 BK296))) (Kd.R_lt (rf9 HO295 BK296))) (below_size bel)); have HO309 := am (Kd.R_lower (Kd.R_new' (Kd.R_new' (Kd.R_new' ho2 (Kd.R_lt (rf9 HO250 BK296))) (Kd.R_lt (rf9 HO269 BK296))) (Kd.R_lt (rf9 HO289 BK296))) (below_size bel)); have HO312 := am (Kd.R_lower (Kd.R_new' (Kd.R_new' (Kd.R_new' (Kd.R_new' (Kd.R_new' (Kd.R_new' (Kd.R_new' (Kd.R_new' (Kd.R_new' ho3 (Kd.R_lt (rf9 HO246 BK296))) (Kd.R_lt (rf9 HO253 BK296))) (Kd.R_lt (rf9 HO256 BK296))) (Kd.R_lt (rf9 HO265 BK296))) (Kd.R_lt (rf9 HO272 BK296))) (Kd.R_lt (rf9 HO275 BK296))) (Kd.R_lt (rf9 HO285 BK296))) (Kd.R_lt (rf9 HO292 BK296))) (Kd.R_lt (rf9 HO295 BK296))) (below_size bel)); have HO315 := am (Kd.R_lower (Kd.R_new' (Kd.R_new' (Kd.R_new' (Kd.R_new' (Kd.R_new' (Kd.R_new' (Kd.R_new' (Kd.R_new' (Kd.R_new' ho4 (Kd.R_lt (rf9 HO246 BK296))) (Kd.R_lt (rf9 HO253 BK296))) (Kd.R_lt (rf9 HO256 BK296))) (Kd.R_lt (rf9 HO265 BK296))) (Kd.R_lt (rf9 HO272 BK296))) (Kd.R_lt (rf9 HO275 BK296))) (Kd.R_lt (rf9 HO285 BK296))) (Kd.R_lt (rf9 HO292 BK296))) (Kd.R_lt (rf9 HO295 BK296))) (below_size bel)); replace HO240 := am (Kd.R_elder' (rf9 HO240 BK296) (Kd.R_base ho0) hb); replace HO246 := am (Kd.R_mono (Kd.R_told (Kd.R_told (Kd.R_told (Kd.R_old (rf9 HO246 BK296) hb) (Kd.R_base ho1)) (Kd.R_base ho3)) (Kd.R_base ho4)) (fun _ h_ => h_.1)); replace HO250 := am (Kd.R_elder' (rf9 HO250 BK296) (Kd.R_base ho2) hb); replace HO253 := am (Kd.R_mono (Kd.R_told (Kd.R_told (Kd.R_told (Kd.R_old (rf9 HO253 BK296) hb) (Kd.R_base ho1)) (Kd.R_base ho3)) (Kd.R_base ho4)) (fun _ h_ => h_.1)); replace HO256 := am (Kd.R_mono (Kd.R_told (Kd.R_told (Kd.R_told (Kd.R_old (rf9 HO256 BK296) hb) (Kd.R_base ho1)) (Kd.R_base ho3)) (Kd.R_base ho4)) (fun _ h_ => h_.1)); replace HO259 := am (Kd.R_elder' (rf9 HO259 BK296) (Kd.R_base ho0) hb); replace HO265 := am (Kd.R_mono (Kd.R_told (Kd.R_told (Kd.R_told (Kd.R_old (rf9 HO265 BK296) hb) (Kd.R_base ho1)) (Kd.R_base ho3)) (Kd.R_base ho4)) (fun _ h_ => h_.1)); replace HO269 := am (Kd.R_elder' (rf9 HO269 BK296) (Kd.R_base ho2) hb); replace HO272 := am (Kd.R_mono (Kd.R_told (Kd.R_told (Kd.R_told (Kd.R_old (rf9 HO272 BK296) hb) (Kd.R_base ho1)) (Kd.R_base ho3)) (Kd.R_base ho4)) (fun _ h_ => h_.1)); replace HO275 := am (Kd.R_mono (Kd.R_told (Kd.R_told (Kd.R_told (Kd.R_old (rf9 HO275 BK296) hb) (Kd.R_base ho1)) (Kd.R_base ho3)) (Kd.R_base ho4)) (fun _ h_ => h_.1)); replace HO279 := am (Kd.R_elder' (rf9 HO279 BK296) (Kd.R_base ho0) hb); replace HO285 := am (Kd.R_mono (Kd.R_told (Kd.R_told (Kd.R_told (Kd.R_old (rf9 HO285 BK296) hb) (Kd.R_base ho1)) (Kd.R_base ho3)) (Kd.R_base ho4)) (fun _ h_ => h_.1)); replace HO289 := am (Kd.R_elder' (rf9 HO289 BK296) (Kd.R_base ho2) hb); replace HO292 := am (Kd.R_mono (Kd.R_told (Kd.R_told (Kd.R_told (Kd.R_old (rf9 HO292 BK296) hb) (Kd.R_base ho1)) (Kd.R_base ho3)) (Kd.R_base ho4)) (fun _ h_ => h_.1)); replace HO295 := am (Kd.R_mono (Kd.R_told (Kd.R_told (Kd.R_told (Kd.R_old (rf9 HO295 BK296) hb) (Kd.R_base ho1)) (Kd.R_base ho3)) (Kd.R_base ho4)) (fun _ h_ => h_.1)); replace BK234 := am (bb BK234.out hb); replace BK235 := am (bb BK235.out hb); replace BK296 := am (blk_below (g := gb296) (o := .cells #[.slice Ao226 t277.length co226, .int .i64 t280, .int .i64 t281, .int .i64 t282, .slice Ao230 t283.length co230, .bool t286, .slice Ao231 t287.length co231, .slice Ao232 t290.length co232, .slice Ao233 t293.length co233] 65 (0, 0)) (by (with_reducible repeat (first | refine blk_drewN ?_ _ | refine blk_drew ?_ | refine blk_alloc ?_ _)); refine blk_put (cs := #[.slice Ao226 t277.length co226, .int .i64 t280, .int .i64 t281, .int .i64 t282, .slice Ao230 t283.length co230, .bool t286, .slice Ao231 t287.length co231, .slice Ao232 t290.length co232, .slice none 0 0]) ?_ 8 _ rfl; (with_reducible repeat (first | refine blk_drewN ?_ _ | refine blk_drew ?_ | refine blk_alloc ?_ _)); refine blk_put (cs := #[.slice Ao226 t277.length co226, .int .i64 t280, .int .i64 t281, .int .i64 t282, .slice Ao230 t283.length co230, .bool t286, .slice Ao231 t287.length co231, .slice none 0 0, .slice none 0 0]) ?_ 7 _ rfl; (with_reducible repeat (first | refine blk_drewN ?_ _ | refine blk_drew ?_ | refine blk_alloc ?_ _)); refine blk_put (cs := #[.slice Ao226 t277.length co226, .int .i64 t280, .int .i64 t281, .int .i64 t282, .slice Ao230 t283.length co230, .bool t286, .slice none 0 0, .slice none 0 0, .slice none 0 0]) ?_ 6 _ rfl; (with_reducible repeat (first | refine blk_drewN ?_ _ | refine blk_drew ?_ | refine blk_alloc ?_ _)); refine blk_put (cs := #[.slice Ao226 t277.length co226, .int .i64 t280, .int .i64 t281, .int .i64 t282, .slice Ao230 t283.length co230, .bool false, .slice none 0 0, .slice none 0 0, .slice none 0 0]) ?_ 5 _ rfl; (with_reducible repeat (first | refine blk_drewN ?_ _ | refine blk_drew ?_ | refine blk_alloc ?_ _)); refine blk_put (cs := #[.slice Ao226 t277.length co226, .int .i64 t280, .int .i64 t281, .int .i64 t282, .slice none 0 0, .bool false, .slice none 0 0, .slice none 0 0, .slice none 0 0]) ?_ 4 _ rfl; (with_reducible repeat (first | refine blk_drewN ?_ _ | refine blk_drew ?_ | refine blk_alloc ?_ _)); refine blk_put (cs := #[.slice Ao226 t277.length co226, .int .i64 t280, .int .i64 t281, .int .i64 0, .slice none 0 0, .bool false, .slice none 0 0, .slice none 0 0, .slice none 0 0]) ?_ 3 _ rfl; (with_reducible repeat (first | refine blk_drewN ?_ _ | refine blk_drew ?_ | refine blk_alloc ?_ _)); refine blk_put (cs := #[.slice Ao226 t277.length co226, .int .i64 t280, .int .i64 0, .int .i64 0, .slice none 0 0, .bool false, .slice none 0 0, .slice none 0 0, .slice none 0 0]) ?_ 2 _ rfl; (with_reducible repeat (first | refine blk_drewN ?_ _ | refine blk_drew ?_ | refine blk_alloc ?_ _)); refine blk_put (cs := #[.slice Ao226 t277.length co226, .int .i64 0, .int .i64 0, .int .i64 0, .slice none 0 0, .bool false, .slice none 0 0, .slice none 0 0, .slice none 0 0]) ?_ 1 _ rfl; (with_reducible repeat (first | refine blk_drewN ?_ _ | refine blk_drew ?_ | refine blk_alloc ?_ _)); refine blk_put (cs := #[.slice none 0 0, .int .i64 0, .int .i64 0, .int .i64 0, .slice none 0 0, .bool false, .slice none 0 0, .slice none 0 0, .slice none 0 0]) ?_ 0 _ rfl; (with_reducible repeat (first | refine blk_drewN ?_ _ | refine blk_drew ?_ | refine blk_alloc ?_ _)); exact BK296.out) hb); replace HB := am (below_step bel hb); (try clear hb); (try clear ho0); (try clear ho1); (try clear ho2); (try clear ho3); (try clear ho4)) | ((with_reducible refine gate_dst (N := 8) rfl ?_); refine box_event ?hg (N := 8) ?hd (cs := #[.slice none 0 0, .int .i64 0, .int .i64 0, .int .i64 0, .slice none 0 0, .bool false, .slice none 0 0, .slice none 0 0, .slice none 0 0]) (t := 65) ?hr ?_; (case hd => rfl); (case hg => rfl); (case hr => first | (go_simp; done) | (go_simp; rfl)); intro gb316 hg w236 hbox hb; have BK316 := am (hbox); have GW316 := am ((bsz hg : w.heap.size ≤ gb316)); have GE316 := am ((bsz hg : w.heap.size ≤ gb316)); have NB234_316 := am ((nlt hg BK234.out : gb234 ≠ gb316)); have NB316_234 := am ((ngt hg BK234.out : gb316 ≠ gb234)); have NB235_316 := am ((nlt hg BK235.out : gb235 ≠ gb316)); have NB316_235 := am ((ngt hg BK235.out : gb316 ≠ gb235)); have NB296_316 := am ((nlt hg BK296.out : gb296 ≠ gb316)); have NB316_296 := am ((ngt hg BK296.out : gb316 ≠ gb296)); replace HO240 := rb HO240 hb; replace HO246 := rb HO246 hb; replace HO250 := rb HO250 hb; replace HO253 := rb HO253 hb; replace HO256 := rb HO256 hb; replace HO259 := rb HO259 hb; replace HO265 := rb HO265 hb; replace HO269 := rb HO269 hb; replace HO272 := rb HO272 hb; replace HO275 := rb HO275 hb; replace HO279 := rb HO279 hb; replace HO285 := rb HO285 hb; replace HO289 := rb HO289 hb; replace HO292 := rb HO292 hb; replace HO295 := rb HO295 hb; replace HO299 := rb HO299 hb; replace HO305 := rb HO305 hb; replace HO309 := rb HO309 hb; replace HO312 := rb HO312 hb; replace HO315 := rb HO315 hb; replace BK234 := am (bb BK234.out hb); replace BK235 := am (bb BK235.out hb); replace BK296 := am (bb BK296.out hb); replace HB := am (below_step bel hb); clear hb hbox hg; obtain ⟨Ao237, co237, eo237⟩ := Kd.R_slice HO299.out; subst eo237; have hnb238 := NB316_234.out; have hnc238 := NB234_316.out; have hnb239 := NB316_235.out; have hnc239 := NB235_316.out; have hnb240 := NB316_296.out; have hnc240 := NB296_316.out; obtain ⟨hcz241_0, hcz241_1, hcz241_2, hcz241_3, hcz241_4, hcz241_5, hcz241_6, hcz241_7, hcz241_8, hfz241_0, hfz241_1, hfz241_2, hfz241_3, hfz241_4, hfz241_5, hfz241_6, hfz241_7, hfz241_8⟩ := cf9 BK316.out; obtain ⟨Ao242, co242, eo242⟩ := Kd.R_slice HO305.out; subst eo242; obtain ⟨Ao243, co243, eo243⟩ := Kd.R_slice HO309.out; subst eo243; obtain ⟨Ao244, co244, eo244⟩ := Kd.R_slice HO312.out; subst eo244; obtain ⟨Ao245, co245, eo245⟩ := Kd.R_slice HO315.out; subst eo245; obtain ⟨hcz246_0, hcz246_1, hcz246_2, hcz246_3, hcz246_4, hcz246_5, hcz246_6, hcz246_7, hcz246_8, hfz246_0, hfz246_1, hfz246_2, hfz246_3, hfz246_4, hfz246_5, hfz246_6, hfz246_7, hfz246_8⟩ := cf9 BK296.out) | ((with_reducible refine gate_callee (f := 31) rfl ?_); refine goesL_ (some 31) rfl rfl Try.func31 (by kernel_rfl) rfl #[.agg #[.slice Ao226 t277.length co226, .int .i64 t280, .int .i64 t281, .int .i64 t282, .slice Ao230 t283.length co230, .bool t286, .slice Ao231 t287.length co231, .slice Ao232 t290.length co232, .slice Ao233 t293.length co233], .agg #[.slice Ao237 t297.length co237, .int .i64 t300, .int .i64 t301, .int .i64 t302, .slice Ao242 t303.length co242, .bool t306, .slice Ao243 t307.length co243, .slice Ao244 t310.length co244, .slice Ao245 t313.length co245]] rfl ga ?_; (with_reducible refine (impl_SameBooks.calls k _ _ t277 t280 t281 t282 _ _ t283 t286 _ _ t287 _ _ t290 _ _ t293 _ _ t297 t300 t301 t302 _ _ t303 t306 _ _ t307 _ _ t310 _ _ t313 t317 _ ?side1 ?side2 ?side3 ?side4 ?side5 ?side6 ?side7 ?side8 ?side9 ?side10 ?side11 ?side12 ?side13 ?side14 ?side15 ?side16 ?side17 ?side18 ?side19 ?side20 A24.out).mono ?_); (case side1 => exact (Kd.R_reads' (rf9 HO279 BK316)).2.2); (case side2 => exact (Kd.R_reads' HO279.out).2.1); (case side3 => exact (Kd.R_reads' (rf9 HO285 BK316)).2.2); (case side4 => exact (Kd.R_reads' HO285.out).2.1); (case side5 => exact (Kd.R_reads' (rf9 HO289 BK316)).2.2); (case side6 => exact (Kd.R_reads' HO289.out).2.1); (case side7 => exact (Kd.R_reads' (rf9 HO292 BK316)).2.2); (case side8 => exact (Kd.R_reads' HO292.out).2.1); (case side9 => exact (Kd.R_reads' (rf9 HO295 BK316)).2.2); (case side10 => exact (Kd.R_reads' HO295.out).2.1); (case side11 => exact (Kd.R_reads' (rf9 HO299 BK316)).2.2); (case side12 => exact (Kd.R_reads' HO299.out).2.1); (case side13 => exact (Kd.R_reads' (rf9 HO305 BK316)).2.2); (case side14 => exact (Kd.R_reads' HO305.out).2.1); (case side15 => exact (Kd.R_reads' (rf9 HO309 BK316)).2.2); (case side16 => exact (Kd.R_reads' HO309.out).2.1); (case side17 => exact (Kd.R_reads' (rf9 HO312 BK316)).2.2); (case side18 => exact (Kd.R_reads' HO312.out).2.1); (case side19 => exact (Kd.R_reads' (rf9 HO315 BK316)).2.2); (case side20 => exact (Kd.R_reads' HO315.out).2.1); rintro e w247 ⟨rfl, hb⟩; refine ⟨_, rfl, ?_⟩; replace HO240 := am (Kd.R_below (rf9 HO240 BK316) hb); replace HO246 := am (Kd.R_below (rf9 HO246 BK316) hb); replace HO250 := am (Kd.R_below (rf9 HO250 BK316) hb); replace HO253 := am (Kd.R_below (rf9 HO253 BK316) hb); replace HO256 := am (Kd.R_below (rf9 HO256 BK316) hb); replace HO259 := am (Kd.R_below (rf9 HO259 BK316) hb); replace HO265 := am (Kd.R_below (rf9 HO265 BK316) hb); replace HO269 := am (Kd.R_below (rf9 HO269 BK316) hb); replace HO272 := am (Kd.R_below (rf9 HO272 BK316) hb); replace HO275 := am (Kd.R_below (rf9 HO275 BK316) hb); replace HO279 := am (Kd.R_below (rf9 HO279 BK316) hb); replace HO285 := am (Kd.R_below (rf9 HO285 BK316) hb); replace HO289 := am (Kd.R_below (rf9 HO289 BK316) hb); replace HO292 := am (Kd.R_below (rf9 HO292 BK316) hb); replace HO295 := am (Kd.R_below (rf9 HO295 BK316) hb); replace HO299 := am (Kd.R_below (rf9 HO299 BK316) hb); replace HO305 := am (Kd.R_below (rf9 HO305 BK316) hb); replace HO309 := am (Kd.R_below (rf9 HO309 BK316) hb); replace HO312 := am (Kd.R_below (rf9 HO312 BK316) hb); replace HO315 := am (Kd.R_below (rf9 HO315 BK316) hb); replace BK234 := am (bb BK234.out hb); replace BK235 := am (bb BK235.out hb); replace BK296 := am (bb BK296.out hb); replace BK316 := am (blk_below (g := gb316) (o := .cells #[.slice Ao237 t297.length co237, .int .i64 t300, .int .i64 t301, .int .i64 t302, .slice Ao242 t303.length co242, .bool t306, .slice Ao243 t307.length co243, .slice Ao244 t310.length co244, .slice Ao245 t313.length co245] 65 (0, 0)) (by (with_reducible repeat (first | refine blk_drewN ?_ _ | refine blk_drew ?_ | refine blk_alloc ?_ _)); refine blk_put (cs := #[.slice Ao237 t297.length co237, .int .i64 t300, .int .i64 t301, .int .i64 t302, .slice Ao242 t303.length co242, .bool t306, .slice Ao243 t307.length co243, .slice Ao244 t310.length co244, .slice none 0 0]) ?_ 8 _ rfl; (with_reducible repeat (first | refine blk_drewN ?_ _ | refine blk_drew ?_ | refine blk_alloc ?_ _)); refine blk_put (cs := #[.slice Ao237 t297.length co237, .int .i64 t300, .int .i64 t301, .int .i64 t302, .slice Ao242 t303.length co242, .bool t306, .slice Ao243 t307.length co243, .slice none 0 0, .slice none 0 0]) ?_ 7 _ rfl; (with_reducible repeat (first | refine blk_drewN ?_ _ | refine blk_drew ?_ | refine blk_alloc ?_ _)); refine blk_put (cs := #[.slice Ao237 t297.length co237, .int .i64 t300, .int .i64 t301, .int .i64 t302, .slice Ao242 t303.length co242, .bool t306, .slice none 0 0, .slice none 0 0, .slice none 0 0]) ?_ 6 _ rfl; (with_reducible repeat (first | refine blk_drewN ?_ _ | refine blk_drew ?_ | refine blk_alloc ?_ _)); refine blk_put (cs := #[.slice Ao237 t297.length co237, .int .i64 t300, .int .i64 t301, .int .i64 t302, .slice Ao242 t303.length co242, .bool false, .slice none 0 0, .slice none 0 0, .slice none 0 0]) ?_ 5 _ rfl; (with_reducible repeat (first | refine blk_drewN ?_ _ | refine blk_drew ?_ | refine blk_alloc ?_ _)); refine blk_put (cs := #[.slice Ao237 t297.length co237, .int .i64 t300, .int .i64 t301, .int .i64 t302, .slice none 0 0, .bool false, .slice none 0 0, .slice none 0 0, .slice none 0 0]) ?_ 4 _ rfl; (with_reducible repeat (first | refine blk_drewN ?_ _ | refine blk_drew ?_ | refine blk_alloc ?_ _)); refine blk_put (cs := #[.slice Ao237 t297.length co237, .int .i64 t300, .int .i64 t301, .int .i64 0, .slice none 0 0, .bool false, .slice none 0 0, .slice none 0 0, .slice none 0 0]) ?_ 3 _ rfl; (with_reducible repeat (first | refine blk_drewN ?_ _ | refine blk_drew ?_ | refine blk_alloc ?_ _)); refine blk_put (cs := #[.slice Ao237 t297.length co237, .int .i64 t300, .int .i64 0, .int .i64 0, .slice none 0 0, .bool false, .slice none 0 0, .slice none 0 0, .slice none 0 0]) ?_ 2 _ rfl; (with_reducible repeat (first | refine blk_drewN ?_ _ | refine blk_drew ?_ | refine blk_alloc ?_ _)); refine blk_put (cs := #[.slice Ao237 t297.length co237, .int .i64 0, .int .i64 0, .int .i64 0, .slice none 0 0, .bool false, .slice none 0 0, .slice none 0 0, .slice none 0 0]) ?_ 1 _ rfl; (with_reducible repeat (first | refine blk_drewN ?_ _ | refine blk_drew ?_ | refine blk_alloc ?_ _)); refine blk_put (cs := #[.slice none 0 0, .int .i64 0, .int .i64 0, .int .i64 0, .slice none 0 0, .bool false, .slice none 0 0, .slice none 0 0, .slice none 0 0]) ?_ 0 _ rfl; (with_reducible repeat (first | refine blk_drewN ?_ _ | refine blk_drew ?_ | refine blk_alloc ?_ _)); exact BK316.out) hb); replace HB := am (below_step bel hb); (try clear hb)))
          replace HO240 := rd1 HO240
          replace HO246 := rd1 HO246
          replace HO250 := rd1 HO250
          replace HO253 := rd1 HO253
          replace HO256 := rd1 HO256
          replace HO259 := rd1 HO259
          replace HO265 := rd1 HO265
          replace HO269 := rd1 HO269
          replace HO272 := rd1 HO272
          replace HO275 := rd1 HO275
          replace HO279 := rd1 HO279
          replace HO285 := rd1 HO285
          replace HO289 := rd1 HO289
          replace HO292 := rd1 HO292
          replace HO295 := rd1 HO295
          replace HO299 := rd1 HO299
          replace HO305 := rd1 HO305
          replace HO309 := rd1 HO309
          replace HO312 := rd1 HO312
          replace HO315 := rd1 HO315
          replace BK234 := am (blk_drew BK234.out)
          replace BK235 := am (blk_drew BK235.out)
          replace BK296 := am (blk_drew BK296.out)
          replace BK316 := am (blk_drew BK316.out)
          replace HB := am (below_drew1 HB.out)
          refine start_ (n := 5) (S := fun w' => w'.cell? ⟨gb296, 0, none⟩ = some (.slice Ao226 t277.length co226) ∧ w'.cell? ⟨gb296, 1, none⟩ = some (.int .i64 t280) ∧ w'.cell? ⟨gb296, 2, none⟩ = some (.int .i64 t281) ∧ w'.cell? ⟨gb296, 3, none⟩ = some (.int .i64 t282) ∧ w'.cell? ⟨gb296, 4, none⟩ = some (.slice Ao230 t283.length co230) ∧ w'.cell? ⟨gb296, 5, none⟩ = some (.bool t286) ∧ w'.cell? ⟨gb296, 6, none⟩ = some (.slice Ao231 t287.length co231) ∧ w'.cell? ⟨gb296, 7, none⟩ = some (.slice Ao232 t290.length co232) ∧ w'.cell? ⟨gb296, 8, none⟩ = some (.slice Ao233 t293.length co233) ∧ w'.cell? ⟨gb234, 0, none⟩ = some (.slice A0_0 l0_0.length c0_0) ∧ w'.cell? ⟨gb234, 1, none⟩ = some (.int .i64 a0_1) ∧ w'.cell? ⟨gb234, 2, none⟩ = some (.int .i64 a0_2) ∧ w'.cell? ⟨gb234, 3, none⟩ = some (.int .i64 a0_3) ∧ w'.cell? ⟨gb234, 4, none⟩ = some (.slice A0_4 l0_4.length c0_4) ∧ w'.cell? ⟨gb234, 5, none⟩ = some (.bool a0_5) ∧ w'.cell? ⟨gb234, 6, none⟩ = some (.slice A0_6 l0_6.length c0_6) ∧ w'.cell? ⟨gb234, 7, none⟩ = some (.slice A0_7 l0_7.length c0_7) ∧ w'.cell? ⟨gb234, 8, none⟩ = some (.slice A0_8 l0_8.length c0_8)) (ds := []) #[false, false, false, false, false] (by kernel_rfl) rfl rfl ⟨(blk_cell BK296.out 0).trans rfl, (blk_cell BK296.out 1).trans rfl, (blk_cell BK296.out 2).trans rfl, (blk_cell BK296.out 3).trans rfl, (blk_cell BK296.out 4).trans rfl, (blk_cell BK296.out 5).trans rfl, (blk_cell BK296.out 6).trans rfl, (blk_cell BK296.out 7).trans rfl, (blk_cell BK296.out 8).trans rfl, (blk_cell BK234.out 0).trans rfl, (blk_cell BK234.out 1).trans rfl, (blk_cell BK234.out 2).trans rfl, (blk_cell BK234.out 3).trans rfl, (blk_cell BK234.out 4).trans rfl, (blk_cell BK234.out 5).trans rfl, (blk_cell BK234.out 6).trans rfl, (blk_cell BK234.out 7).trans rfl, (blk_cell BK234.out 8).trans rfl⟩ (fun hHeld => ?_)
          generalize w247.drew = w248 at HO240 HO246 HO250 HO253 HO256 HO259 HO265 HO269 HO272 HO275 HO279 HO285 HO289 HO292 HO295 HO299 HO305 HO309 HO312 HO315 BK234 BK235 BK296 BK316 HB hHeld ⊢
          refine take_ (i := 0) (N := some 35) (v := ?_) (a' := ?_) #[true, false, false, false, false] rfl rfl (by kernel_rfl) (fun _ _ _ h => h) (Or.inl ⟨by rfl, ?_⟩) hHeld ?_ ?_
          rotate_left
          · rintro w' ⟨s0, s1, s2, s3, s4, s5, s6, s7, s8, s9, s10, s11, s12, s13, s14, s15, s16, s17⟩
            go_simp
            with_reducible rfl
          rotate_left
          · simp only [Act.put, List.setIfInBounds_toArray, List.set_cons_zero, List.set_cons_succ, i64_w, i32_w]
            rfl
          refine take_ (i := 1) (N := some 36) (v := ?_) (a' := ?_) #[true, true, false, false, false] rfl rfl (by kernel_rfl) (fun _ _ _ h => h) (Or.inl ⟨by rfl, ?_⟩) hHeld ?_ ?_
          rotate_left
          · rintro w' ⟨s0, s1, s2, s3, s4, s5, s6, s7, s8, s9, s10, s11, s12, s13, s14, s15, s16, s17⟩
            go_simp
            with_reducible rfl
          rotate_left
          · simp only [Act.put, List.setIfInBounds_toArray, List.set_cons_zero, List.set_cons_succ, i64_w, i32_w]
            rfl
          refine one_ (i := 2) (N := some 37) #[true, true, true, false, false] rfl rfl (by kernel_rfl) (by decide) (fun K hK => ?_)
          refine goes_ Try.func30 (by kernel_rfl) rfl #[.agg #[.slice A0_0 l0_0.length c0_0, .int .i64 a0_1, .int .i64 a0_2, .int .i64 a0_3, .slice A0_4 l0_4.length c0_4, .bool a0_5, .slice A0_6 l0_6.length c0_6, .slice A0_7 l0_7.length c0_7, .slice A0_8 l0_8.length c0_8]] (by rfl) rfl rfl ga ?_
          with_reducible refine (laws_toBook.calls k _ _ l0_0 a0_1 a0_2 a0_3 _ _ l0_4 a0_5 _ _ l0_6 _ _ l0_7 _ _ l0_8 t318 t321 t322 t323 t324 t327 t328 t331 t334 _ ?side1 ?side2 ?side3 ?side4 ?side5 ?side6 ?side7 ?side8 ?side9 ?side10 A72.out).mono ?_
          (case side1 => exact ck (Kd.C_below HR0_0.out HB.out))
          (case side2 => exact HC0_0.out)
          (case side3 => exact ck (Kd.C_below HR0_4.out HB.out))
          (case side4 => exact HC0_4.out)
          (case side5 => exact ck (Kd.C_below HR0_6.out HB.out))
          (case side6 => exact HC0_6.out)
          (case side7 => exact ck (Kd.C_below HR0_7.out HB.out))
          (case side8 => exact HC0_7.out)
          (case side9 => exact ck (Kd.C_below HR0_8.out HB.out))
          (case side10 => exact HC0_8.out)
          rintro e w249 ⟨v319, v325, v329, v332, v335, rfl, ho0, ho1, ho2, ho3, ho4, hb⟩
          refine ⟨_, rfl, ?_⟩
          have HO320 := am (Kd.R_lower (Kd.R_new' (Kd.R_new' (Kd.R_new' (Kd.R_new' ho0 (rl HO240)) (rl HO259)) (rl HO279)) (rl HO299)) (below_size bel))
          have HO326 := am (Kd.R_lower (Kd.R_new' (Kd.R_new' (Kd.R_new' (Kd.R_new' (Kd.R_new' (Kd.R_new' (Kd.R_new' (Kd.R_new' (Kd.R_new' (Kd.R_new' (Kd.R_new' (Kd.R_new' ho1 (rl HO246)) (rl HO253)) (rl HO256)) (rl HO265)) (rl HO272)) (rl HO275)) (rl HO285)) (rl HO292)) (rl HO295)) (rl HO305)) (rl HO312)) (rl HO315)) (below_size bel))
          have HO330 := am (Kd.R_lower (Kd.R_new' (Kd.R_new' (Kd.R_new' (Kd.R_new' ho2 (rl HO250)) (rl HO269)) (rl HO289)) (rl HO309)) (below_size bel))
          have HO333 := am (Kd.R_lower (Kd.R_new' (Kd.R_new' (Kd.R_new' (Kd.R_new' (Kd.R_new' (Kd.R_new' (Kd.R_new' (Kd.R_new' (Kd.R_new' (Kd.R_new' (Kd.R_new' (Kd.R_new' ho3 (rl HO246)) (rl HO253)) (rl HO256)) (rl HO265)) (rl HO272)) (rl HO275)) (rl HO285)) (rl HO292)) (rl HO295)) (rl HO305)) (rl HO312)) (rl HO315)) (below_size bel))
          have HO336 := am (Kd.R_lower (Kd.R_new' (Kd.R_new' (Kd.R_new' (Kd.R_new' (Kd.R_new' (Kd.R_new' (Kd.R_new' (Kd.R_new' (Kd.R_new' (Kd.R_new' (Kd.R_new' (Kd.R_new' ho4 (rl HO246)) (rl HO253)) (rl HO256)) (rl HO265)) (rl HO272)) (rl HO275)) (rl HO285)) (rl HO292)) (rl HO295)) (rl HO305)) (rl HO312)) (rl HO315)) (below_size bel))
          replace HO240 := am (Kd.R_elder' (rk HO240.out) (Kd.R_base ho0) hb)
          replace HO246 := am (Kd.R_mono (Kd.R_told (Kd.R_told (Kd.R_told (Kd.R_old (rk HO246.out) hb) (Kd.R_base ho1)) (Kd.R_base ho3)) (Kd.R_base ho4)) (fun _ h_ => h_.1))
          replace HO250 := am (Kd.R_elder' (rk HO250.out) (Kd.R_base ho2) hb)
          replace HO253 := am (Kd.R_mono (Kd.R_told (Kd.R_told (Kd.R_told (Kd.R_old (rk HO253.out) hb) (Kd.R_base ho1)) (Kd.R_base ho3)) (Kd.R_base ho4)) (fun _ h_ => h_.1))
          replace HO256 := am (Kd.R_mono (Kd.R_told (Kd.R_told (Kd.R_told (Kd.R_old (rk HO256.out) hb) (Kd.R_base ho1)) (Kd.R_base ho3)) (Kd.R_base ho4)) (fun _ h_ => h_.1))
          replace HO259 := am (Kd.R_elder' (rk HO259.out) (Kd.R_base ho0) hb)
          replace HO265 := am (Kd.R_mono (Kd.R_told (Kd.R_told (Kd.R_told (Kd.R_old (rk HO265.out) hb) (Kd.R_base ho1)) (Kd.R_base ho3)) (Kd.R_base ho4)) (fun _ h_ => h_.1))
          replace HO269 := am (Kd.R_elder' (rk HO269.out) (Kd.R_base ho2) hb)
          replace HO272 := am (Kd.R_mono (Kd.R_told (Kd.R_told (Kd.R_told (Kd.R_old (rk HO272.out) hb) (Kd.R_base ho1)) (Kd.R_base ho3)) (Kd.R_base ho4)) (fun _ h_ => h_.1))
          replace HO275 := am (Kd.R_mono (Kd.R_told (Kd.R_told (Kd.R_told (Kd.R_old (rk HO275.out) hb) (Kd.R_base ho1)) (Kd.R_base ho3)) (Kd.R_base ho4)) (fun _ h_ => h_.1))
          replace HO279 := am (Kd.R_elder' (rk HO279.out) (Kd.R_base ho0) hb)
          replace HO285 := am (Kd.R_mono (Kd.R_told (Kd.R_told (Kd.R_told (Kd.R_old (rk HO285.out) hb) (Kd.R_base ho1)) (Kd.R_base ho3)) (Kd.R_base ho4)) (fun _ h_ => h_.1))
          replace HO289 := am (Kd.R_elder' (rk HO289.out) (Kd.R_base ho2) hb)
          replace HO292 := am (Kd.R_mono (Kd.R_told (Kd.R_told (Kd.R_told (Kd.R_old (rk HO292.out) hb) (Kd.R_base ho1)) (Kd.R_base ho3)) (Kd.R_base ho4)) (fun _ h_ => h_.1))
          replace HO295 := am (Kd.R_mono (Kd.R_told (Kd.R_told (Kd.R_told (Kd.R_old (rk HO295.out) hb) (Kd.R_base ho1)) (Kd.R_base ho3)) (Kd.R_base ho4)) (fun _ h_ => h_.1))
          replace HO299 := am (Kd.R_elder' (rk HO299.out) (Kd.R_base ho0) hb)
          replace HO305 := am (Kd.R_mono (Kd.R_told (Kd.R_told (Kd.R_told (Kd.R_old (rk HO305.out) hb) (Kd.R_base ho1)) (Kd.R_base ho3)) (Kd.R_base ho4)) (fun _ h_ => h_.1))
          replace HO309 := am (Kd.R_elder' (rk HO309.out) (Kd.R_base ho2) hb)
          replace HO312 := am (Kd.R_mono (Kd.R_told (Kd.R_told (Kd.R_told (Kd.R_old (rk HO312.out) hb) (Kd.R_base ho1)) (Kd.R_base ho3)) (Kd.R_base ho4)) (fun _ h_ => h_.1))
          replace HO315 := am (Kd.R_mono (Kd.R_told (Kd.R_told (Kd.R_told (Kd.R_old (rk HO315.out) hb) (Kd.R_base ho1)) (Kd.R_base ho3)) (Kd.R_base ho4)) (fun _ h_ => h_.1))
          replace BK234 := am (bb BK234.out hb)
          replace BK235 := am (bb BK235.out hb)
          replace BK296 := am (bb BK296.out hb)
          replace BK316 := am (bb BK316.out hb)
          replace HB := am (below_step bel hb)
          (try clear hb)
          (try clear hb2)
          (try clear hk)
          (try clear hi)
          (try clear ho0)
          (try clear ho1)
          (try clear ho2)
          (try clear ho3)
          (try clear ho4)
          obtain ⟨Ao250, co250, eo250⟩ := Kd.R_slice HO320.out
          (first | subst eo250 | (injection eo250 with f1_ f2_ f3_; have f4_ := f1_.symm; have f5_ := f3_.symm; clear f1_ f2_ f3_; subst f4_; subst f5_))
          obtain ⟨Ao251, co251, eo251⟩ := Kd.R_slice HO326.out
          (first | subst eo251 | (injection eo251 with f1_ f2_ f3_; have f4_ := f1_.symm; have f5_ := f3_.symm; clear f1_ f2_ f3_; subst f4_; subst f5_))
          obtain ⟨Ao252, co252, eo252⟩ := Kd.R_slice HO330.out
          (first | subst eo252 | (injection eo252 with f1_ f2_ f3_; have f4_ := f1_.symm; have f5_ := f3_.symm; clear f1_ f2_ f3_; subst f4_; subst f5_))
          obtain ⟨Ao253, co253, eo253⟩ := Kd.R_slice HO333.out
          (first | subst eo253 | (injection eo253 with f1_ f2_ f3_; have f4_ := f1_.symm; have f5_ := f3_.symm; clear f1_ f2_ f3_; subst f4_; subst f5_))
          obtain ⟨Ao254, co254, eo254⟩ := Kd.R_slice HO336.out
          (first | subst eo254 | (injection eo254 with f1_ f2_ f3_; have f4_ := f1_.symm; have f5_ := f3_.symm; clear f1_ f2_ f3_; subst f4_; subst f5_))
          refine hK.out _ _ ⟨(blk_cell BK296.out 0).trans rfl, (blk_cell BK296.out 1).trans rfl, (blk_cell BK296.out 2).trans rfl, (blk_cell BK296.out 3).trans rfl, (blk_cell BK296.out 4).trans rfl, (blk_cell BK296.out 5).trans rfl, (blk_cell BK296.out 6).trans rfl, (blk_cell BK296.out 7).trans rfl, (blk_cell BK296.out 8).trans rfl, (blk_cell BK234.out 0).trans rfl, (blk_cell BK234.out 1).trans rfl, (blk_cell BK234.out 2).trans rfl, (blk_cell BK234.out 3).trans rfl, (blk_cell BK234.out 4).trans rfl, (blk_cell BK234.out 5).trans rfl, (blk_cell BK234.out 6).trans rfl, (blk_cell BK234.out 7).trans rfl, (blk_cell BK234.out 8).trans rfl⟩ (fun hHeld => ?_)
          clear hK K
          refine norm_ (a' := ?_) ?_ ?_
          rotate_left
          · show Act.put _ (some 37) _ = _
            simp only [Act.put, List.setIfInBounds_toArray, List.set_cons_zero, List.set_cons_succ, i64_w, i32_w]
            rfl
          refine one_ (i := 3) (N := some 38) #[true, true, true, true, false] rfl rfl (by kernel_rfl) (by decide) (fun K hK => ?_)
          refine goes_ Try.func32 (by kernel_rfl) rfl #[.agg #[.slice Ao226 t277.length co226, .int .i64 t280, .int .i64 t281, .int .i64 t282, .slice Ao230 t283.length co230, .bool t286, .slice Ao231 t287.length co231, .slice Ao232 t290.length co232, .slice Ao233 t293.length co233], .agg #[.slice Ao250 t318.length co250, .int .i64 t321, .int .i64 t322, .int .i64 t323, .slice Ao251 t324.length co251, .bool t327, .slice Ao252 t328.length co252, .slice Ao253 t331.length co253, .slice Ao254 t334.length co254]] (by rfl) rfl rfl ga ?_
          with_reducible refine (laws_eqBook.calls k _ _ t277 t280 t281 t282 _ _ t283 t286 _ _ t287 _ _ t290 _ _ t293 _ _ t318 t321 t322 t323 _ _ t324 t327 _ _ t328 _ _ t331 _ _ t334 false _ ?side1 ?side2 ?side3 ?side4 ?side5 ?side6 ?side7 ?side8 ?side9 ?side10 ?side11 ?side12 ?side13 ?side14 ?side15 ?side16 ?side17 ?side18 ?side19 ?side20 A73.out).mono ?_
          (case side1 => exact cr HO279)
          (case side2 => exact (Kd.R_reads' HO279.out).2.1)
          (case side3 => exact cr HO285)
          (case side4 => exact (Kd.R_reads' HO285.out).2.1)
          (case side5 => exact cr HO289)
          (case side6 => exact (Kd.R_reads' HO289.out).2.1)
          (case side7 => exact cr HO292)
          (case side8 => exact (Kd.R_reads' HO292.out).2.1)
          (case side9 => exact cr HO295)
          (case side10 => exact (Kd.R_reads' HO295.out).2.1)
          (case side11 => exact cr HO320)
          (case side12 => exact (Kd.R_reads' HO320.out).2.1)
          (case side13 => exact cr HO326)
          (case side14 => exact (Kd.R_reads' HO326.out).2.1)
          (case side15 => exact cr HO330)
          (case side16 => exact (Kd.R_reads' HO330.out).2.1)
          (case side17 => exact cr HO333)
          (case side18 => exact (Kd.R_reads' HO333.out).2.1)
          (case side19 => exact cr HO336)
          (case side20 => exact (Kd.R_reads' HO336.out).2.1)
          rintro e w255 ⟨rfl, hb⟩
          refine ⟨_, rfl, ?_⟩
          replace HO240 := rb HO240 hb
          replace HO246 := rb HO246 hb
          replace HO250 := rb HO250 hb
          replace HO253 := rb HO253 hb
          replace HO256 := rb HO256 hb
          replace HO259 := rb HO259 hb
          replace HO265 := rb HO265 hb
          replace HO269 := rb HO269 hb
          replace HO272 := rb HO272 hb
          replace HO275 := rb HO275 hb
          replace HO279 := rb HO279 hb
          replace HO285 := rb HO285 hb
          replace HO289 := rb HO289 hb
          replace HO292 := rb HO292 hb
          replace HO295 := rb HO295 hb
          replace HO299 := rb HO299 hb
          replace HO305 := rb HO305 hb
          replace HO309 := rb HO309 hb
          replace HO312 := rb HO312 hb
          replace HO315 := rb HO315 hb
          replace HO320 := rb HO320 hb
          replace HO326 := rb HO326 hb
          replace HO330 := rb HO330 hb
          replace HO333 := rb HO333 hb
          replace HO336 := rb HO336 hb
          replace BK234 := am (bb BK234.out hb)
          replace BK235 := am (bb BK235.out hb)
          replace BK296 := am (bb BK296.out hb)
          replace BK316 := am (bb BK316.out hb)
          replace HB := am (below_step bel hb)
          (try clear hb)
          (try clear hb2)
          (try clear hk)
          (try clear hi)
          refine hK.out _ _ ⟨(blk_cell BK296.out 0).trans rfl, (blk_cell BK296.out 1).trans rfl, (blk_cell BK296.out 2).trans rfl, (blk_cell BK296.out 3).trans rfl, (blk_cell BK296.out 4).trans rfl, (blk_cell BK296.out 5).trans rfl, (blk_cell BK296.out 6).trans rfl, (blk_cell BK296.out 7).trans rfl, (blk_cell BK296.out 8).trans rfl, (blk_cell BK234.out 0).trans rfl, (blk_cell BK234.out 1).trans rfl, (blk_cell BK234.out 2).trans rfl, (blk_cell BK234.out 3).trans rfl, (blk_cell BK234.out 4).trans rfl, (blk_cell BK234.out 5).trans rfl, (blk_cell BK234.out 6).trans rfl, (blk_cell BK234.out 7).trans rfl, (blk_cell BK234.out 8).trans rfl⟩ (fun hHeld => ?_)
          clear hK K
          refine norm_ (a' := ?_) ?_ ?_
          rotate_left
          · show Act.put _ (some 38) _ = _
            simp only [Act.put, List.setIfInBounds_toArray, List.set_cons_zero, List.set_cons_succ, i64_w, i32_w]
            rfl
          refine pure_ (i := 4) (N := some 39) (v := ?_) (a' := ?_) #[true, true, true, true, true] rfl rfl (by kernel_rfl) (fun _ _ _ h => h) (Or.inl ⟨by rfl, ?_⟩) ?_ ?_
          rotate_left
          · intro w'
            go_simp
            with_reducible rfl
          rotate_left
          · simp only [Act.put, List.setIfInBounds_toArray, List.set_cons_zero, List.set_cons_succ, i64_w, i32_w]
            rfl
          refine done_ (by kernel_rfl) ?_
          try go_wp2
          go_ret
          exact ⟨er, bel⟩

end Go.Proofs.Ytmpealaejigbfaa.X
