-- Written by a program of this session (wip/xp.py, over the kit's print) out of the translation: functions, and the walks that show them.
import Derived.Test.YtgalpgakdcfilaaP0
import Derived.Test.YtgalpgakdcfilaaP2
import Derived.Test.YtgalpgakdcfilaaP12
import Derived.Test.YtgalpgakdcfilaaP14
import Derived.Test.YtgalpgakdcfilaaP26
import Derived.Test.YtgalpgakdcfilaaP31
namespace Go.Proofs.Ytgalpgakdcfilaa.P
open Go.RowKit Go.Proofs.YtgalpgakdcfilaaW.PrintWords Go.Proofs.YtgalpgakdcfilaaW.PrintLast Go.Proofs.YtgalpgakdcfilaaW.PrintMore
attribute [local go_sem] max2_int min2_int max_two min_two max_three min_three max_four min_four   -- for this text's walks alone
set_option linter.unusedVariables false
set_option linter.unusedSimpArgs false

/-! ### laws_FnExactProtestOk: function 3 -/
def laws_FnExactProtestOk.f (k : Nat) (l0_0 : List (S97)) (a0_1 : Int) (a0_2 : Int) (a0_3 : Int) (l0_4 : List Int) (a0_5 : Bool) (l0_6 : List (S104)) (l0_7 : List Int) (l0_8 : List Int) (a1_0 : Int) (a1_1 : Int) (a1_2 : Bool) : Option (Bool) := (laws_szBook.f k l0_0 a0_1 a0_2 a0_3 l0_4 a0_5 l0_6 l0_7 l0_8 1048576).bind fun t323 => (if t323 < 0 then (some true) else ((laws_toBook.f k l0_0 a0_1 a0_2 a0_3 l0_4 a0_5 l0_6 l0_7 l0_8).bind fun bt324 => ((laws_toProtest.f a1_0 a1_1 a1_2).bind fun bt343 => ((spec_ProtestOk.f k bt324.1 bt324.2.1 bt324.2.2.1 bt324.2.2.2.1 bt324.2.2.2.2.1 bt324.2.2.2.2.2.1 bt324.2.2.2.2.2.2.1 bt324.2.2.2.2.2.2.2.1 bt324.2.2.2.2.2.2.2.2 bt343.1 bt343.2.1 bt343.2.2).bind fun t346 => ((laws_toBook.f k l0_0 a0_1 a0_2 a0_3 l0_4 a0_5 l0_6 l0_7 l0_8).bind fun bt347 => ((laws_toProtest.f a1_0 a1_1 a1_2).bind fun bt367 => ((impl_ProtestOk.f k bt347.1 bt347.2.1 bt347.2.2.1 bt347.2.2.2.1 bt347.2.2.2.2.1 bt347.2.2.2.2.2.1 bt347.2.2.2.2.2.2.1 bt347.2.2.2.2.2.2.2.1 bt347.2.2.2.2.2.2.2.2 bt367.1 bt367.2.1 bt367.2.2).bind fun t370 => (if (t370 != t346) = true then (some false) else ((laws_toBook.f k l0_0 a0_1 a0_2 a0_3 l0_4 a0_5 l0_6 l0_7 l0_8).bind fun bt371 => ((laws_eqBook.f k bt347.1 bt347.2.1 bt347.2.2.1 bt347.2.2.2.1 bt347.2.2.2.2.1 bt347.2.2.2.2.2.1 bt347.2.2.2.2.2.2.1 bt347.2.2.2.2.2.2.2.1 bt347.2.2.2.2.2.2.2.2 bt371.1 bt371.2.1 bt371.2.2.1 bt371.2.2.2.1 bt371.2.2.2.2.1 bt371.2.2.2.2.2.1 bt371.2.2.2.2.2.2.1 bt371.2.2.2.2.2.2.2.1 bt371.2.2.2.2.2.2.2.2).bind fun t390 => (if t390 = true then (some true) else (some false))))))))))))
theorem laws_FnExactProtestOk.mono : ∀ a0 a1 a2 a3 a4 a5 a6 a7 a8 a9 a10 a11 k, LeO (laws_FnExactProtestOk.f k a0 a1 a2 a3 a4 a5 a6 a7 a8 a9 a10 a11) (laws_FnExactProtestOk.f (k + 1) a0 a1 a2 a3 a4 a5 a6 a7 a8 a9 a10 a11) := by
  intro a0 a1 a2 a3 a4 a5 a6 a7 a8 a9 a10 a11 k
  unfold laws_FnExactProtestOk.f
  repeat' first
      | (with_reducible exact impl_ProtestOk.mono _ _ _ _ _ _ _ _ _ _ _ _ _)
      | (with_reducible exact laws_eqBook.mono _ _ _ _ _ _ _ _ _ _ _ _ _ _ _ _ _ _ _)
      | (with_reducible exact laws_szBook.mono _ _ _ _ _ _ _ _ _ _ _)
      | (with_reducible exact laws_toBook.mono _ _ _ _ _ _ _ _ _ _)
      | (with_reducible exact spec_ProtestOk.mono _ _ _ _ _ _ _ _ _ _ _ _ _)
      | (with_reducible exact LeO.refl _)
      | (with_reducible exact LeO.none _)
      | (with_reducible refine LeO.ite ?_ ?_)
      | (with_reducible refine LeO.bind ?_ (fun _ => ?_))
      | exact impl_ProtestOk.mono _ _ _ _ _ _ _ _ _ _ _ _ _
      | exact laws_eqBook.mono _ _ _ _ _ _ _ _ _ _ _ _ _ _ _ _ _ _ _
      | exact laws_szBook.mono _ _ _ _ _ _ _ _ _ _ _
      | exact laws_toBook.mono _ _ _ _ _ _ _ _ _ _
      | exact spec_ProtestOk.mono _ _ _ _ _ _ _ _ _ _ _ _ _
      | exact LeO.none _
      | refine LeO.ite ?_ ?_
      | refine LeO.bind ?_ (fun _ => ?_)
set_option maxHeartbeats 8000000 in
set_option maxRecDepth 100000 in
theorem laws_FnExactProtestOk.calls (k : Nat) (A0_0 : Option Addr) (c0_0 : Nat) (l0_0 : List (S97)) (a0_1 : Int) (a0_2 : Int) (a0_3 : Int) (A0_4 : Option Addr) (c0_4 : Nat) (l0_4 : List Int) (a0_5 : Bool) (A0_6 : Option Addr) (c0_6 : Nat) (l0_6 : List (S104)) (A0_7 : Option Addr) (c0_7 : Nat) (l0_7 : List Int) (A0_8 : Option Addr) (c0_8 : Nat) (l0_8 : List Int) (a1_0 : Int) (a1_1 : Int) (a1_2 : Bool) (r : Bool) (w : World) (hr0_0 : Kd.C k97 w A0_0 l0_0.length l0_0) (hc0_0 : l0_0.length ≤ c0_0) (hr0_4 : Kd.C (Kd.int .i64) w A0_4 l0_4.length l0_4) (hc0_4 : l0_4.length ≤ c0_4) (hr0_6 : Kd.C k104 w A0_6 l0_6.length l0_6) (hc0_6 : l0_6.length ≤ c0_6) (hr0_7 : Kd.C (Kd.int .i64) w A0_7 l0_7.length l0_7) (hc0_7 : l0_7.length ≤ c0_7) (hr0_8 : Kd.C (Kd.int .i64) w A0_8 l0_8.length l0_8) (hc0_8 : l0_8.length ≤ c0_8) (h : laws_FnExactProtestOk.f k l0_0 a0_1 a0_2 a0_3 l0_4 a0_5 l0_6 l0_7 l0_8 a1_0 a1_1 a1_2 = some r) :
    Calls Try.prog 3 #[.agg #[.slice A0_0 l0_0.length c0_0, .int .i64 a0_1, .int .i64 a0_2, .int .i64 a0_3, .slice A0_4 l0_4.length c0_4, .bool a0_5, .slice A0_6 l0_6.length c0_6, .slice A0_7 l0_7.length c0_7, .slice A0_8 l0_8.length c0_8], .agg #[.int .i64 a1_0, .int .i64 a1_1, .bool a1_2]] w fun e w' => e = .returned (.bool r) ∧ Below w.heap.size w w' := by
  have hu28 := Try.underlying28
  have hu30 := Try.underlying30
  have hu37 := Try.underlying37
  have HR0_0 := Aside0.mk hr0_0
  have HC0_0 := Aside0.mk hc0_0
  clear hr0_0 hc0_0
  have HR0_4 := Aside0.mk hr0_4
  have HC0_4 := Aside0.mk hc0_4
  clear hr0_4 hc0_4
  have HR0_6 := Aside0.mk hr0_6
  have HC0_6 := Aside0.mk hc0_6
  clear hr0_6 hc0_6
  have HR0_7 := Aside0.mk hr0_7
  have HC0_7 := Aside0.mk hc0_7
  clear hr0_7 hc0_7
  have HR0_8 := Aside0.mk hr0_8
  have HC0_8 := Aside0.mk hc0_8
  clear hr0_8 hc0_8
  have HB := Aside0.mk (Below.refl w.heap.size w)
  have H : ((laws_szBook.f k l0_0 a0_1 a0_2 a0_3 l0_4 a0_5 l0_6 l0_7 l0_8 1048576).bind fun t323 => (if t323 < 0 then (some true) else ((laws_toBook.f k l0_0 a0_1 a0_2 a0_3 l0_4 a0_5 l0_6 l0_7 l0_8).bind fun bt324 => ((laws_toProtest.f a1_0 a1_1 a1_2).bind fun bt343 => ((spec_ProtestOk.f k bt324.1 bt324.2.1 bt324.2.2.1 bt324.2.2.2.1 bt324.2.2.2.2.1 bt324.2.2.2.2.2.1 bt324.2.2.2.2.2.2.1 bt324.2.2.2.2.2.2.2.1 bt324.2.2.2.2.2.2.2.2 bt343.1 bt343.2.1 bt343.2.2).bind fun t346 => ((laws_toBook.f k l0_0 a0_1 a0_2 a0_3 l0_4 a0_5 l0_6 l0_7 l0_8).bind fun bt347 => ((laws_toProtest.f a1_0 a1_1 a1_2).bind fun bt367 => ((impl_ProtestOk.f k bt347.1 bt347.2.1 bt347.2.2.1 bt347.2.2.2.1 bt347.2.2.2.2.1 bt347.2.2.2.2.2.1 bt347.2.2.2.2.2.2.1 bt347.2.2.2.2.2.2.2.1 bt347.2.2.2.2.2.2.2.2 bt367.1 bt367.2.1 bt367.2.2).bind fun t370 => (if (t370 != t346) = true then (some false) else ((laws_toBook.f k l0_0 a0_1 a0_2 a0_3 l0_4 a0_5 l0_6 l0_7 l0_8).bind fun bt371 => ((laws_eqBook.f k bt347.1 bt347.2.1 bt347.2.2.1 bt347.2.2.2.1 bt347.2.2.2.2.1 bt347.2.2.2.2.2.1 bt347.2.2.2.2.2.2.1 bt347.2.2.2.2.2.2.2.1 bt347.2.2.2.2.2.2.2.2 bt371.1 bt371.2.1 bt371.2.2.1 bt371.2.2.2.1 bt371.2.2.2.2.1 bt371.2.2.2.2.2.1 bt371.2.2.2.2.2.2.1 bt371.2.2.2.2.2.2.2.1 bt371.2.2.2.2.2.2.2.2).bind fun t390 => (if t390 = true then (some true) else (some false))))))))))))) = some r := h
  clear h
  replace H := Option.bind_eq_some_iff.mp H
  obtain ⟨t323, A30, H⟩ := H
  replace H : (if t323 < 0 then (some true) else ((laws_toBook.f k l0_0 a0_1 a0_2 a0_3 l0_4 a0_5 l0_6 l0_7 l0_8).bind fun bt324 => ((laws_toProtest.f a1_0 a1_1 a1_2).bind fun bt343 => ((spec_ProtestOk.f k bt324.1 bt324.2.1 bt324.2.2.1 bt324.2.2.2.1 bt324.2.2.2.2.1 bt324.2.2.2.2.2.1 bt324.2.2.2.2.2.2.1 bt324.2.2.2.2.2.2.2.1 bt324.2.2.2.2.2.2.2.2 bt343.1 bt343.2.1 bt343.2.2).bind fun t346 => ((laws_toBook.f k l0_0 a0_1 a0_2 a0_3 l0_4 a0_5 l0_6 l0_7 l0_8).bind fun bt347 => ((laws_toProtest.f a1_0 a1_1 a1_2).bind fun bt367 => ((impl_ProtestOk.f k bt347.1 bt347.2.1 bt347.2.2.1 bt347.2.2.2.1 bt347.2.2.2.2.1 bt347.2.2.2.2.2.1 bt347.2.2.2.2.2.2.1 bt347.2.2.2.2.2.2.2.1 bt347.2.2.2.2.2.2.2.2 bt367.1 bt367.2.1 bt367.2.2).bind fun t370 => (if (t370 != t346) = true then (some false) else ((laws_toBook.f k l0_0 a0_1 a0_2 a0_3 l0_4 a0_5 l0_6 l0_7 l0_8).bind fun bt371 => ((laws_eqBook.f k bt347.1 bt347.2.1 bt347.2.2.1 bt347.2.2.2.1 bt347.2.2.2.2.1 bt347.2.2.2.2.2.1 bt347.2.2.2.2.2.2.1 bt347.2.2.2.2.2.2.2.1 bt347.2.2.2.2.2.2.2.2 bt371.1 bt371.2.1 bt371.2.2.1 bt371.2.2.2.1 bt371.2.2.2.2.1 bt371.2.2.2.2.2.1 bt371.2.2.2.2.2.2.1 bt371.2.2.2.2.2.2.2.1 bt371.2.2.2.2.2.2.2.2).bind fun t390 => (if t390 = true then (some true) else (some false)))))))))))) = some r := H
  have A3 := Aside0.mk A30
  clear A30
  by_cases c4 : t323 < 0
  · rw [if_pos c4] at H
    have c4b0 : decide (t323 < 0) = true := decide_eq_true c4
    clear c4
    obtain rfl := Option.some.inj H
    go_enter Try.func3, Try.ntmps3
    go_wp2_with (first | ((with_reducible refine gate_dst (N := 2) rfl ?_); refine box_event ?hg (N := 2) ?hd (cs := #[.slice A0_0 l0_0.length c0_0, .int .i64 a0_1, .int .i64 a0_2, .int .i64 a0_3, .slice A0_4 l0_4.length c0_4, .bool a0_5, .slice A0_6 l0_6.length c0_6, .slice A0_7 l0_7.length c0_7, .slice A0_8 l0_8.length c0_8]) (t := 28) ?hr ?_; (case hd => rfl); (case hg => rfl); (case hr => first | (go_simp; done) | (go_simp; rfl)); intro gb321 hg w5 hbox hb; have BK321 := Aside0.mk (hbox); have GW321 := Aside0.mk ((bsz hg : w.heap.size ≤ gb321)); have GE321 := Aside0.mk ((bsz hg : w.heap.size ≤ gb321)); replace HB := Aside0.mk (below_step bel hb); clear hb hbox hg) | ((with_reducible refine gate_dst (N := 3) rfl ?_); refine box_event ?hg (N := 3) ?hd (cs := #[.int .i64 a1_0, .int .i64 a1_1, .bool a1_2]) (t := 30) ?hr ?_; (case hd => rfl); (case hg => rfl); (case hr => first | (go_simp; done) | (go_simp; rfl)); intro gb322 hg w6 hbox hb; have BK322 := Aside0.mk (hbox); have GW322 := Aside0.mk ((bsz hg : w.heap.size ≤ gb322)); have GE322 := Aside0.mk ((bsz hg : w.heap.size ≤ gb322)); have NB321_322 := Aside0.mk ((nlt hg BK321.out : gb321 ≠ gb322)); have NB322_321 := Aside0.mk ((ngt hg BK321.out : gb322 ≠ gb321)); replace BK321 := Aside0.mk (bb BK321.out hb); replace HB := Aside0.mk (below_step bel hb); clear hb hbox hg; have hnb7 := NB321_322.out; have hnc7 := NB322_321.out; obtain ⟨hcz8_0, hcz8_1, hcz8_2, hcz8_3, hcz8_4, hcz8_5, hcz8_6, hcz8_7, hcz8_8, hfz8_0, hfz8_1, hfz8_2, hfz8_3, hfz8_4, hfz8_5, hfz8_6, hfz8_7, hfz8_8⟩ := cf9 BK321.out) | ((with_reducible refine gate_callee (f := 13) rfl ?_); refine goesL_ (some 11) rfl rfl Try.func13 (by kernel_rfl) rfl #[.agg #[.slice A0_0 l0_0.length c0_0, .int .i64 a0_1, .int .i64 a0_2, .int .i64 a0_3, .slice A0_4 l0_4.length c0_4, .bool a0_5, .slice A0_6 l0_6.length c0_6, .slice A0_7 l0_7.length c0_7, .slice A0_8 l0_8.length c0_8], .int .i64 1048576] rfl ga ?_; (with_reducible refine (laws_szBook.calls k _ _ l0_0 a0_1 a0_2 a0_3 _ _ l0_4 a0_5 _ _ l0_6 _ _ l0_7 _ _ l0_8 1048576 t323 _ ?side1 ?side2 ?side3 ?side4 ?side5 ?side6 ?side7 ?side8 ?side9 ?side10 A3.out).mono ?_); (case side1 => exact ck (Kd.C_below HR0_0.out HB.out)); (case side2 => exact HC0_0.out); (case side3 => exact ck (Kd.C_below HR0_4.out HB.out)); (case side4 => exact HC0_4.out); (case side5 => exact ck (Kd.C_below HR0_6.out HB.out)); (case side6 => exact HC0_6.out); (case side7 => exact ck (Kd.C_below HR0_7.out HB.out)); (case side8 => exact HC0_7.out); (case side9 => exact ck (Kd.C_below HR0_8.out HB.out)); (case side10 => exact HC0_8.out); rintro e w9 ⟨rfl, hb⟩; refine ⟨_, rfl, ?_⟩; replace BK321 := Aside0.mk (bb BK321.out hb); replace BK322 := Aside0.mk (bb BK322.out hb); replace HB := Aside0.mk (below_step bel hb); (try clear hb)))
    go_ret
    exact ⟨er, bel⟩
  · rw [if_neg c4] at H
    have c4b0 : decide (t323 < 0) = false := decide_eq_false c4
    clear c4
    replace H := Option.bind_eq_some_iff.mp H
    obtain ⟨⟨t324, t327, t328, t329, t330, t333, t334, t337, t340⟩, A100, H⟩ := H
    replace H : ((laws_toProtest.f a1_0 a1_1 a1_2).bind fun bt343 => ((spec_ProtestOk.f k t324 t327 t328 t329 t330 t333 t334 t337 t340 bt343.1 bt343.2.1 bt343.2.2).bind fun t346 => ((laws_toBook.f k l0_0 a0_1 a0_2 a0_3 l0_4 a0_5 l0_6 l0_7 l0_8).bind fun bt347 => ((laws_toProtest.f a1_0 a1_1 a1_2).bind fun bt367 => ((impl_ProtestOk.f k bt347.1 bt347.2.1 bt347.2.2.1 bt347.2.2.2.1 bt347.2.2.2.2.1 bt347.2.2.2.2.2.1 bt347.2.2.2.2.2.2.1 bt347.2.2.2.2.2.2.2.1 bt347.2.2.2.2.2.2.2.2 bt367.1 bt367.2.1 bt367.2.2).bind fun t370 => (if (t370 != t346) = true then (some false) else ((laws_toBook.f k l0_0 a0_1 a0_2 a0_3 l0_4 a0_5 l0_6 l0_7 l0_8).bind fun bt371 => ((laws_eqBook.f k bt347.1 bt347.2.1 bt347.2.2.1 bt347.2.2.2.1 bt347.2.2.2.2.1 bt347.2.2.2.2.2.1 bt347.2.2.2.2.2.2.1 bt347.2.2.2.2.2.2.2.1 bt347.2.2.2.2.2.2.2.2 bt371.1 bt371.2.1 bt371.2.2.1 bt371.2.2.2.1 bt371.2.2.2.2.1 bt371.2.2.2.2.2.1 bt371.2.2.2.2.2.2.1 bt371.2.2.2.2.2.2.2.1 bt371.2.2.2.2.2.2.2.2).bind fun t390 => (if t390 = true then (some true) else (some false)))))))))) = some r := H
    have A10 := Aside0.mk A100
    clear A100
    replace H := Option.bind_eq_some_iff.mp H
    obtain ⟨⟨t343, t344, t345⟩, A110, H⟩ := H
    replace H : ((spec_ProtestOk.f k t324 t327 t328 t329 t330 t333 t334 t337 t340 t343 t344 t345).bind fun t346 => ((laws_toBook.f k l0_0 a0_1 a0_2 a0_3 l0_4 a0_5 l0_6 l0_7 l0_8).bind fun bt347 => ((laws_toProtest.f a1_0 a1_1 a1_2).bind fun bt367 => ((impl_ProtestOk.f k bt347.1 bt347.2.1 bt347.2.2.1 bt347.2.2.2.1 bt347.2.2.2.2.1 bt347.2.2.2.2.2.1 bt347.2.2.2.2.2.2.1 bt347.2.2.2.2.2.2.2.1 bt347.2.2.2.2.2.2.2.2 bt367.1 bt367.2.1 bt367.2.2).bind fun t370 => (if (t370 != t346) = true then (some false) else ((laws_toBook.f k l0_0 a0_1 a0_2 a0_3 l0_4 a0_5 l0_6 l0_7 l0_8).bind fun bt371 => ((laws_eqBook.f k bt347.1 bt347.2.1 bt347.2.2.1 bt347.2.2.2.1 bt347.2.2.2.2.1 bt347.2.2.2.2.2.1 bt347.2.2.2.2.2.2.1 bt347.2.2.2.2.2.2.2.1 bt347.2.2.2.2.2.2.2.2 bt371.1 bt371.2.1 bt371.2.2.1 bt371.2.2.2.1 bt371.2.2.2.2.1 bt371.2.2.2.2.2.1 bt371.2.2.2.2.2.2.1 bt371.2.2.2.2.2.2.2.1 bt371.2.2.2.2.2.2.2.2).bind fun t390 => (if t390 = true then (some true) else (some false))))))))) = some r := H
    have A11 := Aside0.mk A110
    clear A110
    replace H := Option.bind_eq_some_iff.mp H
    obtain ⟨t346, A120, H⟩ := H
    replace H : ((laws_toBook.f k l0_0 a0_1 a0_2 a0_3 l0_4 a0_5 l0_6 l0_7 l0_8).bind fun bt347 => ((laws_toProtest.f a1_0 a1_1 a1_2).bind fun bt367 => ((impl_ProtestOk.f k bt347.1 bt347.2.1 bt347.2.2.1 bt347.2.2.2.1 bt347.2.2.2.2.1 bt347.2.2.2.2.2.1 bt347.2.2.2.2.2.2.1 bt347.2.2.2.2.2.2.2.1 bt347.2.2.2.2.2.2.2.2 bt367.1 bt367.2.1 bt367.2.2).bind fun t370 => (if (t370 != t346) = true then (some false) else ((laws_toBook.f k l0_0 a0_1 a0_2 a0_3 l0_4 a0_5 l0_6 l0_7 l0_8).bind fun bt371 => ((laws_eqBook.f k bt347.1 bt347.2.1 bt347.2.2.1 bt347.2.2.2.1 bt347.2.2.2.2.1 bt347.2.2.2.2.2.1 bt347.2.2.2.2.2.2.1 bt347.2.2.2.2.2.2.2.1 bt347.2.2.2.2.2.2.2.2 bt371.1 bt371.2.1 bt371.2.2.1 bt371.2.2.2.1 bt371.2.2.2.2.1 bt371.2.2.2.2.2.1 bt371.2.2.2.2.2.2.1 bt371.2.2.2.2.2.2.2.1 bt371.2.2.2.2.2.2.2.2).bind fun t390 => (if t390 = true then (some true) else (some false)))))))) = some r := H
    have A12 := Aside0.mk A120
    clear A120
    replace H := Option.bind_eq_some_iff.mp H
    obtain ⟨⟨t347, t350, t351, t352, t353, t356, t357, t360, t363⟩, A130, H⟩ := H
    replace H : ((laws_toProtest.f a1_0 a1_1 a1_2).bind fun bt367 => ((impl_ProtestOk.f k t347 t350 t351 t352 t353 t356 t357 t360 t363 bt367.1 bt367.2.1 bt367.2.2).bind fun t370 => (if (t370 != t346) = true then (some false) else ((laws_toBook.f k l0_0 a0_1 a0_2 a0_3 l0_4 a0_5 l0_6 l0_7 l0_8).bind fun bt371 => ((laws_eqBook.f k t347 t350 t351 t352 t353 t356 t357 t360 t363 bt371.1 bt371.2.1 bt371.2.2.1 bt371.2.2.2.1 bt371.2.2.2.2.1 bt371.2.2.2.2.2.1 bt371.2.2.2.2.2.2.1 bt371.2.2.2.2.2.2.2.1 bt371.2.2.2.2.2.2.2.2).bind fun t390 => (if t390 = true then (some true) else (some false))))))) = some r := H
    have A13 := Aside0.mk A130
    clear A130
    replace H := Option.bind_eq_some_iff.mp H
    obtain ⟨⟨t367, t368, t369⟩, A140, H⟩ := H
    replace H : ((impl_ProtestOk.f k t347 t350 t351 t352 t353 t356 t357 t360 t363 t367 t368 t369).bind fun t370 => (if (t370 != t346) = true then (some false) else ((laws_toBook.f k l0_0 a0_1 a0_2 a0_3 l0_4 a0_5 l0_6 l0_7 l0_8).bind fun bt371 => ((laws_eqBook.f k t347 t350 t351 t352 t353 t356 t357 t360 t363 bt371.1 bt371.2.1 bt371.2.2.1 bt371.2.2.2.1 bt371.2.2.2.2.1 bt371.2.2.2.2.2.1 bt371.2.2.2.2.2.2.1 bt371.2.2.2.2.2.2.2.1 bt371.2.2.2.2.2.2.2.2).bind fun t390 => (if t390 = true then (some true) else (some false)))))) = some r := H
    have A14 := Aside0.mk A140
    clear A140
    replace H := Option.bind_eq_some_iff.mp H
    obtain ⟨t370, A150, H⟩ := H
    replace H : (if (t370 != t346) = true then (some false) else ((laws_toBook.f k l0_0 a0_1 a0_2 a0_3 l0_4 a0_5 l0_6 l0_7 l0_8).bind fun bt371 => ((laws_eqBook.f k t347 t350 t351 t352 t353 t356 t357 t360 t363 bt371.1 bt371.2.1 bt371.2.2.1 bt371.2.2.2.1 bt371.2.2.2.2.1 bt371.2.2.2.2.2.1 bt371.2.2.2.2.2.2.1 bt371.2.2.2.2.2.2.2.1 bt371.2.2.2.2.2.2.2.2).bind fun t390 => (if t390 = true then (some true) else (some false))))) = some r := H
    have A15 := Aside0.mk A150
    clear A150
    by_cases c16 : (t370 != t346) = true
    · rw [if_pos c16] at H
      have c16b0 : (t370 != t346) = true := c16
      (try (have c16b1 : decide (t370 = t346) = false := by simpa using c16))
      (try (have c16b2 : (t370 == t346) = false := by simpa using c16))
      (try (have c16b3 : ¬ (t370 = t346) := by simpa using c16))
      clear c16
      obtain rfl := Option.some.inj H
      go_enter Try.func3, Try.ntmps3
      try go_wp2_with (first | ((with_reducible refine gate_dst (N := 2) rfl ?_); refine box_event ?hg (N := 2) ?hd (cs := #[.slice A0_0 l0_0.length c0_0, .int .i64 a0_1, .int .i64 a0_2, .int .i64 a0_3, .slice A0_4 l0_4.length c0_4, .bool a0_5, .slice A0_6 l0_6.length c0_6, .slice A0_7 l0_7.length c0_7, .slice A0_8 l0_8.length c0_8]) (t := 28) ?hr ?_; (case hd => rfl); (case hg => rfl); (case hr => first | (go_simp; done) | (go_simp; rfl)); intro gb321 hg w17 hbox hb; have BK321 := Aside0.mk (hbox); have GW321 := Aside0.mk ((bsz hg : w.heap.size ≤ gb321)); have GE321 := Aside0.mk ((bsz hg : w.heap.size ≤ gb321)); replace HB := Aside0.mk (below_step bel hb); clear hb hbox hg) | ((with_reducible refine gate_dst (N := 3) rfl ?_); refine box_event ?hg (N := 3) ?hd (cs := #[.int .i64 a1_0, .int .i64 a1_1, .bool a1_2]) (t := 30) ?hr ?_; (case hd => rfl); (case hg => rfl); (case hr => first | (go_simp; done) | (go_simp; rfl)); intro gb322 hg w18 hbox hb; have BK322 := Aside0.mk (hbox); have GW322 := Aside0.mk ((bsz hg : w.heap.size ≤ gb322)); have GE322 := Aside0.mk ((bsz hg : w.heap.size ≤ gb322)); have NB321_322 := Aside0.mk ((nlt hg BK321.out : gb321 ≠ gb322)); have NB322_321 := Aside0.mk ((ngt hg BK321.out : gb322 ≠ gb321)); replace BK321 := Aside0.mk (bb BK321.out hb); replace HB := Aside0.mk (below_step bel hb); clear hb hbox hg; have hnb19 := NB321_322.out; have hnc19 := NB322_321.out; obtain ⟨hcz20_0, hcz20_1, hcz20_2, hcz20_3, hcz20_4, hcz20_5, hcz20_6, hcz20_7, hcz20_8, hfz20_0, hfz20_1, hfz20_2, hfz20_3, hfz20_4, hfz20_5, hfz20_6, hfz20_7, hfz20_8⟩ := cf9 BK321.out) | ((with_reducible refine gate_callee (f := 13) rfl ?_); refine goesL_ (some 11) rfl rfl Try.func13 (by kernel_rfl) rfl #[.agg #[.slice A0_0 l0_0.length c0_0, .int .i64 a0_1, .int .i64 a0_2, .int .i64 a0_3, .slice A0_4 l0_4.length c0_4, .bool a0_5, .slice A0_6 l0_6.length c0_6, .slice A0_7 l0_7.length c0_7, .slice A0_8 l0_8.length c0_8], .int .i64 1048576] rfl ga ?_; (with_reducible refine (laws_szBook.calls k _ _ l0_0 a0_1 a0_2 a0_3 _ _ l0_4 a0_5 _ _ l0_6 _ _ l0_7 _ _ l0_8 1048576 t323 _ ?side1 ?side2 ?side3 ?side4 ?side5 ?side6 ?side7 ?side8 ?side9 ?side10 A3.out).mono ?_); (case side1 => exact ck (Kd.C_below HR0_0.out HB.out)); (case side2 => exact HC0_0.out); (case side3 => exact ck (Kd.C_below HR0_4.out HB.out)); (case side4 => exact HC0_4.out); (case side5 => exact ck (Kd.C_below HR0_6.out HB.out)); (case side6 => exact HC0_6.out); (case side7 => exact ck (Kd.C_below HR0_7.out HB.out)); (case side8 => exact HC0_7.out); (case side9 => exact ck (Kd.C_below HR0_8.out HB.out)); (case side10 => exact HC0_8.out); rintro e w21 ⟨rfl, hb⟩; refine ⟨_, rfl, ?_⟩; replace BK321 := Aside0.mk (bb BK321.out hb); replace BK322 := Aside0.mk (bb BK322.out hb); replace HB := Aside0.mk (below_step bel hb); (try clear hb)))
      replace BK321 := Aside0.mk (blk_drew BK321.out)
      replace BK322 := Aside0.mk (blk_drew BK322.out)
      replace HB := Aside0.mk (below_drew1 HB.out)
      refine start_ (n := 6) (S := fun w' => w'.cell? ⟨gb321, 0, none⟩ = some (.slice A0_0 l0_0.length c0_0) ∧ w'.cell? ⟨gb321, 1, none⟩ = some (.int .i64 a0_1) ∧ w'.cell? ⟨gb321, 2, none⟩ = some (.int .i64 a0_2) ∧ w'.cell? ⟨gb321, 3, none⟩ = some (.int .i64 a0_3) ∧ w'.cell? ⟨gb321, 4, none⟩ = some (.slice A0_4 l0_4.length c0_4) ∧ w'.cell? ⟨gb321, 5, none⟩ = some (.bool a0_5) ∧ w'.cell? ⟨gb321, 6, none⟩ = some (.slice A0_6 l0_6.length c0_6) ∧ w'.cell? ⟨gb321, 7, none⟩ = some (.slice A0_7 l0_7.length c0_7) ∧ w'.cell? ⟨gb321, 8, none⟩ = some (.slice A0_8 l0_8.length c0_8) ∧ w'.cell? ⟨gb322, 0, none⟩ = some (.int .i64 a1_0) ∧ w'.cell? ⟨gb322, 1, none⟩ = some (.int .i64 a1_1) ∧ w'.cell? ⟨gb322, 2, none⟩ = some (.bool a1_2)) (ds := []) #[false, false, false, false, false, false] (by kernel_rfl) rfl rfl ⟨(blk_cell BK321.out 0).trans rfl, (blk_cell BK321.out 1).trans rfl, (blk_cell BK321.out 2).trans rfl, (blk_cell BK321.out 3).trans rfl, (blk_cell BK321.out 4).trans rfl, (blk_cell BK321.out 5).trans rfl, (blk_cell BK321.out 6).trans rfl, (blk_cell BK321.out 7).trans rfl, (blk_cell BK321.out 8).trans rfl, (blk_cell BK322.out 0).trans rfl, (blk_cell BK322.out 1).trans rfl, (blk_cell BK322.out 2).trans rfl⟩ (fun hHeld => ?_)
      generalize w21.drew = w22 at BK321 BK322 HB hHeld ⊢
      refine take_ (i := 0) (N := some 14) (v := ?_) (a' := ?_) #[true, false, false, false, false, false] rfl rfl (by kernel_rfl) (fun _ _ _ h => h) (Or.inl ⟨by rfl, ?_⟩) hHeld ?_ ?_
      rotate_left
      · rintro w' ⟨s0, s1, s2, s3, s4, s5, s6, s7, s8, s9, s10, s11⟩
        go_simp
        with_reducible rfl
      rotate_left
      · simp only [Act.put, List.setIfInBounds_toArray, List.set_cons_zero, List.set_cons_succ, i64_w, i32_w]
        rfl
      refine take_ (i := 2) (N := some 16) (v := ?_) (a' := ?_) #[true, false, true, false, false, false] rfl rfl (by kernel_rfl) (fun _ _ _ h => h) (Or.inl ⟨by rfl, ?_⟩) hHeld ?_ ?_
      rotate_left
      · rintro w' ⟨s0, s1, s2, s3, s4, s5, s6, s7, s8, s9, s10, s11⟩
        go_simp
        with_reducible rfl
      rotate_left
      · simp only [Act.put, List.setIfInBounds_toArray, List.set_cons_zero, List.set_cons_succ, i64_w, i32_w]
        rfl
      refine one_ (i := 1) (N := some 15) #[true, true, true, false, false, false] rfl rfl (by kernel_rfl) (by decide) (fun K hK => ?_)
      refine goes_ Try.func15 (by kernel_rfl) rfl #[.agg #[.slice A0_0 l0_0.length c0_0, .int .i64 a0_1, .int .i64 a0_2, .int .i64 a0_3, .slice A0_4 l0_4.length c0_4, .bool a0_5, .slice A0_6 l0_6.length c0_6, .slice A0_7 l0_7.length c0_7, .slice A0_8 l0_8.length c0_8]] (by rfl) rfl rfl ga ?_
      with_reducible refine (laws_toBook.calls k _ _ l0_0 a0_1 a0_2 a0_3 _ _ l0_4 a0_5 _ _ l0_6 _ _ l0_7 _ _ l0_8 t324 t327 t328 t329 t330 t333 t334 t337 t340 _ ?side1 ?side2 ?side3 ?side4 ?side5 ?side6 ?side7 ?side8 ?side9 ?side10 A10.out).mono ?_
      (case side1 => exact ck (Kd.C_below HR0_0.out HB.out))
      (case side2 => exact HC0_0.out)
      (case side3 => exact ck (Kd.C_below HR0_4.out HB.out))
      (case side4 => exact HC0_4.out)
      (case side5 => exact ck (Kd.C_below HR0_6.out HB.out))
      (case side6 => exact HC0_6.out)
      (case side7 => exact ck (Kd.C_below HR0_7.out HB.out))
      (case side8 => exact HC0_7.out)
      (case side9 => exact ck (Kd.C_below HR0_8.out HB.out))
      (case side10 => exact HC0_8.out)
      rintro e w23 ⟨v325, v331, v335, v338, v341, rfl, ho0, ho1, ho2, ho3, ho4, hb⟩
      refine ⟨_, rfl, ?_⟩
      have HO326 := Aside0.mk (Kd.R_lower ho0 (below_size bel))
      have HO332 := Aside0.mk (Kd.R_lower ho1 (below_size bel))
      have HO336 := Aside0.mk (Kd.R_lower ho2 (below_size bel))
      have HO339 := Aside0.mk (Kd.R_lower ho3 (below_size bel))
      have HO342 := Aside0.mk (Kd.R_lower ho4 (below_size bel))
      replace BK321 := Aside0.mk (bb BK321.out hb)
      replace BK322 := Aside0.mk (bb BK322.out hb)
      replace HB := Aside0.mk (below_step bel hb)
      (try clear hb)
      (try clear hb2)
      (try clear hk)
      (try clear hi)
      (try clear ho0)
      (try clear ho1)
      (try clear ho2)
      (try clear ho3)
      (try clear ho4)
      refine hK.out _ _ ⟨(blk_cell BK321.out 0).trans rfl, (blk_cell BK321.out 1).trans rfl, (blk_cell BK321.out 2).trans rfl, (blk_cell BK321.out 3).trans rfl, (blk_cell BK321.out 4).trans rfl, (blk_cell BK321.out 5).trans rfl, (blk_cell BK321.out 6).trans rfl, (blk_cell BK321.out 7).trans rfl, (blk_cell BK321.out 8).trans rfl, (blk_cell BK322.out 0).trans rfl, (blk_cell BK322.out 1).trans rfl, (blk_cell BK322.out 2).trans rfl⟩ (fun hHeld => ?_)
      clear hK K
      refine norm_ (a' := ?_) ?_ ?_
      rotate_left
      · show Act.put _ (some 15) _ = _
        simp only [Act.put, List.setIfInBounds_toArray, List.set_cons_zero, List.set_cons_succ, i64_w, i32_w]
        rfl
      refine one_ (i := 3) (N := some 17) #[true, true, true, true, false, false] rfl rfl (by kernel_rfl) (by decide) (fun K hK => ?_)
      refine goes_ Try.func16 (by kernel_rfl) rfl #[.agg #[.int .i64 a1_0, .int .i64 a1_1, .bool a1_2]] (by rfl) rfl rfl ga ?_
      with_reducible refine (laws_toProtest.calls a1_0 a1_1 a1_2 t343 t344 t345 _ A11.out).mono ?_
      rintro e w24 ⟨rfl, hb⟩
      refine ⟨_, rfl, ?_⟩
      replace HO326 := Aside0.mk (Kd.R_below (rk HO326.out) hb)
      replace HO332 := Aside0.mk (Kd.R_below (rk HO332.out) hb)
      replace HO336 := Aside0.mk (Kd.R_below (rk HO336.out) hb)
      replace HO339 := Aside0.mk (Kd.R_below (rk HO339.out) hb)
      replace HO342 := Aside0.mk (Kd.R_below (rk HO342.out) hb)
      replace BK321 := Aside0.mk (bb BK321.out hb)
      replace BK322 := Aside0.mk (bb BK322.out hb)
      replace HB := Aside0.mk (below_step bel hb)
      (try clear hb)
      (try clear hb2)
      (try clear hk)
      (try clear hi)
      obtain ⟨Ao25, co25, eo25⟩ := Kd.R_slice HO326.out
      (first | subst eo25 | (injection eo25 with f1_ f2_ f3_; have f4_ := f1_.symm; have f5_ := f3_.symm; clear f1_ f2_ f3_; subst f4_; subst f5_))
      obtain ⟨Ao26, co26, eo26⟩ := Kd.R_slice HO332.out
      (first | subst eo26 | (injection eo26 with f1_ f2_ f3_; have f4_ := f1_.symm; have f5_ := f3_.symm; clear f1_ f2_ f3_; subst f4_; subst f5_))
      obtain ⟨Ao27, co27, eo27⟩ := Kd.R_slice HO336.out
      (first | subst eo27 | (injection eo27 with f1_ f2_ f3_; have f4_ := f1_.symm; have f5_ := f3_.symm; clear f1_ f2_ f3_; subst f4_; subst f5_))
      obtain ⟨Ao28, co28, eo28⟩ := Kd.R_slice HO339.out
      (first | subst eo28 | (injection eo28 with f1_ f2_ f3_; have f4_ := f1_.symm; have f5_ := f3_.symm; clear f1_ f2_ f3_; subst f4_; subst f5_))
      obtain ⟨Ao29, co29, eo29⟩ := Kd.R_slice HO342.out
      (first | subst eo29 | (injection eo29 with f1_ f2_ f3_; have f4_ := f1_.symm; have f5_ := f3_.symm; clear f1_ f2_ f3_; subst f4_; subst f5_))
      refine hK.out _ _ ⟨(blk_cell BK321.out 0).trans rfl, (blk_cell BK321.out 1).trans rfl, (blk_cell BK321.out 2).trans rfl, (blk_cell BK321.out 3).trans rfl, (blk_cell BK321.out 4).trans rfl, (blk_cell BK321.out 5).trans rfl, (blk_cell BK321.out 6).trans rfl, (blk_cell BK321.out 7).trans rfl, (blk_cell BK321.out 8).trans rfl, (blk_cell BK322.out 0).trans rfl, (blk_cell BK322.out 1).trans rfl, (blk_cell BK322.out 2).trans rfl⟩ (fun hHeld => ?_)
      clear hK K
      refine norm_ (a' := ?_) ?_ ?_
      rotate_left
      · show Act.put _ (some 17) _ = _
        simp only [Act.put, List.setIfInBounds_toArray, List.set_cons_zero, List.set_cons_succ, i64_w, i32_w]
        rfl
      refine one_ (i := 4) (N := some 18) #[true, true, true, true, true, false] rfl rfl (by kernel_rfl) (by decide) (fun K hK => ?_)
      refine goes_ Try.func14 (by kernel_rfl) rfl #[.agg #[.slice Ao25 t324.length co25, .int .i64 t327, .int .i64 t328, .int .i64 t329, .slice Ao26 t330.length co26, .bool t333, .slice Ao27 t334.length co27, .slice Ao28 t337.length co28, .slice Ao29 t340.length co29], .agg #[.int .i64 t343, .int .i64 t344, .bool t345]] (by rfl) rfl rfl ga ?_
      with_reducible refine (spec_ProtestOk.calls k _ _ t324 t327 t328 t329 _ _ t330 t333 _ _ t334 _ _ t337 _ _ t340 t343 t344 t345 t346 _ ?side1 ?side2 ?side3 ?side4 ?side5 ?side6 ?side7 ?side8 ?side9 ?side10 A12.out).mono ?_
      (case side1 => exact ck (Kd.R_reads' HO326.out).2.2)
      (case side2 => exact (Kd.R_reads' HO326.out).2.1)
      (case side3 => exact ck (Kd.R_reads' HO332.out).2.2)
      (case side4 => exact (Kd.R_reads' HO332.out).2.1)
      (case side5 => exact ck (Kd.R_reads' HO336.out).2.2)
      (case side6 => exact (Kd.R_reads' HO336.out).2.1)
      (case side7 => exact ck (Kd.R_reads' HO339.out).2.2)
      (case side8 => exact (Kd.R_reads' HO339.out).2.1)
      (case side9 => exact ck (Kd.R_reads' HO342.out).2.2)
      (case side10 => exact (Kd.R_reads' HO342.out).2.1)
      rintro e w30 ⟨rfl, hb⟩
      refine ⟨_, rfl, ?_⟩
      replace HO326 := Aside0.mk (Kd.R_below (rk HO326.out) hb)
      replace HO332 := Aside0.mk (Kd.R_below (rk HO332.out) hb)
      replace HO336 := Aside0.mk (Kd.R_below (rk HO336.out) hb)
      replace HO339 := Aside0.mk (Kd.R_below (rk HO339.out) hb)
      replace HO342 := Aside0.mk (Kd.R_below (rk HO342.out) hb)
      replace BK321 := Aside0.mk (bb BK321.out hb)
      replace BK322 := Aside0.mk (bb BK322.out hb)
      replace HB := Aside0.mk (below_step bel hb)
      (try clear hb)
      (try clear hb2)
      (try clear hk)
      (try clear hi)
      refine hK.out _ _ ⟨(blk_cell BK321.out 0).trans rfl, (blk_cell BK321.out 1).trans rfl, (blk_cell BK321.out 2).trans rfl, (blk_cell BK321.out 3).trans rfl, (blk_cell BK321.out 4).trans rfl, (blk_cell BK321.out 5).trans rfl, (blk_cell BK321.out 6).trans rfl, (blk_cell BK321.out 7).trans rfl, (blk_cell BK321.out 8).trans rfl, (blk_cell BK322.out 0).trans rfl, (blk_cell BK322.out 1).trans rfl, (blk_cell BK322.out 2).trans rfl⟩ (fun hHeld => ?_)
      clear hK K
      refine norm_ (a' := ?_) ?_ ?_
      rotate_left
      · show Act.put _ (some 18) _ = _
        simp only [Act.put, List.setIfInBounds_toArray, List.set_cons_zero, List.set_cons_succ, i64_w, i32_w]
        rfl
      refine pure_ (i := 5) (N := some 6) (v := ?_) (a' := ?_) #[true, true, true, true, true, true] rfl rfl (by kernel_rfl) (fun _ _ _ h => h) (Or.inl ⟨by rfl, ?_⟩) ?_ ?_
      rotate_left
      · intro w'
        go_simp
        with_reducible rfl
      rotate_left
      · simp only [Act.put, List.setIfInBounds_toArray, List.set_cons_zero, List.set_cons_succ, i64_w, i32_w]
        rfl
      refine done_ (by kernel_rfl) ?_
      obtain ⟨hcz31_0, hcz31_1, hcz31_2, hcz31_3, hcz31_4, hcz31_5, hcz31_6, hcz31_7, hcz31_8, hfz31_0, hfz31_1, hfz31_2, hfz31_3, hfz31_4, hfz31_5, hfz31_6, hfz31_7, hfz31_8⟩ := cf9 BK321.out
      try go_wp2_with (first | ((with_reducible refine gate_callee (f := 15) rfl ?_); refine goesL_ (some 20) rfl rfl Try.func15 (by kernel_rfl) rfl #[.agg #[.slice A0_0 l0_0.length c0_0, .int .i64 a0_1, .int .i64 a0_2, .int .i64 a0_3, .slice A0_4 l0_4.length c0_4, .bool a0_5, .slice A0_6 l0_6.length c0_6, .slice A0_7 l0_7.length c0_7, .slice A0_8 l0_8.length c0_8]] rfl ga ?_; (with_reducible refine (laws_toBook.calls k _ _ l0_0 a0_1 a0_2 a0_3 _ _ l0_4 a0_5 _ _ l0_6 _ _ l0_7 _ _ l0_8 t347 t350 t351 t352 t353 t356 t357 t360 t363 _ ?side1 ?side2 ?side3 ?side4 ?side5 ?side6 ?side7 ?side8 ?side9 ?side10 A13.out).mono ?_); (case side1 => exact ck (Kd.C_below HR0_0.out HB.out)); (case side2 => exact HC0_0.out); (case side3 => exact ck (Kd.C_below HR0_4.out HB.out)); (case side4 => exact HC0_4.out); (case side5 => exact ck (Kd.C_below HR0_6.out HB.out)); (case side6 => exact HC0_6.out); (case side7 => exact ck (Kd.C_below HR0_7.out HB.out)); (case side8 => exact HC0_7.out); (case side9 => exact ck (Kd.C_below HR0_8.out HB.out)); (case side10 => exact HC0_8.out); rintro e w32 ⟨v348, v354, v358, v361, v364, rfl, ho0, ho1, ho2, ho3, ho4, hb⟩; refine ⟨_, rfl, ?_⟩; have HO349 := Aside0.mk (Kd.R_lower (Kd.R_new' ho0 (Kd.R_lt (rk HO326.out))) (below_size bel)); have HO355 := Aside0.mk (Kd.R_lower (Kd.R_new' (Kd.R_new' (Kd.R_new' ho1 (Kd.R_lt (rk HO332.out))) (Kd.R_lt (rk HO339.out))) (Kd.R_lt (rk HO342.out))) (below_size bel)); have HO359 := Aside0.mk (Kd.R_lower (Kd.R_new' ho2 (Kd.R_lt (rk HO336.out))) (below_size bel)); have HO362 := Aside0.mk (Kd.R_lower (Kd.R_new' (Kd.R_new' (Kd.R_new' ho3 (Kd.R_lt (rk HO332.out))) (Kd.R_lt (rk HO339.out))) (Kd.R_lt (rk HO342.out))) (below_size bel)); have HO365 := Aside0.mk (Kd.R_lower (Kd.R_new' (Kd.R_new' (Kd.R_new' ho4 (Kd.R_lt (rk HO332.out))) (Kd.R_lt (rk HO339.out))) (Kd.R_lt (rk HO342.out))) (below_size bel)); replace HO326 := Aside0.mk (Kd.R_elder' (rk HO326.out) (Kd.R_base ho0) hb); replace HO332 := Aside0.mk (Kd.R_mono (Kd.R_told (Kd.R_told (Kd.R_told (Kd.R_old (rk HO332.out) hb) (Kd.R_base ho1)) (Kd.R_base ho3)) (Kd.R_base ho4)) (fun _ h_ => h_.1)); replace HO336 := Aside0.mk (Kd.R_elder' (rk HO336.out) (Kd.R_base ho2) hb); replace HO339 := Aside0.mk (Kd.R_mono (Kd.R_told (Kd.R_told (Kd.R_told (Kd.R_old (rk HO339.out) hb) (Kd.R_base ho1)) (Kd.R_base ho3)) (Kd.R_base ho4)) (fun _ h_ => h_.1)); replace HO342 := Aside0.mk (Kd.R_mono (Kd.R_told (Kd.R_told (Kd.R_told (Kd.R_old (rk HO342.out) hb) (Kd.R_base ho1)) (Kd.R_base ho3)) (Kd.R_base ho4)) (fun _ h_ => h_.1)); replace BK321 := Aside0.mk (bb BK321.out hb); replace BK322 := Aside0.mk (bb BK322.out hb); replace HB := Aside0.mk (below_step bel hb); (try clear hb); (try clear ho0); (try clear ho1); (try clear ho2); (try clear ho3); (try clear ho4)) | ((with_reducible refine gate_dst (N := 7) rfl ?_); refine box_event ?hg (N := 7) ?hd (cs := #[.slice none 0 0, .int .i64 0, .int .i64 0, .int .i64 0, .slice none 0 0, .bool false, .slice none 0 0, .slice none 0 0, .slice none 0 0]) (t := 37) ?hr ?_; (case hd => rfl); (case hg => rfl); (case hr => first | (go_simp; done) | (go_simp; rfl)); intro gb366 hg w33 hbox hb; have BK366 := Aside0.mk (hbox); have GW366 := Aside0.mk ((bsz hg : w.heap.size ≤ gb366)); have GE366 := Aside0.mk ((bsz hg : w.heap.size ≤ gb366)); have NB321_366 := Aside0.mk ((nlt hg BK321.out : gb321 ≠ gb366)); have NB366_321 := Aside0.mk ((ngt hg BK321.out : gb366 ≠ gb321)); have NB322_366 := Aside0.mk ((nlt hg BK322.out : gb322 ≠ gb366)); have NB366_322 := Aside0.mk ((ngt hg BK322.out : gb366 ≠ gb322)); replace HO326 := Aside0.mk (Kd.R_below (rk HO326.out) hb); replace HO332 := Aside0.mk (Kd.R_below (rk HO332.out) hb); replace HO336 := Aside0.mk (Kd.R_below (rk HO336.out) hb); replace HO339 := Aside0.mk (Kd.R_below (rk HO339.out) hb); replace HO342 := Aside0.mk (Kd.R_below (rk HO342.out) hb); replace HO349 := Aside0.mk (Kd.R_below (rk HO349.out) hb); replace HO355 := Aside0.mk (Kd.R_below (rk HO355.out) hb); replace HO359 := Aside0.mk (Kd.R_below (rk HO359.out) hb); replace HO362 := Aside0.mk (Kd.R_below (rk HO362.out) hb); replace HO365 := Aside0.mk (Kd.R_below (rk HO365.out) hb); replace BK321 := Aside0.mk (bb BK321.out hb); replace BK322 := Aside0.mk (bb BK322.out hb); replace HB := Aside0.mk (below_step bel hb); clear hb hbox hg; obtain ⟨Ao34, co34, eo34⟩ := Kd.R_slice HO349.out; subst eo34; have hnb35 := NB366_321.out; have hnc35 := NB321_366.out; have hnb36 := NB366_322.out; have hnc36 := NB322_366.out; obtain ⟨hcz37_0, hcz37_1, hcz37_2, hcz37_3, hcz37_4, hcz37_5, hcz37_6, hcz37_7, hcz37_8, hfz37_0, hfz37_1, hfz37_2, hfz37_3, hfz37_4, hfz37_5, hfz37_6, hfz37_7, hfz37_8⟩ := cf9 BK366.out; obtain ⟨Ao38, co38, eo38⟩ := Kd.R_slice HO355.out; subst eo38; obtain ⟨Ao39, co39, eo39⟩ := Kd.R_slice HO359.out; subst eo39; obtain ⟨Ao40, co40, eo40⟩ := Kd.R_slice HO362.out; subst eo40; obtain ⟨Ao41, co41, eo41⟩ := Kd.R_slice HO365.out; subst eo41))
      have n0_ : Aside0 (Kd.R k101 101 (((((((((w33.setCell ⟨gb366, 0, none⟩ (.slice Ao34 t347.length co34)).setCell ⟨gb366, 1, none⟩ (.int .i64 t350)).setCell ⟨gb366, 2, none⟩ (.int .i64 t351)).setCell ⟨gb366, 3, none⟩ (.int .i64 t352)).setCell ⟨gb366, 4, none⟩ (.slice Ao38 t353.length co38)).setCell ⟨gb366, 5, none⟩ (.bool t356)).setCell ⟨gb366, 6, none⟩ (.slice Ao39 t357.length co39)).setCell ⟨gb366, 7, none⟩ (.slice Ao40 t360.length co40)).setCell ⟨gb366, 8, none⟩ (.slice Ao41 t363.length co41)) w.heap.size (fun k_ => some k_ ≠ (.slice Ao34 t347.length co34 : Value).ownBlock) (.slice Ao25 t324.length co25) t324) := ⟨by (with_reducible repeat (first | apply Kd.R_alloc | apply Kd.R_drewN | apply Kd.R_drew)); exact Kd.R_mono (Kd.R_far (p := ⟨gb366, 8, none⟩) (Kd.R_far (p := ⟨gb366, 7, none⟩) (Kd.R_far (p := ⟨gb366, 6, none⟩) (Kd.R_far (p := ⟨gb366, 5, none⟩) (Kd.R_far (p := ⟨gb366, 4, none⟩) (Kd.R_far (p := ⟨gb366, 3, none⟩) (Kd.R_far (p := ⟨gb366, 2, none⟩) (Kd.R_far (p := ⟨gb366, 1, none⟩) (Kd.R_far (p := ⟨gb366, 0, none⟩) (Kd.R_types HO326.out BK366.out (by decide)) (fun _ hk => hk.2) (.slice Ao34 t347.length co34)) (fun _ hk => hk.2) (.int .i64 t350)) (fun _ hk => hk.2) (.int .i64 t351)) (fun _ hk => hk.2) (.int .i64 t352)) (fun _ hk => hk.2) (.slice Ao38 t353.length co38)) (fun _ hk => hk.2) (.bool t356)) (fun _ hk => hk.2) (.slice Ao39 t357.length co39)) (fun _ hk => hk.2) (.slice Ao40 t360.length co40)) (fun _ hk => hk.2) (.slice Ao41 t363.length co41)) (fun _ hk => hk.1.2)⟩
      have n1_ : Aside0 (Kd.R (Kd.int .i64) 3 (((((((((w33.setCell ⟨gb366, 0, none⟩ (.slice Ao34 t347.length co34)).setCell ⟨gb366, 1, none⟩ (.int .i64 t350)).setCell ⟨gb366, 2, none⟩ (.int .i64 t351)).setCell ⟨gb366, 3, none⟩ (.int .i64 t352)).setCell ⟨gb366, 4, none⟩ (.slice Ao38 t353.length co38)).setCell ⟨gb366, 5, none⟩ (.bool t356)).setCell ⟨gb366, 6, none⟩ (.slice Ao39 t357.length co39)).setCell ⟨gb366, 7, none⟩ (.slice Ao40 t360.length co40)).setCell ⟨gb366, 8, none⟩ (.slice Ao41 t363.length co41)) w.heap.size (fun k_ => some k_ ≠ (.slice Ao28 t337.length co28 : Value).ownBlock ∧ some k_ ≠ (.slice Ao29 t340.length co29 : Value).ownBlock ∧ some k_ ≠ (.slice Ao38 t353.length co38 : Value).ownBlock ∧ some k_ ≠ (.slice Ao40 t360.length co40 : Value).ownBlock ∧ some k_ ≠ (.slice Ao41 t363.length co41 : Value).ownBlock) (.slice Ao26 t330.length co26) t330) := ⟨by (with_reducible repeat (first | apply Kd.R_alloc | apply Kd.R_drewN | apply Kd.R_drew)); exact Kd.R_mono (Kd.R_far (p := ⟨gb366, 8, none⟩) (Kd.R_far (p := ⟨gb366, 7, none⟩) (Kd.R_far (p := ⟨gb366, 6, none⟩) (Kd.R_far (p := ⟨gb366, 5, none⟩) (Kd.R_far (p := ⟨gb366, 4, none⟩) (Kd.R_far (p := ⟨gb366, 3, none⟩) (Kd.R_far (p := ⟨gb366, 2, none⟩) (Kd.R_far (p := ⟨gb366, 1, none⟩) (Kd.R_far (p := ⟨gb366, 0, none⟩) (Kd.R_types HO332.out BK366.out (by decide)) (fun _ hk => hk.2) (.slice Ao34 t347.length co34)) (fun _ hk => hk.2) (.int .i64 t350)) (fun _ hk => hk.2) (.int .i64 t351)) (fun _ hk => hk.2) (.int .i64 t352)) (fun _ hk => hk.2) (.slice Ao38 t353.length co38)) (fun _ hk => hk.2) (.bool t356)) (fun _ hk => hk.2) (.slice Ao39 t357.length co39)) (fun _ hk => hk.2) (.slice Ao40 t360.length co40)) (fun _ hk => hk.2) (.slice Ao41 t363.length co41)) (fun _ hk => ⟨hk.1.1.1.1.1, ⟨hk.1.1.1.1.2, ⟨hk.1.1.1.2, ⟨hk.1.1.2, hk.1.2⟩⟩⟩⟩)⟩
      have n2_ : Aside0 (Kd.R k71 71 (((((((((w33.setCell ⟨gb366, 0, none⟩ (.slice Ao34 t347.length co34)).setCell ⟨gb366, 1, none⟩ (.int .i64 t350)).setCell ⟨gb366, 2, none⟩ (.int .i64 t351)).setCell ⟨gb366, 3, none⟩ (.int .i64 t352)).setCell ⟨gb366, 4, none⟩ (.slice Ao38 t353.length co38)).setCell ⟨gb366, 5, none⟩ (.bool t356)).setCell ⟨gb366, 6, none⟩ (.slice Ao39 t357.length co39)).setCell ⟨gb366, 7, none⟩ (.slice Ao40 t360.length co40)).setCell ⟨gb366, 8, none⟩ (.slice Ao41 t363.length co41)) w.heap.size (fun k_ => some k_ ≠ (.slice Ao39 t357.length co39 : Value).ownBlock) (.slice Ao27 t334.length co27) t334) := ⟨by (with_reducible repeat (first | apply Kd.R_alloc | apply Kd.R_drewN | apply Kd.R_drew)); exact Kd.R_mono (Kd.R_far (p := ⟨gb366, 8, none⟩) (Kd.R_far (p := ⟨gb366, 7, none⟩) (Kd.R_far (p := ⟨gb366, 6, none⟩) (Kd.R_far (p := ⟨gb366, 5, none⟩) (Kd.R_far (p := ⟨gb366, 4, none⟩) (Kd.R_far (p := ⟨gb366, 3, none⟩) (Kd.R_far (p := ⟨gb366, 2, none⟩) (Kd.R_far (p := ⟨gb366, 1, none⟩) (Kd.R_far (p := ⟨gb366, 0, none⟩) (Kd.R_types HO336.out BK366.out (by decide)) (fun _ hk => hk.2) (.slice Ao34 t347.length co34)) (fun _ hk => hk.2) (.int .i64 t350)) (fun _ hk => hk.2) (.int .i64 t351)) (fun _ hk => hk.2) (.int .i64 t352)) (fun _ hk => hk.2) (.slice Ao38 t353.length co38)) (fun _ hk => hk.2) (.bool t356)) (fun _ hk => hk.2) (.slice Ao39 t357.length co39)) (fun _ hk => hk.2) (.slice Ao40 t360.length co40)) (fun _ hk => hk.2) (.slice Ao41 t363.length co41)) (fun _ hk => hk.1.2)⟩
      have n3_ : Aside0 (Kd.R (Kd.int .i64) 3 (((((((((w33.setCell ⟨gb366, 0, none⟩ (.slice Ao34 t347.length co34)).setCell ⟨gb366, 1, none⟩ (.int .i64 t350)).setCell ⟨gb366, 2, none⟩ (.int .i64 t351)).setCell ⟨gb366, 3, none⟩ (.int .i64 t352)).setCell ⟨gb366, 4, none⟩ (.slice Ao38 t353.length co38)).setCell ⟨gb366, 5, none⟩ (.bool t356)).setCell ⟨gb366, 6, none⟩ (.slice Ao39 t357.length co39)).setCell ⟨gb366, 7, none⟩ (.slice Ao40 t360.length co40)).setCell ⟨gb366, 8, none⟩ (.slice Ao41 t363.length co41)) w.heap.size (fun k_ => some k_ ≠ (.slice Ao26 t330.length co26 : Value).ownBlock ∧ some k_ ≠ (.slice Ao29 t340.length co29 : Value).ownBlock ∧ some k_ ≠ (.slice Ao38 t353.length co38 : Value).ownBlock ∧ some k_ ≠ (.slice Ao40 t360.length co40 : Value).ownBlock ∧ some k_ ≠ (.slice Ao41 t363.length co41 : Value).ownBlock) (.slice Ao28 t337.length co28) t337) := ⟨by (with_reducible repeat (first | apply Kd.R_alloc | apply Kd.R_drewN | apply Kd.R_drew)); exact Kd.R_mono (Kd.R_far (p := ⟨gb366, 8, none⟩) (Kd.R_far (p := ⟨gb366, 7, none⟩) (Kd.R_far (p := ⟨gb366, 6, none⟩) (Kd.R_far (p := ⟨gb366, 5, none⟩) (Kd.R_far (p := ⟨gb366, 4, none⟩) (Kd.R_far (p := ⟨gb366, 3, none⟩) (Kd.R_far (p := ⟨gb366, 2, none⟩) (Kd.R_far (p := ⟨gb366, 1, none⟩) (Kd.R_far (p := ⟨gb366, 0, none⟩) (Kd.R_types HO339.out BK366.out (by decide)) (fun _ hk => hk.2) (.slice Ao34 t347.length co34)) (fun _ hk => hk.2) (.int .i64 t350)) (fun _ hk => hk.2) (.int .i64 t351)) (fun _ hk => hk.2) (.int .i64 t352)) (fun _ hk => hk.2) (.slice Ao38 t353.length co38)) (fun _ hk => hk.2) (.bool t356)) (fun _ hk => hk.2) (.slice Ao39 t357.length co39)) (fun _ hk => hk.2) (.slice Ao40 t360.length co40)) (fun _ hk => hk.2) (.slice Ao41 t363.length co41)) (fun _ hk => ⟨hk.1.1.1.1.1, ⟨hk.1.1.1.1.2, ⟨hk.1.1.1.2, ⟨hk.1.1.2, hk.1.2⟩⟩⟩⟩)⟩
      have n4_ : Aside0 (Kd.R (Kd.int .i64) 3 (((((((((w33.setCell ⟨gb366, 0, none⟩ (.slice Ao34 t347.length co34)).setCell ⟨gb366, 1, none⟩ (.int .i64 t350)).setCell ⟨gb366, 2, none⟩ (.int .i64 t351)).setCell ⟨gb366, 3, none⟩ (.int .i64 t352)).setCell ⟨gb366, 4, none⟩ (.slice Ao38 t353.length co38)).setCell ⟨gb366, 5, none⟩ (.bool t356)).setCell ⟨gb366, 6, none⟩ (.slice Ao39 t357.length co39)).setCell ⟨gb366, 7, none⟩ (.slice Ao40 t360.length co40)).setCell ⟨gb366, 8, none⟩ (.slice Ao41 t363.length co41)) w.heap.size (fun k_ => some k_ ≠ (.slice Ao26 t330.length co26 : Value).ownBlock ∧ some k_ ≠ (.slice Ao28 t337.length co28 : Value).ownBlock ∧ some k_ ≠ (.slice Ao38 t353.length co38 : Value).ownBlock ∧ some k_ ≠ (.slice Ao40 t360.length co40 : Value).ownBlock ∧ some k_ ≠ (.slice Ao41 t363.length co41 : Value).ownBlock) (.slice Ao29 t340.length co29) t340) := ⟨by (with_reducible repeat (first | apply Kd.R_alloc | apply Kd.R_drewN | apply Kd.R_drew)); exact Kd.R_mono (Kd.R_far (p := ⟨gb366, 8, none⟩) (Kd.R_far (p := ⟨gb366, 7, none⟩) (Kd.R_far (p := ⟨gb366, 6, none⟩) (Kd.R_far (p := ⟨gb366, 5, none⟩) (Kd.R_far (p := ⟨gb366, 4, none⟩) (Kd.R_far (p := ⟨gb366, 3, none⟩) (Kd.R_far (p := ⟨gb366, 2, none⟩) (Kd.R_far (p := ⟨gb366, 1, none⟩) (Kd.R_far (p := ⟨gb366, 0, none⟩) (Kd.R_types HO342.out BK366.out (by decide)) (fun _ hk => hk.2) (.slice Ao34 t347.length co34)) (fun _ hk => hk.2) (.int .i64 t350)) (fun _ hk => hk.2) (.int .i64 t351)) (fun _ hk => hk.2) (.int .i64 t352)) (fun _ hk => hk.2) (.slice Ao38 t353.length co38)) (fun _ hk => hk.2) (.bool t356)) (fun _ hk => hk.2) (.slice Ao39 t357.length co39)) (fun _ hk => hk.2) (.slice Ao40 t360.length co40)) (fun _ hk => hk.2) (.slice Ao41 t363.length co41)) (fun _ hk => ⟨hk.1.1.1.1.1, ⟨hk.1.1.1.1.2, ⟨hk.1.1.1.2, ⟨hk.1.1.2, hk.1.2⟩⟩⟩⟩)⟩
      have n5_ : Aside0 (Kd.R k101 101 (((((((((w33.setCell ⟨gb366, 0, none⟩ (.slice Ao34 t347.length co34)).setCell ⟨gb366, 1, none⟩ (.int .i64 t350)).setCell ⟨gb366, 2, none⟩ (.int .i64 t351)).setCell ⟨gb366, 3, none⟩ (.int .i64 t352)).setCell ⟨gb366, 4, none⟩ (.slice Ao38 t353.length co38)).setCell ⟨gb366, 5, none⟩ (.bool t356)).setCell ⟨gb366, 6, none⟩ (.slice Ao39 t357.length co39)).setCell ⟨gb366, 7, none⟩ (.slice Ao40 t360.length co40)).setCell ⟨gb366, 8, none⟩ (.slice Ao41 t363.length co41)) w.heap.size (fun k_ => some k_ ≠ (.slice Ao25 t324.length co25 : Value).ownBlock) (.slice Ao34 t347.length co34) t347) := ⟨by (with_reducible repeat (first | apply Kd.R_alloc | apply Kd.R_drewN | apply Kd.R_drew)); exact Kd.R_mono (Kd.R_far (p := ⟨gb366, 8, none⟩) (Kd.R_far (p := ⟨gb366, 7, none⟩) (Kd.R_far (p := ⟨gb366, 6, none⟩) (Kd.R_far (p := ⟨gb366, 5, none⟩) (Kd.R_far (p := ⟨gb366, 4, none⟩) (Kd.R_far (p := ⟨gb366, 3, none⟩) (Kd.R_far (p := ⟨gb366, 2, none⟩) (Kd.R_far (p := ⟨gb366, 1, none⟩) (Kd.R_far (p := ⟨gb366, 0, none⟩) (Kd.R_types HO349.out BK366.out (by decide)) (fun _ hk => hk.2) (.slice Ao34 t347.length co34)) (fun _ hk => hk.2) (.int .i64 t350)) (fun _ hk => hk.2) (.int .i64 t351)) (fun _ hk => hk.2) (.int .i64 t352)) (fun _ hk => hk.2) (.slice Ao38 t353.length co38)) (fun _ hk => hk.2) (.bool t356)) (fun _ hk => hk.2) (.slice Ao39 t357.length co39)) (fun _ hk => hk.2) (.slice Ao40 t360.length co40)) (fun _ hk => hk.2) (.slice Ao41 t363.length co41)) (fun _ hk => hk.1.2)⟩
      have n6_ : Aside0 (Kd.R (Kd.int .i64) 3 (((((((((w33.setCell ⟨gb366, 0, none⟩ (.slice Ao34 t347.length co34)).setCell ⟨gb366, 1, none⟩ (.int .i64 t350)).setCell ⟨gb366, 2, none⟩ (.int .i64 t351)).setCell ⟨gb366, 3, none⟩ (.int .i64 t352)).setCell ⟨gb366, 4, none⟩ (.slice Ao38 t353.length co38)).setCell ⟨gb366, 5, none⟩ (.bool t356)).setCell ⟨gb366, 6, none⟩ (.slice Ao39 t357.length co39)).setCell ⟨gb366, 7, none⟩ (.slice Ao40 t360.length co40)).setCell ⟨gb366, 8, none⟩ (.slice Ao41 t363.length co41)) w.heap.size (fun k_ => some k_ ≠ (.slice Ao26 t330.length co26 : Value).ownBlock ∧ some k_ ≠ (.slice Ao28 t337.length co28 : Value).ownBlock ∧ some k_ ≠ (.slice Ao29 t340.length co29 : Value).ownBlock ∧ some k_ ≠ (.slice Ao40 t360.length co40 : Value).ownBlock ∧ some k_ ≠ (.slice Ao41 t363.length co41 : Value).ownBlock) (.slice Ao38 t353.length co38) t353) := ⟨by (with_reducible repeat (first | apply Kd.R_alloc | apply Kd.R_drewN | apply Kd.R_drew)); exact Kd.R_mono (Kd.R_far (p := ⟨gb366, 8, none⟩) (Kd.R_far (p := ⟨gb366, 7, none⟩) (Kd.R_far (p := ⟨gb366, 6, none⟩) (Kd.R_far (p := ⟨gb366, 5, none⟩) (Kd.R_far (p := ⟨gb366, 4, none⟩) (Kd.R_far (p := ⟨gb366, 3, none⟩) (Kd.R_far (p := ⟨gb366, 2, none⟩) (Kd.R_far (p := ⟨gb366, 1, none⟩) (Kd.R_far (p := ⟨gb366, 0, none⟩) (Kd.R_types HO355.out BK366.out (by decide)) (fun _ hk => hk.2) (.slice Ao34 t347.length co34)) (fun _ hk => hk.2) (.int .i64 t350)) (fun _ hk => hk.2) (.int .i64 t351)) (fun _ hk => hk.2) (.int .i64 t352)) (fun _ hk => hk.2) (.slice Ao38 t353.length co38)) (fun _ hk => hk.2) (.bool t356)) (fun _ hk => hk.2) (.slice Ao39 t357.length co39)) (fun _ hk => hk.2) (.slice Ao40 t360.length co40)) (fun _ hk => hk.2) (.slice Ao41 t363.length co41)) (fun _ hk => ⟨hk.1.1.1.2, ⟨hk.1.1.2, ⟨hk.1.2, ⟨hk.1.1.1.1.1, hk.1.1.1.1.2⟩⟩⟩⟩)⟩
      have n7_ : Aside0 (Kd.R k71 71 (((((((((w33.setCell ⟨gb366, 0, none⟩ (.slice Ao34 t347.length co34)).setCell ⟨gb366, 1, none⟩ (.int .i64 t350)).setCell ⟨gb366, 2, none⟩ (.int .i64 t351)).setCell ⟨gb366, 3, none⟩ (.int .i64 t352)).setCell ⟨gb366, 4, none⟩ (.slice Ao38 t353.length co38)).setCell ⟨gb366, 5, none⟩ (.bool t356)).setCell ⟨gb366, 6, none⟩ (.slice Ao39 t357.length co39)).setCell ⟨gb366, 7, none⟩ (.slice Ao40 t360.length co40)).setCell ⟨gb366, 8, none⟩ (.slice Ao41 t363.length co41)) w.heap.size (fun k_ => some k_ ≠ (.slice Ao27 t334.length co27 : Value).ownBlock) (.slice Ao39 t357.length co39) t357) := ⟨by (with_reducible repeat (first | apply Kd.R_alloc | apply Kd.R_drewN | apply Kd.R_drew)); exact Kd.R_mono (Kd.R_far (p := ⟨gb366, 8, none⟩) (Kd.R_far (p := ⟨gb366, 7, none⟩) (Kd.R_far (p := ⟨gb366, 6, none⟩) (Kd.R_far (p := ⟨gb366, 5, none⟩) (Kd.R_far (p := ⟨gb366, 4, none⟩) (Kd.R_far (p := ⟨gb366, 3, none⟩) (Kd.R_far (p := ⟨gb366, 2, none⟩) (Kd.R_far (p := ⟨gb366, 1, none⟩) (Kd.R_far (p := ⟨gb366, 0, none⟩) (Kd.R_types HO359.out BK366.out (by decide)) (fun _ hk => hk.2) (.slice Ao34 t347.length co34)) (fun _ hk => hk.2) (.int .i64 t350)) (fun _ hk => hk.2) (.int .i64 t351)) (fun _ hk => hk.2) (.int .i64 t352)) (fun _ hk => hk.2) (.slice Ao38 t353.length co38)) (fun _ hk => hk.2) (.bool t356)) (fun _ hk => hk.2) (.slice Ao39 t357.length co39)) (fun _ hk => hk.2) (.slice Ao40 t360.length co40)) (fun _ hk => hk.2) (.slice Ao41 t363.length co41)) (fun _ hk => hk.1.2)⟩
      have n8_ : Aside0 (Kd.R (Kd.int .i64) 3 (((((((((w33.setCell ⟨gb366, 0, none⟩ (.slice Ao34 t347.length co34)).setCell ⟨gb366, 1, none⟩ (.int .i64 t350)).setCell ⟨gb366, 2, none⟩ (.int .i64 t351)).setCell ⟨gb366, 3, none⟩ (.int .i64 t352)).setCell ⟨gb366, 4, none⟩ (.slice Ao38 t353.length co38)).setCell ⟨gb366, 5, none⟩ (.bool t356)).setCell ⟨gb366, 6, none⟩ (.slice Ao39 t357.length co39)).setCell ⟨gb366, 7, none⟩ (.slice Ao40 t360.length co40)).setCell ⟨gb366, 8, none⟩ (.slice Ao41 t363.length co41)) w.heap.size (fun k_ => some k_ ≠ (.slice Ao26 t330.length co26 : Value).ownBlock ∧ some k_ ≠ (.slice Ao28 t337.length co28 : Value).ownBlock ∧ some k_ ≠ (.slice Ao29 t340.length co29 : Value).ownBlock ∧ some k_ ≠ (.slice Ao38 t353.length co38 : Value).ownBlock ∧ some k_ ≠ (.slice Ao41 t363.length co41 : Value).ownBlock) (.slice Ao40 t360.length co40) t360) := ⟨by (with_reducible repeat (first | apply Kd.R_alloc | apply Kd.R_drewN | apply Kd.R_drew)); exact Kd.R_mono (Kd.R_far (p := ⟨gb366, 8, none⟩) (Kd.R_far (p := ⟨gb366, 7, none⟩) (Kd.R_far (p := ⟨gb366, 6, none⟩) (Kd.R_far (p := ⟨gb366, 5, none⟩) (Kd.R_far (p := ⟨gb366, 4, none⟩) (Kd.R_far (p := ⟨gb366, 3, none⟩) (Kd.R_far (p := ⟨gb366, 2, none⟩) (Kd.R_far (p := ⟨gb366, 1, none⟩) (Kd.R_far (p := ⟨gb366, 0, none⟩) (Kd.R_types HO362.out BK366.out (by decide)) (fun _ hk => hk.2) (.slice Ao34 t347.length co34)) (fun _ hk => hk.2) (.int .i64 t350)) (fun _ hk => hk.2) (.int .i64 t351)) (fun _ hk => hk.2) (.int .i64 t352)) (fun _ hk => hk.2) (.slice Ao38 t353.length co38)) (fun _ hk => hk.2) (.bool t356)) (fun _ hk => hk.2) (.slice Ao39 t357.length co39)) (fun _ hk => hk.2) (.slice Ao40 t360.length co40)) (fun _ hk => hk.2) (.slice Ao41 t363.length co41)) (fun _ hk => ⟨hk.1.1.1.2, ⟨hk.1.1.2, ⟨hk.1.2, ⟨hk.1.1.1.1.1, hk.1.1.1.1.2⟩⟩⟩⟩)⟩
      have n9_ : Aside0 (Kd.R (Kd.int .i64) 3 (((((((((w33.setCell ⟨gb366, 0, none⟩ (.slice Ao34 t347.length co34)).setCell ⟨gb366, 1, none⟩ (.int .i64 t350)).setCell ⟨gb366, 2, none⟩ (.int .i64 t351)).setCell ⟨gb366, 3, none⟩ (.int .i64 t352)).setCell ⟨gb366, 4, none⟩ (.slice Ao38 t353.length co38)).setCell ⟨gb366, 5, none⟩ (.bool t356)).setCell ⟨gb366, 6, none⟩ (.slice Ao39 t357.length co39)).setCell ⟨gb366, 7, none⟩ (.slice Ao40 t360.length co40)).setCell ⟨gb366, 8, none⟩ (.slice Ao41 t363.length co41)) w.heap.size (fun k_ => some k_ ≠ (.slice Ao26 t330.length co26 : Value).ownBlock ∧ some k_ ≠ (.slice Ao28 t337.length co28 : Value).ownBlock ∧ some k_ ≠ (.slice Ao29 t340.length co29 : Value).ownBlock ∧ some k_ ≠ (.slice Ao38 t353.length co38 : Value).ownBlock ∧ some k_ ≠ (.slice Ao40 t360.length co40 : Value).ownBlock) (.slice Ao41 t363.length co41) t363) := ⟨by (with_reducible repeat (first | apply Kd.R_alloc | apply Kd.R_drewN | apply Kd.R_drew)); exact Kd.R_mono (Kd.R_far (p := ⟨gb366, 8, none⟩) (Kd.R_far (p := ⟨gb366, 7, none⟩) (Kd.R_far (p := ⟨gb366, 6, none⟩) (Kd.R_far (p := ⟨gb366, 5, none⟩) (Kd.R_far (p := ⟨gb366, 4, none⟩) (Kd.R_far (p := ⟨gb366, 3, none⟩) (Kd.R_far (p := ⟨gb366, 2, none⟩) (Kd.R_far (p := ⟨gb366, 1, none⟩) (Kd.R_far (p := ⟨gb366, 0, none⟩) (Kd.R_types HO365.out BK366.out (by decide)) (fun _ hk => hk.2) (.slice Ao34 t347.length co34)) (fun _ hk => hk.2) (.int .i64 t350)) (fun _ hk => hk.2) (.int .i64 t351)) (fun _ hk => hk.2) (.int .i64 t352)) (fun _ hk => hk.2) (.slice Ao38 t353.length co38)) (fun _ hk => hk.2) (.bool t356)) (fun _ hk => hk.2) (.slice Ao39 t357.length co39)) (fun _ hk => hk.2) (.slice Ao40 t360.length co40)) (fun _ hk => hk.2) (.slice Ao41 t363.length co41)) (fun _ hk => ⟨hk.1.1.1.2, ⟨hk.1.1.2, ⟨hk.1.2, ⟨hk.1.1.1.1.1, hk.1.1.1.1.2⟩⟩⟩⟩)⟩
      have n10_ : Aside0 ((((((((((w33.setCell ⟨gb366, 0, none⟩ (.slice Ao34 t347.length co34)).setCell ⟨gb366, 1, none⟩ (.int .i64 t350)).setCell ⟨gb366, 2, none⟩ (.int .i64 t351)).setCell ⟨gb366, 3, none⟩ (.int .i64 t352)).setCell ⟨gb366, 4, none⟩ (.slice Ao38 t353.length co38)).setCell ⟨gb366, 5, none⟩ (.bool t356)).setCell ⟨gb366, 6, none⟩ (.slice Ao39 t357.length co39)).setCell ⟨gb366, 7, none⟩ (.slice Ao40 t360.length co40)).setCell ⟨gb366, 8, none⟩ (.slice Ao41 t363.length co41)).heap[gb321]? = some (.cells #[.slice A0_0 l0_0.length c0_0, .int .i64 a0_1, .int .i64 a0_2, .int .i64 a0_3, .slice A0_4 l0_4.length c0_4, .bool a0_5, .slice A0_6 l0_6.length c0_6, .slice A0_7 l0_7.length c0_7, .slice A0_8 l0_8.length c0_8] 28 (0, 0))) := ⟨bk BK321.out⟩
      have n11_ : Aside0 ((((((((((w33.setCell ⟨gb366, 0, none⟩ (.slice Ao34 t347.length co34)).setCell ⟨gb366, 1, none⟩ (.int .i64 t350)).setCell ⟨gb366, 2, none⟩ (.int .i64 t351)).setCell ⟨gb366, 3, none⟩ (.int .i64 t352)).setCell ⟨gb366, 4, none⟩ (.slice Ao38 t353.length co38)).setCell ⟨gb366, 5, none⟩ (.bool t356)).setCell ⟨gb366, 6, none⟩ (.slice Ao39 t357.length co39)).setCell ⟨gb366, 7, none⟩ (.slice Ao40 t360.length co40)).setCell ⟨gb366, 8, none⟩ (.slice Ao41 t363.length co41)).heap[gb322]? = some (.cells #[.int .i64 a1_0, .int .i64 a1_1, .bool a1_2] 30 (0, 0))) := ⟨bk BK322.out⟩
      have n12_ : Aside0 ((((((((((w33.setCell ⟨gb366, 0, none⟩ (.slice Ao34 t347.length co34)).setCell ⟨gb366, 1, none⟩ (.int .i64 t350)).setCell ⟨gb366, 2, none⟩ (.int .i64 t351)).setCell ⟨gb366, 3, none⟩ (.int .i64 t352)).setCell ⟨gb366, 4, none⟩ (.slice Ao38 t353.length co38)).setCell ⟨gb366, 5, none⟩ (.bool t356)).setCell ⟨gb366, 6, none⟩ (.slice Ao39 t357.length co39)).setCell ⟨gb366, 7, none⟩ (.slice Ao40 t360.length co40)).setCell ⟨gb366, 8, none⟩ (.slice Ao41 t363.length co41)).heap[gb366]? = some (.cells #[.slice Ao34 t347.length co34, .int .i64 t350, .int .i64 t351, .int .i64 t352, .slice Ao38 t353.length co38, .bool t356, .slice Ao39 t357.length co39, .slice Ao40 t360.length co40, .slice Ao41 t363.length co41] 37 (0, 0))) := ⟨by (with_reducible repeat (first | refine blk_drewN ?_ _ | refine blk_drew ?_ | refine blk_alloc ?_ _)); refine blk_put (cs := #[.slice Ao34 t347.length co34, .int .i64 t350, .int .i64 t351, .int .i64 t352, .slice Ao38 t353.length co38, .bool t356, .slice Ao39 t357.length co39, .slice Ao40 t360.length co40, .slice none 0 0]) ?_ 8 _ rfl; (with_reducible repeat (first | refine blk_drewN ?_ _ | refine blk_drew ?_ | refine blk_alloc ?_ _)); refine blk_put (cs := #[.slice Ao34 t347.length co34, .int .i64 t350, .int .i64 t351, .int .i64 t352, .slice Ao38 t353.length co38, .bool t356, .slice Ao39 t357.length co39, .slice none 0 0, .slice none 0 0]) ?_ 7 _ rfl; (with_reducible repeat (first | refine blk_drewN ?_ _ | refine blk_drew ?_ | refine blk_alloc ?_ _)); refine blk_put (cs := #[.slice Ao34 t347.length co34, .int .i64 t350, .int .i64 t351, .int .i64 t352, .slice Ao38 t353.length co38, .bool t356, .slice none 0 0, .slice none 0 0, .slice none 0 0]) ?_ 6 _ rfl; (with_reducible repeat (first | refine blk_drewN ?_ _ | refine blk_drew ?_ | refine blk_alloc ?_ _)); refine blk_put (cs := #[.slice Ao34 t347.length co34, .int .i64 t350, .int .i64 t351, .int .i64 t352, .slice Ao38 t353.length co38, .bool false, .slice none 0 0, .slice none 0 0, .slice none 0 0]) ?_ 5 _ rfl; (with_reducible repeat (first | refine blk_drewN ?_ _ | refine blk_drew ?_ | refine blk_alloc ?_ _)); refine blk_put (cs := #[.slice Ao34 t347.length co34, .int .i64 t350, .int .i64 t351, .int .i64 t352, .slice none 0 0, .bool false, .slice none 0 0, .slice none 0 0, .slice none 0 0]) ?_ 4 _ rfl; (with_reducible repeat (first | refine blk_drewN ?_ _ | refine blk_drew ?_ | refine blk_alloc ?_ _)); refine blk_put (cs := #[.slice Ao34 t347.length co34, .int .i64 t350, .int .i64 t351, .int .i64 0, .slice none 0 0, .bool false, .slice none 0 0, .slice none 0 0, .slice none 0 0]) ?_ 3 _ rfl; (with_reducible repeat (first | refine blk_drewN ?_ _ | refine blk_drew ?_ | refine blk_alloc ?_ _)); refine blk_put (cs := #[.slice Ao34 t347.length co34, .int .i64 t350, .int .i64 0, .int .i64 0, .slice none 0 0, .bool false, .slice none 0 0, .slice none 0 0, .slice none 0 0]) ?_ 2 _ rfl; (with_reducible repeat (first | refine blk_drewN ?_ _ | refine blk_drew ?_ | refine blk_alloc ?_ _)); refine blk_put (cs := #[.slice Ao34 t347.length co34, .int .i64 0, .int .i64 0, .int .i64 0, .slice none 0 0, .bool false, .slice none 0 0, .slice none 0 0, .slice none 0 0]) ?_ 1 _ rfl; (with_reducible repeat (first | refine blk_drewN ?_ _ | refine blk_drew ?_ | refine blk_alloc ?_ _)); refine blk_put (cs := #[.slice none 0 0, .int .i64 0, .int .i64 0, .int .i64 0, .slice none 0 0, .bool false, .slice none 0 0, .slice none 0 0, .slice none 0 0]) ?_ 0 _ rfl; (with_reducible repeat (first | refine blk_drewN ?_ _ | refine blk_drew ?_ | refine blk_alloc ?_ _)); exact BK366.out⟩
      have n13_ : Aside0 (Below w.heap.size w (((((((((w33.setCell ⟨gb366, 0, none⟩ (.slice Ao34 t347.length co34)).setCell ⟨gb366, 1, none⟩ (.int .i64 t350)).setCell ⟨gb366, 2, none⟩ (.int .i64 t351)).setCell ⟨gb366, 3, none⟩ (.int .i64 t352)).setCell ⟨gb366, 4, none⟩ (.slice Ao38 t353.length co38)).setCell ⟨gb366, 5, none⟩ (.bool t356)).setCell ⟨gb366, 6, none⟩ (.slice Ao39 t357.length co39)).setCell ⟨gb366, 7, none⟩ (.slice Ao40 t360.length co40)).setCell ⟨gb366, 8, none⟩ (.slice Ao41 t363.length co41))) := ⟨bel⟩
      (try clear HO326)
      (try clear HO332)
      (try clear HO336)
      (try clear HO339)
      (try clear HO342)
      (try clear HO349)
      (try clear HO355)
      (try clear HO359)
      (try clear HO362)
      (try clear HO365)
      (try clear BK321)
      (try clear BK322)
      (try clear BK366)
      (try clear HB)
      generalize (((((((((w33.setCell ⟨gb366, 0, none⟩ (.slice Ao34 t347.length co34)).setCell ⟨gb366, 1, none⟩ (.int .i64 t350)).setCell ⟨gb366, 2, none⟩ (.int .i64 t351)).setCell ⟨gb366, 3, none⟩ (.int .i64 t352)).setCell ⟨gb366, 4, none⟩ (.slice Ao38 t353.length co38)).setCell ⟨gb366, 5, none⟩ (.bool t356)).setCell ⟨gb366, 6, none⟩ (.slice Ao39 t357.length co39)).setCell ⟨gb366, 7, none⟩ (.slice Ao40 t360.length co40)).setCell ⟨gb366, 8, none⟩ (.slice Ao41 t363.length co41)) = w42 at n0_ n1_ n2_ n3_ n4_ n5_ n6_ n7_ n8_ n9_ n10_ n11_ n12_ n13_ ⊢
      have HO326 := n0_
      have HO332 := n1_
      have HO336 := n2_
      have HO339 := n3_
      have HO342 := n4_
      have HO349 := n5_
      have HO355 := n6_
      have HO359 := n7_
      have HO362 := n8_
      have HO365 := n9_
      have BK321 := n10_
      have BK322 := n11_
      have BK366 := n12_
      have HB := n13_
      clear n0_ n1_ n2_ n3_ n4_ n5_ n6_ n7_ n8_ n9_ n10_ n11_ n12_ n13_
      replace HO326 := Aside0.mk (Kd.R_drew HO326.out)
      replace HO332 := Aside0.mk (Kd.R_drew HO332.out)
      replace HO336 := Aside0.mk (Kd.R_drew HO336.out)
      replace HO339 := Aside0.mk (Kd.R_drew HO339.out)
      replace HO342 := Aside0.mk (Kd.R_drew HO342.out)
      replace HO349 := Aside0.mk (Kd.R_drew HO349.out)
      replace HO355 := Aside0.mk (Kd.R_drew HO355.out)
      replace HO359 := Aside0.mk (Kd.R_drew HO359.out)
      replace HO362 := Aside0.mk (Kd.R_drew HO362.out)
      replace HO365 := Aside0.mk (Kd.R_drew HO365.out)
      replace BK321 := Aside0.mk (blk_drew BK321.out)
      replace BK322 := Aside0.mk (blk_drew BK322.out)
      replace BK366 := Aside0.mk (blk_drew BK366.out)
      replace HB := Aside0.mk (below_drew1 HB.out)
      refine start_ (n := 5) (S := fun w' => w'.cell? ⟨gb366, 0, none⟩ = some (.slice Ao34 t347.length co34) ∧ w'.cell? ⟨gb366, 1, none⟩ = some (.int .i64 t350) ∧ w'.cell? ⟨gb366, 2, none⟩ = some (.int .i64 t351) ∧ w'.cell? ⟨gb366, 3, none⟩ = some (.int .i64 t352) ∧ w'.cell? ⟨gb366, 4, none⟩ = some (.slice Ao38 t353.length co38) ∧ w'.cell? ⟨gb366, 5, none⟩ = some (.bool t356) ∧ w'.cell? ⟨gb366, 6, none⟩ = some (.slice Ao39 t357.length co39) ∧ w'.cell? ⟨gb366, 7, none⟩ = some (.slice Ao40 t360.length co40) ∧ w'.cell? ⟨gb366, 8, none⟩ = some (.slice Ao41 t363.length co41) ∧ w'.cell? ⟨gb322, 0, none⟩ = some (.int .i64 a1_0) ∧ w'.cell? ⟨gb322, 1, none⟩ = some (.int .i64 a1_1) ∧ w'.cell? ⟨gb322, 2, none⟩ = some (.bool a1_2)) (ds := []) #[false, false, false, false, false] (by kernel_rfl) rfl rfl ⟨(blk_cell BK366.out 0).trans rfl, (blk_cell BK366.out 1).trans rfl, (blk_cell BK366.out 2).trans rfl, (blk_cell BK366.out 3).trans rfl, (blk_cell BK366.out 4).trans rfl, (blk_cell BK366.out 5).trans rfl, (blk_cell BK366.out 6).trans rfl, (blk_cell BK366.out 7).trans rfl, (blk_cell BK366.out 8).trans rfl, (blk_cell BK322.out 0).trans rfl, (blk_cell BK322.out 1).trans rfl, (blk_cell BK322.out 2).trans rfl⟩ (fun hHeld => ?_)
      generalize w42.drew = w43 at HO326 HO332 HO336 HO339 HO342 HO349 HO355 HO359 HO362 HO365 BK321 BK322 BK366 HB hHeld ⊢
      refine take_ (i := 0) (N := some 21) (v := ?_) (a' := ?_) #[true, false, false, false, false] rfl rfl (by kernel_rfl) (fun _ _ _ h => h) (Or.inl ⟨by rfl, ?_⟩) hHeld ?_ ?_
      rotate_left
      · rintro w' ⟨s0, s1, s2, s3, s4, s5, s6, s7, s8, s9, s10, s11⟩
        go_simp
        with_reducible rfl
      rotate_left
      · simp only [Act.put, List.setIfInBounds_toArray, List.set_cons_zero, List.set_cons_succ, i64_w, i32_w]
        rfl
      refine take_ (i := 1) (N := some 22) (v := ?_) (a' := ?_) #[true, true, false, false, false] rfl rfl (by kernel_rfl) (fun _ _ _ h => h) (Or.inl ⟨by rfl, ?_⟩) hHeld ?_ ?_
      rotate_left
      · rintro w' ⟨s0, s1, s2, s3, s4, s5, s6, s7, s8, s9, s10, s11⟩
        go_simp
        with_reducible rfl
      rotate_left
      · simp only [Act.put, List.setIfInBounds_toArray, List.set_cons_zero, List.set_cons_succ, i64_w, i32_w]
        rfl
      refine one_ (i := 2) (N := some 23) #[true, true, true, false, false] rfl rfl (by kernel_rfl) (by decide) (fun K hK => ?_)
      refine goes_ Try.func16 (by kernel_rfl) rfl #[.agg #[.int .i64 a1_0, .int .i64 a1_1, .bool a1_2]] (by rfl) rfl rfl ga ?_
      with_reducible refine (laws_toProtest.calls a1_0 a1_1 a1_2 t367 t368 t369 _ A14.out).mono ?_
      rintro e w44 ⟨rfl, hb⟩
      refine ⟨_, rfl, ?_⟩
      replace HO326 := Aside0.mk (Kd.R_below (rk HO326.out) hb)
      replace HO332 := Aside0.mk (Kd.R_below (rk HO332.out) hb)
      replace HO336 := Aside0.mk (Kd.R_below (rk HO336.out) hb)
      replace HO339 := Aside0.mk (Kd.R_below (rk HO339.out) hb)
      replace HO342 := Aside0.mk (Kd.R_below (rk HO342.out) hb)
      replace HO349 := Aside0.mk (Kd.R_below (rk HO349.out) hb)
      replace HO355 := Aside0.mk (Kd.R_below (rk HO355.out) hb)
      replace HO359 := Aside0.mk (Kd.R_below (rk HO359.out) hb)
      replace HO362 := Aside0.mk (Kd.R_below (rk HO362.out) hb)
      replace HO365 := Aside0.mk (Kd.R_below (rk HO365.out) hb)
      replace BK321 := Aside0.mk (bb BK321.out hb)
      replace BK322 := Aside0.mk (bb BK322.out hb)
      replace BK366 := Aside0.mk (bb BK366.out hb)
      replace HB := Aside0.mk (below_step bel hb)
      (try clear hb)
      (try clear hb2)
      (try clear hk)
      (try clear hi)
      refine hK.out _ _ ⟨(blk_cell BK366.out 0).trans rfl, (blk_cell BK366.out 1).trans rfl, (blk_cell BK366.out 2).trans rfl, (blk_cell BK366.out 3).trans rfl, (blk_cell BK366.out 4).trans rfl, (blk_cell BK366.out 5).trans rfl, (blk_cell BK366.out 6).trans rfl, (blk_cell BK366.out 7).trans rfl, (blk_cell BK366.out 8).trans rfl, (blk_cell BK322.out 0).trans rfl, (blk_cell BK322.out 1).trans rfl, (blk_cell BK322.out 2).trans rfl⟩ (fun hHeld => ?_)
      clear hK K
      refine norm_ (a' := ?_) ?_ ?_
      rotate_left
      · show Act.put _ (some 23) _ = _
        simp only [Act.put, List.setIfInBounds_toArray, List.set_cons_zero, List.set_cons_succ, i64_w, i32_w]
        rfl
      refine one_ (i := 3) (N := some 24) #[true, true, true, true, false] rfl rfl (by kernel_rfl) (by decide) (fun K hK => ?_)
      refine goes_ Try.func17 (by kernel_rfl) rfl #[.agg #[.slice Ao34 t347.length co34, .int .i64 t350, .int .i64 t351, .int .i64 t352, .slice Ao38 t353.length co38, .bool t356, .slice Ao39 t357.length co39, .slice Ao40 t360.length co40, .slice Ao41 t363.length co41], .agg #[.int .i64 t367, .int .i64 t368, .bool t369]] (by rfl) rfl rfl ga ?_
      with_reducible refine (impl_ProtestOk.calls k _ _ t347 t350 t351 t352 _ _ t353 t356 _ _ t357 _ _ t360 _ _ t363 t367 t368 t369 t370 _ ?side1 ?side2 ?side3 ?side4 ?side5 ?side6 ?side7 ?side8 ?side9 ?side10 A15.out).mono ?_
      (case side1 => exact ck (Kd.R_reads' HO349.out).2.2)
      (case side2 => exact (Kd.R_reads' HO349.out).2.1)
      (case side3 => exact ck (Kd.R_reads' HO355.out).2.2)
      (case side4 => exact (Kd.R_reads' HO355.out).2.1)
      (case side5 => exact ck (Kd.R_reads' HO359.out).2.2)
      (case side6 => exact (Kd.R_reads' HO359.out).2.1)
      (case side7 => exact ck (Kd.R_reads' HO362.out).2.2)
      (case side8 => exact (Kd.R_reads' HO362.out).2.1)
      (case side9 => exact ck (Kd.R_reads' HO365.out).2.2)
      (case side10 => exact (Kd.R_reads' HO365.out).2.1)
      rintro e w45 ⟨rfl, hb⟩
      refine ⟨_, rfl, ?_⟩
      replace HO326 := Aside0.mk (Kd.R_below (rk HO326.out) hb)
      replace HO332 := Aside0.mk (Kd.R_below (rk HO332.out) hb)
      replace HO336 := Aside0.mk (Kd.R_below (rk HO336.out) hb)
      replace HO339 := Aside0.mk (Kd.R_below (rk HO339.out) hb)
      replace HO342 := Aside0.mk (Kd.R_below (rk HO342.out) hb)
      replace HO349 := Aside0.mk (Kd.R_below (rk HO349.out) hb)
      replace HO355 := Aside0.mk (Kd.R_below (rk HO355.out) hb)
      replace HO359 := Aside0.mk (Kd.R_below (rk HO359.out) hb)
      replace HO362 := Aside0.mk (Kd.R_below (rk HO362.out) hb)
      replace HO365 := Aside0.mk (Kd.R_below (rk HO365.out) hb)
      replace BK321 := Aside0.mk (bb BK321.out hb)
      replace BK322 := Aside0.mk (bb BK322.out hb)
      replace BK366 := Aside0.mk (bb BK366.out hb)
      replace HB := Aside0.mk (below_step bel hb)
      (try clear hb)
      (try clear hb2)
      (try clear hk)
      (try clear hi)
      refine hK.out _ _ ⟨(blk_cell BK366.out 0).trans rfl, (blk_cell BK366.out 1).trans rfl, (blk_cell BK366.out 2).trans rfl, (blk_cell BK366.out 3).trans rfl, (blk_cell BK366.out 4).trans rfl, (blk_cell BK366.out 5).trans rfl, (blk_cell BK366.out 6).trans rfl, (blk_cell BK366.out 7).trans rfl, (blk_cell BK366.out 8).trans rfl, (blk_cell BK322.out 0).trans rfl, (blk_cell BK322.out 1).trans rfl, (blk_cell BK322.out 2).trans rfl⟩ (fun hHeld => ?_)
      clear hK K
      refine norm_ (a' := ?_) ?_ ?_
      rotate_left
      · show Act.put _ (some 24) _ = _
        simp only [Act.put, List.setIfInBounds_toArray, List.set_cons_zero, List.set_cons_succ, i64_w, i32_w]
        rfl
      refine pure_ (i := 4) (N := some 8) (v := ?_) (a' := ?_) #[true, true, true, true, true] rfl rfl (by kernel_rfl) (fun _ _ _ h => h) (Or.inl ⟨by rfl, ?_⟩) ?_ ?_
      rotate_left
      · intro w'
        go_simp
        with_reducible rfl
      rotate_left
      · simp only [Act.put, List.setIfInBounds_toArray, List.set_cons_zero, List.set_cons_succ, i64_w, i32_w]
        rfl
      refine done_ (by kernel_rfl) ?_
      try go_wp2
      go_ret
      exact ⟨er, bel⟩
    · rw [if_neg c16] at H
      have c16b0 : (t370 != t346) = false := by simpa using c16
      (try (have c16b1 : decide (t370 = t346) = true := by simpa using c16))
      (try (have c16b2 : (t370 == t346) = true := by simpa using c16))
      clear c16
      replace H := Option.bind_eq_some_iff.mp H
      obtain ⟨⟨t371, t374, t375, t376, t377, t380, t381, t384, t387⟩, A460, H⟩ := H
      replace H : ((laws_eqBook.f k t347 t350 t351 t352 t353 t356 t357 t360 t363 t371 t374 t375 t376 t377 t380 t381 t384 t387).bind fun t390 => (if t390 = true then (some true) else (some false))) = some r := H
      have A46 := Aside0.mk A460
      clear A460
      replace H := Option.bind_eq_some_iff.mp H
      obtain ⟨t390, A470, H⟩ := H
      replace H : (if t390 = true then (some true) else (some false)) = some r := H
      have A47 := Aside0.mk A470
      clear A470
      by_cases c48 : t390 = true
      · subst c48
        have H1 : (some true) = some r := by rw [if_pos rfl] at H; exact H
        clear H
        have H := H1
        clear H1
        obtain rfl := Option.some.inj H
        go_enter Try.func3, Try.ntmps3
        try go_wp2_with (first | ((with_reducible refine gate_dst (N := 2) rfl ?_); refine box_event ?hg (N := 2) ?hd (cs := #[.slice A0_0 l0_0.length c0_0, .int .i64 a0_1, .int .i64 a0_2, .int .i64 a0_3, .slice A0_4 l0_4.length c0_4, .bool a0_5, .slice A0_6 l0_6.length c0_6, .slice A0_7 l0_7.length c0_7, .slice A0_8 l0_8.length c0_8]) (t := 28) ?hr ?_; (case hd => rfl); (case hg => rfl); (case hr => first | (go_simp; done) | (go_simp; rfl)); intro gb321 hg w49 hbox hb; have BK321 := Aside0.mk (hbox); have GW321 := Aside0.mk ((bsz hg : w.heap.size ≤ gb321)); have GE321 := Aside0.mk ((bsz hg : w.heap.size ≤ gb321)); replace HB := Aside0.mk (below_step bel hb); clear hb hbox hg) | ((with_reducible refine gate_dst (N := 3) rfl ?_); refine box_event ?hg (N := 3) ?hd (cs := #[.int .i64 a1_0, .int .i64 a1_1, .bool a1_2]) (t := 30) ?hr ?_; (case hd => rfl); (case hg => rfl); (case hr => first | (go_simp; done) | (go_simp; rfl)); intro gb322 hg w50 hbox hb; have BK322 := Aside0.mk (hbox); have GW322 := Aside0.mk ((bsz hg : w.heap.size ≤ gb322)); have GE322 := Aside0.mk ((bsz hg : w.heap.size ≤ gb322)); have NB321_322 := Aside0.mk ((nlt hg BK321.out : gb321 ≠ gb322)); have NB322_321 := Aside0.mk ((ngt hg BK321.out : gb322 ≠ gb321)); replace BK321 := Aside0.mk (bb BK321.out hb); replace HB := Aside0.mk (below_step bel hb); clear hb hbox hg; have hnb51 := NB321_322.out; have hnc51 := NB322_321.out; obtain ⟨hcz52_0, hcz52_1, hcz52_2, hcz52_3, hcz52_4, hcz52_5, hcz52_6, hcz52_7, hcz52_8, hfz52_0, hfz52_1, hfz52_2, hfz52_3, hfz52_4, hfz52_5, hfz52_6, hfz52_7, hfz52_8⟩ := cf9 BK321.out) | ((with_reducible refine gate_callee (f := 13) rfl ?_); refine goesL_ (some 11) rfl rfl Try.func13 (by kernel_rfl) rfl #[.agg #[.slice A0_0 l0_0.length c0_0, .int .i64 a0_1, .int .i64 a0_2, .int .i64 a0_3, .slice A0_4 l0_4.length c0_4, .bool a0_5, .slice A0_6 l0_6.length c0_6, .slice A0_7 l0_7.length c0_7, .slice A0_8 l0_8.length c0_8], .int .i64 1048576] rfl ga ?_; (with_reducible refine (laws_szBook.calls k _ _ l0_0 a0_1 a0_2 a0_3 _ _ l0_4 a0_5 _ _ l0_6 _ _ l0_7 _ _ l0_8 1048576 t323 _ ?side1 ?side2 ?side3 ?side4 ?side5 ?side6 ?side7 ?side8 ?side9 ?side10 A3.out).mono ?_); (case side1 => exact ck (Kd.C_below HR0_0.out HB.out)); (case side2 => exact HC0_0.out); (case side3 => exact ck (Kd.C_below HR0_4.out HB.out)); (case side4 => exact HC0_4.out); (case side5 => exact ck (Kd.C_below HR0_6.out HB.out)); (case side6 => exact HC0_6.out); (case side7 => exact ck (Kd.C_below HR0_7.out HB.out)); (case side8 => exact HC0_7.out); (case side9 => exact ck (Kd.C_below HR0_8.out HB.out)); (case side10 => exact HC0_8.out); rintro e w53 ⟨rfl, hb⟩; refine ⟨_, rfl, ?_⟩; replace BK321 := Aside0.mk (bb BK321.out hb); replace BK322 := Aside0.mk (bb BK322.out hb); replace HB := Aside0.mk (below_step bel hb); (try clear hb)))
        replace BK321 := Aside0.mk (blk_drew BK321.out)
        replace BK322 := Aside0.mk (blk_drew BK322.out)
        replace HB := Aside0.mk (below_drew1 HB.out)
        refine start_ (n := 6) (S := fun w' => w'.cell? ⟨gb321, 0, none⟩ = some (.slice A0_0 l0_0.length c0_0) ∧ w'.cell? ⟨gb321, 1, none⟩ = some (.int .i64 a0_1) ∧ w'.cell? ⟨gb321, 2, none⟩ = some (.int .i64 a0_2) ∧ w'.cell? ⟨gb321, 3, none⟩ = some (.int .i64 a0_3) ∧ w'.cell? ⟨gb321, 4, none⟩ = some (.slice A0_4 l0_4.length c0_4) ∧ w'.cell? ⟨gb321, 5, none⟩ = some (.bool a0_5) ∧ w'.cell? ⟨gb321, 6, none⟩ = some (.slice A0_6 l0_6.length c0_6) ∧ w'.cell? ⟨gb321, 7, none⟩ = some (.slice A0_7 l0_7.length c0_7) ∧ w'.cell? ⟨gb321, 8, none⟩ = some (.slice A0_8 l0_8.length c0_8) ∧ w'.cell? ⟨gb322, 0, none⟩ = some (.int .i64 a1_0) ∧ w'.cell? ⟨gb322, 1, none⟩ = some (.int .i64 a1_1) ∧ w'.cell? ⟨gb322, 2, none⟩ = some (.bool a1_2)) (ds := []) #[false, false, false, false, false, false] (by kernel_rfl) rfl rfl ⟨(blk_cell BK321.out 0).trans rfl, (blk_cell BK321.out 1).trans rfl, (blk_cell BK321.out 2).trans rfl, (blk_cell BK321.out 3).trans rfl, (blk_cell BK321.out 4).trans rfl, (blk_cell BK321.out 5).trans rfl, (blk_cell BK321.out 6).trans rfl, (blk_cell BK321.out 7).trans rfl, (blk_cell BK321.out 8).trans rfl, (blk_cell BK322.out 0).trans rfl, (blk_cell BK322.out 1).trans rfl, (blk_cell BK322.out 2).trans rfl⟩ (fun hHeld => ?_)
        generalize w53.drew = w54 at BK321 BK322 HB hHeld ⊢
        refine take_ (i := 0) (N := some 14) (v := ?_) (a' := ?_) #[true, false, false, false, false, false] rfl rfl (by kernel_rfl) (fun _ _ _ h => h) (Or.inl ⟨by rfl, ?_⟩) hHeld ?_ ?_
        rotate_left
        · rintro w' ⟨s0, s1, s2, s3, s4, s5, s6, s7, s8, s9, s10, s11⟩
          go_simp
          with_reducible rfl
        rotate_left
        · simp only [Act.put, List.setIfInBounds_toArray, List.set_cons_zero, List.set_cons_succ, i64_w, i32_w]
          rfl
        refine take_ (i := 2) (N := some 16) (v := ?_) (a' := ?_) #[true, false, true, false, false, false] rfl rfl (by kernel_rfl) (fun _ _ _ h => h) (Or.inl ⟨by rfl, ?_⟩) hHeld ?_ ?_
        rotate_left
        · rintro w' ⟨s0, s1, s2, s3, s4, s5, s6, s7, s8, s9, s10, s11⟩
          go_simp
          with_reducible rfl
        rotate_left
        · simp only [Act.put, List.setIfInBounds_toArray, List.set_cons_zero, List.set_cons_succ, i64_w, i32_w]
          rfl
        refine one_ (i := 1) (N := some 15) #[true, true, true, false, false, false] rfl rfl (by kernel_rfl) (by decide) (fun K hK => ?_)
        refine goes_ Try.func15 (by kernel_rfl) rfl #[.agg #[.slice A0_0 l0_0.length c0_0, .int .i64 a0_1, .int .i64 a0_2, .int .i64 a0_3, .slice A0_4 l0_4.length c0_4, .bool a0_5, .slice A0_6 l0_6.length c0_6, .slice A0_7 l0_7.length c0_7, .slice A0_8 l0_8.length c0_8]] (by rfl) rfl rfl ga ?_
        with_reducible refine (laws_toBook.calls k _ _ l0_0 a0_1 a0_2 a0_3 _ _ l0_4 a0_5 _ _ l0_6 _ _ l0_7 _ _ l0_8 t324 t327 t328 t329 t330 t333 t334 t337 t340 _ ?side1 ?side2 ?side3 ?side4 ?side5 ?side6 ?side7 ?side8 ?side9 ?side10 A10.out).mono ?_
        (case side1 => exact ck (Kd.C_below HR0_0.out HB.out))
        (case side2 => exact HC0_0.out)
        (case side3 => exact ck (Kd.C_below HR0_4.out HB.out))
        (case side4 => exact HC0_4.out)
        (case side5 => exact ck (Kd.C_below HR0_6.out HB.out))
        (case side6 => exact HC0_6.out)
        (case side7 => exact ck (Kd.C_below HR0_7.out HB.out))
        (case side8 => exact HC0_7.out)
        (case side9 => exact ck (Kd.C_below HR0_8.out HB.out))
        (case side10 => exact HC0_8.out)
        rintro e w55 ⟨v325, v331, v335, v338, v341, rfl, ho0, ho1, ho2, ho3, ho4, hb⟩
        refine ⟨_, rfl, ?_⟩
        have HO326 := Aside0.mk (Kd.R_lower ho0 (below_size bel))
        have HO332 := Aside0.mk (Kd.R_lower ho1 (below_size bel))
        have HO336 := Aside0.mk (Kd.R_lower ho2 (below_size bel))
        have HO339 := Aside0.mk (Kd.R_lower ho3 (below_size bel))
        have HO342 := Aside0.mk (Kd.R_lower ho4 (below_size bel))
        replace BK321 := Aside0.mk (bb BK321.out hb)
        replace BK322 := Aside0.mk (bb BK322.out hb)
        replace HB := Aside0.mk (below_step bel hb)
        (try clear hb)
        (try clear hb2)
        (try clear hk)
        (try clear hi)
        (try clear ho0)
        (try clear ho1)
        (try clear ho2)
        (try clear ho3)
        (try clear ho4)
        refine hK.out _ _ ⟨(blk_cell BK321.out 0).trans rfl, (blk_cell BK321.out 1).trans rfl, (blk_cell BK321.out 2).trans rfl, (blk_cell BK321.out 3).trans rfl, (blk_cell BK321.out 4).trans rfl, (blk_cell BK321.out 5).trans rfl, (blk_cell BK321.out 6).trans rfl, (blk_cell BK321.out 7).trans rfl, (blk_cell BK321.out 8).trans rfl, (blk_cell BK322.out 0).trans rfl, (blk_cell BK322.out 1).trans rfl, (blk_cell BK322.out 2).trans rfl⟩ (fun hHeld => ?_)
        clear hK K
        refine norm_ (a' := ?_) ?_ ?_
        rotate_left
        · show Act.put _ (some 15) _ = _
          simp only [Act.put, List.setIfInBounds_toArray, List.set_cons_zero, List.set_cons_succ, i64_w, i32_w]
          rfl
        refine one_ (i := 3) (N := some 17) #[true, true, true, true, false, false] rfl rfl (by kernel_rfl) (by decide) (fun K hK => ?_)
        refine goes_ Try.func16 (by kernel_rfl) rfl #[.agg #[.int .i64 a1_0, .int .i64 a1_1, .bool a1_2]] (by rfl) rfl rfl ga ?_
        with_reducible refine (laws_toProtest.calls a1_0 a1_1 a1_2 t343 t344 t345 _ A11.out).mono ?_
        rintro e w56 ⟨rfl, hb⟩
        refine ⟨_, rfl, ?_⟩
        replace HO326 := Aside0.mk (Kd.R_below (rk HO326.out) hb)
        replace HO332 := Aside0.mk (Kd.R_below (rk HO332.out) hb)
        replace HO336 := Aside0.mk (Kd.R_below (rk HO336.out) hb)
        replace HO339 := Aside0.mk (Kd.R_below (rk HO339.out) hb)
        replace HO342 := Aside0.mk (Kd.R_below (rk HO342.out) hb)
        replace BK321 := Aside0.mk (bb BK321.out hb)
        replace BK322 := Aside0.mk (bb BK322.out hb)
        replace HB := Aside0.mk (below_step bel hb)
        (try clear hb)
        (try clear hb2)
        (try clear hk)
        (try clear hi)
        obtain ⟨Ao57, co57, eo57⟩ := Kd.R_slice HO326.out
        (first | subst eo57 | (injection eo57 with f1_ f2_ f3_; have f4_ := f1_.symm; have f5_ := f3_.symm; clear f1_ f2_ f3_; subst f4_; subst f5_))
        obtain ⟨Ao58, co58, eo58⟩ := Kd.R_slice HO332.out
        (first | subst eo58 | (injection eo58 with f1_ f2_ f3_; have f4_ := f1_.symm; have f5_ := f3_.symm; clear f1_ f2_ f3_; subst f4_; subst f5_))
        obtain ⟨Ao59, co59, eo59⟩ := Kd.R_slice HO336.out
        (first | subst eo59 | (injection eo59 with f1_ f2_ f3_; have f4_ := f1_.symm; have f5_ := f3_.symm; clear f1_ f2_ f3_; subst f4_; subst f5_))
        obtain ⟨Ao60, co60, eo60⟩ := Kd.R_slice HO339.out
        (first | subst eo60 | (injection eo60 with f1_ f2_ f3_; have f4_ := f1_.symm; have f5_ := f3_.symm; clear f1_ f2_ f3_; subst f4_; subst f5_))
        obtain ⟨Ao61, co61, eo61⟩ := Kd.R_slice HO342.out
        (first | subst eo61 | (injection eo61 with f1_ f2_ f3_; have f4_ := f1_.symm; have f5_ := f3_.symm; clear f1_ f2_ f3_; subst f4_; subst f5_))
        refine hK.out _ _ ⟨(blk_cell BK321.out 0).trans rfl, (blk_cell BK321.out 1).trans rfl, (blk_cell BK321.out 2).trans rfl, (blk_cell BK321.out 3).trans rfl, (blk_cell BK321.out 4).trans rfl, (blk_cell BK321.out 5).trans rfl, (blk_cell BK321.out 6).trans rfl, (blk_cell BK321.out 7).trans rfl, (blk_cell BK321.out 8).trans rfl, (blk_cell BK322.out 0).trans rfl, (blk_cell BK322.out 1).trans rfl, (blk_cell BK322.out 2).trans rfl⟩ (fun hHeld => ?_)
        clear hK K
        refine norm_ (a' := ?_) ?_ ?_
        rotate_left
        · show Act.put _ (some 17) _ = _
          simp only [Act.put, List.setIfInBounds_toArray, List.set_cons_zero, List.set_cons_succ, i64_w, i32_w]
          rfl
        refine one_ (i := 4) (N := some 18) #[true, true, true, true, true, false] rfl rfl (by kernel_rfl) (by decide) (fun K hK => ?_)
        refine goes_ Try.func14 (by kernel_rfl) rfl #[.agg #[.slice Ao57 t324.length co57, .int .i64 t327, .int .i64 t328, .int .i64 t329, .slice Ao58 t330.length co58, .bool t333, .slice Ao59 t334.length co59, .slice Ao60 t337.length co60, .slice Ao61 t340.length co61], .agg #[.int .i64 t343, .int .i64 t344, .bool t345]] (by rfl) rfl rfl ga ?_
        with_reducible refine (spec_ProtestOk.calls k _ _ t324 t327 t328 t329 _ _ t330 t333 _ _ t334 _ _ t337 _ _ t340 t343 t344 t345 t346 _ ?side1 ?side2 ?side3 ?side4 ?side5 ?side6 ?side7 ?side8 ?side9 ?side10 A12.out).mono ?_
        (case side1 => exact ck (Kd.R_reads' HO326.out).2.2)
        (case side2 => exact (Kd.R_reads' HO326.out).2.1)
        (case side3 => exact ck (Kd.R_reads' HO332.out).2.2)
        (case side4 => exact (Kd.R_reads' HO332.out).2.1)
        (case side5 => exact ck (Kd.R_reads' HO336.out).2.2)
        (case side6 => exact (Kd.R_reads' HO336.out).2.1)
        (case side7 => exact ck (Kd.R_reads' HO339.out).2.2)
        (case side8 => exact (Kd.R_reads' HO339.out).2.1)
        (case side9 => exact ck (Kd.R_reads' HO342.out).2.2)
        (case side10 => exact (Kd.R_reads' HO342.out).2.1)
        rintro e w62 ⟨rfl, hb⟩
        refine ⟨_, rfl, ?_⟩
        replace HO326 := Aside0.mk (Kd.R_below (rk HO326.out) hb)
        replace HO332 := Aside0.mk (Kd.R_below (rk HO332.out) hb)
        replace HO336 := Aside0.mk (Kd.R_below (rk HO336.out) hb)
        replace HO339 := Aside0.mk (Kd.R_below (rk HO339.out) hb)
        replace HO342 := Aside0.mk (Kd.R_below (rk HO342.out) hb)
        replace BK321 := Aside0.mk (bb BK321.out hb)
        replace BK322 := Aside0.mk (bb BK322.out hb)
        replace HB := Aside0.mk (below_step bel hb)
        (try clear hb)
        (try clear hb2)
        (try clear hk)
        (try clear hi)
        refine hK.out _ _ ⟨(blk_cell BK321.out 0).trans rfl, (blk_cell BK321.out 1).trans rfl, (blk_cell BK321.out 2).trans rfl, (blk_cell BK321.out 3).trans rfl, (blk_cell BK321.out 4).trans rfl, (blk_cell BK321.out 5).trans rfl, (blk_cell BK321.out 6).trans rfl, (blk_cell BK321.out 7).trans rfl, (blk_cell BK321.out 8).trans rfl, (blk_cell BK322.out 0).trans rfl, (blk_cell BK322.out 1).trans rfl, (blk_cell BK322.out 2).trans rfl⟩ (fun hHeld => ?_)
        clear hK K
        refine norm_ (a' := ?_) ?_ ?_
        rotate_left
        · show Act.put _ (some 18) _ = _
          simp only [Act.put, List.setIfInBounds_toArray, List.set_cons_zero, List.set_cons_succ, i64_w, i32_w]
          rfl
        refine pure_ (i := 5) (N := some 6) (v := ?_) (a' := ?_) #[true, true, true, true, true, true] rfl rfl (by kernel_rfl) (fun _ _ _ h => h) (Or.inl ⟨by rfl, ?_⟩) ?_ ?_
        rotate_left
        · intro w'
          go_simp
          with_reducible rfl
        rotate_left
        · simp only [Act.put, List.setIfInBounds_toArray, List.set_cons_zero, List.set_cons_succ, i64_w, i32_w]
          rfl
        refine done_ (by kernel_rfl) ?_
        obtain ⟨hcz63_0, hcz63_1, hcz63_2, hcz63_3, hcz63_4, hcz63_5, hcz63_6, hcz63_7, hcz63_8, hfz63_0, hfz63_1, hfz63_2, hfz63_3, hfz63_4, hfz63_5, hfz63_6, hfz63_7, hfz63_8⟩ := cf9 BK321.out
        try go_wp2_with (first | ((with_reducible refine gate_callee (f := 15) rfl ?_); refine goesL_ (some 20) rfl rfl Try.func15 (by kernel_rfl) rfl #[.agg #[.slice A0_0 l0_0.length c0_0, .int .i64 a0_1, .int .i64 a0_2, .int .i64 a0_3, .slice A0_4 l0_4.length c0_4, .bool a0_5, .slice A0_6 l0_6.length c0_6, .slice A0_7 l0_7.length c0_7, .slice A0_8 l0_8.length c0_8]] rfl ga ?_; (with_reducible refine (laws_toBook.calls k _ _ l0_0 a0_1 a0_2 a0_3 _ _ l0_4 a0_5 _ _ l0_6 _ _ l0_7 _ _ l0_8 t347 t350 t351 t352 t353 t356 t357 t360 t363 _ ?side1 ?side2 ?side3 ?side4 ?side5 ?side6 ?side7 ?side8 ?side9 ?side10 A13.out).mono ?_); (case side1 => exact ck (Kd.C_below HR0_0.out HB.out)); (case side2 => exact HC0_0.out); (case side3 => exact ck (Kd.C_below HR0_4.out HB.out)); (case side4 => exact HC0_4.out); (case side5 => exact ck (Kd.C_below HR0_6.out HB.out)); (case side6 => exact HC0_6.out); (case side7 => exact ck (Kd.C_below HR0_7.out HB.out)); (case side8 => exact HC0_7.out); (case side9 => exact ck (Kd.C_below HR0_8.out HB.out)); (case side10 => exact HC0_8.out); rintro e w64 ⟨v348, v354, v358, v361, v364, rfl, ho0, ho1, ho2, ho3, ho4, hb⟩; refine ⟨_, rfl, ?_⟩; have HO349 := Aside0.mk (Kd.R_lower (Kd.R_new' ho0 (Kd.R_lt (rk HO326.out))) (below_size bel)); have HO355 := Aside0.mk (Kd.R_lower (Kd.R_new' (Kd.R_new' (Kd.R_new' ho1 (Kd.R_lt (rk HO332.out))) (Kd.R_lt (rk HO339.out))) (Kd.R_lt (rk HO342.out))) (below_size bel)); have HO359 := Aside0.mk (Kd.R_lower (Kd.R_new' ho2 (Kd.R_lt (rk HO336.out))) (below_size bel)); have HO362 := Aside0.mk (Kd.R_lower (Kd.R_new' (Kd.R_new' (Kd.R_new' ho3 (Kd.R_lt (rk HO332.out))) (Kd.R_lt (rk HO339.out))) (Kd.R_lt (rk HO342.out))) (below_size bel)); have HO365 := Aside0.mk (Kd.R_lower (Kd.R_new' (Kd.R_new' (Kd.R_new' ho4 (Kd.R_lt (rk HO332.out))) (Kd.R_lt (rk HO339.out))) (Kd.R_lt (rk HO342.out))) (below_size bel)); replace HO326 := Aside0.mk (Kd.R_elder' (rk HO326.out) (Kd.R_base ho0) hb); replace HO332 := Aside0.mk (Kd.R_mono (Kd.R_told (Kd.R_told (Kd.R_told (Kd.R_old (rk HO332.out) hb) (Kd.R_base ho1)) (Kd.R_base ho3)) (Kd.R_base ho4)) (fun _ h_ => h_.1)); replace HO336 := Aside0.mk (Kd.R_elder' (rk HO336.out) (Kd.R_base ho2) hb); replace HO339 := Aside0.mk (Kd.R_mono (Kd.R_told (Kd.R_told (Kd.R_told (Kd.R_old (rk HO339.out) hb) (Kd.R_base ho1)) (Kd.R_base ho3)) (Kd.R_base ho4)) (fun _ h_ => h_.1)); replace HO342 := Aside0.mk (Kd.R_mono (Kd.R_told (Kd.R_told (Kd.R_told (Kd.R_old (rk HO342.out) hb) (Kd.R_base ho1)) (Kd.R_base ho3)) (Kd.R_base ho4)) (fun _ h_ => h_.1)); replace BK321 := Aside0.mk (bb BK321.out hb); replace BK322 := Aside0.mk (bb BK322.out hb); replace HB := Aside0.mk (below_step bel hb); (try clear hb); (try clear ho0); (try clear ho1); (try clear ho2); (try clear ho3); (try clear ho4)) | ((with_reducible refine gate_dst (N := 7) rfl ?_); refine box_event ?hg (N := 7) ?hd (cs := #[.slice none 0 0, .int .i64 0, .int .i64 0, .int .i64 0, .slice none 0 0, .bool false, .slice none 0 0, .slice none 0 0, .slice none 0 0]) (t := 37) ?hr ?_; (case hd => rfl); (case hg => rfl); (case hr => first | (go_simp; done) | (go_simp; rfl)); intro gb366 hg w65 hbox hb; have BK366 := Aside0.mk (hbox); have GW366 := Aside0.mk ((bsz hg : w.heap.size ≤ gb366)); have GE366 := Aside0.mk ((bsz hg : w.heap.size ≤ gb366)); have NB321_366 := Aside0.mk ((nlt hg BK321.out : gb321 ≠ gb366)); have NB366_321 := Aside0.mk ((ngt hg BK321.out : gb366 ≠ gb321)); have NB322_366 := Aside0.mk ((nlt hg BK322.out : gb322 ≠ gb366)); have NB366_322 := Aside0.mk ((ngt hg BK322.out : gb366 ≠ gb322)); replace HO326 := Aside0.mk (Kd.R_below (rk HO326.out) hb); replace HO332 := Aside0.mk (Kd.R_below (rk HO332.out) hb); replace HO336 := Aside0.mk (Kd.R_below (rk HO336.out) hb); replace HO339 := Aside0.mk (Kd.R_below (rk HO339.out) hb); replace HO342 := Aside0.mk (Kd.R_below (rk HO342.out) hb); replace HO349 := Aside0.mk (Kd.R_below (rk HO349.out) hb); replace HO355 := Aside0.mk (Kd.R_below (rk HO355.out) hb); replace HO359 := Aside0.mk (Kd.R_below (rk HO359.out) hb); replace HO362 := Aside0.mk (Kd.R_below (rk HO362.out) hb); replace HO365 := Aside0.mk (Kd.R_below (rk HO365.out) hb); replace BK321 := Aside0.mk (bb BK321.out hb); replace BK322 := Aside0.mk (bb BK322.out hb); replace HB := Aside0.mk (below_step bel hb); clear hb hbox hg; obtain ⟨Ao66, co66, eo66⟩ := Kd.R_slice HO349.out; subst eo66; have hnb67 := NB366_321.out; have hnc67 := NB321_366.out; have hnb68 := NB366_322.out; have hnc68 := NB322_366.out; obtain ⟨hcz69_0, hcz69_1, hcz69_2, hcz69_3, hcz69_4, hcz69_5, hcz69_6, hcz69_7, hcz69_8, hfz69_0, hfz69_1, hfz69_2, hfz69_3, hfz69_4, hfz69_5, hfz69_6, hfz69_7, hfz69_8⟩ := cf9 BK366.out; obtain ⟨Ao70, co70, eo70⟩ := Kd.R_slice HO355.out; subst eo70; obtain ⟨Ao71, co71, eo71⟩ := Kd.R_slice HO359.out; subst eo71; obtain ⟨Ao72, co72, eo72⟩ := Kd.R_slice HO362.out; subst eo72; obtain ⟨Ao73, co73, eo73⟩ := Kd.R_slice HO365.out; subst eo73))
        have n0_ : Aside0 (Kd.R k101 101 (((((((((w65.setCell ⟨gb366, 0, none⟩ (.slice Ao66 t347.length co66)).setCell ⟨gb366, 1, none⟩ (.int .i64 t350)).setCell ⟨gb366, 2, none⟩ (.int .i64 t351)).setCell ⟨gb366, 3, none⟩ (.int .i64 t352)).setCell ⟨gb366, 4, none⟩ (.slice Ao70 t353.length co70)).setCell ⟨gb366, 5, none⟩ (.bool t356)).setCell ⟨gb366, 6, none⟩ (.slice Ao71 t357.length co71)).setCell ⟨gb366, 7, none⟩ (.slice Ao72 t360.length co72)).setCell ⟨gb366, 8, none⟩ (.slice Ao73 t363.length co73)) w.heap.size (fun k_ => some k_ ≠ (.slice Ao66 t347.length co66 : Value).ownBlock) (.slice Ao57 t324.length co57) t324) := ⟨by (with_reducible repeat (first | apply Kd.R_alloc | apply Kd.R_drewN | apply Kd.R_drew)); exact Kd.R_mono (Kd.R_far (p := ⟨gb366, 8, none⟩) (Kd.R_far (p := ⟨gb366, 7, none⟩) (Kd.R_far (p := ⟨gb366, 6, none⟩) (Kd.R_far (p := ⟨gb366, 5, none⟩) (Kd.R_far (p := ⟨gb366, 4, none⟩) (Kd.R_far (p := ⟨gb366, 3, none⟩) (Kd.R_far (p := ⟨gb366, 2, none⟩) (Kd.R_far (p := ⟨gb366, 1, none⟩) (Kd.R_far (p := ⟨gb366, 0, none⟩) (Kd.R_types HO326.out BK366.out (by decide)) (fun _ hk => hk.2) (.slice Ao66 t347.length co66)) (fun _ hk => hk.2) (.int .i64 t350)) (fun _ hk => hk.2) (.int .i64 t351)) (fun _ hk => hk.2) (.int .i64 t352)) (fun _ hk => hk.2) (.slice Ao70 t353.length co70)) (fun _ hk => hk.2) (.bool t356)) (fun _ hk => hk.2) (.slice Ao71 t357.length co71)) (fun _ hk => hk.2) (.slice Ao72 t360.length co72)) (fun _ hk => hk.2) (.slice Ao73 t363.length co73)) (fun _ hk => hk.1.2)⟩
        have n1_ : Aside0 (Kd.R (Kd.int .i64) 3 (((((((((w65.setCell ⟨gb366, 0, none⟩ (.slice Ao66 t347.length co66)).setCell ⟨gb366, 1, none⟩ (.int .i64 t350)).setCell ⟨gb366, 2, none⟩ (.int .i64 t351)).setCell ⟨gb366, 3, none⟩ (.int .i64 t352)).setCell ⟨gb366, 4, none⟩ (.slice Ao70 t353.length co70)).setCell ⟨gb366, 5, none⟩ (.bool t356)).setCell ⟨gb366, 6, none⟩ (.slice Ao71 t357.length co71)).setCell ⟨gb366, 7, none⟩ (.slice Ao72 t360.length co72)).setCell ⟨gb366, 8, none⟩ (.slice Ao73 t363.length co73)) w.heap.size (fun k_ => some k_ ≠ (.slice Ao60 t337.length co60 : Value).ownBlock ∧ some k_ ≠ (.slice Ao61 t340.length co61 : Value).ownBlock ∧ some k_ ≠ (.slice Ao70 t353.length co70 : Value).ownBlock ∧ some k_ ≠ (.slice Ao72 t360.length co72 : Value).ownBlock ∧ some k_ ≠ (.slice Ao73 t363.length co73 : Value).ownBlock) (.slice Ao58 t330.length co58) t330) := ⟨by (with_reducible repeat (first | apply Kd.R_alloc | apply Kd.R_drewN | apply Kd.R_drew)); exact Kd.R_mono (Kd.R_far (p := ⟨gb366, 8, none⟩) (Kd.R_far (p := ⟨gb366, 7, none⟩) (Kd.R_far (p := ⟨gb366, 6, none⟩) (Kd.R_far (p := ⟨gb366, 5, none⟩) (Kd.R_far (p := ⟨gb366, 4, none⟩) (Kd.R_far (p := ⟨gb366, 3, none⟩) (Kd.R_far (p := ⟨gb366, 2, none⟩) (Kd.R_far (p := ⟨gb366, 1, none⟩) (Kd.R_far (p := ⟨gb366, 0, none⟩) (Kd.R_types HO332.out BK366.out (by decide)) (fun _ hk => hk.2) (.slice Ao66 t347.length co66)) (fun _ hk => hk.2) (.int .i64 t350)) (fun _ hk => hk.2) (.int .i64 t351)) (fun _ hk => hk.2) (.int .i64 t352)) (fun _ hk => hk.2) (.slice Ao70 t353.length co70)) (fun _ hk => hk.2) (.bool t356)) (fun _ hk => hk.2) (.slice Ao71 t357.length co71)) (fun _ hk => hk.2) (.slice Ao72 t360.length co72)) (fun _ hk => hk.2) (.slice Ao73 t363.length co73)) (fun _ hk => ⟨hk.1.1.1.1.1, ⟨hk.1.1.1.1.2, ⟨hk.1.1.1.2, ⟨hk.1.1.2, hk.1.2⟩⟩⟩⟩)⟩
        have n2_ : Aside0 (Kd.R k71 71 (((((((((w65.setCell ⟨gb366, 0, none⟩ (.slice Ao66 t347.length co66)).setCell ⟨gb366, 1, none⟩ (.int .i64 t350)).setCell ⟨gb366, 2, none⟩ (.int .i64 t351)).setCell ⟨gb366, 3, none⟩ (.int .i64 t352)).setCell ⟨gb366, 4, none⟩ (.slice Ao70 t353.length co70)).setCell ⟨gb366, 5, none⟩ (.bool t356)).setCell ⟨gb366, 6, none⟩ (.slice Ao71 t357.length co71)).setCell ⟨gb366, 7, none⟩ (.slice Ao72 t360.length co72)).setCell ⟨gb366, 8, none⟩ (.slice Ao73 t363.length co73)) w.heap.size (fun k_ => some k_ ≠ (.slice Ao71 t357.length co71 : Value).ownBlock) (.slice Ao59 t334.length co59) t334) := ⟨by (with_reducible repeat (first | apply Kd.R_alloc | apply Kd.R_drewN | apply Kd.R_drew)); exact Kd.R_mono (Kd.R_far (p := ⟨gb366, 8, none⟩) (Kd.R_far (p := ⟨gb366, 7, none⟩) (Kd.R_far (p := ⟨gb366, 6, none⟩) (Kd.R_far (p := ⟨gb366, 5, none⟩) (Kd.R_far (p := ⟨gb366, 4, none⟩) (Kd.R_far (p := ⟨gb366, 3, none⟩) (Kd.R_far (p := ⟨gb366, 2, none⟩) (Kd.R_far (p := ⟨gb366, 1, none⟩) (Kd.R_far (p := ⟨gb366, 0, none⟩) (Kd.R_types HO336.out BK366.out (by decide)) (fun _ hk => hk.2) (.slice Ao66 t347.length co66)) (fun _ hk => hk.2) (.int .i64 t350)) (fun _ hk => hk.2) (.int .i64 t351)) (fun _ hk => hk.2) (.int .i64 t352)) (fun _ hk => hk.2) (.slice Ao70 t353.length co70)) (fun _ hk => hk.2) (.bool t356)) (fun _ hk => hk.2) (.slice Ao71 t357.length co71)) (fun _ hk => hk.2) (.slice Ao72 t360.length co72)) (fun _ hk => hk.2) (.slice Ao73 t363.length co73)) (fun _ hk => hk.1.2)⟩
        have n3_ : Aside0 (Kd.R (Kd.int .i64) 3 (((((((((w65.setCell ⟨gb366, 0, none⟩ (.slice Ao66 t347.length co66)).setCell ⟨gb366, 1, none⟩ (.int .i64 t350)).setCell ⟨gb366, 2, none⟩ (.int .i64 t351)).setCell ⟨gb366, 3, none⟩ (.int .i64 t352)).setCell ⟨gb366, 4, none⟩ (.slice Ao70 t353.length co70)).setCell ⟨gb366, 5, none⟩ (.bool t356)).setCell ⟨gb366, 6, none⟩ (.slice Ao71 t357.length co71)).setCell ⟨gb366, 7, none⟩ (.slice Ao72 t360.length co72)).setCell ⟨gb366, 8, none⟩ (.slice Ao73 t363.length co73)) w.heap.size (fun k_ => some k_ ≠ (.slice Ao58 t330.length co58 : Value).ownBlock ∧ some k_ ≠ (.slice Ao61 t340.length co61 : Value).ownBlock ∧ some k_ ≠ (.slice Ao70 t353.length co70 : Value).ownBlock ∧ some k_ ≠ (.slice Ao72 t360.length co72 : Value).ownBlock ∧ some k_ ≠ (.slice Ao73 t363.length co73 : Value).ownBlock) (.slice Ao60 t337.length co60) t337) := ⟨by (with_reducible repeat (first | apply Kd.R_alloc | apply Kd.R_drewN | apply Kd.R_drew)); exact Kd.R_mono (Kd.R_far (p := ⟨gb366, 8, none⟩) (Kd.R_far (p := ⟨gb366, 7, none⟩) (Kd.R_far (p := ⟨gb366, 6, none⟩) (Kd.R_far (p := ⟨gb366, 5, none⟩) (Kd.R_far (p := ⟨gb366, 4, none⟩) (Kd.R_far (p := ⟨gb366, 3, none⟩) (Kd.R_far (p := ⟨gb366, 2, none⟩) (Kd.R_far (p := ⟨gb366, 1, none⟩) (Kd.R_far (p := ⟨gb366, 0, none⟩) (Kd.R_types HO339.out BK366.out (by decide)) (fun _ hk => hk.2) (.slice Ao66 t347.length co66)) (fun _ hk => hk.2) (.int .i64 t350)) (fun _ hk => hk.2) (.int .i64 t351)) (fun _ hk => hk.2) (.int .i64 t352)) (fun _ hk => hk.2) (.slice Ao70 t353.length co70)) (fun _ hk => hk.2) (.bool t356)) (fun _ hk => hk.2) (.slice Ao71 t357.length co71)) (fun _ hk => hk.2) (.slice Ao72 t360.length co72)) (fun _ hk => hk.2) (.slice Ao73 t363.length co73)) (fun _ hk => ⟨hk.1.1.1.1.1, ⟨hk.1.1.1.1.2, ⟨hk.1.1.1.2, ⟨hk.1.1.2, hk.1.2⟩⟩⟩⟩)⟩
        have n4_ : Aside0 (Kd.R (Kd.int .i64) 3 (((((((((w65.setCell ⟨gb366, 0, none⟩ (.slice Ao66 t347.length co66)).setCell ⟨gb366, 1, none⟩ (.int .i64 t350)).setCell ⟨gb366, 2, none⟩ (.int .i64 t351)).setCell ⟨gb366, 3, none⟩ (.int .i64 t352)).setCell ⟨gb366, 4, none⟩ (.slice Ao70 t353.length co70)).setCell ⟨gb366, 5, none⟩ (.bool t356)).setCell ⟨gb366, 6, none⟩ (.slice Ao71 t357.length co71)).setCell ⟨gb366, 7, none⟩ (.slice Ao72 t360.length co72)).setCell ⟨gb366, 8, none⟩ (.slice Ao73 t363.length co73)) w.heap.size (fun k_ => some k_ ≠ (.slice Ao58 t330.length co58 : Value).ownBlock ∧ some k_ ≠ (.slice Ao60 t337.length co60 : Value).ownBlock ∧ some k_ ≠ (.slice Ao70 t353.length co70 : Value).ownBlock ∧ some k_ ≠ (.slice Ao72 t360.length co72 : Value).ownBlock ∧ some k_ ≠ (.slice Ao73 t363.length co73 : Value).ownBlock) (.slice Ao61 t340.length co61) t340) := ⟨by (with_reducible repeat (first | apply Kd.R_alloc | apply Kd.R_drewN | apply Kd.R_drew)); exact Kd.R_mono (Kd.R_far (p := ⟨gb366, 8, none⟩) (Kd.R_far (p := ⟨gb366, 7, none⟩) (Kd.R_far (p := ⟨gb366, 6, none⟩) (Kd.R_far (p := ⟨gb366, 5, none⟩) (Kd.R_far (p := ⟨gb366, 4, none⟩) (Kd.R_far (p := ⟨gb366, 3, none⟩) (Kd.R_far (p := ⟨gb366, 2, none⟩) (Kd.R_far (p := ⟨gb366, 1, none⟩) (Kd.R_far (p := ⟨gb366, 0, none⟩) (Kd.R_types HO342.out BK366.out (by decide)) (fun _ hk => hk.2) (.slice Ao66 t347.length co66)) (fun _ hk => hk.2) (.int .i64 t350)) (fun _ hk => hk.2) (.int .i64 t351)) (fun _ hk => hk.2) (.int .i64 t352)) (fun _ hk => hk.2) (.slice Ao70 t353.length co70)) (fun _ hk => hk.2) (.bool t356)) (fun _ hk => hk.2) (.slice Ao71 t357.length co71)) (fun _ hk => hk.2) (.slice Ao72 t360.length co72)) (fun _ hk => hk.2) (.slice Ao73 t363.length co73)) (fun _ hk => ⟨hk.1.1.1.1.1, ⟨hk.1.1.1.1.2, ⟨hk.1.1.1.2, ⟨hk.1.1.2, hk.1.2⟩⟩⟩⟩)⟩
        have n5_ : Aside0 (Kd.R k101 101 (((((((((w65.setCell ⟨gb366, 0, none⟩ (.slice Ao66 t347.length co66)).setCell ⟨gb366, 1, none⟩ (.int .i64 t350)).setCell ⟨gb366, 2, none⟩ (.int .i64 t351)).setCell ⟨gb366, 3, none⟩ (.int .i64 t352)).setCell ⟨gb366, 4, none⟩ (.slice Ao70 t353.length co70)).setCell ⟨gb366, 5, none⟩ (.bool t356)).setCell ⟨gb366, 6, none⟩ (.slice Ao71 t357.length co71)).setCell ⟨gb366, 7, none⟩ (.slice Ao72 t360.length co72)).setCell ⟨gb366, 8, none⟩ (.slice Ao73 t363.length co73)) w.heap.size (fun k_ => some k_ ≠ (.slice Ao57 t324.length co57 : Value).ownBlock) (.slice Ao66 t347.length co66) t347) := ⟨by (with_reducible repeat (first | apply Kd.R_alloc | apply Kd.R_drewN | apply Kd.R_drew)); exact Kd.R_mono (Kd.R_far (p := ⟨gb366, 8, none⟩) (Kd.R_far (p := ⟨gb366, 7, none⟩) (Kd.R_far (p := ⟨gb366, 6, none⟩) (Kd.R_far (p := ⟨gb366, 5, none⟩) (Kd.R_far (p := ⟨gb366, 4, none⟩) (Kd.R_far (p := ⟨gb366, 3, none⟩) (Kd.R_far (p := ⟨gb366, 2, none⟩) (Kd.R_far (p := ⟨gb366, 1, none⟩) (Kd.R_far (p := ⟨gb366, 0, none⟩) (Kd.R_types HO349.out BK366.out (by decide)) (fun _ hk => hk.2) (.slice Ao66 t347.length co66)) (fun _ hk => hk.2) (.int .i64 t350)) (fun _ hk => hk.2) (.int .i64 t351)) (fun _ hk => hk.2) (.int .i64 t352)) (fun _ hk => hk.2) (.slice Ao70 t353.length co70)) (fun _ hk => hk.2) (.bool t356)) (fun _ hk => hk.2) (.slice Ao71 t357.length co71)) (fun _ hk => hk.2) (.slice Ao72 t360.length co72)) (fun _ hk => hk.2) (.slice Ao73 t363.length co73)) (fun _ hk => hk.1.2)⟩
        have n6_ : Aside0 (Kd.R (Kd.int .i64) 3 (((((((((w65.setCell ⟨gb366, 0, none⟩ (.slice Ao66 t347.length co66)).setCell ⟨gb366, 1, none⟩ (.int .i64 t350)).setCell ⟨gb366, 2, none⟩ (.int .i64 t351)).setCell ⟨gb366, 3, none⟩ (.int .i64 t352)).setCell ⟨gb366, 4, none⟩ (.slice Ao70 t353.length co70)).setCell ⟨gb366, 5, none⟩ (.bool t356)).setCell ⟨gb366, 6, none⟩ (.slice Ao71 t357.length co71)).setCell ⟨gb366, 7, none⟩ (.slice Ao72 t360.length co72)).setCell ⟨gb366, 8, none⟩ (.slice Ao73 t363.length co73)) w.heap.size (fun k_ => some k_ ≠ (.slice Ao58 t330.length co58 : Value).ownBlock ∧ some k_ ≠ (.slice Ao60 t337.length co60 : Value).ownBlock ∧ some k_ ≠ (.slice Ao61 t340.length co61 : Value).ownBlock ∧ some k_ ≠ (.slice Ao72 t360.length co72 : Value).ownBlock ∧ some k_ ≠ (.slice Ao73 t363.length co73 : Value).ownBlock) (.slice Ao70 t353.length co70) t353) := ⟨by (with_reducible repeat (first | apply Kd.R_alloc | apply Kd.R_drewN | apply Kd.R_drew)); exact Kd.R_mono (Kd.R_far (p := ⟨gb366, 8, none⟩) (Kd.R_far (p := ⟨gb366, 7, none⟩) (Kd.R_far (p := ⟨gb366, 6, none⟩) (Kd.R_far (p := ⟨gb366, 5, none⟩) (Kd.R_far (p := ⟨gb366, 4, none⟩) (Kd.R_far (p := ⟨gb366, 3, none⟩) (Kd.R_far (p := ⟨gb366, 2, none⟩) (Kd.R_far (p := ⟨gb366, 1, none⟩) (Kd.R_far (p := ⟨gb366, 0, none⟩) (Kd.R_types HO355.out BK366.out (by decide)) (fun _ hk => hk.2) (.slice Ao66 t347.length co66)) (fun _ hk => hk.2) (.int .i64 t350)) (fun _ hk => hk.2) (.int .i64 t351)) (fun _ hk => hk.2) (.int .i64 t352)) (fun _ hk => hk.2) (.slice Ao70 t353.length co70)) (fun _ hk => hk.2) (.bool t356)) (fun _ hk => hk.2) (.slice Ao71 t357.length co71)) (fun _ hk => hk.2) (.slice Ao72 t360.length co72)) (fun _ hk => hk.2) (.slice Ao73 t363.length co73)) (fun _ hk => ⟨hk.1.1.1.2, ⟨hk.1.1.2, ⟨hk.1.2, ⟨hk.1.1.1.1.1, hk.1.1.1.1.2⟩⟩⟩⟩)⟩
        have n7_ : Aside0 (Kd.R k71 71 (((((((((w65.setCell ⟨gb366, 0, none⟩ (.slice Ao66 t347.length co66)).setCell ⟨gb366, 1, none⟩ (.int .i64 t350)).setCell ⟨gb366, 2, none⟩ (.int .i64 t351)).setCell ⟨gb366, 3, none⟩ (.int .i64 t352)).setCell ⟨gb366, 4, none⟩ (.slice Ao70 t353.length co70)).setCell ⟨gb366, 5, none⟩ (.bool t356)).setCell ⟨gb366, 6, none⟩ (.slice Ao71 t357.length co71)).setCell ⟨gb366, 7, none⟩ (.slice Ao72 t360.length co72)).setCell ⟨gb366, 8, none⟩ (.slice Ao73 t363.length co73)) w.heap.size (fun k_ => some k_ ≠ (.slice Ao59 t334.length co59 : Value).ownBlock) (.slice Ao71 t357.length co71) t357) := ⟨by (with_reducible repeat (first | apply Kd.R_alloc | apply Kd.R_drewN | apply Kd.R_drew)); exact Kd.R_mono (Kd.R_far (p := ⟨gb366, 8, none⟩) (Kd.R_far (p := ⟨gb366, 7, none⟩) (Kd.R_far (p := ⟨gb366, 6, none⟩) (Kd.R_far (p := ⟨gb366, 5, none⟩) (Kd.R_far (p := ⟨gb366, 4, none⟩) (Kd.R_far (p := ⟨gb366, 3, none⟩) (Kd.R_far (p := ⟨gb366, 2, none⟩) (Kd.R_far (p := ⟨gb366, 1, none⟩) (Kd.R_far (p := ⟨gb366, 0, none⟩) (Kd.R_types HO359.out BK366.out (by decide)) (fun _ hk => hk.2) (.slice Ao66 t347.length co66)) (fun _ hk => hk.2) (.int .i64 t350)) (fun _ hk => hk.2) (.int .i64 t351)) (fun _ hk => hk.2) (.int .i64 t352)) (fun _ hk => hk.2) (.slice Ao70 t353.length co70)) (fun _ hk => hk.2) (.bool t356)) (fun _ hk => hk.2) (.slice Ao71 t357.length co71)) (fun _ hk => hk.2) (.slice Ao72 t360.length co72)) (fun _ hk => hk.2) (.slice Ao73 t363.length co73)) (fun _ hk => hk.1.2)⟩
        have n8_ : Aside0 (Kd.R (Kd.int .i64) 3 (((((((((w65.setCell ⟨gb366, 0, none⟩ (.slice Ao66 t347.length co66)).setCell ⟨gb366, 1, none⟩ (.int .i64 t350)).setCell ⟨gb366, 2, none⟩ (.int .i64 t351)).setCell ⟨gb366, 3, none⟩ (.int .i64 t352)).setCell ⟨gb366, 4, none⟩ (.slice Ao70 t353.length co70)).setCell ⟨gb366, 5, none⟩ (.bool t356)).setCell ⟨gb366, 6, none⟩ (.slice Ao71 t357.length co71)).setCell ⟨gb366, 7, none⟩ (.slice Ao72 t360.length co72)).setCell ⟨gb366, 8, none⟩ (.slice Ao73 t363.length co73)) w.heap.size (fun k_ => some k_ ≠ (.slice Ao58 t330.length co58 : Value).ownBlock ∧ some k_ ≠ (.slice Ao60 t337.length co60 : Value).ownBlock ∧ some k_ ≠ (.slice Ao61 t340.length co61 : Value).ownBlock ∧ some k_ ≠ (.slice Ao70 t353.length co70 : Value).ownBlock ∧ some k_ ≠ (.slice Ao73 t363.length co73 : Value).ownBlock) (.slice Ao72 t360.length co72) t360) := ⟨by (with_reducible repeat (first | apply Kd.R_alloc | apply Kd.R_drewN | apply Kd.R_drew)); exact Kd.R_mono (Kd.R_far (p := ⟨gb366, 8, none⟩) (Kd.R_far (p := ⟨gb366, 7, none⟩) (Kd.R_far (p := ⟨gb366, 6, none⟩) (Kd.R_far (p := ⟨gb366, 5, none⟩) (Kd.R_far (p := ⟨gb366, 4, none⟩) (Kd.R_far (p := ⟨gb366, 3, none⟩) (Kd.R_far (p := ⟨gb366, 2, none⟩) (Kd.R_far (p := ⟨gb366, 1, none⟩) (Kd.R_far (p := ⟨gb366, 0, none⟩) (Kd.R_types HO362.out BK366.out (by decide)) (fun _ hk => hk.2) (.slice Ao66 t347.length co66)) (fun _ hk => hk.2) (.int .i64 t350)) (fun _ hk => hk.2) (.int .i64 t351)) (fun _ hk => hk.2) (.int .i64 t352)) (fun _ hk => hk.2) (.slice Ao70 t353.length co70)) (fun _ hk => hk.2) (.bool t356)) (fun _ hk => hk.2) (.slice Ao71 t357.length co71)) (fun _ hk => hk.2) (.slice Ao72 t360.length co72)) (fun _ hk => hk.2) (.slice Ao73 t363.length co73)) (fun _ hk => ⟨hk.1.1.1.2, ⟨hk.1.1.2, ⟨hk.1.2, ⟨hk.1.1.1.1.1, hk.1.1.1.1.2⟩⟩⟩⟩)⟩
        have n9_ : Aside0 (Kd.R (Kd.int .i64) 3 (((((((((w65.setCell ⟨gb366, 0, none⟩ (.slice Ao66 t347.length co66)).setCell ⟨gb366, 1, none⟩ (.int .i64 t350)).setCell ⟨gb366, 2, none⟩ (.int .i64 t351)).setCell ⟨gb366, 3, none⟩ (.int .i64 t352)).setCell ⟨gb366, 4, none⟩ (.slice Ao70 t353.length co70)).setCell ⟨gb366, 5, none⟩ (.bool t356)).setCell ⟨gb366, 6, none⟩ (.slice Ao71 t357.length co71)).setCell ⟨gb366, 7, none⟩ (.slice Ao72 t360.length co72)).setCell ⟨gb366, 8, none⟩ (.slice Ao73 t363.length co73)) w.heap.size (fun k_ => some k_ ≠ (.slice Ao58 t330.length co58 : Value).ownBlock ∧ some k_ ≠ (.slice Ao60 t337.length co60 : Value).ownBlock ∧ some k_ ≠ (.slice Ao61 t340.length co61 : Value).ownBlock ∧ some k_ ≠ (.slice Ao70 t353.length co70 : Value).ownBlock ∧ some k_ ≠ (.slice Ao72 t360.length co72 : Value).ownBlock) (.slice Ao73 t363.length co73) t363) := ⟨by (with_reducible repeat (first | apply Kd.R_alloc | apply Kd.R_drewN | apply Kd.R_drew)); exact Kd.R_mono (Kd.R_far (p := ⟨gb366, 8, none⟩) (Kd.R_far (p := ⟨gb366, 7, none⟩) (Kd.R_far (p := ⟨gb366, 6, none⟩) (Kd.R_far (p := ⟨gb366, 5, none⟩) (Kd.R_far (p := ⟨gb366, 4, none⟩) (Kd.R_far (p := ⟨gb366, 3, none⟩) (Kd.R_far (p := ⟨gb366, 2, none⟩) (Kd.R_far (p := ⟨gb366, 1, none⟩) (Kd.R_far (p := ⟨gb366, 0, none⟩) (Kd.R_types HO365.out BK366.out (by decide)) (fun _ hk => hk.2) (.slice Ao66 t347.length co66)) (fun _ hk => hk.2) (.int .i64 t350)) (fun _ hk => hk.2) (.int .i64 t351)) (fun _ hk => hk.2) (.int .i64 t352)) (fun _ hk => hk.2) (.slice Ao70 t353.length co70)) (fun _ hk => hk.2) (.bool t356)) (fun _ hk => hk.2) (.slice Ao71 t357.length co71)) (fun _ hk => hk.2) (.slice Ao72 t360.length co72)) (fun _ hk => hk.2) (.slice Ao73 t363.length co73)) (fun _ hk => ⟨hk.1.1.1.2, ⟨hk.1.1.2, ⟨hk.1.2, ⟨hk.1.1.1.1.1, hk.1.1.1.1.2⟩⟩⟩⟩)⟩
        have n10_ : Aside0 ((((((((((w65.setCell ⟨gb366, 0, none⟩ (.slice Ao66 t347.length co66)).setCell ⟨gb366, 1, none⟩ (.int .i64 t350)).setCell ⟨gb366, 2, none⟩ (.int .i64 t351)).setCell ⟨gb366, 3, none⟩ (.int .i64 t352)).setCell ⟨gb366, 4, none⟩ (.slice Ao70 t353.length co70)).setCell ⟨gb366, 5, none⟩ (.bool t356)).setCell ⟨gb366, 6, none⟩ (.slice Ao71 t357.length co71)).setCell ⟨gb366, 7, none⟩ (.slice Ao72 t360.length co72)).setCell ⟨gb366, 8, none⟩ (.slice Ao73 t363.length co73)).heap[gb321]? = some (.cells #[.slice A0_0 l0_0.length c0_0, .int .i64 a0_1, .int .i64 a0_2, .int .i64 a0_3, .slice A0_4 l0_4.length c0_4, .bool a0_5, .slice A0_6 l0_6.length c0_6, .slice A0_7 l0_7.length c0_7, .slice A0_8 l0_8.length c0_8] 28 (0, 0))) := ⟨bk BK321.out⟩
        have n11_ : Aside0 ((((((((((w65.setCell ⟨gb366, 0, none⟩ (.slice Ao66 t347.length co66)).setCell ⟨gb366, 1, none⟩ (.int .i64 t350)).setCell ⟨gb366, 2, none⟩ (.int .i64 t351)).setCell ⟨gb366, 3, none⟩ (.int .i64 t352)).setCell ⟨gb366, 4, none⟩ (.slice Ao70 t353.length co70)).setCell ⟨gb366, 5, none⟩ (.bool t356)).setCell ⟨gb366, 6, none⟩ (.slice Ao71 t357.length co71)).setCell ⟨gb366, 7, none⟩ (.slice Ao72 t360.length co72)).setCell ⟨gb366, 8, none⟩ (.slice Ao73 t363.length co73)).heap[gb322]? = some (.cells #[.int .i64 a1_0, .int .i64 a1_1, .bool a1_2] 30 (0, 0))) := ⟨bk BK322.out⟩
        have n12_ : Aside0 ((((((((((w65.setCell ⟨gb366, 0, none⟩ (.slice Ao66 t347.length co66)).setCell ⟨gb366, 1, none⟩ (.int .i64 t350)).setCell ⟨gb366, 2, none⟩ (.int .i64 t351)).setCell ⟨gb366, 3, none⟩ (.int .i64 t352)).setCell ⟨gb366, 4, none⟩ (.slice Ao70 t353.length co70)).setCell ⟨gb366, 5, none⟩ (.bool t356)).setCell ⟨gb366, 6, none⟩ (.slice Ao71 t357.length co71)).setCell ⟨gb366, 7, none⟩ (.slice Ao72 t360.length co72)).setCell ⟨gb366, 8, none⟩ (.slice Ao73 t363.length co73)).heap[gb366]? = some (.cells #[.slice Ao66 t347.length co66, .int .i64 t350, .int .i64 t351, .int .i64 t352, .slice Ao70 t353.length co70, .bool t356, .slice Ao71 t357.length co71, .slice Ao72 t360.length co72, .slice Ao73 t363.length co73] 37 (0, 0))) := ⟨by (with_reducible repeat (first | refine blk_drewN ?_ _ | refine blk_drew ?_ | refine blk_alloc ?_ _)); refine blk_put (cs := #[.slice Ao66 t347.length co66, .int .i64 t350, .int .i64 t351, .int .i64 t352, .slice Ao70 t353.length co70, .bool t356, .slice Ao71 t357.length co71, .slice Ao72 t360.length co72, .slice none 0 0]) ?_ 8 _ rfl; (with_reducible repeat (first | refine blk_drewN ?_ _ | refine blk_drew ?_ | refine blk_alloc ?_ _)); refine blk_put (cs := #[.slice Ao66 t347.length co66, .int .i64 t350, .int .i64 t351, .int .i64 t352, .slice Ao70 t353.length co70, .bool t356, .slice Ao71 t357.length co71, .slice none 0 0, .slice none 0 0]) ?_ 7 _ rfl; (with_reducible repeat (first | refine blk_drewN ?_ _ | refine blk_drew ?_ | refine blk_alloc ?_ _)); refine blk_put (cs := #[.slice Ao66 t347.length co66, .int .i64 t350, .int .i64 t351, .int .i64 t352, .slice Ao70 t353.length co70, .bool t356, .slice none 0 0, .slice none 0 0, .slice none 0 0]) ?_ 6 _ rfl; (with_reducible repeat (first | refine blk_drewN ?_ _ | refine blk_drew ?_ | refine blk_alloc ?_ _)); refine blk_put (cs := #[.slice Ao66 t347.length co66, .int .i64 t350, .int .i64 t351, .int .i64 t352, .slice Ao70 t353.length co70, .bool false, .slice none 0 0, .slice none 0 0, .slice none 0 0]) ?_ 5 _ rfl; (with_reducible repeat (first | refine blk_drewN ?_ _ | refine blk_drew ?_ | refine blk_alloc ?_ _)); refine blk_put (cs := #[.slice Ao66 t347.length co66, .int .i64 t350, .int .i64 t351, .int .i64 t352, .slice none 0 0, .bool false, .slice none 0 0, .slice none 0 0, .slice none 0 0]) ?_ 4 _ rfl; (with_reducible repeat (first | refine blk_drewN ?_ _ | refine blk_drew ?_ | refine blk_alloc ?_ _)); refine blk_put (cs := #[.slice Ao66 t347.length co66, .int .i64 t350, .int .i64 t351, .int .i64 0, .slice none 0 0, .bool false, .slice none 0 0, .slice none 0 0, .slice none 0 0]) ?_ 3 _ rfl; (with_reducible repeat (first | refine blk_drewN ?_ _ | refine blk_drew ?_ | refine blk_alloc ?_ _)); refine blk_put (cs := #[.slice Ao66 t347.length co66, .int .i64 t350, .int .i64 0, .int .i64 0, .slice none 0 0, .bool false, .slice none 0 0, .slice none 0 0, .slice none 0 0]) ?_ 2 _ rfl; (with_reducible repeat (first | refine blk_drewN ?_ _ | refine blk_drew ?_ | refine blk_alloc ?_ _)); refine blk_put (cs := #[.slice Ao66 t347.length co66, .int .i64 0, .int .i64 0, .int .i64 0, .slice none 0 0, .bool false, .slice none 0 0, .slice none 0 0, .slice none 0 0]) ?_ 1 _ rfl; (with_reducible repeat (first | refine blk_drewN ?_ _ | refine blk_drew ?_ | refine blk_alloc ?_ _)); refine blk_put (cs := #[.slice none 0 0, .int .i64 0, .int .i64 0, .int .i64 0, .slice none 0 0, .bool false, .slice none 0 0, .slice none 0 0, .slice none 0 0]) ?_ 0 _ rfl; (with_reducible repeat (first | refine blk_drewN ?_ _ | refine blk_drew ?_ | refine blk_alloc ?_ _)); exact BK366.out⟩
        have n13_ : Aside0 (Below w.heap.size w (((((((((w65.setCell ⟨gb366, 0, none⟩ (.slice Ao66 t347.length co66)).setCell ⟨gb366, 1, none⟩ (.int .i64 t350)).setCell ⟨gb366, 2, none⟩ (.int .i64 t351)).setCell ⟨gb366, 3, none⟩ (.int .i64 t352)).setCell ⟨gb366, 4, none⟩ (.slice Ao70 t353.length co70)).setCell ⟨gb366, 5, none⟩ (.bool t356)).setCell ⟨gb366, 6, none⟩ (.slice Ao71 t357.length co71)).setCell ⟨gb366, 7, none⟩ (.slice Ao72 t360.length co72)).setCell ⟨gb366, 8, none⟩ (.slice Ao73 t363.length co73))) := ⟨bel⟩
        (try clear HO326)
        (try clear HO332)
        (try clear HO336)
        (try clear HO339)
        (try clear HO342)
        (try clear HO349)
        (try clear HO355)
        (try clear HO359)
        (try clear HO362)
        (try clear HO365)
        (try clear BK321)
        (try clear BK322)
        (try clear BK366)
        (try clear HB)
        generalize (((((((((w65.setCell ⟨gb366, 0, none⟩ (.slice Ao66 t347.length co66)).setCell ⟨gb366, 1, none⟩ (.int .i64 t350)).setCell ⟨gb366, 2, none⟩ (.int .i64 t351)).setCell ⟨gb366, 3, none⟩ (.int .i64 t352)).setCell ⟨gb366, 4, none⟩ (.slice Ao70 t353.length co70)).setCell ⟨gb366, 5, none⟩ (.bool t356)).setCell ⟨gb366, 6, none⟩ (.slice Ao71 t357.length co71)).setCell ⟨gb366, 7, none⟩ (.slice Ao72 t360.length co72)).setCell ⟨gb366, 8, none⟩ (.slice Ao73 t363.length co73)) = w74 at n0_ n1_ n2_ n3_ n4_ n5_ n6_ n7_ n8_ n9_ n10_ n11_ n12_ n13_ ⊢
        have HO326 := n0_
        have HO332 := n1_
        have HO336 := n2_
        have HO339 := n3_
        have HO342 := n4_
        have HO349 := n5_
        have HO355 := n6_
        have HO359 := n7_
        have HO362 := n8_
        have HO365 := n9_
        have BK321 := n10_
        have BK322 := n11_
        have BK366 := n12_
        have HB := n13_
        clear n0_ n1_ n2_ n3_ n4_ n5_ n6_ n7_ n8_ n9_ n10_ n11_ n12_ n13_
        replace HO326 := Aside0.mk (Kd.R_drew HO326.out)
        replace HO332 := Aside0.mk (Kd.R_drew HO332.out)
        replace HO336 := Aside0.mk (Kd.R_drew HO336.out)
        replace HO339 := Aside0.mk (Kd.R_drew HO339.out)
        replace HO342 := Aside0.mk (Kd.R_drew HO342.out)
        replace HO349 := Aside0.mk (Kd.R_drew HO349.out)
        replace HO355 := Aside0.mk (Kd.R_drew HO355.out)
        replace HO359 := Aside0.mk (Kd.R_drew HO359.out)
        replace HO362 := Aside0.mk (Kd.R_drew HO362.out)
        replace HO365 := Aside0.mk (Kd.R_drew HO365.out)
        replace BK321 := Aside0.mk (blk_drew BK321.out)
        replace BK322 := Aside0.mk (blk_drew BK322.out)
        replace BK366 := Aside0.mk (blk_drew BK366.out)
        replace HB := Aside0.mk (below_drew1 HB.out)
        refine start_ (n := 5) (S := fun w' => w'.cell? ⟨gb366, 0, none⟩ = some (.slice Ao66 t347.length co66) ∧ w'.cell? ⟨gb366, 1, none⟩ = some (.int .i64 t350) ∧ w'.cell? ⟨gb366, 2, none⟩ = some (.int .i64 t351) ∧ w'.cell? ⟨gb366, 3, none⟩ = some (.int .i64 t352) ∧ w'.cell? ⟨gb366, 4, none⟩ = some (.slice Ao70 t353.length co70) ∧ w'.cell? ⟨gb366, 5, none⟩ = some (.bool t356) ∧ w'.cell? ⟨gb366, 6, none⟩ = some (.slice Ao71 t357.length co71) ∧ w'.cell? ⟨gb366, 7, none⟩ = some (.slice Ao72 t360.length co72) ∧ w'.cell? ⟨gb366, 8, none⟩ = some (.slice Ao73 t363.length co73) ∧ w'.cell? ⟨gb322, 0, none⟩ = some (.int .i64 a1_0) ∧ w'.cell? ⟨gb322, 1, none⟩ = some (.int .i64 a1_1) ∧ w'.cell? ⟨gb322, 2, none⟩ = some (.bool a1_2)) (ds := []) #[false, false, false, false, false] (by kernel_rfl) rfl rfl ⟨(blk_cell BK366.out 0).trans rfl, (blk_cell BK366.out 1).trans rfl, (blk_cell BK366.out 2).trans rfl, (blk_cell BK366.out 3).trans rfl, (blk_cell BK366.out 4).trans rfl, (blk_cell BK366.out 5).trans rfl, (blk_cell BK366.out 6).trans rfl, (blk_cell BK366.out 7).trans rfl, (blk_cell BK366.out 8).trans rfl, (blk_cell BK322.out 0).trans rfl, (blk_cell BK322.out 1).trans rfl, (blk_cell BK322.out 2).trans rfl⟩ (fun hHeld => ?_)
        generalize w74.drew = w75 at HO326 HO332 HO336 HO339 HO342 HO349 HO355 HO359 HO362 HO365 BK321 BK322 BK366 HB hHeld ⊢
        refine take_ (i := 0) (N := some 21) (v := ?_) (a' := ?_) #[true, false, false, false, false] rfl rfl (by kernel_rfl) (fun _ _ _ h => h) (Or.inl ⟨by rfl, ?_⟩) hHeld ?_ ?_
        rotate_left
        · rintro w' ⟨s0, s1, s2, s3, s4, s5, s6, s7, s8, s9, s10, s11⟩
          go_simp
          with_reducible rfl
        rotate_left
        · simp only [Act.put, List.setIfInBounds_toArray, List.set_cons_zero, List.set_cons_succ, i64_w, i32_w]
          rfl
        refine take_ (i := 1) (N := some 22) (v := ?_) (a' := ?_) #[true, true, false, false, false] rfl rfl (by kernel_rfl) (fun _ _ _ h => h) (Or.inl ⟨by rfl, ?_⟩) hHeld ?_ ?_
        rotate_left
        · rintro w' ⟨s0, s1, s2, s3, s4, s5, s6, s7, s8, s9, s10, s11⟩
          go_simp
          with_reducible rfl
        rotate_left
        · simp only [Act.put, List.setIfInBounds_toArray, List.set_cons_zero, List.set_cons_succ, i64_w, i32_w]
          rfl
        refine one_ (i := 2) (N := some 23) #[true, true, true, false, false] rfl rfl (by kernel_rfl) (by decide) (fun K hK => ?_)
        refine goes_ Try.func16 (by kernel_rfl) rfl #[.agg #[.int .i64 a1_0, .int .i64 a1_1, .bool a1_2]] (by rfl) rfl rfl ga ?_
        with_reducible refine (laws_toProtest.calls a1_0 a1_1 a1_2 t367 t368 t369 _ A14.out).mono ?_
        rintro e w76 ⟨rfl, hb⟩
        refine ⟨_, rfl, ?_⟩
        replace HO326 := Aside0.mk (Kd.R_below (rk HO326.out) hb)
        replace HO332 := Aside0.mk (Kd.R_below (rk HO332.out) hb)
        replace HO336 := Aside0.mk (Kd.R_below (rk HO336.out) hb)
        replace HO339 := Aside0.mk (Kd.R_below (rk HO339.out) hb)
        replace HO342 := Aside0.mk (Kd.R_below (rk HO342.out) hb)
        replace HO349 := Aside0.mk (Kd.R_below (rk HO349.out) hb)
        replace HO355 := Aside0.mk (Kd.R_below (rk HO355.out) hb)
        replace HO359 := Aside0.mk (Kd.R_below (rk HO359.out) hb)
        replace HO362 := Aside0.mk (Kd.R_below (rk HO362.out) hb)
        replace HO365 := Aside0.mk (Kd.R_below (rk HO365.out) hb)
        replace BK321 := Aside0.mk (bb BK321.out hb)
        replace BK322 := Aside0.mk (bb BK322.out hb)
        replace BK366 := Aside0.mk (bb BK366.out hb)
        replace HB := Aside0.mk (below_step bel hb)
        (try clear hb)
        (try clear hb2)
        (try clear hk)
        (try clear hi)
        refine hK.out _ _ ⟨(blk_cell BK366.out 0).trans rfl, (blk_cell BK366.out 1).trans rfl, (blk_cell BK366.out 2).trans rfl, (blk_cell BK366.out 3).trans rfl, (blk_cell BK366.out 4).trans rfl, (blk_cell BK366.out 5).trans rfl, (blk_cell BK366.out 6).trans rfl, (blk_cell BK366.out 7).trans rfl, (blk_cell BK366.out 8).trans rfl, (blk_cell BK322.out 0).trans rfl, (blk_cell BK322.out 1).trans rfl, (blk_cell BK322.out 2).trans rfl⟩ (fun hHeld => ?_)
        clear hK K
        refine norm_ (a' := ?_) ?_ ?_
        rotate_left
        · show Act.put _ (some 23) _ = _
          simp only [Act.put, List.setIfInBounds_toArray, List.set_cons_zero, List.set_cons_succ, i64_w, i32_w]
          rfl
        refine one_ (i := 3) (N := some 24) #[true, true, true, true, false] rfl rfl (by kernel_rfl) (by decide) (fun K hK => ?_)
        refine goes_ Try.func17 (by kernel_rfl) rfl #[.agg #[.slice Ao66 t347.length co66, .int .i64 t350, .int .i64 t351, .int .i64 t352, .slice Ao70 t353.length co70, .bool t356, .slice Ao71 t357.length co71, .slice Ao72 t360.length co72, .slice Ao73 t363.length co73], .agg #[.int .i64 t367, .int .i64 t368, .bool t369]] (by rfl) rfl rfl ga ?_
        with_reducible refine (impl_ProtestOk.calls k _ _ t347 t350 t351 t352 _ _ t353 t356 _ _ t357 _ _ t360 _ _ t363 t367 t368 t369 t370 _ ?side1 ?side2 ?side3 ?side4 ?side5 ?side6 ?side7 ?side8 ?side9 ?side10 A15.out).mono ?_
        (case side1 => exact ck (Kd.R_reads' HO349.out).2.2)
        (case side2 => exact (Kd.R_reads' HO349.out).2.1)
        (case side3 => exact ck (Kd.R_reads' HO355.out).2.2)
        (case side4 => exact (Kd.R_reads' HO355.out).2.1)
        (case side5 => exact ck (Kd.R_reads' HO359.out).2.2)
        (case side6 => exact (Kd.R_reads' HO359.out).2.1)
        (case side7 => exact ck (Kd.R_reads' HO362.out).2.2)
        (case side8 => exact (Kd.R_reads' HO362.out).2.1)
        (case side9 => exact ck (Kd.R_reads' HO365.out).2.2)
        (case side10 => exact (Kd.R_reads' HO365.out).2.1)
        rintro e w77 ⟨rfl, hb⟩
        refine ⟨_, rfl, ?_⟩
        replace HO326 := Aside0.mk (Kd.R_below (rk HO326.out) hb)
        replace HO332 := Aside0.mk (Kd.R_below (rk HO332.out) hb)
        replace HO336 := Aside0.mk (Kd.R_below (rk HO336.out) hb)
        replace HO339 := Aside0.mk (Kd.R_below (rk HO339.out) hb)
        replace HO342 := Aside0.mk (Kd.R_below (rk HO342.out) hb)
        replace HO349 := Aside0.mk (Kd.R_below (rk HO349.out) hb)
        replace HO355 := Aside0.mk (Kd.R_below (rk HO355.out) hb)
        replace HO359 := Aside0.mk (Kd.R_below (rk HO359.out) hb)
        replace HO362 := Aside0.mk (Kd.R_below (rk HO362.out) hb)
        replace HO365 := Aside0.mk (Kd.R_below (rk HO365.out) hb)
        replace BK321 := Aside0.mk (bb BK321.out hb)
        replace BK322 := Aside0.mk (bb BK322.out hb)
        replace BK366 := Aside0.mk (bb BK366.out hb)
        replace HB := Aside0.mk (below_step bel hb)
        (try clear hb)
        (try clear hb2)
        (try clear hk)
        (try clear hi)
        refine hK.out _ _ ⟨(blk_cell BK366.out 0).trans rfl, (blk_cell BK366.out 1).trans rfl, (blk_cell BK366.out 2).trans rfl, (blk_cell BK366.out 3).trans rfl, (blk_cell BK366.out 4).trans rfl, (blk_cell BK366.out 5).trans rfl, (blk_cell BK366.out 6).trans rfl, (blk_cell BK366.out 7).trans rfl, (blk_cell BK366.out 8).trans rfl, (blk_cell BK322.out 0).trans rfl, (blk_cell BK322.out 1).trans rfl, (blk_cell BK322.out 2).trans rfl⟩ (fun hHeld => ?_)
        clear hK K
        refine norm_ (a' := ?_) ?_ ?_
        rotate_left
        · show Act.put _ (some 24) _ = _
          simp only [Act.put, List.setIfInBounds_toArray, List.set_cons_zero, List.set_cons_succ, i64_w, i32_w]
          rfl
        refine pure_ (i := 4) (N := some 8) (v := ?_) (a' := ?_) #[true, true, true, true, true] rfl rfl (by kernel_rfl) (fun _ _ _ h => h) (Or.inl ⟨by rfl, ?_⟩) ?_ ?_
        rotate_left
        · intro w'
          go_simp
          with_reducible rfl
        rotate_left
        · simp only [Act.put, List.setIfInBounds_toArray, List.set_cons_zero, List.set_cons_succ, i64_w, i32_w]
          rfl
        refine done_ (by kernel_rfl) ?_
        try go_wp2
        replace HO326 := Aside0.mk (Kd.R_drew HO326.out)
        replace HO332 := Aside0.mk (Kd.R_drew HO332.out)
        replace HO336 := Aside0.mk (Kd.R_drew HO336.out)
        replace HO339 := Aside0.mk (Kd.R_drew HO339.out)
        replace HO342 := Aside0.mk (Kd.R_drew HO342.out)
        replace HO349 := Aside0.mk (Kd.R_drew HO349.out)
        replace HO355 := Aside0.mk (Kd.R_drew HO355.out)
        replace HO359 := Aside0.mk (Kd.R_drew HO359.out)
        replace HO362 := Aside0.mk (Kd.R_drew HO362.out)
        replace HO365 := Aside0.mk (Kd.R_drew HO365.out)
        replace BK321 := Aside0.mk (blk_drew BK321.out)
        replace BK322 := Aside0.mk (blk_drew BK322.out)
        replace BK366 := Aside0.mk (blk_drew BK366.out)
        replace HB := Aside0.mk (below_drew1 HB.out)
        refine start_ (n := 5) (S := fun w' => w'.cell? ⟨gb366, 0, none⟩ = some (.slice Ao66 t347.length co66) ∧ w'.cell? ⟨gb366, 1, none⟩ = some (.int .i64 t350) ∧ w'.cell? ⟨gb366, 2, none⟩ = some (.int .i64 t351) ∧ w'.cell? ⟨gb366, 3, none⟩ = some (.int .i64 t352) ∧ w'.cell? ⟨gb366, 4, none⟩ = some (.slice Ao70 t353.length co70) ∧ w'.cell? ⟨gb366, 5, none⟩ = some (.bool t356) ∧ w'.cell? ⟨gb366, 6, none⟩ = some (.slice Ao71 t357.length co71) ∧ w'.cell? ⟨gb366, 7, none⟩ = some (.slice Ao72 t360.length co72) ∧ w'.cell? ⟨gb366, 8, none⟩ = some (.slice Ao73 t363.length co73) ∧ w'.cell? ⟨gb321, 0, none⟩ = some (.slice A0_0 l0_0.length c0_0) ∧ w'.cell? ⟨gb321, 1, none⟩ = some (.int .i64 a0_1) ∧ w'.cell? ⟨gb321, 2, none⟩ = some (.int .i64 a0_2) ∧ w'.cell? ⟨gb321, 3, none⟩ = some (.int .i64 a0_3) ∧ w'.cell? ⟨gb321, 4, none⟩ = some (.slice A0_4 l0_4.length c0_4) ∧ w'.cell? ⟨gb321, 5, none⟩ = some (.bool a0_5) ∧ w'.cell? ⟨gb321, 6, none⟩ = some (.slice A0_6 l0_6.length c0_6) ∧ w'.cell? ⟨gb321, 7, none⟩ = some (.slice A0_7 l0_7.length c0_7) ∧ w'.cell? ⟨gb321, 8, none⟩ = some (.slice A0_8 l0_8.length c0_8)) (ds := []) #[false, false, false, false, false] (by kernel_rfl) rfl rfl ⟨(blk_cell BK366.out 0).trans rfl, (blk_cell BK366.out 1).trans rfl, (blk_cell BK366.out 2).trans rfl, (blk_cell BK366.out 3).trans rfl, (blk_cell BK366.out 4).trans rfl, (blk_cell BK366.out 5).trans rfl, (blk_cell BK366.out 6).trans rfl, (blk_cell BK366.out 7).trans rfl, (blk_cell BK366.out 8).trans rfl, (blk_cell BK321.out 0).trans rfl, (blk_cell BK321.out 1).trans rfl, (blk_cell BK321.out 2).trans rfl, (blk_cell BK321.out 3).trans rfl, (blk_cell BK321.out 4).trans rfl, (blk_cell BK321.out 5).trans rfl, (blk_cell BK321.out 6).trans rfl, (blk_cell BK321.out 7).trans rfl, (blk_cell BK321.out 8).trans rfl⟩ (fun hHeld => ?_)
        generalize w77.drew = w78 at HO326 HO332 HO336 HO339 HO342 HO349 HO355 HO359 HO362 HO365 BK321 BK322 BK366 HB hHeld ⊢
        refine take_ (i := 0) (N := some 28) (v := ?_) (a' := ?_) #[true, false, false, false, false] rfl rfl (by kernel_rfl) (fun _ _ _ h => h) (Or.inl ⟨by rfl, ?_⟩) hHeld ?_ ?_
        rotate_left
        · rintro w' ⟨s0, s1, s2, s3, s4, s5, s6, s7, s8, s9, s10, s11, s12, s13, s14, s15, s16, s17⟩
          go_simp
          with_reducible rfl
        rotate_left
        · simp only [Act.put, List.setIfInBounds_toArray, List.set_cons_zero, List.set_cons_succ, i64_w, i32_w]
          rfl
        refine take_ (i := 1) (N := some 29) (v := ?_) (a' := ?_) #[true, true, false, false, false] rfl rfl (by kernel_rfl) (fun _ _ _ h => h) (Or.inl ⟨by rfl, ?_⟩) hHeld ?_ ?_
        rotate_left
        · rintro w' ⟨s0, s1, s2, s3, s4, s5, s6, s7, s8, s9, s10, s11, s12, s13, s14, s15, s16, s17⟩
          go_simp
          with_reducible rfl
        rotate_left
        · simp only [Act.put, List.setIfInBounds_toArray, List.set_cons_zero, List.set_cons_succ, i64_w, i32_w]
          rfl
        refine one_ (i := 2) (N := some 30) #[true, true, true, false, false] rfl rfl (by kernel_rfl) (by decide) (fun K hK => ?_)
        refine goes_ Try.func15 (by kernel_rfl) rfl #[.agg #[.slice A0_0 l0_0.length c0_0, .int .i64 a0_1, .int .i64 a0_2, .int .i64 a0_3, .slice A0_4 l0_4.length c0_4, .bool a0_5, .slice A0_6 l0_6.length c0_6, .slice A0_7 l0_7.length c0_7, .slice A0_8 l0_8.length c0_8]] (by rfl) rfl rfl ga ?_
        with_reducible refine (laws_toBook.calls k _ _ l0_0 a0_1 a0_2 a0_3 _ _ l0_4 a0_5 _ _ l0_6 _ _ l0_7 _ _ l0_8 t371 t374 t375 t376 t377 t380 t381 t384 t387 _ ?side1 ?side2 ?side3 ?side4 ?side5 ?side6 ?side7 ?side8 ?side9 ?side10 A46.out).mono ?_
        (case side1 => exact ck (Kd.C_below HR0_0.out HB.out))
        (case side2 => exact HC0_0.out)
        (case side3 => exact ck (Kd.C_below HR0_4.out HB.out))
        (case side4 => exact HC0_4.out)
        (case side5 => exact ck (Kd.C_below HR0_6.out HB.out))
        (case side6 => exact HC0_6.out)
        (case side7 => exact ck (Kd.C_below HR0_7.out HB.out))
        (case side8 => exact HC0_7.out)
        (case side9 => exact ck (Kd.C_below HR0_8.out HB.out))
        (case side10 => exact HC0_8.out)
        rintro e w79 ⟨v372, v378, v382, v385, v388, rfl, ho0, ho1, ho2, ho3, ho4, hb⟩
        refine ⟨_, rfl, ?_⟩
        have HO373 := Aside0.mk (Kd.R_lower (Kd.R_new' (Kd.R_new' ho0 (Kd.R_lt (rk HO326.out))) (Kd.R_lt (rk HO349.out))) (below_size bel))
        have HO379 := Aside0.mk (Kd.R_lower (Kd.R_new' (Kd.R_new' (Kd.R_new' (Kd.R_new' (Kd.R_new' (Kd.R_new' ho1 (Kd.R_lt (rk HO332.out))) (Kd.R_lt (rk HO339.out))) (Kd.R_lt (rk HO342.out))) (Kd.R_lt (rk HO355.out))) (Kd.R_lt (rk HO362.out))) (Kd.R_lt (rk HO365.out))) (below_size bel))
        have HO383 := Aside0.mk (Kd.R_lower (Kd.R_new' (Kd.R_new' ho2 (Kd.R_lt (rk HO336.out))) (Kd.R_lt (rk HO359.out))) (below_size bel))
        have HO386 := Aside0.mk (Kd.R_lower (Kd.R_new' (Kd.R_new' (Kd.R_new' (Kd.R_new' (Kd.R_new' (Kd.R_new' ho3 (Kd.R_lt (rk HO332.out))) (Kd.R_lt (rk HO339.out))) (Kd.R_lt (rk HO342.out))) (Kd.R_lt (rk HO355.out))) (Kd.R_lt (rk HO362.out))) (Kd.R_lt (rk HO365.out))) (below_size bel))
        have HO389 := Aside0.mk (Kd.R_lower (Kd.R_new' (Kd.R_new' (Kd.R_new' (Kd.R_new' (Kd.R_new' (Kd.R_new' ho4 (Kd.R_lt (rk HO332.out))) (Kd.R_lt (rk HO339.out))) (Kd.R_lt (rk HO342.out))) (Kd.R_lt (rk HO355.out))) (Kd.R_lt (rk HO362.out))) (Kd.R_lt (rk HO365.out))) (below_size bel))
        replace HO326 := Aside0.mk (Kd.R_elder' (rk HO326.out) (Kd.R_base ho0) hb)
        replace HO332 := Aside0.mk (Kd.R_mono (Kd.R_told (Kd.R_told (Kd.R_told (Kd.R_old (rk HO332.out) hb) (Kd.R_base ho1)) (Kd.R_base ho3)) (Kd.R_base ho4)) (fun _ h_ => h_.1))
        replace HO336 := Aside0.mk (Kd.R_elder' (rk HO336.out) (Kd.R_base ho2) hb)
        replace HO339 := Aside0.mk (Kd.R_mono (Kd.R_told (Kd.R_told (Kd.R_told (Kd.R_old (rk HO339.out) hb) (Kd.R_base ho1)) (Kd.R_base ho3)) (Kd.R_base ho4)) (fun _ h_ => h_.1))
        replace HO342 := Aside0.mk (Kd.R_mono (Kd.R_told (Kd.R_told (Kd.R_told (Kd.R_old (rk HO342.out) hb) (Kd.R_base ho1)) (Kd.R_base ho3)) (Kd.R_base ho4)) (fun _ h_ => h_.1))
        replace HO349 := Aside0.mk (Kd.R_elder' (rk HO349.out) (Kd.R_base ho0) hb)
        replace HO355 := Aside0.mk (Kd.R_mono (Kd.R_told (Kd.R_told (Kd.R_told (Kd.R_old (rk HO355.out) hb) (Kd.R_base ho1)) (Kd.R_base ho3)) (Kd.R_base ho4)) (fun _ h_ => h_.1))
        replace HO359 := Aside0.mk (Kd.R_elder' (rk HO359.out) (Kd.R_base ho2) hb)
        replace HO362 := Aside0.mk (Kd.R_mono (Kd.R_told (Kd.R_told (Kd.R_told (Kd.R_old (rk HO362.out) hb) (Kd.R_base ho1)) (Kd.R_base ho3)) (Kd.R_base ho4)) (fun _ h_ => h_.1))
        replace HO365 := Aside0.mk (Kd.R_mono (Kd.R_told (Kd.R_told (Kd.R_told (Kd.R_old (rk HO365.out) hb) (Kd.R_base ho1)) (Kd.R_base ho3)) (Kd.R_base ho4)) (fun _ h_ => h_.1))
        replace BK321 := Aside0.mk (bb BK321.out hb)
        replace BK322 := Aside0.mk (bb BK322.out hb)
        replace BK366 := Aside0.mk (bb BK366.out hb)
        replace HB := Aside0.mk (below_step bel hb)
        (try clear hb)
        (try clear hb2)
        (try clear hk)
        (try clear hi)
        (try clear ho0)
        (try clear ho1)
        (try clear ho2)
        (try clear ho3)
        (try clear ho4)
        obtain ⟨Ao80, co80, eo80⟩ := Kd.R_slice HO373.out
        (first | subst eo80 | (injection eo80 with f1_ f2_ f3_; have f4_ := f1_.symm; have f5_ := f3_.symm; clear f1_ f2_ f3_; subst f4_; subst f5_))
        obtain ⟨Ao81, co81, eo81⟩ := Kd.R_slice HO379.out
        (first | subst eo81 | (injection eo81 with f1_ f2_ f3_; have f4_ := f1_.symm; have f5_ := f3_.symm; clear f1_ f2_ f3_; subst f4_; subst f5_))
        obtain ⟨Ao82, co82, eo82⟩ := Kd.R_slice HO383.out
        (first | subst eo82 | (injection eo82 with f1_ f2_ f3_; have f4_ := f1_.symm; have f5_ := f3_.symm; clear f1_ f2_ f3_; subst f4_; subst f5_))
        obtain ⟨Ao83, co83, eo83⟩ := Kd.R_slice HO386.out
        (first | subst eo83 | (injection eo83 with f1_ f2_ f3_; have f4_ := f1_.symm; have f5_ := f3_.symm; clear f1_ f2_ f3_; subst f4_; subst f5_))
        obtain ⟨Ao84, co84, eo84⟩ := Kd.R_slice HO389.out
        (first | subst eo84 | (injection eo84 with f1_ f2_ f3_; have f4_ := f1_.symm; have f5_ := f3_.symm; clear f1_ f2_ f3_; subst f4_; subst f5_))
        refine hK.out _ _ ⟨(blk_cell BK366.out 0).trans rfl, (blk_cell BK366.out 1).trans rfl, (blk_cell BK366.out 2).trans rfl, (blk_cell BK366.out 3).trans rfl, (blk_cell BK366.out 4).trans rfl, (blk_cell BK366.out 5).trans rfl, (blk_cell BK366.out 6).trans rfl, (blk_cell BK366.out 7).trans rfl, (blk_cell BK366.out 8).trans rfl, (blk_cell BK321.out 0).trans rfl, (blk_cell BK321.out 1).trans rfl, (blk_cell BK321.out 2).trans rfl, (blk_cell BK321.out 3).trans rfl, (blk_cell BK321.out 4).trans rfl, (blk_cell BK321.out 5).trans rfl, (blk_cell BK321.out 6).trans rfl, (blk_cell BK321.out 7).trans rfl, (blk_cell BK321.out 8).trans rfl⟩ (fun hHeld => ?_)
        clear hK K
        refine norm_ (a' := ?_) ?_ ?_
        rotate_left
        · show Act.put _ (some 30) _ = _
          simp only [Act.put, List.setIfInBounds_toArray, List.set_cons_zero, List.set_cons_succ, i64_w, i32_w]
          rfl
        refine one_ (i := 3) (N := some 31) #[true, true, true, true, false] rfl rfl (by kernel_rfl) (by decide) (fun K hK => ?_)
        refine goes_ Try.func18 (by kernel_rfl) rfl #[.agg #[.slice Ao66 t347.length co66, .int .i64 t350, .int .i64 t351, .int .i64 t352, .slice Ao70 t353.length co70, .bool t356, .slice Ao71 t357.length co71, .slice Ao72 t360.length co72, .slice Ao73 t363.length co73], .agg #[.slice Ao80 t371.length co80, .int .i64 t374, .int .i64 t375, .int .i64 t376, .slice Ao81 t377.length co81, .bool t380, .slice Ao82 t381.length co82, .slice Ao83 t384.length co83, .slice Ao84 t387.length co84]] (by rfl) rfl rfl ga ?_
        with_reducible refine (laws_eqBook.calls k _ _ t347 t350 t351 t352 _ _ t353 t356 _ _ t357 _ _ t360 _ _ t363 _ _ t371 t374 t375 t376 _ _ t377 t380 _ _ t381 _ _ t384 _ _ t387 true _ ?side1 ?side2 ?side3 ?side4 ?side5 ?side6 ?side7 ?side8 ?side9 ?side10 ?side11 ?side12 ?side13 ?side14 ?side15 ?side16 ?side17 ?side18 ?side19 ?side20 A47.out).mono ?_
        (case side1 => exact ck (Kd.R_reads' HO349.out).2.2)
        (case side2 => exact (Kd.R_reads' HO349.out).2.1)
        (case side3 => exact ck (Kd.R_reads' HO355.out).2.2)
        (case side4 => exact (Kd.R_reads' HO355.out).2.1)
        (case side5 => exact ck (Kd.R_reads' HO359.out).2.2)
        (case side6 => exact (Kd.R_reads' HO359.out).2.1)
        (case side7 => exact ck (Kd.R_reads' HO362.out).2.2)
        (case side8 => exact (Kd.R_reads' HO362.out).2.1)
        (case side9 => exact ck (Kd.R_reads' HO365.out).2.2)
        (case side10 => exact (Kd.R_reads' HO365.out).2.1)
        (case side11 => exact ck (Kd.R_reads' HO373.out).2.2)
        (case side12 => exact (Kd.R_reads' HO373.out).2.1)
        (case side13 => exact ck (Kd.R_reads' HO379.out).2.2)
        (case side14 => exact (Kd.R_reads' HO379.out).2.1)
        (case side15 => exact ck (Kd.R_reads' HO383.out).2.2)
        (case side16 => exact (Kd.R_reads' HO383.out).2.1)
        (case side17 => exact ck (Kd.R_reads' HO386.out).2.2)
        (case side18 => exact (Kd.R_reads' HO386.out).2.1)
        (case side19 => exact ck (Kd.R_reads' HO389.out).2.2)
        (case side20 => exact (Kd.R_reads' HO389.out).2.1)
        rintro e w85 ⟨rfl, hb⟩
        refine ⟨_, rfl, ?_⟩
        replace HO326 := Aside0.mk (Kd.R_below (rk HO326.out) hb)
        replace HO332 := Aside0.mk (Kd.R_below (rk HO332.out) hb)
        replace HO336 := Aside0.mk (Kd.R_below (rk HO336.out) hb)
        replace HO339 := Aside0.mk (Kd.R_below (rk HO339.out) hb)
        replace HO342 := Aside0.mk (Kd.R_below (rk HO342.out) hb)
        replace HO349 := Aside0.mk (Kd.R_below (rk HO349.out) hb)
        replace HO355 := Aside0.mk (Kd.R_below (rk HO355.out) hb)
        replace HO359 := Aside0.mk (Kd.R_below (rk HO359.out) hb)
        replace HO362 := Aside0.mk (Kd.R_below (rk HO362.out) hb)
        replace HO365 := Aside0.mk (Kd.R_below (rk HO365.out) hb)
        replace HO373 := Aside0.mk (Kd.R_below (rk HO373.out) hb)
        replace HO379 := Aside0.mk (Kd.R_below (rk HO379.out) hb)
        replace HO383 := Aside0.mk (Kd.R_below (rk HO383.out) hb)
        replace HO386 := Aside0.mk (Kd.R_below (rk HO386.out) hb)
        replace HO389 := Aside0.mk (Kd.R_below (rk HO389.out) hb)
        replace BK321 := Aside0.mk (bb BK321.out hb)
        replace BK322 := Aside0.mk (bb BK322.out hb)
        replace BK366 := Aside0.mk (bb BK366.out hb)
        replace HB := Aside0.mk (below_step bel hb)
        (try clear hb)
        (try clear hb2)
        (try clear hk)
        (try clear hi)
        refine hK.out _ _ ⟨(blk_cell BK366.out 0).trans rfl, (blk_cell BK366.out 1).trans rfl, (blk_cell BK366.out 2).trans rfl, (blk_cell BK366.out 3).trans rfl, (blk_cell BK366.out 4).trans rfl, (blk_cell BK366.out 5).trans rfl, (blk_cell BK366.out 6).trans rfl, (blk_cell BK366.out 7).trans rfl, (blk_cell BK366.out 8).trans rfl, (blk_cell BK321.out 0).trans rfl, (blk_cell BK321.out 1).trans rfl, (blk_cell BK321.out 2).trans rfl, (blk_cell BK321.out 3).trans rfl, (blk_cell BK321.out 4).trans rfl, (blk_cell BK321.out 5).trans rfl, (blk_cell BK321.out 6).trans rfl, (blk_cell BK321.out 7).trans rfl, (blk_cell BK321.out 8).trans rfl⟩ (fun hHeld => ?_)
        clear hK K
        refine norm_ (a' := ?_) ?_ ?_
        rotate_left
        · show Act.put _ (some 31) _ = _
          simp only [Act.put, List.setIfInBounds_toArray, List.set_cons_zero, List.set_cons_succ, i64_w, i32_w]
          rfl
        refine pure_ (i := 4) (N := some 32) (v := ?_) (a' := ?_) #[true, true, true, true, true] rfl rfl (by kernel_rfl) (fun _ _ _ h => h) (Or.inl ⟨by rfl, ?_⟩) ?_ ?_
        rotate_left
        · intro w'
          go_simp
          with_reducible rfl
        rotate_left
        · simp only [Act.put, List.setIfInBounds_toArray, List.set_cons_zero, List.set_cons_succ, i64_w, i32_w]
          rfl
        refine done_ (by kernel_rfl) ?_
        try go_wp2
        go_ret
        exact ⟨er, bel⟩
      · replace c48 := Bool.eq_false_iff.mpr c48
        subst c48
        have H1 : (some false) = some r := by rw [if_neg (show ¬ (false = true) by decide)] at H; exact H
        clear H
        have H := H1
        clear H1
        obtain rfl := Option.some.inj H
        go_enter Try.func3, Try.ntmps3
        try go_wp2_with (first | ((with_reducible refine gate_dst (N := 2) rfl ?_); refine box_event ?hg (N := 2) ?hd (cs := #[.slice A0_0 l0_0.length c0_0, .int .i64 a0_1, .int .i64 a0_2, .int .i64 a0_3, .slice A0_4 l0_4.length c0_4, .bool a0_5, .slice A0_6 l0_6.length c0_6, .slice A0_7 l0_7.length c0_7, .slice A0_8 l0_8.length c0_8]) (t := 28) ?hr ?_; (case hd => rfl); (case hg => rfl); (case hr => first | (go_simp; done) | (go_simp; rfl)); intro gb321 hg w86 hbox hb; have BK321 := Aside0.mk (hbox); have GW321 := Aside0.mk ((bsz hg : w.heap.size ≤ gb321)); have GE321 := Aside0.mk ((bsz hg : w.heap.size ≤ gb321)); replace HB := Aside0.mk (below_step bel hb); clear hb hbox hg) | ((with_reducible refine gate_dst (N := 3) rfl ?_); refine box_event ?hg (N := 3) ?hd (cs := #[.int .i64 a1_0, .int .i64 a1_1, .bool a1_2]) (t := 30) ?hr ?_; (case hd => rfl); (case hg => rfl); (case hr => first | (go_simp; done) | (go_simp; rfl)); intro gb322 hg w87 hbox hb; have BK322 := Aside0.mk (hbox); have GW322 := Aside0.mk ((bsz hg : w.heap.size ≤ gb322)); have GE322 := Aside0.mk ((bsz hg : w.heap.size ≤ gb322)); have NB321_322 := Aside0.mk ((nlt hg BK321.out : gb321 ≠ gb322)); have NB322_321 := Aside0.mk ((ngt hg BK321.out : gb322 ≠ gb321)); replace BK321 := Aside0.mk (bb BK321.out hb); replace HB := Aside0.mk (below_step bel hb); clear hb hbox hg; have hnb88 := NB321_322.out; have hnc88 := NB322_321.out; obtain ⟨hcz89_0, hcz89_1, hcz89_2, hcz89_3, hcz89_4, hcz89_5, hcz89_6, hcz89_7, hcz89_8, hfz89_0, hfz89_1, hfz89_2, hfz89_3, hfz89_4, hfz89_5, hfz89_6, hfz89_7, hfz89_8⟩ := cf9 BK321.out) | ((with_reducible refine gate_callee (f := 13) rfl ?_); refine goesL_ (some 11) rfl rfl Try.func13 (by kernel_rfl) rfl #[.agg #[.slice A0_0 l0_0.length c0_0, .int .i64 a0_1, .int .i64 a0_2, .int .i64 a0_3, .slice A0_4 l0_4.length c0_4, .bool a0_5, .slice A0_6 l0_6.length c0_6, .slice A0_7 l0_7.length c0_7, .slice A0_8 l0_8.length c0_8], .int .i64 1048576] rfl ga ?_; (with_reducible refine (laws_szBook.calls k _ _ l0_0 a0_1 a0_2 a0_3 _ _ l0_4 a0_5 _ _ l0_6 _ _ l0_7 _ _ l0_8 1048576 t323 _ ?side1 ?side2 ?side3 ?side4 ?side5 ?side6 ?side7 ?side8 ?side9 ?side10 A3.out).mono ?_); (case side1 => exact ck (Kd.C_below HR0_0.out HB.out)); (case side2 => exact HC0_0.out); (case side3 => exact ck (Kd.C_below HR0_4.out HB.out)); (case side4 => exact HC0_4.out); (case side5 => exact ck (Kd.C_below HR0_6.out HB.out)); (case side6 => exact HC0_6.out); (case side7 => exact ck (Kd.C_below HR0_7.out HB.out)); (case side8 => exact HC0_7.out); (case side9 => exact ck (Kd.C_below HR0_8.out HB.out)); (case side10 => exact HC0_8.out); rintro e w90 ⟨rfl, hb⟩; refine ⟨_, rfl, ?_⟩; replace BK321 := Aside0.mk (bb BK321.out hb); replace BK322 := Aside0.mk (bb BK322.out hb); replace HB := Aside0.mk (below_step bel hb); (try clear hb)))
        replace BK321 := Aside0.mk (blk_drew BK321.out)
        replace BK322 := Aside0.mk (blk_drew BK322.out)
        replace HB := Aside0.mk (below_drew1 HB.out)
        refine start_ (n := 6) (S := fun w' => w'.cell? ⟨gb321, 0, none⟩ = some (.slice A0_0 l0_0.length c0_0) ∧ w'.cell? ⟨gb321, 1, none⟩ = some (.int .i64 a0_1) ∧ w'.cell? ⟨gb321, 2, none⟩ = some (.int .i64 a0_2) ∧ w'.cell? ⟨gb321, 3, none⟩ = some (.int .i64 a0_3) ∧ w'.cell? ⟨gb321, 4, none⟩ = some (.slice A0_4 l0_4.length c0_4) ∧ w'.cell? ⟨gb321, 5, none⟩ = some (.bool a0_5) ∧ w'.cell? ⟨gb321, 6, none⟩ = some (.slice A0_6 l0_6.length c0_6) ∧ w'.cell? ⟨gb321, 7, none⟩ = some (.slice A0_7 l0_7.length c0_7) ∧ w'.cell? ⟨gb321, 8, none⟩ = some (.slice A0_8 l0_8.length c0_8) ∧ w'.cell? ⟨gb322, 0, none⟩ = some (.int .i64 a1_0) ∧ w'.cell? ⟨gb322, 1, none⟩ = some (.int .i64 a1_1) ∧ w'.cell? ⟨gb322, 2, none⟩ = some (.bool a1_2)) (ds := []) #[false, false, false, false, false, false] (by kernel_rfl) rfl rfl ⟨(blk_cell BK321.out 0).trans rfl, (blk_cell BK321.out 1).trans rfl, (blk_cell BK321.out 2).trans rfl, (blk_cell BK321.out 3).trans rfl, (blk_cell BK321.out 4).trans rfl, (blk_cell BK321.out 5).trans rfl, (blk_cell BK321.out 6).trans rfl, (blk_cell BK321.out 7).trans rfl, (blk_cell BK321.out 8).trans rfl, (blk_cell BK322.out 0).trans rfl, (blk_cell BK322.out 1).trans rfl, (blk_cell BK322.out 2).trans rfl⟩ (fun hHeld => ?_)
        generalize w90.drew = w91 at BK321 BK322 HB hHeld ⊢
        refine take_ (i := 0) (N := some 14) (v := ?_) (a' := ?_) #[true, false, false, false, false, false] rfl rfl (by kernel_rfl) (fun _ _ _ h => h) (Or.inl ⟨by rfl, ?_⟩) hHeld ?_ ?_
        rotate_left
        · rintro w' ⟨s0, s1, s2, s3, s4, s5, s6, s7, s8, s9, s10, s11⟩
          go_simp
          with_reducible rfl
        rotate_left
        · simp only [Act.put, List.setIfInBounds_toArray, List.set_cons_zero, List.set_cons_succ, i64_w, i32_w]
          rfl
        refine take_ (i := 2) (N := some 16) (v := ?_) (a' := ?_) #[true, false, true, false, false, false] rfl rfl (by kernel_rfl) (fun _ _ _ h => h) (Or.inl ⟨by rfl, ?_⟩) hHeld ?_ ?_
        rotate_left
        · rintro w' ⟨s0, s1, s2, s3, s4, s5, s6, s7, s8, s9, s10, s11⟩
          go_simp
          with_reducible rfl
        rotate_left
        · simp only [Act.put, List.setIfInBounds_toArray, List.set_cons_zero, List.set_cons_succ, i64_w, i32_w]
          rfl
        refine one_ (i := 1) (N := some 15) #[true, true, true, false, false, false] rfl rfl (by kernel_rfl) (by decide) (fun K hK => ?_)
        refine goes_ Try.func15 (by kernel_rfl) rfl #[.agg #[.slice A0_0 l0_0.length c0_0, .int .i64 a0_1, .int .i64 a0_2, .int .i64 a0_3, .slice A0_4 l0_4.length c0_4, .bool a0_5, .slice A0_6 l0_6.length c0_6, .slice A0_7 l0_7.length c0_7, .slice A0_8 l0_8.length c0_8]] (by rfl) rfl rfl ga ?_
        with_reducible refine (laws_toBook.calls k _ _ l0_0 a0_1 a0_2 a0_3 _ _ l0_4 a0_5 _ _ l0_6 _ _ l0_7 _ _ l0_8 t324 t327 t328 t329 t330 t333 t334 t337 t340 _ ?side1 ?side2 ?side3 ?side4 ?side5 ?side6 ?side7 ?side8 ?side9 ?side10 A10.out).mono ?_
        (case side1 => exact ck (Kd.C_below HR0_0.out HB.out))
        (case side2 => exact HC0_0.out)
        (case side3 => exact ck (Kd.C_below HR0_4.out HB.out))
        (case side4 => exact HC0_4.out)
        (case side5 => exact ck (Kd.C_below HR0_6.out HB.out))
        (case side6 => exact HC0_6.out)
        (case side7 => exact ck (Kd.C_below HR0_7.out HB.out))
        (case side8 => exact HC0_7.out)
        (case side9 => exact ck (Kd.C_below HR0_8.out HB.out))
        (case side10 => exact HC0_8.out)
        rintro e w92 ⟨v325, v331, v335, v338, v341, rfl, ho0, ho1, ho2, ho3, ho4, hb⟩
        refine ⟨_, rfl, ?_⟩
        have HO326 := Aside0.mk (Kd.R_lower ho0 (below_size bel))
        have HO332 := Aside0.mk (Kd.R_lower ho1 (below_size bel))
        have HO336 := Aside0.mk (Kd.R_lower ho2 (below_size bel))
        have HO339 := Aside0.mk (Kd.R_lower ho3 (below_size bel))
        have HO342 := Aside0.mk (Kd.R_lower ho4 (below_size bel))
        replace BK321 := Aside0.mk (bb BK321.out hb)
        replace BK322 := Aside0.mk (bb BK322.out hb)
        replace HB := Aside0.mk (below_step bel hb)
        (try clear hb)
        (try clear hb2)
        (try clear hk)
        (try clear hi)
        (try clear ho0)
        (try clear ho1)
        (try clear ho2)
        (try clear ho3)
        (try clear ho4)
        refine hK.out _ _ ⟨(blk_cell BK321.out 0).trans rfl, (blk_cell BK321.out 1).trans rfl, (blk_cell BK321.out 2).trans rfl, (blk_cell BK321.out 3).trans rfl, (blk_cell BK321.out 4).trans rfl, (blk_cell BK321.out 5).trans rfl, (blk_cell BK321.out 6).trans rfl, (blk_cell BK321.out 7).trans rfl, (blk_cell BK321.out 8).trans rfl, (blk_cell BK322.out 0).trans rfl, (blk_cell BK322.out 1).trans rfl, (blk_cell BK322.out 2).trans rfl⟩ (fun hHeld => ?_)
        clear hK K
        refine norm_ (a' := ?_) ?_ ?_
        rotate_left
        · show Act.put _ (some 15) _ = _
          simp only [Act.put, List.setIfInBounds_toArray, List.set_cons_zero, List.set_cons_succ, i64_w, i32_w]
          rfl
        refine one_ (i := 3) (N := some 17) #[true, true, true, true, false, false] rfl rfl (by kernel_rfl) (by decide) (fun K hK => ?_)
        refine goes_ Try.func16 (by kernel_rfl) rfl #[.agg #[.int .i64 a1_0, .int .i64 a1_1, .bool a1_2]] (by rfl) rfl rfl ga ?_
        with_reducible refine (laws_toProtest.calls a1_0 a1_1 a1_2 t343 t344 t345 _ A11.out).mono ?_
        rintro e w93 ⟨rfl, hb⟩
        refine ⟨_, rfl, ?_⟩
        replace HO326 := Aside0.mk (Kd.R_below (rk HO326.out) hb)
        replace HO332 := Aside0.mk (Kd.R_below (rk HO332.out) hb)
        replace HO336 := Aside0.mk (Kd.R_below (rk HO336.out) hb)
        replace HO339 := Aside0.mk (Kd.R_below (rk HO339.out) hb)
        replace HO342 := Aside0.mk (Kd.R_below (rk HO342.out) hb)
        replace BK321 := Aside0.mk (bb BK321.out hb)
        replace BK322 := Aside0.mk (bb BK322.out hb)
        replace HB := Aside0.mk (below_step bel hb)
        (try clear hb)
        (try clear hb2)
        (try clear hk)
        (try clear hi)
        obtain ⟨Ao94, co94, eo94⟩ := Kd.R_slice HO326.out
        (first | subst eo94 | (injection eo94 with f1_ f2_ f3_; have f4_ := f1_.symm; have f5_ := f3_.symm; clear f1_ f2_ f3_; subst f4_; subst f5_))
        obtain ⟨Ao95, co95, eo95⟩ := Kd.R_slice HO332.out
        (first | subst eo95 | (injection eo95 with f1_ f2_ f3_; have f4_ := f1_.symm; have f5_ := f3_.symm; clear f1_ f2_ f3_; subst f4_; subst f5_))
        obtain ⟨Ao96, co96, eo96⟩ := Kd.R_slice HO336.out
        (first | subst eo96 | (injection eo96 with f1_ f2_ f3_; have f4_ := f1_.symm; have f5_ := f3_.symm; clear f1_ f2_ f3_; subst f4_; subst f5_))
        obtain ⟨Ao97, co97, eo97⟩ := Kd.R_slice HO339.out
        (first | subst eo97 | (injection eo97 with f1_ f2_ f3_; have f4_ := f1_.symm; have f5_ := f3_.symm; clear f1_ f2_ f3_; subst f4_; subst f5_))
        obtain ⟨Ao98, co98, eo98⟩ := Kd.R_slice HO342.out
        (first | subst eo98 | (injection eo98 with f1_ f2_ f3_; have f4_ := f1_.symm; have f5_ := f3_.symm; clear f1_ f2_ f3_; subst f4_; subst f5_))
        refine hK.out _ _ ⟨(blk_cell BK321.out 0).trans rfl, (blk_cell BK321.out 1).trans rfl, (blk_cell BK321.out 2).trans rfl, (blk_cell BK321.out 3).trans rfl, (blk_cell BK321.out 4).trans rfl, (blk_cell BK321.out 5).trans rfl, (blk_cell BK321.out 6).trans rfl, (blk_cell BK321.out 7).trans rfl, (blk_cell BK321.out 8).trans rfl, (blk_cell BK322.out 0).trans rfl, (blk_cell BK322.out 1).trans rfl, (blk_cell BK322.out 2).trans rfl⟩ (fun hHeld => ?_)
        clear hK K
        refine norm_ (a' := ?_) ?_ ?_
        rotate_left
        · show Act.put _ (some 17) _ = _
          simp only [Act.put, List.setIfInBounds_toArray, List.set_cons_zero, List.set_cons_succ, i64_w, i32_w]
          rfl
        refine one_ (i := 4) (N := some 18) #[true, true, true, true, true, false] rfl rfl (by kernel_rfl) (by decide) (fun K hK => ?_)
        refine goes_ Try.func14 (by kernel_rfl) rfl #[.agg #[.slice Ao94 t324.length co94, .int .i64 t327, .int .i64 t328, .int .i64 t329, .slice Ao95 t330.length co95, .bool t333, .slice Ao96 t334.length co96, .slice Ao97 t337.length co97, .slice Ao98 t340.length co98], .agg #[.int .i64 t343, .int .i64 t344, .bool t345]] (by rfl) rfl rfl ga ?_
        with_reducible refine (spec_ProtestOk.calls k _ _ t324 t327 t328 t329 _ _ t330 t333 _ _ t334 _ _ t337 _ _ t340 t343 t344 t345 t346 _ ?side1 ?side2 ?side3 ?side4 ?side5 ?side6 ?side7 ?side8 ?side9 ?side10 A12.out).mono ?_
        (case side1 => exact ck (Kd.R_reads' HO326.out).2.2)
        (case side2 => exact (Kd.R_reads' HO326.out).2.1)
        (case side3 => exact ck (Kd.R_reads' HO332.out).2.2)
        (case side4 => exact (Kd.R_reads' HO332.out).2.1)
        (case side5 => exact ck (Kd.R_reads' HO336.out).2.2)
        (case side6 => exact (Kd.R_reads' HO336.out).2.1)
        (case side7 => exact ck (Kd.R_reads' HO339.out).2.2)
        (case side8 => exact (Kd.R_reads' HO339.out).2.1)
        (case side9 => exact ck (Kd.R_reads' HO342.out).2.2)
        (case side10 => exact (Kd.R_reads' HO342.out).2.1)
        rintro e w99 ⟨rfl, hb⟩
        refine ⟨_, rfl, ?_⟩
        replace HO326 := Aside0.mk (Kd.R_below (rk HO326.out) hb)
        replace HO332 := Aside0.mk (Kd.R_below (rk HO332.out) hb)
        replace HO336 := Aside0.mk (Kd.R_below (rk HO336.out) hb)
        replace HO339 := Aside0.mk (Kd.R_below (rk HO339.out) hb)
        replace HO342 := Aside0.mk (Kd.R_below (rk HO342.out) hb)
        replace BK321 := Aside0.mk (bb BK321.out hb)
        replace BK322 := Aside0.mk (bb BK322.out hb)
        replace HB := Aside0.mk (below_step bel hb)
        (try clear hb)
        (try clear hb2)
        (try clear hk)
        (try clear hi)
        refine hK.out _ _ ⟨(blk_cell BK321.out 0).trans rfl, (blk_cell BK321.out 1).trans rfl, (blk_cell BK321.out 2).trans rfl, (blk_cell BK321.out 3).trans rfl, (blk_cell BK321.out 4).trans rfl, (blk_cell BK321.out 5).trans rfl, (blk_cell BK321.out 6).trans rfl, (blk_cell BK321.out 7).trans rfl, (blk_cell BK321.out 8).trans rfl, (blk_cell BK322.out 0).trans rfl, (blk_cell BK322.out 1).trans rfl, (blk_cell BK322.out 2).trans rfl⟩ (fun hHeld => ?_)
        clear hK K
        refine norm_ (a' := ?_) ?_ ?_
        rotate_left
        · show Act.put _ (some 18) _ = _
          simp only [Act.put, List.setIfInBounds_toArray, List.set_cons_zero, List.set_cons_succ, i64_w, i32_w]
          rfl
        refine pure_ (i := 5) (N := some 6) (v := ?_) (a' := ?_) #[true, true, true, true, true, true] rfl rfl (by kernel_rfl) (fun _ _ _ h => h) (Or.inl ⟨by rfl, ?_⟩) ?_ ?_
        rotate_left
        · intro w'
          go_simp
          with_reducible rfl
        rotate_left
        · simp only [Act.put, List.setIfInBounds_toArray, List.set_cons_zero, List.set_cons_succ, i64_w, i32_w]
          rfl
        refine done_ (by kernel_rfl) ?_
        obtain ⟨hcz100_0, hcz100_1, hcz100_2, hcz100_3, hcz100_4, hcz100_5, hcz100_6, hcz100_7, hcz100_8, hfz100_0, hfz100_1, hfz100_2, hfz100_3, hfz100_4, hfz100_5, hfz100_6, hfz100_7, hfz100_8⟩ := cf9 BK321.out
        try go_wp2_with (first | ((with_reducible refine gate_callee (f := 15) rfl ?_); refine goesL_ (some 20) rfl rfl Try.func15 (by kernel_rfl) rfl #[.agg #[.slice A0_0 l0_0.length c0_0, .int .i64 a0_1, .int .i64 a0_2, .int .i64 a0_3, .slice A0_4 l0_4.length c0_4, .bool a0_5, .slice A0_6 l0_6.length c0_6, .slice A0_7 l0_7.length c0_7, .slice A0_8 l0_8.length c0_8]] rfl ga ?_; (with_reducible refine (laws_toBook.calls k _ _ l0_0 a0_1 a0_2 a0_3 _ _ l0_4 a0_5 _ _ l0_6 _ _ l0_7 _ _ l0_8 t347 t350 t351 t352 t353 t356 t357 t360 t363 _ ?side1 ?side2 ?side3 ?side4 ?side5 ?side6 ?side7 ?side8 ?side9 ?side10 A13.out).mono ?_); (case side1 => exact ck (Kd.C_below HR0_0.out HB.out)); (case side2 => exact HC0_0.out); (case side3 => exact ck (Kd.C_below HR0_4.out HB.out)); (case side4 => exact HC0_4.out); (case side5 => exact ck (Kd.C_below HR0_6.out HB.out)); (case side6 => exact HC0_6.out); (case side7 => exact ck (Kd.C_below HR0_7.out HB.out)); (case side8 => exact HC0_7.out); (case side9 => exact ck (Kd.C_below HR0_8.out HB.out)); (case side10 => exact HC0_8.out); rintro e w101 ⟨v348, v354, v358, v361, v364, rfl, ho0, ho1, ho2, ho3, ho4, hb⟩; refine ⟨_, rfl, ?_⟩; have HO349 := Aside0.mk (Kd.R_lower (Kd.R_new' ho0 (Kd.R_lt (rk HO326.out))) (below_size bel)); have HO355 := Aside0.mk (Kd.R_lower (Kd.R_new' (Kd.R_new' (Kd.R_new' ho1 (Kd.R_lt (rk HO332.out))) (Kd.R_lt (rk HO339.out))) (Kd.R_lt (rk HO342.out))) (below_size bel)); have HO359 := Aside0.mk (Kd.R_lower (Kd.R_new' ho2 (Kd.R_lt (rk HO336.out))) (below_size bel)); have HO362 := Aside0.mk (Kd.R_lower (Kd.R_new' (Kd.R_new' (Kd.R_new' ho3 (Kd.R_lt (rk HO332.out))) (Kd.R_lt (rk HO339.out))) (Kd.R_lt (rk HO342.out))) (below_size bel)); have HO365 := Aside0.mk (Kd.R_lower (Kd.R_new' (Kd.R_new' (Kd.R_new' ho4 (Kd.R_lt (rk HO332.out))) (Kd.R_lt (rk HO339.out))) (Kd.R_lt (rk HO342.out))) (below_size bel)); replace HO326 := Aside0.mk (Kd.R_elder' (rk HO326.out) (Kd.R_base ho0) hb); replace HO332 := Aside0.mk (Kd.R_mono (Kd.R_told (Kd.R_told (Kd.R_told (Kd.R_old (rk HO332.out) hb) (Kd.R_base ho1)) (Kd.R_base ho3)) (Kd.R_base ho4)) (fun _ h_ => h_.1)); replace HO336 := Aside0.mk (Kd.R_elder' (rk HO336.out) (Kd.R_base ho2) hb); replace HO339 := Aside0.mk (Kd.R_mono (Kd.R_told (Kd.R_told (Kd.R_told (Kd.R_old (rk HO339.out) hb) (Kd.R_base ho1)) (Kd.R_base ho3)) (Kd.R_base ho4)) (fun _ h_ => h_.1)); replace HO342 := Aside0.mk (Kd.R_mono (Kd.R_told (Kd.R_told (Kd.R_told (Kd.R_old (rk HO342.out) hb) (Kd.R_base ho1)) (Kd.R_base ho3)) (Kd.R_base ho4)) (fun _ h_ => h_.1)); replace BK321 := Aside0.mk (bb BK321.out hb); replace BK322 := Aside0.mk (bb BK322.out hb); replace HB := Aside0.mk (below_step bel hb); (try clear hb); (try clear ho0); (try clear ho1); (try clear ho2); (try clear ho3); (try clear ho4)) | ((with_reducible refine gate_dst (N := 7) rfl ?_); refine box_event ?hg (N := 7) ?hd (cs := #[.slice none 0 0, .int .i64 0, .int .i64 0, .int .i64 0, .slice none 0 0, .bool false, .slice none 0 0, .slice none 0 0, .slice none 0 0]) (t := 37) ?hr ?_; (case hd => rfl); (case hg => rfl); (case hr => first | (go_simp; done) | (go_simp; rfl)); intro gb366 hg w102 hbox hb; have BK366 := Aside0.mk (hbox); have GW366 := Aside0.mk ((bsz hg : w.heap.size ≤ gb366)); have GE366 := Aside0.mk ((bsz hg : w.heap.size ≤ gb366)); have NB321_366 := Aside0.mk ((nlt hg BK321.out : gb321 ≠ gb366)); have NB366_321 := Aside0.mk ((ngt hg BK321.out : gb366 ≠ gb321)); have NB322_366 := Aside0.mk ((nlt hg BK322.out : gb322 ≠ gb366)); have NB366_322 := Aside0.mk ((ngt hg BK322.out : gb366 ≠ gb322)); replace HO326 := Aside0.mk (Kd.R_below (rk HO326.out) hb); replace HO332 := Aside0.mk (Kd.R_below (rk HO332.out) hb); replace HO336 := Aside0.mk (Kd.R_below (rk HO336.out) hb); replace HO339 := Aside0.mk (Kd.R_below (rk HO339.out) hb); replace HO342 := Aside0.mk (Kd.R_below (rk HO342.out) hb); replace HO349 := Aside0.mk (Kd.R_below (rk HO349.out) hb); replace HO355 := Aside0.mk (Kd.R_below (rk HO355.out) hb); replace HO359 := Aside0.mk (Kd.R_below (rk HO359.out) hb); replace HO362 := Aside0.mk (Kd.R_below (rk HO362.out) hb); replace HO365 := Aside0.mk (Kd.R_below (rk HO365.out) hb); replace BK321 := Aside0.mk (bb BK321.out hb); replace BK322 := Aside0.mk (bb BK322.out hb); replace HB := Aside0.mk (below_step bel hb); clear hb hbox hg; obtain ⟨Ao103, co103, eo103⟩ := Kd.R_slice HO349.out; subst eo103; have hnb104 := NB366_321.out; have hnc104 := NB321_366.out; have hnb105 := NB366_322.out; have hnc105 := NB322_366.out; obtain ⟨hcz106_0, hcz106_1, hcz106_2, hcz106_3, hcz106_4, hcz106_5, hcz106_6, hcz106_7, hcz106_8, hfz106_0, hfz106_1, hfz106_2, hfz106_3, hfz106_4, hfz106_5, hfz106_6, hfz106_7, hfz106_8⟩ := cf9 BK366.out; obtain ⟨Ao107, co107, eo107⟩ := Kd.R_slice HO355.out; subst eo107; obtain ⟨Ao108, co108, eo108⟩ := Kd.R_slice HO359.out; subst eo108; obtain ⟨Ao109, co109, eo109⟩ := Kd.R_slice HO362.out; subst eo109; obtain ⟨Ao110, co110, eo110⟩ := Kd.R_slice HO365.out; subst eo110))
        have n0_ : Aside0 (Kd.R k101 101 (((((((((w102.setCell ⟨gb366, 0, none⟩ (.slice Ao103 t347.length co103)).setCell ⟨gb366, 1, none⟩ (.int .i64 t350)).setCell ⟨gb366, 2, none⟩ (.int .i64 t351)).setCell ⟨gb366, 3, none⟩ (.int .i64 t352)).setCell ⟨gb366, 4, none⟩ (.slice Ao107 t353.length co107)).setCell ⟨gb366, 5, none⟩ (.bool t356)).setCell ⟨gb366, 6, none⟩ (.slice Ao108 t357.length co108)).setCell ⟨gb366, 7, none⟩ (.slice Ao109 t360.length co109)).setCell ⟨gb366, 8, none⟩ (.slice Ao110 t363.length co110)) w.heap.size (fun k_ => some k_ ≠ (.slice Ao103 t347.length co103 : Value).ownBlock) (.slice Ao94 t324.length co94) t324) := ⟨by (with_reducible repeat (first | apply Kd.R_alloc | apply Kd.R_drewN | apply Kd.R_drew)); exact Kd.R_mono (Kd.R_far (p := ⟨gb366, 8, none⟩) (Kd.R_far (p := ⟨gb366, 7, none⟩) (Kd.R_far (p := ⟨gb366, 6, none⟩) (Kd.R_far (p := ⟨gb366, 5, none⟩) (Kd.R_far (p := ⟨gb366, 4, none⟩) (Kd.R_far (p := ⟨gb366, 3, none⟩) (Kd.R_far (p := ⟨gb366, 2, none⟩) (Kd.R_far (p := ⟨gb366, 1, none⟩) (Kd.R_far (p := ⟨gb366, 0, none⟩) (Kd.R_types HO326.out BK366.out (by decide)) (fun _ hk => hk.2) (.slice Ao103 t347.length co103)) (fun _ hk => hk.2) (.int .i64 t350)) (fun _ hk => hk.2) (.int .i64 t351)) (fun _ hk => hk.2) (.int .i64 t352)) (fun _ hk => hk.2) (.slice Ao107 t353.length co107)) (fun _ hk => hk.2) (.bool t356)) (fun _ hk => hk.2) (.slice Ao108 t357.length co108)) (fun _ hk => hk.2) (.slice Ao109 t360.length co109)) (fun _ hk => hk.2) (.slice Ao110 t363.length co110)) (fun _ hk => hk.1.2)⟩
        have n1_ : Aside0 (Kd.R (Kd.int .i64) 3 (((((((((w102.setCell ⟨gb366, 0, none⟩ (.slice Ao103 t347.length co103)).setCell ⟨gb366, 1, none⟩ (.int .i64 t350)).setCell ⟨gb366, 2, none⟩ (.int .i64 t351)).setCell ⟨gb366, 3, none⟩ (.int .i64 t352)).setCell ⟨gb366, 4, none⟩ (.slice Ao107 t353.length co107)).setCell ⟨gb366, 5, none⟩ (.bool t356)).setCell ⟨gb366, 6, none⟩ (.slice Ao108 t357.length co108)).setCell ⟨gb366, 7, none⟩ (.slice Ao109 t360.length co109)).setCell ⟨gb366, 8, none⟩ (.slice Ao110 t363.length co110)) w.heap.size (fun k_ => some k_ ≠ (.slice Ao97 t337.length co97 : Value).ownBlock ∧ some k_ ≠ (.slice Ao98 t340.length co98 : Value).ownBlock ∧ some k_ ≠ (.slice Ao107 t353.length co107 : Value).ownBlock ∧ some k_ ≠ (.slice Ao109 t360.length co109 : Value).ownBlock ∧ some k_ ≠ (.slice Ao110 t363.length co110 : Value).ownBlock) (.slice Ao95 t330.length co95) t330) := ⟨by (with_reducible repeat (first | apply Kd.R_alloc | apply Kd.R_drewN | apply Kd.R_drew)); exact Kd.R_mono (Kd.R_far (p := ⟨gb366, 8, none⟩) (Kd.R_far (p := ⟨gb366, 7, none⟩) (Kd.R_far (p := ⟨gb366, 6, none⟩) (Kd.R_far (p := ⟨gb366, 5, none⟩) (Kd.R_far (p := ⟨gb366, 4, none⟩) (Kd.R_far (p := ⟨gb366, 3, none⟩) (Kd.R_far (p := ⟨gb366, 2, none⟩) (Kd.R_far (p := ⟨gb366, 1, none⟩) (Kd.R_far (p := ⟨gb366, 0, none⟩) (Kd.R_types HO332.out BK366.out (by decide)) (fun _ hk => hk.2) (.slice Ao103 t347.length co103)) (fun _ hk => hk.2) (.int .i64 t350)) (fun _ hk => hk.2) (.int .i64 t351)) (fun _ hk => hk.2) (.int .i64 t352)) (fun _ hk => hk.2) (.slice Ao107 t353.length co107)) (fun _ hk => hk.2) (.bool t356)) (fun _ hk => hk.2) (.slice Ao108 t357.length co108)) (fun _ hk => hk.2) (.slice Ao109 t360.length co109)) (fun _ hk => hk.2) (.slice Ao110 t363.length co110)) (fun _ hk => ⟨hk.1.1.1.1.1, ⟨hk.1.1.1.1.2, ⟨hk.1.1.1.2, ⟨hk.1.1.2, hk.1.2⟩⟩⟩⟩)⟩
        have n2_ : Aside0 (Kd.R k71 71 (((((((((w102.setCell ⟨gb366, 0, none⟩ (.slice Ao103 t347.length co103)).setCell ⟨gb366, 1, none⟩ (.int .i64 t350)).setCell ⟨gb366, 2, none⟩ (.int .i64 t351)).setCell ⟨gb366, 3, none⟩ (.int .i64 t352)).setCell ⟨gb366, 4, none⟩ (.slice Ao107 t353.length co107)).setCell ⟨gb366, 5, none⟩ (.bool t356)).setCell ⟨gb366, 6, none⟩ (.slice Ao108 t357.length co108)).setCell ⟨gb366, 7, none⟩ (.slice Ao109 t360.length co109)).setCell ⟨gb366, 8, none⟩ (.slice Ao110 t363.length co110)) w.heap.size (fun k_ => some k_ ≠ (.slice Ao108 t357.length co108 : Value).ownBlock) (.slice Ao96 t334.length co96) t334) := ⟨by (with_reducible repeat (first | apply Kd.R_alloc | apply Kd.R_drewN | apply Kd.R_drew)); exact Kd.R_mono (Kd.R_far (p := ⟨gb366, 8, none⟩) (Kd.R_far (p := ⟨gb366, 7, none⟩) (Kd.R_far (p := ⟨gb366, 6, none⟩) (Kd.R_far (p := ⟨gb366, 5, none⟩) (Kd.R_far (p := ⟨gb366, 4, none⟩) (Kd.R_far (p := ⟨gb366, 3, none⟩) (Kd.R_far (p := ⟨gb366, 2, none⟩) (Kd.R_far (p := ⟨gb366, 1, none⟩) (Kd.R_far (p := ⟨gb366, 0, none⟩) (Kd.R_types HO336.out BK366.out (by decide)) (fun _ hk => hk.2) (.slice Ao103 t347.length co103)) (fun _ hk => hk.2) (.int .i64 t350)) (fun _ hk => hk.2) (.int .i64 t351)) (fun _ hk => hk.2) (.int .i64 t352)) (fun _ hk => hk.2) (.slice Ao107 t353.length co107)) (fun _ hk => hk.2) (.bool t356)) (fun _ hk => hk.2) (.slice Ao108 t357.length co108)) (fun _ hk => hk.2) (.slice Ao109 t360.length co109)) (fun _ hk => hk.2) (.slice Ao110 t363.length co110)) (fun _ hk => hk.1.2)⟩
        have n3_ : Aside0 (Kd.R (Kd.int .i64) 3 (((((((((w102.setCell ⟨gb366, 0, none⟩ (.slice Ao103 t347.length co103)).setCell ⟨gb366, 1, none⟩ (.int .i64 t350)).setCell ⟨gb366, 2, none⟩ (.int .i64 t351)).setCell ⟨gb366, 3, none⟩ (.int .i64 t352)).setCell ⟨gb366, 4, none⟩ (.slice Ao107 t353.length co107)).setCell ⟨gb366, 5, none⟩ (.bool t356)).setCell ⟨gb366, 6, none⟩ (.slice Ao108 t357.length co108)).setCell ⟨gb366, 7, none⟩ (.slice Ao109 t360.length co109)).setCell ⟨gb366, 8, none⟩ (.slice Ao110 t363.length co110)) w.heap.size (fun k_ => some k_ ≠ (.slice Ao95 t330.length co95 : Value).ownBlock ∧ some k_ ≠ (.slice Ao98 t340.length co98 : Value).ownBlock ∧ some k_ ≠ (.slice Ao107 t353.length co107 : Value).ownBlock ∧ some k_ ≠ (.slice Ao109 t360.length co109 : Value).ownBlock ∧ some k_ ≠ (.slice Ao110 t363.length co110 : Value).ownBlock) (.slice Ao97 t337.length co97) t337) := ⟨by (with_reducible repeat (first | apply Kd.R_alloc | apply Kd.R_drewN | apply Kd.R_drew)); exact Kd.R_mono (Kd.R_far (p := ⟨gb366, 8, none⟩) (Kd.R_far (p := ⟨gb366, 7, none⟩) (Kd.R_far (p := ⟨gb366, 6, none⟩) (Kd.R_far (p := ⟨gb366, 5, none⟩) (Kd.R_far (p := ⟨gb366, 4, none⟩) (Kd.R_far (p := ⟨gb366, 3, none⟩) (Kd.R_far (p := ⟨gb366, 2, none⟩) (Kd.R_far (p := ⟨gb366, 1, none⟩) (Kd.R_far (p := ⟨gb366, 0, none⟩) (Kd.R_types HO339.out BK366.out (by decide)) (fun _ hk => hk.2) (.slice Ao103 t347.length co103)) (fun _ hk => hk.2) (.int .i64 t350)) (fun _ hk => hk.2) (.int .i64 t351)) (fun _ hk => hk.2) (.int .i64 t352)) (fun _ hk => hk.2) (.slice Ao107 t353.length co107)) (fun _ hk => hk.2) (.bool t356)) (fun _ hk => hk.2) (.slice Ao108 t357.length co108)) (fun _ hk => hk.2) (.slice Ao109 t360.length co109)) (fun _ hk => hk.2) (.slice Ao110 t363.length co110)) (fun _ hk => ⟨hk.1.1.1.1.1, ⟨hk.1.1.1.1.2, ⟨hk.1.1.1.2, ⟨hk.1.1.2, hk.1.2⟩⟩⟩⟩)⟩
        have n4_ : Aside0 (Kd.R (Kd.int .i64) 3 (((((((((w102.setCell ⟨gb366, 0, none⟩ (.slice Ao103 t347.length co103)).setCell ⟨gb366, 1, none⟩ (.int .i64 t350)).setCell ⟨gb366, 2, none⟩ (.int .i64 t351)).setCell ⟨gb366, 3, none⟩ (.int .i64 t352)).setCell ⟨gb366, 4, none⟩ (.slice Ao107 t353.length co107)).setCell ⟨gb366, 5, none⟩ (.bool t356)).setCell ⟨gb366, 6, none⟩ (.slice Ao108 t357.length co108)).setCell ⟨gb366, 7, none⟩ (.slice Ao109 t360.length co109)).setCell ⟨gb366, 8, none⟩ (.slice Ao110 t363.length co110)) w.heap.size (fun k_ => some k_ ≠ (.slice Ao95 t330.length co95 : Value).ownBlock ∧ some k_ ≠ (.slice Ao97 t337.length co97 : Value).ownBlock ∧ some k_ ≠ (.slice Ao107 t353.length co107 : Value).ownBlock ∧ some k_ ≠ (.slice Ao109 t360.length co109 : Value).ownBlock ∧ some k_ ≠ (.slice Ao110 t363.length co110 : Value).ownBlock) (.slice Ao98 t340.length co98) t340) := ⟨by (with_reducible repeat (first | apply Kd.R_alloc | apply Kd.R_drewN | apply Kd.R_drew)); exact Kd.R_mono (Kd.R_far (p := ⟨gb366, 8, none⟩) (Kd.R_far (p := ⟨gb366, 7, none⟩) (Kd.R_far (p := ⟨gb366, 6, none⟩) (Kd.R_far (p := ⟨gb366, 5, none⟩) (Kd.R_far (p := ⟨gb366, 4, none⟩) (Kd.R_far (p := ⟨gb366, 3, none⟩) (Kd.R_far (p := ⟨gb366, 2, none⟩) (Kd.R_far (p := ⟨gb366, 1, none⟩) (Kd.R_far (p := ⟨gb366, 0, none⟩) (Kd.R_types HO342.out BK366.out (by decide)) (fun _ hk => hk.2) (.slice Ao103 t347.length co103)) (fun _ hk => hk.2) (.int .i64 t350)) (fun _ hk => hk.2) (.int .i64 t351)) (fun _ hk => hk.2) (.int .i64 t352)) (fun _ hk => hk.2) (.slice Ao107 t353.length co107)) (fun _ hk => hk.2) (.bool t356)) (fun _ hk => hk.2) (.slice Ao108 t357.length co108)) (fun _ hk => hk.2) (.slice Ao109 t360.length co109)) (fun _ hk => hk.2) (.slice Ao110 t363.length co110)) (fun _ hk => ⟨hk.1.1.1.1.1, ⟨hk.1.1.1.1.2, ⟨hk.1.1.1.2, ⟨hk.1.1.2, hk.1.2⟩⟩⟩⟩)⟩
        have n5_ : Aside0 (Kd.R k101 101 (((((((((w102.setCell ⟨gb366, 0, none⟩ (.slice Ao103 t347.length co103)).setCell ⟨gb366, 1, none⟩ (.int .i64 t350)).setCell ⟨gb366, 2, none⟩ (.int .i64 t351)).setCell ⟨gb366, 3, none⟩ (.int .i64 t352)).setCell ⟨gb366, 4, none⟩ (.slice Ao107 t353.length co107)).setCell ⟨gb366, 5, none⟩ (.bool t356)).setCell ⟨gb366, 6, none⟩ (.slice Ao108 t357.length co108)).setCell ⟨gb366, 7, none⟩ (.slice Ao109 t360.length co109)).setCell ⟨gb366, 8, none⟩ (.slice Ao110 t363.length co110)) w.heap.size (fun k_ => some k_ ≠ (.slice Ao94 t324.length co94 : Value).ownBlock) (.slice Ao103 t347.length co103) t347) := ⟨by (with_reducible repeat (first | apply Kd.R_alloc | apply Kd.R_drewN | apply Kd.R_drew)); exact Kd.R_mono (Kd.R_far (p := ⟨gb366, 8, none⟩) (Kd.R_far (p := ⟨gb366, 7, none⟩) (Kd.R_far (p := ⟨gb366, 6, none⟩) (Kd.R_far (p := ⟨gb366, 5, none⟩) (Kd.R_far (p := ⟨gb366, 4, none⟩) (Kd.R_far (p := ⟨gb366, 3, none⟩) (Kd.R_far (p := ⟨gb366, 2, none⟩) (Kd.R_far (p := ⟨gb366, 1, none⟩) (Kd.R_far (p := ⟨gb366, 0, none⟩) (Kd.R_types HO349.out BK366.out (by decide)) (fun _ hk => hk.2) (.slice Ao103 t347.length co103)) (fun _ hk => hk.2) (.int .i64 t350)) (fun _ hk => hk.2) (.int .i64 t351)) (fun _ hk => hk.2) (.int .i64 t352)) (fun _ hk => hk.2) (.slice Ao107 t353.length co107)) (fun _ hk => hk.2) (.bool t356)) (fun _ hk => hk.2) (.slice Ao108 t357.length co108)) (fun _ hk => hk.2) (.slice Ao109 t360.length co109)) (fun _ hk => hk.2) (.slice Ao110 t363.length co110)) (fun _ hk => hk.1.2)⟩
        have n6_ : Aside0 (Kd.R (Kd.int .i64) 3 (((((((((w102.setCell ⟨gb366, 0, none⟩ (.slice Ao103 t347.length co103)).setCell ⟨gb366, 1, none⟩ (.int .i64 t350)).setCell ⟨gb366, 2, none⟩ (.int .i64 t351)).setCell ⟨gb366, 3, none⟩ (.int .i64 t352)).setCell ⟨gb366, 4, none⟩ (.slice Ao107 t353.length co107)).setCell ⟨gb366, 5, none⟩ (.bool t356)).setCell ⟨gb366, 6, none⟩ (.slice Ao108 t357.length co108)).setCell ⟨gb366, 7, none⟩ (.slice Ao109 t360.length co109)).setCell ⟨gb366, 8, none⟩ (.slice Ao110 t363.length co110)) w.heap.size (fun k_ => some k_ ≠ (.slice Ao95 t330.length co95 : Value).ownBlock ∧ some k_ ≠ (.slice Ao97 t337.length co97 : Value).ownBlock ∧ some k_ ≠ (.slice Ao98 t340.length co98 : Value).ownBlock ∧ some k_ ≠ (.slice Ao109 t360.length co109 : Value).ownBlock ∧ some k_ ≠ (.slice Ao110 t363.length co110 : Value).ownBlock) (.slice Ao107 t353.length co107) t353) := ⟨by (with_reducible repeat (first | apply Kd.R_alloc | apply Kd.R_drewN | apply Kd.R_drew)); exact Kd.R_mono (Kd.R_far (p := ⟨gb366, 8, none⟩) (Kd.R_far (p := ⟨gb366, 7, none⟩) (Kd.R_far (p := ⟨gb366, 6, none⟩) (Kd.R_far (p := ⟨gb366, 5, none⟩) (Kd.R_far (p := ⟨gb366, 4, none⟩) (Kd.R_far (p := ⟨gb366, 3, none⟩) (Kd.R_far (p := ⟨gb366, 2, none⟩) (Kd.R_far (p := ⟨gb366, 1, none⟩) (Kd.R_far (p := ⟨gb366, 0, none⟩) (Kd.R_types HO355.out BK366.out (by decide)) (fun _ hk => hk.2) (.slice Ao103 t347.length co103)) (fun _ hk => hk.2) (.int .i64 t350)) (fun _ hk => hk.2) (.int .i64 t351)) (fun _ hk => hk.2) (.int .i64 t352)) (fun _ hk => hk.2) (.slice Ao107 t353.length co107)) (fun _ hk => hk.2) (.bool t356)) (fun _ hk => hk.2) (.slice Ao108 t357.length co108)) (fun _ hk => hk.2) (.slice Ao109 t360.length co109)) (fun _ hk => hk.2) (.slice Ao110 t363.length co110)) (fun _ hk => ⟨hk.1.1.1.2, ⟨hk.1.1.2, ⟨hk.1.2, ⟨hk.1.1.1.1.1, hk.1.1.1.1.2⟩⟩⟩⟩)⟩
        have n7_ : Aside0 (Kd.R k71 71 (((((((((w102.setCell ⟨gb366, 0, none⟩ (.slice Ao103 t347.length co103)).setCell ⟨gb366, 1, none⟩ (.int .i64 t350)).setCell ⟨gb366, 2, none⟩ (.int .i64 t351)).setCell ⟨gb366, 3, none⟩ (.int .i64 t352)).setCell ⟨gb366, 4, none⟩ (.slice Ao107 t353.length co107)).setCell ⟨gb366, 5, none⟩ (.bool t356)).setCell ⟨gb366, 6, none⟩ (.slice Ao108 t357.length co108)).setCell ⟨gb366, 7, none⟩ (.slice Ao109 t360.length co109)).setCell ⟨gb366, 8, none⟩ (.slice Ao110 t363.length co110)) w.heap.size (fun k_ => some k_ ≠ (.slice Ao96 t334.length co96 : Value).ownBlock) (.slice Ao108 t357.length co108) t357) := ⟨by (with_reducible repeat (first | apply Kd.R_alloc | apply Kd.R_drewN | apply Kd.R_drew)); exact Kd.R_mono (Kd.R_far (p := ⟨gb366, 8, none⟩) (Kd.R_far (p := ⟨gb366, 7, none⟩) (Kd.R_far (p := ⟨gb366, 6, none⟩) (Kd.R_far (p := ⟨gb366, 5, none⟩) (Kd.R_far (p := ⟨gb366, 4, none⟩) (Kd.R_far (p := ⟨gb366, 3, none⟩) (Kd.R_far (p := ⟨gb366, 2, none⟩) (Kd.R_far (p := ⟨gb366, 1, none⟩) (Kd.R_far (p := ⟨gb366, 0, none⟩) (Kd.R_types HO359.out BK366.out (by decide)) (fun _ hk => hk.2) (.slice Ao103 t347.length co103)) (fun _ hk => hk.2) (.int .i64 t350)) (fun _ hk => hk.2) (.int .i64 t351)) (fun _ hk => hk.2) (.int .i64 t352)) (fun _ hk => hk.2) (.slice Ao107 t353.length co107)) (fun _ hk => hk.2) (.bool t356)) (fun _ hk => hk.2) (.slice Ao108 t357.length co108)) (fun _ hk => hk.2) (.slice Ao109 t360.length co109)) (fun _ hk => hk.2) (.slice Ao110 t363.length co110)) (fun _ hk => hk.1.2)⟩
        have n8_ : Aside0 (Kd.R (Kd.int .i64) 3 (((((((((w102.setCell ⟨gb366, 0, none⟩ (.slice Ao103 t347.length co103)).setCell ⟨gb366, 1, none⟩ (.int .i64 t350)).setCell ⟨gb366, 2, none⟩ (.int .i64 t351)).setCell ⟨gb366, 3, none⟩ (.int .i64 t352)).setCell ⟨gb366, 4, none⟩ (.slice Ao107 t353.length co107)).setCell ⟨gb366, 5, none⟩ (.bool t356)).setCell ⟨gb366, 6, none⟩ (.slice Ao108 t357.length co108)).setCell ⟨gb366, 7, none⟩ (.slice Ao109 t360.length co109)).setCell ⟨gb366, 8, none⟩ (.slice Ao110 t363.length co110)) w.heap.size (fun k_ => some k_ ≠ (.slice Ao95 t330.length co95 : Value).ownBlock ∧ some k_ ≠ (.slice Ao97 t337.length co97 : Value).ownBlock ∧ some k_ ≠ (.slice Ao98 t340.length co98 : Value).ownBlock ∧ some k_ ≠ (.slice Ao107 t353.length co107 : Value).ownBlock ∧ some k_ ≠ (.slice Ao110 t363.length co110 : Value).ownBlock) (.slice Ao109 t360.length co109) t360) := ⟨by (with_reducible repeat (first | apply Kd.R_alloc | apply Kd.R_drewN | apply Kd.R_drew)); exact Kd.R_mono (Kd.R_far (p := ⟨gb366, 8, none⟩) (Kd.R_far (p := ⟨gb366, 7, none⟩) (Kd.R_far (p := ⟨gb366, 6, none⟩) (Kd.R_far (p := ⟨gb366, 5, none⟩) (Kd.R_far (p := ⟨gb366, 4, none⟩) (Kd.R_far (p := ⟨gb366, 3, none⟩) (Kd.R_far (p := ⟨gb366, 2, none⟩) (Kd.R_far (p := ⟨gb366, 1, none⟩) (Kd.R_far (p := ⟨gb366, 0, none⟩) (Kd.R_types HO362.out BK366.out (by decide)) (fun _ hk => hk.2) (.slice Ao103 t347.length co103)) (fun _ hk => hk.2) (.int .i64 t350)) (fun _ hk => hk.2) (.int .i64 t351)) (fun _ hk => hk.2) (.int .i64 t352)) (fun _ hk => hk.2) (.slice Ao107 t353.length co107)) (fun _ hk => hk.2) (.bool t356)) (fun _ hk => hk.2) (.slice Ao108 t357.length co108)) (fun _ hk => hk.2) (.slice Ao109 t360.length co109)) (fun _ hk => hk.2) (.slice Ao110 t363.length co110)) (fun _ hk => ⟨hk.1.1.1.2, ⟨hk.1.1.2, ⟨hk.1.2, ⟨hk.1.1.1.1.1, hk.1.1.1.1.2⟩⟩⟩⟩)⟩
        have n9_ : Aside0 (Kd.R (Kd.int .i64) 3 (((((((((w102.setCell ⟨gb366, 0, none⟩ (.slice Ao103 t347.length co103)).setCell ⟨gb366, 1, none⟩ (.int .i64 t350)).setCell ⟨gb366, 2, none⟩ (.int .i64 t351)).setCell ⟨gb366, 3, none⟩ (.int .i64 t352)).setCell ⟨gb366, 4, none⟩ (.slice Ao107 t353.length co107)).setCell ⟨gb366, 5, none⟩ (.bool t356)).setCell ⟨gb366, 6, none⟩ (.slice Ao108 t357.length co108)).setCell ⟨gb366, 7, none⟩ (.slice Ao109 t360.length co109)).setCell ⟨gb366, 8, none⟩ (.slice Ao110 t363.length co110)) w.heap.size (fun k_ => some k_ ≠ (.slice Ao95 t330.length co95 : Value).ownBlock ∧ some k_ ≠ (.slice Ao97 t337.length co97 : Value).ownBlock ∧ some k_ ≠ (.slice Ao98 t340.length co98 : Value).ownBlock ∧ some k_ ≠ (.slice Ao107 t353.length co107 : Value).ownBlock ∧ some k_ ≠ (.slice Ao109 t360.length co109 : Value).ownBlock) (.slice Ao110 t363.length co110) t363) := ⟨by (with_reducible repeat (first | apply Kd.R_alloc | apply Kd.R_drewN | apply Kd.R_drew)); exact Kd.R_mono (Kd.R_far (p := ⟨gb366, 8, none⟩) (Kd.R_far (p := ⟨gb366, 7, none⟩) (Kd.R_far (p := ⟨gb366, 6, none⟩) (Kd.R_far (p := ⟨gb366, 5, none⟩) (Kd.R_far (p := ⟨gb366, 4, none⟩) (Kd.R_far (p := ⟨gb366, 3, none⟩) (Kd.R_far (p := ⟨gb366, 2, none⟩) (Kd.R_far (p := ⟨gb366, 1, none⟩) (Kd.R_far (p := ⟨gb366, 0, none⟩) (Kd.R_types HO365.out BK366.out (by decide)) (fun _ hk => hk.2) (.slice Ao103 t347.length co103)) (fun _ hk => hk.2) (.int .i64 t350)) (fun _ hk => hk.2) (.int .i64 t351)) (fun _ hk => hk.2) (.int .i64 t352)) (fun _ hk => hk.2) (.slice Ao107 t353.length co107)) (fun _ hk => hk.2) (.bool t356)) (fun _ hk => hk.2) (.slice Ao108 t357.length co108)) (fun _ hk => hk.2) (.slice Ao109 t360.length co109)) (fun _ hk => hk.2) (.slice Ao110 t363.length co110)) (fun _ hk => ⟨hk.1.1.1.2, ⟨hk.1.1.2, ⟨hk.1.2, ⟨hk.1.1.1.1.1, hk.1.1.1.1.2⟩⟩⟩⟩)⟩
        have n10_ : Aside0 ((((((((((w102.setCell ⟨gb366, 0, none⟩ (.slice Ao103 t347.length co103)).setCell ⟨gb366, 1, none⟩ (.int .i64 t350)).setCell ⟨gb366, 2, none⟩ (.int .i64 t351)).setCell ⟨gb366, 3, none⟩ (.int .i64 t352)).setCell ⟨gb366, 4, none⟩ (.slice Ao107 t353.length co107)).setCell ⟨gb366, 5, none⟩ (.bool t356)).setCell ⟨gb366, 6, none⟩ (.slice Ao108 t357.length co108)).setCell ⟨gb366, 7, none⟩ (.slice Ao109 t360.length co109)).setCell ⟨gb366, 8, none⟩ (.slice Ao110 t363.length co110)).heap[gb321]? = some (.cells #[.slice A0_0 l0_0.length c0_0, .int .i64 a0_1, .int .i64 a0_2, .int .i64 a0_3, .slice A0_4 l0_4.length c0_4, .bool a0_5, .slice A0_6 l0_6.length c0_6, .slice A0_7 l0_7.length c0_7, .slice A0_8 l0_8.length c0_8] 28 (0, 0))) := ⟨bk BK321.out⟩
        have n11_ : Aside0 ((((((((((w102.setCell ⟨gb366, 0, none⟩ (.slice Ao103 t347.length co103)).setCell ⟨gb366, 1, none⟩ (.int .i64 t350)).setCell ⟨gb366, 2, none⟩ (.int .i64 t351)).setCell ⟨gb366, 3, none⟩ (.int .i64 t352)).setCell ⟨gb366, 4, none⟩ (.slice Ao107 t353.length co107)).setCell ⟨gb366, 5, none⟩ (.bool t356)).setCell ⟨gb366, 6, none⟩ (.slice Ao108 t357.length co108)).setCell ⟨gb366, 7, none⟩ (.slice Ao109 t360.length co109)).setCell ⟨gb366, 8, none⟩ (.slice Ao110 t363.length co110)).heap[gb322]? = some (.cells #[.int .i64 a1_0, .int .i64 a1_1, .bool a1_2] 30 (0, 0))) := ⟨bk BK322.out⟩
        have n12_ : Aside0 ((((((((((w102.setCell ⟨gb366, 0, none⟩ (.slice Ao103 t347.length co103)).setCell ⟨gb366, 1, none⟩ (.int .i64 t350)).setCell ⟨gb366, 2, none⟩ (.int .i64 t351)).setCell ⟨gb366, 3, none⟩ (.int .i64 t352)).setCell ⟨gb366, 4, none⟩ (.slice Ao107 t353.length co107)).setCell ⟨gb366, 5, none⟩ (.bool t356)).setCell ⟨gb366, 6, none⟩ (.slice Ao108 t357.length co108)).setCell ⟨gb366, 7, none⟩ (.slice Ao109 t360.length co109)).setCell ⟨gb366, 8, none⟩ (.slice Ao110 t363.length co110)).heap[gb366]? = some (.cells #[.slice Ao103 t347.length co103, .int .i64 t350, .int .i64 t351, .int .i64 t352, .slice Ao107 t353.length co107, .bool t356, .slice Ao108 t357.length co108, .slice Ao109 t360.length co109, .slice Ao110 t363.length co110] 37 (0, 0))) := ⟨by (with_reducible repeat (first | refine blk_drewN ?_ _ | refine blk_drew ?_ | refine blk_alloc ?_ _)); refine blk_put (cs := #[.slice Ao103 t347.length co103, .int .i64 t350, .int .i64 t351, .int .i64 t352, .slice Ao107 t353.length co107, .bool t356, .slice Ao108 t357.length co108, .slice Ao109 t360.length co109, .slice none 0 0]) ?_ 8 _ rfl; (with_reducible repeat (first | refine blk_drewN ?_ _ | refine blk_drew ?_ | refine blk_alloc ?_ _)); refine blk_put (cs := #[.slice Ao103 t347.length co103, .int .i64 t350, .int .i64 t351, .int .i64 t352, .slice Ao107 t353.length co107, .bool t356, .slice Ao108 t357.length co108, .slice none 0 0, .slice none 0 0]) ?_ 7 _ rfl; (with_reducible repeat (first | refine blk_drewN ?_ _ | refine blk_drew ?_ | refine blk_alloc ?_ _)); refine blk_put (cs := #[.slice Ao103 t347.length co103, .int .i64 t350, .int .i64 t351, .int .i64 t352, .slice Ao107 t353.length co107, .bool t356, .slice none 0 0, .slice none 0 0, .slice none 0 0]) ?_ 6 _ rfl; (with_reducible repeat (first | refine blk_drewN ?_ _ | refine blk_drew ?_ | refine blk_alloc ?_ _)); refine blk_put (cs := #[.slice Ao103 t347.length co103, .int .i64 t350, .int .i64 t351, .int .i64 t352, .slice Ao107 t353.length co107, .bool false, .slice none 0 0, .slice none 0 0, .slice none 0 0]) ?_ 5 _ rfl; (with_reducible repeat (first | refine blk_drewN ?_ _ | refine blk_drew ?_ | refine blk_alloc ?_ _)); refine blk_put (cs := #[.slice Ao103 t347.length co103, .int .i64 t350, .int .i64 t351, .int .i64 t352, .slice none 0 0, .bool false, .slice none 0 0, .slice none 0 0, .slice none 0 0]) ?_ 4 _ rfl; (with_reducible repeat (first | refine blk_drewN ?_ _ | refine blk_drew ?_ | refine blk_alloc ?_ _)); refine blk_put (cs := #[.slice Ao103 t347.length co103, .int .i64 t350, .int .i64 t351, .int .i64 0, .slice none 0 0, .bool false, .slice none 0 0, .slice none 0 0, .slice none 0 0]) ?_ 3 _ rfl; (with_reducible repeat (first | refine blk_drewN ?_ _ | refine blk_drew ?_ | refine blk_alloc ?_ _)); refine blk_put (cs := #[.slice Ao103 t347.length co103, .int .i64 t350, .int .i64 0, .int .i64 0, .slice none 0 0, .bool false, .slice none 0 0, .slice none 0 0, .slice none 0 0]) ?_ 2 _ rfl; (with_reducible repeat (first | refine blk_drewN ?_ _ | refine blk_drew ?_ | refine blk_alloc ?_ _)); refine blk_put (cs := #[.slice Ao103 t347.length co103, .int .i64 0, .int .i64 0, .int .i64 0, .slice none 0 0, .bool false, .slice none 0 0, .slice none 0 0, .slice none 0 0]) ?_ 1 _ rfl; (with_reducible repeat (first | refine blk_drewN ?_ _ | refine blk_drew ?_ | refine blk_alloc ?_ _)); refine blk_put (cs := #[.slice none 0 0, .int .i64 0, .int .i64 0, .int .i64 0, .slice none 0 0, .bool false, .slice none 0 0, .slice none 0 0, .slice none 0 0]) ?_ 0 _ rfl; (with_reducible repeat (first | refine blk_drewN ?_ _ | refine blk_drew ?_ | refine blk_alloc ?_ _)); exact BK366.out⟩
        have n13_ : Aside0 (Below w.heap.size w (((((((((w102.setCell ⟨gb366, 0, none⟩ (.slice Ao103 t347.length co103)).setCell ⟨gb366, 1, none⟩ (.int .i64 t350)).setCell ⟨gb366, 2, none⟩ (.int .i64 t351)).setCell ⟨gb366, 3, none⟩ (.int .i64 t352)).setCell ⟨gb366, 4, none⟩ (.slice Ao107 t353.length co107)).setCell ⟨gb366, 5, none⟩ (.bool t356)).setCell ⟨gb366, 6, none⟩ (.slice Ao108 t357.length co108)).setCell ⟨gb366, 7, none⟩ (.slice Ao109 t360.length co109)).setCell ⟨gb366, 8, none⟩ (.slice Ao110 t363.length co110))) := ⟨bel⟩
        (try clear HO326)
        (try clear HO332)
        (try clear HO336)
        (try clear HO339)
        (try clear HO342)
        (try clear HO349)
        (try clear HO355)
        (try clear HO359)
        (try clear HO362)
        (try clear HO365)
        (try clear BK321)
        (try clear BK322)
        (try clear BK366)
        (try clear HB)
        generalize (((((((((w102.setCell ⟨gb366, 0, none⟩ (.slice Ao103 t347.length co103)).setCell ⟨gb366, 1, none⟩ (.int .i64 t350)).setCell ⟨gb366, 2, none⟩ (.int .i64 t351)).setCell ⟨gb366, 3, none⟩ (.int .i64 t352)).setCell ⟨gb366, 4, none⟩ (.slice Ao107 t353.length co107)).setCell ⟨gb366, 5, none⟩ (.bool t356)).setCell ⟨gb366, 6, none⟩ (.slice Ao108 t357.length co108)).setCell ⟨gb366, 7, none⟩ (.slice Ao109 t360.length co109)).setCell ⟨gb366, 8, none⟩ (.slice Ao110 t363.length co110)) = w111 at n0_ n1_ n2_ n3_ n4_ n5_ n6_ n7_ n8_ n9_ n10_ n11_ n12_ n13_ ⊢
        have HO326 := n0_
        have HO332 := n1_
        have HO336 := n2_
        have HO339 := n3_
        have HO342 := n4_
        have HO349 := n5_
        have HO355 := n6_
        have HO359 := n7_
        have HO362 := n8_
        have HO365 := n9_
        have BK321 := n10_
        have BK322 := n11_
        have BK366 := n12_
        have HB := n13_
        clear n0_ n1_ n2_ n3_ n4_ n5_ n6_ n7_ n8_ n9_ n10_ n11_ n12_ n13_
        replace HO326 := Aside0.mk (Kd.R_drew HO326.out)
        replace HO332 := Aside0.mk (Kd.R_drew HO332.out)
        replace HO336 := Aside0.mk (Kd.R_drew HO336.out)
        replace HO339 := Aside0.mk (Kd.R_drew HO339.out)
        replace HO342 := Aside0.mk (Kd.R_drew HO342.out)
        replace HO349 := Aside0.mk (Kd.R_drew HO349.out)
        replace HO355 := Aside0.mk (Kd.R_drew HO355.out)
        replace HO359 := Aside0.mk (Kd.R_drew HO359.out)
        replace HO362 := Aside0.mk (Kd.R_drew HO362.out)
        replace HO365 := Aside0.mk (Kd.R_drew HO365.out)
        replace BK321 := Aside0.mk (blk_drew BK321.out)
        replace BK322 := Aside0.mk (blk_drew BK322.out)
        replace BK366 := Aside0.mk (blk_drew BK366.out)
        replace HB := Aside0.mk (below_drew1 HB.out)
        refine start_ (n := 5) (S := fun w' => w'.cell? ⟨gb366, 0, none⟩ = some (.slice Ao103 t347.length co103) ∧ w'.cell? ⟨gb366, 1, none⟩ = some (.int .i64 t350) ∧ w'.cell? ⟨gb366, 2, none⟩ = some (.int .i64 t351) ∧ w'.cell? ⟨gb366, 3, none⟩ = some (.int .i64 t352) ∧ w'.cell? ⟨gb366, 4, none⟩ = some (.slice Ao107 t353.length co107) ∧ w'.cell? ⟨gb366, 5, none⟩ = some (.bool t356) ∧ w'.cell? ⟨gb366, 6, none⟩ = some (.slice Ao108 t357.length co108) ∧ w'.cell? ⟨gb366, 7, none⟩ = some (.slice Ao109 t360.length co109) ∧ w'.cell? ⟨gb366, 8, none⟩ = some (.slice Ao110 t363.length co110) ∧ w'.cell? ⟨gb322, 0, none⟩ = some (.int .i64 a1_0) ∧ w'.cell? ⟨gb322, 1, none⟩ = some (.int .i64 a1_1) ∧ w'.cell? ⟨gb322, 2, none⟩ = some (.bool a1_2)) (ds := []) #[false, false, false, false, false] (by kernel_rfl) rfl rfl ⟨(blk_cell BK366.out 0).trans rfl, (blk_cell BK366.out 1).trans rfl, (blk_cell BK366.out 2).trans rfl, (blk_cell BK366.out 3).trans rfl, (blk_cell BK366.out 4).trans rfl, (blk_cell BK366.out 5).trans rfl, (blk_cell BK366.out 6).trans rfl, (blk_cell BK366.out 7).trans rfl, (blk_cell BK366.out 8).trans rfl, (blk_cell BK322.out 0).trans rfl, (blk_cell BK322.out 1).trans rfl, (blk_cell BK322.out 2).trans rfl⟩ (fun hHeld => ?_)
        generalize w111.drew = w112 at HO326 HO332 HO336 HO339 HO342 HO349 HO355 HO359 HO362 HO365 BK321 BK322 BK366 HB hHeld ⊢
        refine take_ (i := 0) (N := some 21) (v := ?_) (a' := ?_) #[true, false, false, false, false] rfl rfl (by kernel_rfl) (fun _ _ _ h => h) (Or.inl ⟨by rfl, ?_⟩) hHeld ?_ ?_
        rotate_left
        · rintro w' ⟨s0, s1, s2, s3, s4, s5, s6, s7, s8, s9, s10, s11⟩
          go_simp
          with_reducible rfl
        rotate_left
        · simp only [Act.put, List.setIfInBounds_toArray, List.set_cons_zero, List.set_cons_succ, i64_w, i32_w]
          rfl
        refine take_ (i := 1) (N := some 22) (v := ?_) (a' := ?_) #[true, true, false, false, false] rfl rfl (by kernel_rfl) (fun _ _ _ h => h) (Or.inl ⟨by rfl, ?_⟩) hHeld ?_ ?_
        rotate_left
        · rintro w' ⟨s0, s1, s2, s3, s4, s5, s6, s7, s8, s9, s10, s11⟩
          go_simp
          with_reducible rfl
        rotate_left
        · simp only [Act.put, List.setIfInBounds_toArray, List.set_cons_zero, List.set_cons_succ, i64_w, i32_w]
          rfl
        refine one_ (i := 2) (N := some 23) #[true, true, true, false, false] rfl rfl (by kernel_rfl) (by decide) (fun K hK => ?_)
        refine goes_ Try.func16 (by kernel_rfl) rfl #[.agg #[.int .i64 a1_0, .int .i64 a1_1, .bool a1_2]] (by rfl) rfl rfl ga ?_
        with_reducible refine (laws_toProtest.calls a1_0 a1_1 a1_2 t367 t368 t369 _ A14.out).mono ?_
        rintro e w113 ⟨rfl, hb⟩
        refine ⟨_, rfl, ?_⟩
        replace HO326 := Aside0.mk (Kd.R_below (rk HO326.out) hb)
        replace HO332 := Aside0.mk (Kd.R_below (rk HO332.out) hb)
        replace HO336 := Aside0.mk (Kd.R_below (rk HO336.out) hb)
        replace HO339 := Aside0.mk (Kd.R_below (rk HO339.out) hb)
        replace HO342 := Aside0.mk (Kd.R_below (rk HO342.out) hb)
        replace HO349 := Aside0.mk (Kd.R_below (rk HO349.out) hb)
        replace HO355 := Aside0.mk (Kd.R_below (rk HO355.out) hb)
        replace HO359 := Aside0.mk (Kd.R_below (rk HO359.out) hb)
        replace HO362 := Aside0.mk (Kd.R_below (rk HO362.out) hb)
        replace HO365 := Aside0.mk (Kd.R_below (rk HO365.out) hb)
        replace BK321 := Aside0.mk (bb BK321.out hb)
        replace BK322 := Aside0.mk (bb BK322.out hb)
        replace BK366 := Aside0.mk (bb BK366.out hb)
        replace HB := Aside0.mk (below_step bel hb)
        (try clear hb)
        (try clear hb2)
        (try clear hk)
        (try clear hi)
        refine hK.out _ _ ⟨(blk_cell BK366.out 0).trans rfl, (blk_cell BK366.out 1).trans rfl, (blk_cell BK366.out 2).trans rfl, (blk_cell BK366.out 3).trans rfl, (blk_cell BK366.out 4).trans rfl, (blk_cell BK366.out 5).trans rfl, (blk_cell BK366.out 6).trans rfl, (blk_cell BK366.out 7).trans rfl, (blk_cell BK366.out 8).trans rfl, (blk_cell BK322.out 0).trans rfl, (blk_cell BK322.out 1).trans rfl, (blk_cell BK322.out 2).trans rfl⟩ (fun hHeld => ?_)
        clear hK K
        refine norm_ (a' := ?_) ?_ ?_
        rotate_left
        · show Act.put _ (some 23) _ = _
          simp only [Act.put, List.setIfInBounds_toArray, List.set_cons_zero, List.set_cons_succ, i64_w, i32_w]
          rfl
        refine one_ (i := 3) (N := some 24) #[true, true, true, true, false] rfl rfl (by kernel_rfl) (by decide) (fun K hK => ?_)
        refine goes_ Try.func17 (by kernel_rfl) rfl #[.agg #[.slice Ao103 t347.length co103, .int .i64 t350, .int .i64 t351, .int .i64 t352, .slice Ao107 t353.length co107, .bool t356, .slice Ao108 t357.length co108, .slice Ao109 t360.length co109, .slice Ao110 t363.length co110], .agg #[.int .i64 t367, .int .i64 t368, .bool t369]] (by rfl) rfl rfl ga ?_
        with_reducible refine (impl_ProtestOk.calls k _ _ t347 t350 t351 t352 _ _ t353 t356 _ _ t357 _ _ t360 _ _ t363 t367 t368 t369 t370 _ ?side1 ?side2 ?side3 ?side4 ?side5 ?side6 ?side7 ?side8 ?side9 ?side10 A15.out).mono ?_
        (case side1 => exact ck (Kd.R_reads' HO349.out).2.2)
        (case side2 => exact (Kd.R_reads' HO349.out).2.1)
        (case side3 => exact ck (Kd.R_reads' HO355.out).2.2)
        (case side4 => exact (Kd.R_reads' HO355.out).2.1)
        (case side5 => exact ck (Kd.R_reads' HO359.out).2.2)
        (case side6 => exact (Kd.R_reads' HO359.out).2.1)
        (case side7 => exact ck (Kd.R_reads' HO362.out).2.2)
        (case side8 => exact (Kd.R_reads' HO362.out).2.1)
        (case side9 => exact ck (Kd.R_reads' HO365.out).2.2)
        (case side10 => exact (Kd.R_reads' HO365.out).2.1)
        rintro e w114 ⟨rfl, hb⟩
        refine ⟨_, rfl, ?_⟩
        replace HO326 := Aside0.mk (Kd.R_below (rk HO326.out) hb)
        replace HO332 := Aside0.mk (Kd.R_below (rk HO332.out) hb)
        replace HO336 := Aside0.mk (Kd.R_below (rk HO336.out) hb)
        replace HO339 := Aside0.mk (Kd.R_below (rk HO339.out) hb)
        replace HO342 := Aside0.mk (Kd.R_below (rk HO342.out) hb)
        replace HO349 := Aside0.mk (Kd.R_below (rk HO349.out) hb)
        replace HO355 := Aside0.mk (Kd.R_below (rk HO355.out) hb)
        replace HO359 := Aside0.mk (Kd.R_below (rk HO359.out) hb)
        replace HO362 := Aside0.mk (Kd.R_below (rk HO362.out) hb)
        replace HO365 := Aside0.mk (Kd.R_below (rk HO365.out) hb)
        replace BK321 := Aside0.mk (bb BK321.out hb)
        replace BK322 := Aside0.mk (bb BK322.out hb)
        replace BK366 := Aside0.mk (bb BK366.out hb)
        replace HB := Aside0.mk (below_step bel hb)
        (try clear hb)
        (try clear hb2)
        (try clear hk)
        (try clear hi)
        refine hK.out _ _ ⟨(blk_cell BK366.out 0).trans rfl, (blk_cell BK366.out 1).trans rfl, (blk_cell BK366.out 2).trans rfl, (blk_cell BK366.out 3).trans rfl, (blk_cell BK366.out 4).trans rfl, (blk_cell BK366.out 5).trans rfl, (blk_cell BK366.out 6).trans rfl, (blk_cell BK366.out 7).trans rfl, (blk_cell BK366.out 8).trans rfl, (blk_cell BK322.out 0).trans rfl, (blk_cell BK322.out 1).trans rfl, (blk_cell BK322.out 2).trans rfl⟩ (fun hHeld => ?_)
        clear hK K
        refine norm_ (a' := ?_) ?_ ?_
        rotate_left
        · show Act.put _ (some 24) _ = _
          simp only [Act.put, List.setIfInBounds_toArray, List.set_cons_zero, List.set_cons_succ, i64_w, i32_w]
          rfl
        refine pure_ (i := 4) (N := some 8) (v := ?_) (a' := ?_) #[true, true, true, true, true] rfl rfl (by kernel_rfl) (fun _ _ _ h => h) (Or.inl ⟨by rfl, ?_⟩) ?_ ?_
        rotate_left
        · intro w'
          go_simp
          with_reducible rfl
        rotate_left
        · simp only [Act.put, List.setIfInBounds_toArray, List.set_cons_zero, List.set_cons_succ, i64_w, i32_w]
          rfl
        refine done_ (by kernel_rfl) ?_
        try go_wp2
        replace HO326 := Aside0.mk (Kd.R_drew HO326.out)
        replace HO332 := Aside0.mk (Kd.R_drew HO332.out)
        replace HO336 := Aside0.mk (Kd.R_drew HO336.out)
        replace HO339 := Aside0.mk (Kd.R_drew HO339.out)
        replace HO342 := Aside0.mk (Kd.R_drew HO342.out)
        replace HO349 := Aside0.mk (Kd.R_drew HO349.out)
        replace HO355 := Aside0.mk (Kd.R_drew HO355.out)
        replace HO359 := Aside0.mk (Kd.R_drew HO359.out)
        replace HO362 := Aside0.mk (Kd.R_drew HO362.out)
        replace HO365 := Aside0.mk (Kd.R_drew HO365.out)
        replace BK321 := Aside0.mk (blk_drew BK321.out)
        replace BK322 := Aside0.mk (blk_drew BK322.out)
        replace BK366 := Aside0.mk (blk_drew BK366.out)
        replace HB := Aside0.mk (below_drew1 HB.out)
        refine start_ (n := 5) (S := fun w' => w'.cell? ⟨gb366, 0, none⟩ = some (.slice Ao103 t347.length co103) ∧ w'.cell? ⟨gb366, 1, none⟩ = some (.int .i64 t350) ∧ w'.cell? ⟨gb366, 2, none⟩ = some (.int .i64 t351) ∧ w'.cell? ⟨gb366, 3, none⟩ = some (.int .i64 t352) ∧ w'.cell? ⟨gb366, 4, none⟩ = some (.slice Ao107 t353.length co107) ∧ w'.cell? ⟨gb366, 5, none⟩ = some (.bool t356) ∧ w'.cell? ⟨gb366, 6, none⟩ = some (.slice Ao108 t357.length co108) ∧ w'.cell? ⟨gb366, 7, none⟩ = some (.slice Ao109 t360.length co109) ∧ w'.cell? ⟨gb366, 8, none⟩ = some (.slice Ao110 t363.length co110) ∧ w'.cell? ⟨gb321, 0, none⟩ = some (.slice A0_0 l0_0.length c0_0) ∧ w'.cell? ⟨gb321, 1, none⟩ = some (.int .i64 a0_1) ∧ w'.cell? ⟨gb321, 2, none⟩ = some (.int .i64 a0_2) ∧ w'.cell? ⟨gb321, 3, none⟩ = some (.int .i64 a0_3) ∧ w'.cell? ⟨gb321, 4, none⟩ = some (.slice A0_4 l0_4.length c0_4) ∧ w'.cell? ⟨gb321, 5, none⟩ = some (.bool a0_5) ∧ w'.cell? ⟨gb321, 6, none⟩ = some (.slice A0_6 l0_6.length c0_6) ∧ w'.cell? ⟨gb321, 7, none⟩ = some (.slice A0_7 l0_7.length c0_7) ∧ w'.cell? ⟨gb321, 8, none⟩ = some (.slice A0_8 l0_8.length c0_8)) (ds := []) #[false, false, false, false, false] (by kernel_rfl) rfl rfl ⟨(blk_cell BK366.out 0).trans rfl, (blk_cell BK366.out 1).trans rfl, (blk_cell BK366.out 2).trans rfl, (blk_cell BK366.out 3).trans rfl, (blk_cell BK366.out 4).trans rfl, (blk_cell BK366.out 5).trans rfl, (blk_cell BK366.out 6).trans rfl, (blk_cell BK366.out 7).trans rfl, (blk_cell BK366.out 8).trans rfl, (blk_cell BK321.out 0).trans rfl, (blk_cell BK321.out 1).trans rfl, (blk_cell BK321.out 2).trans rfl, (blk_cell BK321.out 3).trans rfl, (blk_cell BK321.out 4).trans rfl, (blk_cell BK321.out 5).trans rfl, (blk_cell BK321.out 6).trans rfl, (blk_cell BK321.out 7).trans rfl, (blk_cell BK321.out 8).trans rfl⟩ (fun hHeld => ?_)
        generalize w114.drew = w115 at HO326 HO332 HO336 HO339 HO342 HO349 HO355 HO359 HO362 HO365 BK321 BK322 BK366 HB hHeld ⊢
        refine take_ (i := 0) (N := some 28) (v := ?_) (a' := ?_) #[true, false, false, false, false] rfl rfl (by kernel_rfl) (fun _ _ _ h => h) (Or.inl ⟨by rfl, ?_⟩) hHeld ?_ ?_
        rotate_left
        · rintro w' ⟨s0, s1, s2, s3, s4, s5, s6, s7, s8, s9, s10, s11, s12, s13, s14, s15, s16, s17⟩
          go_simp
          with_reducible rfl
        rotate_left
        · simp only [Act.put, List.setIfInBounds_toArray, List.set_cons_zero, List.set_cons_succ, i64_w, i32_w]
          rfl
        refine take_ (i := 1) (N := some 29) (v := ?_) (a' := ?_) #[true, true, false, false, false] rfl rfl (by kernel_rfl) (fun _ _ _ h => h) (Or.inl ⟨by rfl, ?_⟩) hHeld ?_ ?_
        rotate_left
        · rintro w' ⟨s0, s1, s2, s3, s4, s5, s6, s7, s8, s9, s10, s11, s12, s13, s14, s15, s16, s17⟩
          go_simp
          with_reducible rfl
        rotate_left
        · simp only [Act.put, List.setIfInBounds_toArray, List.set_cons_zero, List.set_cons_succ, i64_w, i32_w]
          rfl
        refine one_ (i := 2) (N := some 30) #[true, true, true, false, false] rfl rfl (by kernel_rfl) (by decide) (fun K hK => ?_)
        refine goes_ Try.func15 (by kernel_rfl) rfl #[.agg #[.slice A0_0 l0_0.length c0_0, .int .i64 a0_1, .int .i64 a0_2, .int .i64 a0_3, .slice A0_4 l0_4.length c0_4, .bool a0_5, .slice A0_6 l0_6.length c0_6, .slice A0_7 l0_7.length c0_7, .slice A0_8 l0_8.length c0_8]] (by rfl) rfl rfl ga ?_
        with_reducible refine (laws_toBook.calls k _ _ l0_0 a0_1 a0_2 a0_3 _ _ l0_4 a0_5 _ _ l0_6 _ _ l0_7 _ _ l0_8 t371 t374 t375 t376 t377 t380 t381 t384 t387 _ ?side1 ?side2 ?side3 ?side4 ?side5 ?side6 ?side7 ?side8 ?side9 ?side10 A46.out).mono ?_
        (case side1 => exact ck (Kd.C_below HR0_0.out HB.out))
        (case side2 => exact HC0_0.out)
        (case side3 => exact ck (Kd.C_below HR0_4.out HB.out))
        (case side4 => exact HC0_4.out)
        (case side5 => exact ck (Kd.C_below HR0_6.out HB.out))
        (case side6 => exact HC0_6.out)
        (case side7 => exact ck (Kd.C_below HR0_7.out HB.out))
        (case side8 => exact HC0_7.out)
        (case side9 => exact ck (Kd.C_below HR0_8.out HB.out))
        (case side10 => exact HC0_8.out)
        rintro e w116 ⟨v372, v378, v382, v385, v388, rfl, ho0, ho1, ho2, ho3, ho4, hb⟩
        refine ⟨_, rfl, ?_⟩
        have HO373 := Aside0.mk (Kd.R_lower (Kd.R_new' (Kd.R_new' ho0 (Kd.R_lt (rk HO326.out))) (Kd.R_lt (rk HO349.out))) (below_size bel))
        have HO379 := Aside0.mk (Kd.R_lower (Kd.R_new' (Kd.R_new' (Kd.R_new' (Kd.R_new' (Kd.R_new' (Kd.R_new' ho1 (Kd.R_lt (rk HO332.out))) (Kd.R_lt (rk HO339.out))) (Kd.R_lt (rk HO342.out))) (Kd.R_lt (rk HO355.out))) (Kd.R_lt (rk HO362.out))) (Kd.R_lt (rk HO365.out))) (below_size bel))
        have HO383 := Aside0.mk (Kd.R_lower (Kd.R_new' (Kd.R_new' ho2 (Kd.R_lt (rk HO336.out))) (Kd.R_lt (rk HO359.out))) (below_size bel))
        have HO386 := Aside0.mk (Kd.R_lower (Kd.R_new' (Kd.R_new' (Kd.R_new' (Kd.R_new' (Kd.R_new' (Kd.R_new' ho3 (Kd.R_lt (rk HO332.out))) (Kd.R_lt (rk HO339.out))) (Kd.R_lt (rk HO342.out))) (Kd.R_lt (rk HO355.out))) (Kd.R_lt (rk HO362.out))) (Kd.R_lt (rk HO365.out))) (below_size bel))
        have HO389 := Aside0.mk (Kd.R_lower (Kd.R_new' (Kd.R_new' (Kd.R_new' (Kd.R_new' (Kd.R_new' (Kd.R_new' ho4 (Kd.R_lt (rk HO332.out))) (Kd.R_lt (rk HO339.out))) (Kd.R_lt (rk HO342.out))) (Kd.R_lt (rk HO355.out))) (Kd.R_lt (rk HO362.out))) (Kd.R_lt (rk HO365.out))) (below_size bel))
        replace HO326 := Aside0.mk (Kd.R_elder' (rk HO326.out) (Kd.R_base ho0) hb)
        replace HO332 := Aside0.mk (Kd.R_mono (Kd.R_told (Kd.R_told (Kd.R_told (Kd.R_old (rk HO332.out) hb) (Kd.R_base ho1)) (Kd.R_base ho3)) (Kd.R_base ho4)) (fun _ h_ => h_.1))
        replace HO336 := Aside0.mk (Kd.R_elder' (rk HO336.out) (Kd.R_base ho2) hb)
        replace HO339 := Aside0.mk (Kd.R_mono (Kd.R_told (Kd.R_told (Kd.R_told (Kd.R_old (rk HO339.out) hb) (Kd.R_base ho1)) (Kd.R_base ho3)) (Kd.R_base ho4)) (fun _ h_ => h_.1))
        replace HO342 := Aside0.mk (Kd.R_mono (Kd.R_told (Kd.R_told (Kd.R_told (Kd.R_old (rk HO342.out) hb) (Kd.R_base ho1)) (Kd.R_base ho3)) (Kd.R_base ho4)) (fun _ h_ => h_.1))
        replace HO349 := Aside0.mk (Kd.R_elder' (rk HO349.out) (Kd.R_base ho0) hb)
        replace HO355 := Aside0.mk (Kd.R_mono (Kd.R_told (Kd.R_told (Kd.R_told (Kd.R_old (rk HO355.out) hb) (Kd.R_base ho1)) (Kd.R_base ho3)) (Kd.R_base ho4)) (fun _ h_ => h_.1))
        replace HO359 := Aside0.mk (Kd.R_elder' (rk HO359.out) (Kd.R_base ho2) hb)
        replace HO362 := Aside0.mk (Kd.R_mono (Kd.R_told (Kd.R_told (Kd.R_told (Kd.R_old (rk HO362.out) hb) (Kd.R_base ho1)) (Kd.R_base ho3)) (Kd.R_base ho4)) (fun _ h_ => h_.1))
        replace HO365 := Aside0.mk (Kd.R_mono (Kd.R_told (Kd.R_told (Kd.R_told (Kd.R_old (rk HO365.out) hb) (Kd.R_base ho1)) (Kd.R_base ho3)) (Kd.R_base ho4)) (fun _ h_ => h_.1))
        replace BK321 := Aside0.mk (bb BK321.out hb)
        replace BK322 := Aside0.mk (bb BK322.out hb)
        replace BK366 := Aside0.mk (bb BK366.out hb)
        replace HB := Aside0.mk (below_step bel hb)
        (try clear hb)
        (try clear hb2)
        (try clear hk)
        (try clear hi)
        (try clear ho0)
        (try clear ho1)
        (try clear ho2)
        (try clear ho3)
        (try clear ho4)
        obtain ⟨Ao117, co117, eo117⟩ := Kd.R_slice HO373.out
        (first | subst eo117 | (injection eo117 with f1_ f2_ f3_; have f4_ := f1_.symm; have f5_ := f3_.symm; clear f1_ f2_ f3_; subst f4_; subst f5_))
        obtain ⟨Ao118, co118, eo118⟩ := Kd.R_slice HO379.out
        (first | subst eo118 | (injection eo118 with f1_ f2_ f3_; have f4_ := f1_.symm; have f5_ := f3_.symm; clear f1_ f2_ f3_; subst f4_; subst f5_))
        obtain ⟨Ao119, co119, eo119⟩ := Kd.R_slice HO383.out
        (first | subst eo119 | (injection eo119 with f1_ f2_ f3_; have f4_ := f1_.symm; have f5_ := f3_.symm; clear f1_ f2_ f3_; subst f4_; subst f5_))
        obtain ⟨Ao120, co120, eo120⟩ := Kd.R_slice HO386.out
        (first | subst eo120 | (injection eo120 with f1_ f2_ f3_; have f4_ := f1_.symm; have f5_ := f3_.symm; clear f1_ f2_ f3_; subst f4_; subst f5_))
        obtain ⟨Ao121, co121, eo121⟩ := Kd.R_slice HO389.out
        (first | subst eo121 | (injection eo121 with f1_ f2_ f3_; have f4_ := f1_.symm; have f5_ := f3_.symm; clear f1_ f2_ f3_; subst f4_; subst f5_))
        refine hK.out _ _ ⟨(blk_cell BK366.out 0).trans rfl, (blk_cell BK366.out 1).trans rfl, (blk_cell BK366.out 2).trans rfl, (blk_cell BK366.out 3).trans rfl, (blk_cell BK366.out 4).trans rfl, (blk_cell BK366.out 5).trans rfl, (blk_cell BK366.out 6).trans rfl, (blk_cell BK366.out 7).trans rfl, (blk_cell BK366.out 8).trans rfl, (blk_cell BK321.out 0).trans rfl, (blk_cell BK321.out 1).trans rfl, (blk_cell BK321.out 2).trans rfl, (blk_cell BK321.out 3).trans rfl, (blk_cell BK321.out 4).trans rfl, (blk_cell BK321.out 5).trans rfl, (blk_cell BK321.out 6).trans rfl, (blk_cell BK321.out 7).trans rfl, (blk_cell BK321.out 8).trans rfl⟩ (fun hHeld => ?_)
        clear hK K
        refine norm_ (a' := ?_) ?_ ?_
        rotate_left
        · show Act.put _ (some 30) _ = _
          simp only [Act.put, List.setIfInBounds_toArray, List.set_cons_zero, List.set_cons_succ, i64_w, i32_w]
          rfl
        refine one_ (i := 3) (N := some 31) #[true, true, true, true, false] rfl rfl (by kernel_rfl) (by decide) (fun K hK => ?_)
        refine goes_ Try.func18 (by kernel_rfl) rfl #[.agg #[.slice Ao103 t347.length co103, .int .i64 t350, .int .i64 t351, .int .i64 t352, .slice Ao107 t353.length co107, .bool t356, .slice Ao108 t357.length co108, .slice Ao109 t360.length co109, .slice Ao110 t363.length co110], .agg #[.slice Ao117 t371.length co117, .int .i64 t374, .int .i64 t375, .int .i64 t376, .slice Ao118 t377.length co118, .bool t380, .slice Ao119 t381.length co119, .slice Ao120 t384.length co120, .slice Ao121 t387.length co121]] (by rfl) rfl rfl ga ?_
        with_reducible refine (laws_eqBook.calls k _ _ t347 t350 t351 t352 _ _ t353 t356 _ _ t357 _ _ t360 _ _ t363 _ _ t371 t374 t375 t376 _ _ t377 t380 _ _ t381 _ _ t384 _ _ t387 false _ ?side1 ?side2 ?side3 ?side4 ?side5 ?side6 ?side7 ?side8 ?side9 ?side10 ?side11 ?side12 ?side13 ?side14 ?side15 ?side16 ?side17 ?side18 ?side19 ?side20 A47.out).mono ?_
        (case side1 => exact ck (Kd.R_reads' HO349.out).2.2)
        (case side2 => exact (Kd.R_reads' HO349.out).2.1)
        (case side3 => exact ck (Kd.R_reads' HO355.out).2.2)
        (case side4 => exact (Kd.R_reads' HO355.out).2.1)
        (case side5 => exact ck (Kd.R_reads' HO359.out).2.2)
        (case side6 => exact (Kd.R_reads' HO359.out).2.1)
        (case side7 => exact ck (Kd.R_reads' HO362.out).2.2)
        (case side8 => exact (Kd.R_reads' HO362.out).2.1)
        (case side9 => exact ck (Kd.R_reads' HO365.out).2.2)
        (case side10 => exact (Kd.R_reads' HO365.out).2.1)
        (case side11 => exact ck (Kd.R_reads' HO373.out).2.2)
        (case side12 => exact (Kd.R_reads' HO373.out).2.1)
        (case side13 => exact ck (Kd.R_reads' HO379.out).2.2)
        (case side14 => exact (Kd.R_reads' HO379.out).2.1)
        (case side15 => exact ck (Kd.R_reads' HO383.out).2.2)
        (case side16 => exact (Kd.R_reads' HO383.out).2.1)
        (case side17 => exact ck (Kd.R_reads' HO386.out).2.2)
        (case side18 => exact (Kd.R_reads' HO386.out).2.1)
        (case side19 => exact ck (Kd.R_reads' HO389.out).2.2)
        (case side20 => exact (Kd.R_reads' HO389.out).2.1)
        rintro e w122 ⟨rfl, hb⟩
        refine ⟨_, rfl, ?_⟩
        replace HO326 := Aside0.mk (Kd.R_below (rk HO326.out) hb)
        replace HO332 := Aside0.mk (Kd.R_below (rk HO332.out) hb)
        replace HO336 := Aside0.mk (Kd.R_below (rk HO336.out) hb)
        replace HO339 := Aside0.mk (Kd.R_below (rk HO339.out) hb)
        replace HO342 := Aside0.mk (Kd.R_below (rk HO342.out) hb)
        replace HO349 := Aside0.mk (Kd.R_below (rk HO349.out) hb)
        replace HO355 := Aside0.mk (Kd.R_below (rk HO355.out) hb)
        replace HO359 := Aside0.mk (Kd.R_below (rk HO359.out) hb)
        replace HO362 := Aside0.mk (Kd.R_below (rk HO362.out) hb)
        replace HO365 := Aside0.mk (Kd.R_below (rk HO365.out) hb)
        replace HO373 := Aside0.mk (Kd.R_below (rk HO373.out) hb)
        replace HO379 := Aside0.mk (Kd.R_below (rk HO379.out) hb)
        replace HO383 := Aside0.mk (Kd.R_below (rk HO383.out) hb)
        replace HO386 := Aside0.mk (Kd.R_below (rk HO386.out) hb)
        replace HO389 := Aside0.mk (Kd.R_below (rk HO389.out) hb)
        replace BK321 := Aside0.mk (bb BK321.out hb)
        replace BK322 := Aside0.mk (bb BK322.out hb)
        replace BK366 := Aside0.mk (bb BK366.out hb)
        replace HB := Aside0.mk (below_step bel hb)
        (try clear hb)
        (try clear hb2)
        (try clear hk)
        (try clear hi)
        refine hK.out _ _ ⟨(blk_cell BK366.out 0).trans rfl, (blk_cell BK366.out 1).trans rfl, (blk_cell BK366.out 2).trans rfl, (blk_cell BK366.out 3).trans rfl, (blk_cell BK366.out 4).trans rfl, (blk_cell BK366.out 5).trans rfl, (blk_cell BK366.out 6).trans rfl, (blk_cell BK366.out 7).trans rfl, (blk_cell BK366.out 8).trans rfl, (blk_cell BK321.out 0).trans rfl, (blk_cell BK321.out 1).trans rfl, (blk_cell BK321.out 2).trans rfl, (blk_cell BK321.out 3).trans rfl, (blk_cell BK321.out 4).trans rfl, (blk_cell BK321.out 5).trans rfl, (blk_cell BK321.out 6).trans rfl, (blk_cell BK321.out 7).trans rfl, (blk_cell BK321.out 8).trans rfl⟩ (fun hHeld => ?_)
        clear hK K
        refine norm_ (a' := ?_) ?_ ?_
        rotate_left
        · show Act.put _ (some 31) _ = _
          simp only [Act.put, List.setIfInBounds_toArray, List.set_cons_zero, List.set_cons_succ, i64_w, i32_w]
          rfl
        refine pure_ (i := 4) (N := some 32) (v := ?_) (a' := ?_) #[true, true, true, true, true] rfl rfl (by kernel_rfl) (fun _ _ _ h => h) (Or.inl ⟨by rfl, ?_⟩) ?_ ?_
        rotate_left
        · intro w'
          go_simp
          with_reducible rfl
        rotate_left
        · simp only [Act.put, List.setIfInBounds_toArray, List.set_cons_zero, List.set_cons_succ, i64_w, i32_w]
          rfl
        refine done_ (by kernel_rfl) ?_
        try go_wp2
        go_ret
        exact ⟨er, bel⟩

end Go.Proofs.Ytgalpgakdcfilaa.P
