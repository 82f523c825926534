/- The law FnExactTouchedBy, for every input that its row speaks of: it returns true and leaves its arguments as they were. Conditions: none beyond the row's. -/
import Derived.Test.YtmpealaejigbfaaRows
import Derived.Test.YtmpealaejigbfaaX18
import Derived.Test.YtmpealaejigbfaaPureFnExactTouchedBy
import Derived.Test.YtmpealaejigbfaaOpenX
import Derived.WalkKit
import Derived.ProofKit
import Derived.OpenShut
import Derived.ShutString
import Derived.ChangeOld
import Derived.Below
import Derived.SizedLaws
namespace Go.Proofs.Ytmpealaejigbfaa.fnExactTouchedBy
open Go.ChangeShapes Go.WideShapes Go.ChangeAt Go.RowKit Go.Proofs.YtmpealaejigbfaaW.PrintWords Go.Proofs.Ytmpealaejigbfaa.X
open Go.ChangeMaps (open_string shut_string)
set_option linter.unusedVariables false
theorem own : ownKnob Try.prog.godebug = none := by kernel_rfl
theorem laidOut : laidOutB Try.prog = true := by kernel_rfl
set_option maxRecDepth 100000 in
theorem lifted (os : Os) (started : os.Started) (H : Type) (enc : TypeId × Value → H) :
    ReturnsInHanded {} Try.checked os 5 .any (Rows.fnExactTouchedBySpec.pre6 enc Try.prog Try.f5 Rows.fnExactTouchedByRow.domain false) (Rows.fnExactTouchedBySpec.post enc Try.prog Try.f5 false true false false) := by
  refine returnsInHanded_of_change_sized (C := Try.checked) own started (by kernel_rfl) Try.func5
    (ChangeSpec.witness6 (enc := enc) (C := Try.checked) false ⟨#[], #[.slice none 0 0, .agg #[.int .i64 0, .int .i64 0, .int .i64 0, .int .i64 0, .int .i64 0, .int .i64 0, .int .i64 0]], []⟩ 8 (by kernel_rfl) (by kernel_rfl) (by kernel_rfl) (by kernel_rfl)) ?_
  intro W base args ds gs before hval0 hW hcnd hsz0 _
  have hval : ∀ (j : Nat) t v, Try.f5.params[j]? = some t → args[j]? = some v → Value.okWide Try.prog W .any base t v := hval0
  have hW' := hW
  obtain ⟨p, q, hA0, hV, rfl, hfz, hnd⟩ := hW
  have hA : DataW.TrodAll enc Try.prog W 0 (fun _ => true) true Try.f5.params.toList args.toList ds p := hA0
  rw [Try.params5] at hA hval
  obtain ⟨v0, vs0, d0, ds0, p0, q0, hargs, rfl, rfl, h0, r0⟩ := trodAll_cons hA
  obtain ⟨v1, vs1, d1, ds1, p1, q1, rfl, rfl, rfl, h1, r1⟩ := trodAll_cons r0
  obtain ⟨rfl, rfl, rfl⟩ := trodAll_nil r1
  obtain rfl : args = #[v0, v1] := by cases args; simp_all
  obtain ⟨rfl, rfl⟩ := trodVars_none hV
  obtain ⟨A0, n0, c0, rfl⟩ := okWide_slice Try.underlying38 (hval 0 38 v0 rfl rfl)
  have k0 := h0
  have lt0 : ∀ x ∈ p0, x.block < W.heap.size := by obtain ⟨m, hm⟩ := k0; exact DataW.trod_lt m _ _ _ hm
  obtain ⟨l0, ⟨B0, b0, he0, hl0, hr0⟩, q0⟩ := Opens.trod_ (Opens.slice_ Try.underlying38 (by kernel_rfl) o24) h0
  simp [Value.cells] at he0
  obtain ⟨rfl, rfl, rfl⟩ := he0
  obtain ⟨cs1, rfl, hz1, _⟩ : ∃ cs, v1 = .agg cs ∧ cs.size = Try.prog.cellsOf 42 ∧ Row.okWide Try.prog W .any base 42 cs := by
    have hv_ := (hval 1 42 v1 rfl rfl)
    unfold Value.okWide at hv_
    rw [Try.underlying42] at hv_
    exact hv_
  have k1 := h1
  have lt1 : ∀ x ∈ p1, x.block < W.heap.size := by obtain ⟨m, hm⟩ := k1; exact DataW.trod_lt m _ _ _ hm
  obtain ⟨x1, hK1, Q1⟩ := Opens.trod_ o42 h1
  obtain ⟨a1_0, ⟨a1_1, ⟨a1_2, ⟨a1_3, ⟨a1_4, ⟨a1_5, a1_6⟩⟩⟩⟩⟩⟩ := x1
  obtain ⟨_, _, E1_6, rfl, ⟨_, _, E1_5, rfl, ⟨_, _, E1_4, rfl, ⟨_, _, E1_3, rfl, ⟨_, _, E1_2, rfl, ⟨_, _, E1_1, rfl, rfl⟩⟩⟩⟩⟩⟩ := hK1
  obtain ⟨q1_0, ⟨q1_1, ⟨q1_2, ⟨q1_3, ⟨q1_4, ⟨q1_5, q1_6⟩⟩⟩⟩⟩⟩ := Q1
  obtain rfl : cs1 = #[.int .i64 a1_0, .int .i64 a1_1, .int .i64 a1_2, .int .i64 a1_3, .int .i64 a1_4, .int .i64 a1_5, .int .i64 a1_6] := by
    apply Array.toList_inj.1
    have e_ := E1_6
    simpa [Value.cells, *] using e_
  clear hA0 hval0 hsz0
  obtain ⟨kk, hp⟩ := FnExactTouchedBy.pure l0 a1_0 a1_1 a1_2 a1_3 a1_4 a1_5 a1_6 q0 q1_0 q1_1 q1_2 q1_3 q1_4 q1_5 q1_6
  refine (laws_FnExactTouchedBy.calls kk _ _ l0 a1_0 a1_1 a1_2 a1_3 a1_4 a1_5 a1_6 true W hr0 hl0 hp).mono fun e W' ⟨he, hb_⟩ => ?_
  have bel : Below W.heap.size W W' := hb_
  subst he
  exact ⟨_, rfl, _, _, _, [], _, [], hW', trodAll_mk1 (shut_bool Try.underlying4 _), (trodAll_cons_mk (Below.trod laidOut (by kernel_rfl) (of_decide_eq_true (by kernel_rfl)) k0 bel lt0) (trodAll_cons_mk (Below.trod laidOut (by kernel_rfl) (of_decide_eq_true (by kernel_rfl)) k1 bel lt1) trodAll_mk0)), rfl, bel.frame _, fun h => by cases h⟩
theorem over : Rows.fnExactTouchedByRow.holds Try.pinned (OpenSpec.ofChange Rows.fnExactTouchedBySpec) :=
  OpenClaim.holds_of_wide 5 Try.f5 rfl rfl rfl rfl rfl rfl rfl ⟨rfl, rfl, rfl, rfl, rfl⟩ rfl rfl rfl rfl rfl (by kernel_rfl) Try.func5 (by kernel_rfl)
    (of_decide_eq_true (by kernel_rfl)) (by unfold Func.isWrapper; first | (rw [if_pos (by decide +kernel)]; kernel_rfl) | (rw [if_neg (by decide +kernel)]; exact ⟨rfl, rfl⟩))
    (fun os started H enc _ => lifted os started H enc)
theorem proved : Rows.FnExactTouchedBySaid := over
#print axioms proved
end Go.Proofs.Ytmpealaejigbfaa.fnExactTouchedBy
namespace Go.Proofs.Ytmpealaejigbfaa
/-- The row, under a short name, for the claim. -/
theorem fnExactTouchedBy_holds : Rows.FnExactTouchedBySaid := fnExactTouchedBy.proved
end Go.Proofs.Ytmpealaejigbfaa
