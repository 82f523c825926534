/- The pure part of the law FnExactKeptPlaces: what program and reference compute is the same. Conditions: those of the row. -/
import Derived.Test.YtipojkfkcelejaaRegC
import Derived.Test.YtipojkfkcelejaaRegM
import Derived.Test.YtipojkfkcelejaaX24
import Derived.Test.YtipojkfkcelejaaX25
import Derived.Test.YtipojkfkcelejaaX27
namespace Go.Proofs.Ytipojkfkcelejaa.X
set_option linter.unusedVariables false
set_option linter.unusedSimpArgs false
open Go.RowKit Go.Proofs.YtipojkfkcelejaaW.PrintWords Go.Proofs.Ytipojkfkcelejaa.PK
theorem kept_same (b : Int) (l : List (List Int)) (d x : Int) (hl : l.length ≤ 1048576) (hi : ∀ z ∈ l, z.length ≤ 1048576) :
    ∃ v : List Int, v.length ≤ 10 ∧ Ev (fun k => spec_KeptPlaces.f k b l d x) v ∧ Ev (fun k => impl_KeptPlaces.f k b l d x) v := by
  unfold spec_KeptPlaces.f impl_KeptPlaces.f
  by_cases c : regB b l d = true
  · have h := reg_of c
    have hb2 := h.b2
    have hb8 := h.b8
    by_cases c1 : 0 ≤ x ∧ x ≤ b - 1
    · have hlen := keptB_len h c1.1 (by omega)
      have h10 := h.l10
      refine ⟨keptB b l d x, by omega, Ev.bind (spec_reg b l d hl hi) (Ev.pos c (Ev.bind0 (spec_in _ _ _) (Ev.pos (by rw [w64 (by omega) (by omega)]; exact decide_eq_true c1) (Ev.bind0 rfl (Ev.bind (spec_kept h c1.1 (by omega)) (Ev.pos (by simp; omega) (by simpa using Ev.now (keptB b l d x)))))))), Ev.bind (impl_reg b l d hl hi) (Ev.pos c (Ev.bind0 (impl_in _ _ _) (Ev.pos (by rw [w64 (by omega) (by omega)]; exact decide_eq_true c1) (Ev.bind (impl_kept h c1.1 (by omega)) (Ev.now _)))))⟩
    · exact ⟨[], by simp, Ev.bind (spec_reg b l d hl hi) (Ev.pos c (Ev.bind0 (spec_in _ _ _) (Ev.neg (by rw [w64 (by omega) (by omega), decide_eq_false c1]; simp) (Ev.now _)))), Ev.bind (impl_reg b l d hl hi) (Ev.pos c (Ev.bind0 (impl_in _ _ _) (Ev.neg (by rw [w64 (by omega) (by omega), decide_eq_false c1]; simp) (Ev.now _))))⟩
  · exact ⟨[], by simp, Ev.bind (spec_reg b l d hl hi) (Ev.neg c (Ev.now _)), Ev.bind (impl_reg b l d hl hi) (Ev.neg c (Ev.now _))⟩
theorem FnExactKeptPlaces.pure : ∀ (a0_0 : Int) (l0_1 : List (List Int)) (a0_2 : Int) (a1 : Int), (Lit.int .i64 a0_0).wf = true → (l0_1.length ≤ maxLen ∧ ∀ y ∈ l0_1, (y.length ≤ maxLen ∧ ∀ yy ∈ y, (Lit.int .i64 yy).wf = true)) → (Lit.int .i64 a0_2).wf = true → (Lit.int .i64 a1).wf = true → ∃ k, laws_FnExactKeptPlaces.f k a0_0 l0_1 a0_2 a1 = some true := by
  intro b l d x _ hl _ _
  refine Ev.rounds (g := fun k => laws_FnExactKeptPlaces.f k b l d x) ?_
  obtain ⟨r, hr, hc⟩ := szReg_tells b l d hl.1 (fun y hy => (hl.2 y hy).1)
  by_cases c : r < 0
  · exact Ev.bind hr (Ev.pos c (Ev.now _))
  obtain ⟨hb, hi⟩ := hc.resolve_left c
  have h1 := toReg_same b l d hb hi
  have h2 := eqReg_self b l d hb hi
  obtain ⟨v, hv, h3, h4⟩ := kept_same b l d x hb hi
  have h5 := markReg_marks b l d hb hi
  have h6 := eqIntS_self v (by omega)
  have h7 := markIntS_marks v 1 (by omega) (by omega)
  have h8 := heldIntS_marks 1 v.length (by omega) (by omega)
  have ht := totL_nonneg l
  unfold laws_FnExactKeptPlaces.f
  repeat (first
    | exact Ev.now _
    | (with_reducible refine Ev.bind hr ?_)
    | (with_reducible refine Ev.bind h1 ?_)
    | (with_reducible refine Ev.bind h2 ?_)
    | (with_reducible refine Ev.bind h3 ?_)
    | (with_reducible refine Ev.bind h4 ?_)
    | (with_reducible refine Ev.bind h5 ?_)
    | (with_reducible refine Ev.bind h6 ?_)
    | (with_reducible refine Ev.bind h7 ?_)
    | (with_reducible refine Ev.bind h8 ?_)
    | refine Ev.neg (by first | assumption | omega | exact bnot_ne_self) ?_
    | refine Ev.pos (by first | assumption | rfl | omega) ?_)
end Go.Proofs.Ytipojkfkcelejaa.X
