/- The pure part of the law FnExactScoresOf: what program and reference compute is the same. Conditions: those of the row. -/
import Derived.Test.YtipojkfkcelejaaRegC
import Derived.Test.YtipojkfkcelejaaRegM
import Derived.Test.YtipojkfkcelejaaX28
import Derived.Test.YtipojkfkcelejaaX29
import Derived.Test.YtipojkfkcelejaaX30
namespace Go.Proofs.Ytipojkfkcelejaa.X
set_option linter.unusedVariables false
set_option linter.unusedSimpArgs false
open Go.RowKit Go.Proofs.YtipojkfkcelejaaW.PrintWords Go.Proofs.Ytipojkfkcelejaa.PK
def scoresB (b : Int) (l : List (List Int)) (d : Int) (n : Nat) : List Int := (marks 0 n).map fun x => sumW (keptB b l d x)
theorem scores_succ (b : Int) (l : List (List Int)) (d : Int) (n : Nat) : scoresB b l d (n + 1) = scoresB b l d n ++ [sumW (keptB b l d (n : Int))] := by
  unfold scoresB
  rw [marks_succ, List.map_append]
  simp
theorem scores_same (b : Int) (l : List (List Int)) (d : Int) (hl : l.length ≤ 1048576) (hi : ∀ z ∈ l, z.length ≤ 1048576) :
    ∃ v : List Int, v.length ≤ 10 ∧ Ev (fun k => spec_ScoresOf.f k b l d) v ∧ Ev (fun k => impl_ScoresOf.f k b l d) v := by
  unfold spec_ScoresOf.f impl_ScoresOf.f
  by_cases c : regB b l d = true
  · have h := reg_of c
    have hb2 := h.b2
    have hb8 := h.b8
    obtain ⟨n, rfl⟩ := Int.eq_ofNat_of_zero_le (show 0 ≤ b by omega)
    have hsl : ∀ m, (scoresB n l d m).length = m := fun m => by unfold scoresB; rw [List.length_map, marks_length]
    refine ⟨scoresB n l d n, by rw [hsl]; omega, Ev.bind (spec_reg _ l d hl hi) (Ev.pos c ?_), Ev.bind (impl_reg _ l d hl hi) (Ev.pos c ?_)⟩
    · exact Ev.iter (fun i k => spec_ScoresOf.l0 k (scoresB n l d i) (i : Int) n l d) n _ (fun i hi' hr => by
        refine Ev.step (fun k => spec_ScoresOf.l0.eq_2 ..) (Ev.pos (by omega) (Ev.bind (score_tells h (by omega) (by omega)) (Ev.pos (by rw [hsl]; omega) ?_)))
        rw [w64s (by omega), ← scores_succ]
        exact hr) (Ev.step (fun k => spec_ScoresOf.l0.eq_2 ..) (Ev.neg (by omega) (Ev.now _)))
    · exact Ev.iter (fun i k => impl_ScoresOf.l0 k (scoresB n l d i) n (i : Int) n l d) n _ (fun i hi' hr => by
        have hk := keptB_len h (x := (i : Int)) (by omega) (by omega)
        have h10 := h.l10
        refine Ev.step (fun k => impl_ScoresOf.l0.eq_2 ..) (Ev.pos (by omega) (Ev.bind (impl_kept h (by omega) (by omega)) (Ev.bind (total_tells _ (by omega)) (Ev.pos (by rw [hsl]; omega) ?_))))
        rw [w64s (by omega), ← scores_succ]
        exact hr) (Ev.step (fun k => impl_ScoresOf.l0.eq_2 ..) (Ev.neg (by omega) (Ev.now _)))
  · exact ⟨[], by simp, Ev.bind (spec_reg b l d hl hi) (Ev.neg c (Ev.now _)), Ev.bind (impl_reg b l d hl hi) (Ev.neg c (Ev.now _))⟩
theorem FnExactScoresOf.pure : ∀ (a0_0 : Int) (l0_1 : List (List Int)) (a0_2 : Int), (Lit.int .i64 a0_0).wf = true → (l0_1.length ≤ maxLen ∧ ∀ y ∈ l0_1, (y.length ≤ maxLen ∧ ∀ yy ∈ y, (Lit.int .i64 yy).wf = true)) → (Lit.int .i64 a0_2).wf = true → ∃ k, laws_FnExactScoresOf.f k a0_0 l0_1 a0_2 = some true := by
  intro b l d _ hl _
  refine Ev.rounds (g := fun k => laws_FnExactScoresOf.f k b l d) ?_
  obtain ⟨r, hr, hc⟩ := szReg_tells b l d hl.1 (fun y hy => (hl.2 y hy).1)
  by_cases c : r < 0
  · exact Ev.bind hr (Ev.pos c (Ev.now _))
  obtain ⟨hb, hi⟩ := hc.resolve_left c
  have h1 := toReg_same b l d hb hi
  have h2 := eqReg_self b l d hb hi
  obtain ⟨v, hv, h3, h4⟩ := scores_same b l d hb hi
  have h5 := markReg_marks b l d hb hi
  have h6 := eqIntS_self v (by omega)
  have h7 := markIntS_marks v 1 (by omega) (by omega)
  have h8 := heldIntS_marks 1 v.length (by omega) (by omega)
  have ht := totL_nonneg l
  unfold laws_FnExactScoresOf.f
  repeat (first
    | exact Ev.now _
    | (with_reducible refine Ev.bind hr ?_)
    | (with_reducible refine Ev.bind h1 ?_)
    | (with_reducible refine Ev.bind h2 ?_)
    | (with_reducible refine Ev.bind h3 ?_)
    | (with_reducible refine Ev.bind h4 ?_)
    | (with_reducible refine Ev.bind h5 ?_)
    | (with_reducible refine Ev.bind h6 ?_)
    | (with_reducible refine Ev.bind h7 ?_)
    | (with_reducible refine Ev.bind h8 ?_)
    | refine Ev.neg (by first | assumption | omega | exact bnot_ne_self) ?_
    | refine Ev.pos (by first | assumption | rfl | omega) ?_)
end Go.Proofs.Ytipojkfkcelejaa.X
