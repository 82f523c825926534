/- Who qualifies where: program and reference tell the same. Conditions: sizes. -/
import Derived.Test.YtaopcamaceddnaaContB
import Derived.Test.YtaopcamaceddnaaZ8
import Derived.Test.YtaopcamaceddnaaZ9
import Derived.Test.YtaopcamaceddnaaZ20
import Derived.Test.YtaopcamaceddnaaZ26
namespace Go.Proofs.Ytaopcamaceddnaa.Z
set_option linter.unusedVariables false
set_option linter.unusedSimpArgs false
open Go.RowKit Go.Proofs.YtaopcamaceddnaaW.PrintWords Go.Proofs.Ytaopcamaceddnaa.PK
abbrev runL (l : List C1) : St := runC l 0 ⟨[], l.map (fun y => y.f1), 0, []⟩
theorem runC_outs : ∀ (l : List C1) (i : Nat) (s : St), (∀ y ∈ l, y.f0.length ≤ 1048576) → (∀ q ∈ s.outs, q.length ≤ 1048576) → (∀ q ∈ (runC l i s).outs, q.length ≤ 1048576) ∧ (runC l i s).outs.length = s.outs.length + l.length
  | [], _, _, _, h => ⟨h, by simp [runC]⟩
  | y :: r, i, s, hy, h => by
    have h1 := (pick_len (s.left.getD i 0) y.f0 ([], s.taken)).1
    have h2 := hy y (List.mem_cons_self ..)
    have ho : (one s i y).outs = s.outs ++ [(y.f0.foldl (pick (s.left.getD i 0)) ([], s.taken)).1] := by
      unfold one fin; split <;> rfl
    have := runC_outs r (i + 1) (one s i y) (fun z hz => hy z (List.mem_cons_of_mem _ hz)) (by
      rw [ho]
      intro q hq
      rcases List.mem_append.1 hq with hq | hq
      · exact h q hq
      · obtain rfl := List.mem_singleton.1 hq
        simp only [List.length_nil] at h1
        omega)
    unfold runC
    refine ⟨this.1, ?_⟩
    rw [this.2, ho]
    simp; omega
def outsC (n : Int) (l : List C1) : List (List Int) := if contsB n l = true then (runL l).outs else []
theorem outs_small {n : Int} {l : List C1} (hl : l.length ≤ 1048576) (hi : ∀ y ∈ l, y.f0.length ≤ 1048576) : (outsC n l).length ≤ 1048576 ∧ ∀ q ∈ outsC n l, q.length ≤ 1048576 := by
  unfold outsC
  split
  · have := runC_outs l 0 ⟨[], l.map (fun y => y.f1), 0, []⟩ hi (by simp)
    refine ⟨?_, this.1⟩
    rw [this.2]; simpa using hl
  · simp
theorem impl_quali (n : Int) (l : List C1) (hl : l.length ≤ 1048576) (hi : ∀ y ∈ l, y.f0.length ≤ 1048576) : Ev (fun k => impl_Qualified.f k n l) (outsC n l, contsB n l) := by
  unfold impl_Qualified.f outsC
  refine Ev.bind (impl_conts n l hl hi) ?_
  by_cases c : contsB n l = true
  · rw [if_pos c, c]
    exact Ev.pos rfl (Ev.bind (impl_settled l hl hi (conts_ends hl c)) (Ev.now _))
  · rw [if_neg c, Bool.eq_false_iff.2 c]
    exact Ev.neg (by simp) (Ev.now _)
def firstI (t : Int) : List (List Int) → Nat → Int
  | [], _ => -1
  | q :: r, i => if hasB q t = true then (i : Int) else firstI t r (i + 1)
def conOf (n : Int) (l : List C1) (t : Int) : Int := firstI t (outsC n l) 0
theorem rdL_nat {x : List (List Int)} {i : Nat} (h : i < x.length) : rd_L1 x (i : Int) = x[i] := by simp [rd_L1, List.getD_eq_getElem?_getD, h]
theorem impl_con (n : Int) (l : List C1) (t : Int) (hl : l.length ≤ 1048576) (hi : ∀ y ∈ l, y.f0.length ≤ 1048576) : Ev (fun k => impl_ContestOf.f k n l t) (conOf n l t) := by
  refine Ev.bind (impl_quali n l hl hi) ?_
  obtain ⟨h1, h2⟩ := outs_small (n := n) hl hi
  unfold conOf
  generalize outsC n l = xs at h1 h2
  have := down (g := fun i => Ev (fun k => impl_ContestOf.l0 k xs t (i : Int)) (firstI t (xs.drop i) i)) (n := xs.length) (fun i h hn => by
    have hm := h2 _ (List.getElem_mem h)
    refine Ev.step (fun k => impl_ContestOf.l0.eq_2 ..) (Ev.pos (by omega) (Ev.pos (by omega) ?_))
    rw [rdL_nat h, List.drop_eq_getElem_cons h, w64s (by omega)]
    refine Ev.bind (impl_has _ _ (by omega)) ?_
    unfold firstI
    by_cases c : hasB xs[i] t = true
    · rw [if_pos c]; exact Ev.pos c (Ev.now _)
    · rw [if_neg c]; exact Ev.neg c hn) (by
    rw [List.drop_length]
    exact Ev.step (fun k => impl_ContestOf.l0.eq_2 ..) (Ev.neg (by omega) (Ev.now _))) xs.length 0 (by omega)
  exact this
end Go.Proofs.Ytaopcamaceddnaa.Z
