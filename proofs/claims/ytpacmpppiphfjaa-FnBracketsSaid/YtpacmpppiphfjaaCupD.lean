/- Valid cups are built game by game; what holds of all of them, by looking at each. No condition. -/
import Derived.Test.YtpacmpppiphfjaaCupB
namespace Go.Proofs.Ytpacmpppiphfjaa.X
set_option linter.unusedVariables false
set_option linter.unusedSimpArgs false
open Go.RowKit Go.Proofs.YtpacmpppiphfjaaW.PrintWords Go.Proofs.Ytpacmpppiphfjaa.PK

def grow (n : Int) (w : List Int) (b : Bool) : List Int := w ++ [if b then (opp n w w.length).1 else (opp n w w.length).2.1]
def build (n : Int) : List Bool → List Int
  | [] => []
  | b :: l => grow n (build n l) b
theorem build_length (n : Int) : ∀ l, (build n l).length = l.length
  | [] => rfl
  | b :: l => by simp [build, grow, build_length n l]
def allBits : Nat → List (List Bool)
  | 0 => [[]]
  | m + 1 => (allBits m).flatMap fun l => [true :: l, false :: l]
theorem mem_allBits : ∀ l : List Bool, l ∈ allBits l.length
  | [] => by simp [allBits]
  | b :: l => by
    simp only [List.length_cons, allBits, List.mem_flatMap]
    exact ⟨l, mem_allBits l, by cases b <;> simp⟩
theorem build_of (n : Int) : ∀ (m : Nat) (w : List Int), w.length = m → cupB n w = true → ∃ l, w = build n l ∧ l.length = m
  | 0, w, h, _ => ⟨[], by simpa [build] using List.length_eq_zero_iff.1 h, rfl⟩
  | m + 1, w, h, hc => by
    have hne : w ≠ [] := by intro e; simp [e] at h
    have hw := (List.dropLast_concat_getLast hne).symm
    have hl : w.dropLast.length = m := by simp [h]
    rw [hw] at hc
    obtain ⟨l, h1, h2⟩ := build_of n m w.dropLast hl (cup_prefix n _ _ hc)
    obtain ⟨hs, h3⟩ := (cupB_iff _ _).1 hc
    have hlen := cupB_len hc
    have h4 := h3 m (by simp [h])
    simp [h] at hlen
    rw [okB, opp_snoc n _ _ m hs (by omega) (by omega)] at h4
    have e : rd (w.dropLast ++ [w.getLast hne]) (m : Int) = w.getLast hne := by
      rw [rd_nat (by simp [h])]
      rw [List.getElem_append_right (by omega)]
      simp
    rw [e] at h4
    simp only [Bool.and_eq_true, Bool.or_eq_true, beq_iff_eq] at h4
    rw [h1] at h4
    have hbl : (build n l).length = m := by rw [build_length, h2]
    rcases h4.2 with h5 | h5
    · refine ⟨true :: l, ?_, by simp [h2]⟩
      rw [hw, h1, h5]
      simp [build, grow, hbl]
    · refine ⟨false :: l, ?_, by simp [h2]⟩
      rw [hw, h1, h5]
      simp [build, grow, hbl]
def goodB (n : Int) (w : List Int) : Bool :=
  if (w.length : Int) ≤ n - 2 then decide ((opp n w w.length).1 ≠ (opp n w w.length).2.1 ∧ (opp n w w.length).1 ≠ 9 ∧ (opp n w w.length).2.1 ≠ 9) else decide (0 < rd w (n - 2))
theorem good2 : ((List.range 2).all fun m => (allBits m).all fun l => goodB 2 (build 2 l)) = true := by decide +kernel
theorem good4 : ((List.range 4).all fun m => (allBits m).all fun l => goodB 4 (build 4 l)) = true := by decide +kernel
theorem good8 : ((List.range 8).all fun m => (allBits m).all fun l => goodB 8 (build 8 l)) = true := by decide +kernel
theorem good (n : Int) (w : List Int) (h : cupB n w = true) : goodB n w = true := by
  have hl := cupB_len h
  obtain ⟨l, rfl, hm⟩ := build_of n w.length w rfl h
  rcases size_cases ((cupB_iff _ _).1 h).1 with rfl | rfl | rfl
  · have := List.all_eq_true.1 (List.all_eq_true.1 good2 l.length (by rw [List.mem_range]; omega)) l (mem_allBits l)
    exact this
  · have := List.all_eq_true.1 (List.all_eq_true.1 good4 l.length (by rw [List.mem_range]; omega)) l (mem_allBits l)
    exact this
  · have := List.all_eq_true.1 (List.all_eq_true.1 good8 l.length (by rw [List.mem_range]; omega)) l (mem_allBits l)
    exact this
theorem good_teams {n : Int} {w : List Int} (h : cupB n w = true) (hl : (w.length : Int) ≤ n - 2) : (opp n w w.length).2.2 = true ∧ (opp n w w.length).1 ≠ (opp n w w.length).2.1 ∧ (opp n w w.length).1 ≠ 9 ∧ (opp n w w.length).2.1 ≠ 9 := by
  have hg := good n w h
  have hs := ((cupB_iff _ _).1 h).1
  unfold goodB at hg
  rw [if_pos hl] at hg
  refine ⟨?_, by simpa using hg⟩
  rw [opp_known n w _ hs hl (Nat.le_refl _)]; split <;> rfl
theorem good_end {n : Int} {w : List Int} (h : cupB n w = true) (hl : (w.length : Int) = n - 1) : 0 < champ n w := by
  have hg := good n w h
  unfold goodB at hg
  rw [if_neg (by omega)] at hg
  unfold champ
  rw [if_pos h, if_pos hl]
  simpa using hg
theorem lost9 {n : Int} {w : List Int} (h : cupB n w = true) (hl : (w.length : Int) ≤ n - 2) : won n w 9 = (n, w, false) := by
  have hg := good_teams h hl
  have hs := ((cupB_iff _ _).1 h).1
  unfold won
  rw [if_neg]
  intro hc
  have := ((cupB_iff _ _).1 hc).2 w.length (by simp)
  rw [okB, opp_snoc n w 9 _ hs hl (Nat.le_refl _)] at this
  have e : rd (w ++ [9]) (w.length : Int) = 9 := by simp [rd, List.getD_eq_getElem?_getD]
  rw [e] at this
  simp at this
  omega
theorem won_of {n : Int} {w : List Int} (a : Int) (h : cupB n w = true) (hl : (w.length : Int) ≤ n - 2) (ha : a = (opp n w w.length).1 ∨ a = (opp n w w.length).2.1) : won n w a = (n, w ++ [a], true) ∧ cupB n (w ++ [a]) = true := by
  have := cup_snoc n w a h hl ha
  exact ⟨by unfold won; rw [if_pos this], this⟩
theorem cup_nil {n : Int} (h : sizeB n = true) : cupB n [] = true := by simp [cupB, allFrom, h]
end Go.Proofs.Ytpacmpppiphfjaa.X
