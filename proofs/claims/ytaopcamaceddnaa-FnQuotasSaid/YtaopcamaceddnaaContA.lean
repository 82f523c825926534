/- Contests as the laws hand them over; valid contests: program and reference tell the same. No condition beyond sizes. -/
import Derived.Test.YtaopcamaceddnaaLawInt
import Derived.Test.YtaopcamaceddnaaLawSz
import Derived.Test.YtaopcamaceddnaaLawHas
import Derived.Test.YtaopcamaceddnaaZ2
import Derived.Test.YtaopcamaceddnaaZ11
import Derived.Test.YtaopcamaceddnaaZ13
import Derived.Test.YtaopcamaceddnaaZ15
import Derived.Test.YtaopcamaceddnaaZ18
namespace Go.Proofs.Ytaopcamaceddnaa.Z
set_option linter.unusedVariables false
set_option linter.unusedSimpArgs false
open Go.RowKit Go.Proofs.YtaopcamaceddnaaW.PrintWords Go.Proofs.Ytaopcamaceddnaa.PK
abbrev C1 := S38
def zC : C1 := z38
theorem rd1_nat {x : List C1} {i : Nat} (h : i < x.length) : rd_T38 x (i : Int) = x[i] := by simp [rd_T38, List.getD_eq_getElem?_getD, h]
theorem rd1_D {x : List C1} {i : Nat} (h : i < x.length) : rd_T38 x (i : Int) = x.getD i zC := by simp [rd_T38, zC]
theorem rd_D {l : List Int} {i : Nat} (h : i < l.length) : rd l (i : Int) = l.getD i 0 := by simp [rd]
theorem Ev.all2 {α : Type} (F : Nat → Nat → Option Bool) (xs : List α) (t : α → Bool) (e : Bool) (hs : ∀ i (h : i < xs.length) (r : Bool), Ev (F (i + 1)) r → Ev (F i) (t xs[i] && r)) (he : Ev (F xs.length) e) : Ev (F 0) (xs.all t && e) := by
  have := down (g := fun i => Ev (F i) ((xs.drop i).all t && e)) (n := xs.length) (fun i hi h => by
    rw [List.drop_eq_getElem_cons hi, List.all_cons, Bool.and_assoc]
    exact hs i hi _ h) (by simpa using he) xs.length 0 (by omega)
  simpa using this
def hasB (l : List Int) (x : Int) : Bool := l.any fun y => decide (y = x)
theorem impl_has (l : List Int) (x : Int) (hl : l.length ≤ 35184372088832) : Ev (fun k => slices_Contains_int_int.f k l x) (hasB l x) := by
  obtain ⟨r, h1, h2⟩ := Ev.place (fun i k => slices_Index_int_int.l0 k l x (l.length : Int) (i : Int)) l (fun y => decide (y = x)) (fun i h e r hr => by
    refine Ev.step (fun k => slices_Index_int_int.l0.eq_2 ..) (Ev.pos (by omega) (Ev.pos (by omega) (Ev.pos (by omega) (Ev.neg (by rw [rd_nat h]; exact fun q => of_decide_eq_false e q.symm) ?_))))
    rw [w64s (by omega)]; exact hr) (fun i h e =>
    Ev.step (fun k => slices_Index_int_int.l0.eq_2 ..) (Ev.pos (by omega) (Ev.pos (by omega) (Ev.pos (by omega) (Ev.pos (by rw [rd_nat h]; exact (of_decide_eq_true e).symm) (Ev.now _))))))
    (Ev.step (fun k => slices_Index_int_int.l0.eq_2 ..) (Ev.neg (by omega) (Ev.now _)))
  unfold hasB
  rw [← h2]
  exact Ev.bind h1 (Ev.now _)
theorem impl_in (a b c : Int) : impl_within.f a b c = some (decide (b ≤ a ∧ a ≤ c)) := by
  unfold impl_within.f
  by_cases h : b ≤ a
  · rw [if_pos h]; simp [h]
  · rw [if_neg h]; simp [h]
/-- A place of a contest's order: a team that was not named before. -/
def teamB (n : Int) (q : List Int) (j : Nat) : Bool := decide (0 ≤ q.getD j 0 ∧ q.getD j 0 ≤ wrap64 (n - 1)) && !hasB (q.take j) (q.getD j 0)
def endB (m i : Nat) (y : C1) : Bool := decide (0 ≤ y.f1 ∧ y.f1 ≤ 8) && (decide (y.f2 = -1) || decide ((i : Int) + 1 ≤ y.f2 ∧ y.f2 ≤ wrap64 ((m : Int) - 1)))
def contB (n : Int) (l : List C1) (i : Nat) : Bool := (List.range (l.getD i zC).f0.length).all (teamB n (l.getD i zC).f0) && endB l.length i (l.getD i zC)
def contsB (n : Int) (l : List C1) : Bool := (List.range l.length).all (contB n l) && (decide (2 ≤ n ∧ n ≤ 8) && decide ((l.length : Int) ≤ 5))
theorem impl_conts (n : Int) (l : List C1) (hl : l.length ≤ 1048576) (hi : ∀ y ∈ l, y.f0.length ≤ 1048576) : Ev (fun k => impl_ContestsOk.f k n l) (contsB n l) := by
  refine Ev.all2 (fun i k => impl_ContestsOk.l0 k n l l (l.length : Int) (i : Int)) (List.range l.length) (contB n l) _ (fun i h r hr => ?_) ?_
  · simp only [List.length_range] at h
    simp only [List.getElem_range]
    have hm : (l.getD i zC).f0.length ≤ 1048576 := by
      have := hi _ (List.getElem_mem h)
      simpa [List.getD_eq_getElem?_getD, h] using this
    refine Ev.step (fun k => impl_ContestsOk.l0.eq_2 ..) (Ev.pos (by omega) (Ev.pos (by omega) (Ev.pos (by omega) ?_)))
    rw [rd1_D h]
    generalize hy : l.getD i zC = y at hm
    have := Ev.all2 (fun j k => impl_ContestsOk.l1 k n l (i : Int) l (l.length : Int) (i : Int) y.f0 (y.f0.length : Int) (j : Int) y.f0 y.f1 y.f2) (List.range y.f0.length) (teamB n y.f0) (endB l.length i y && r) (fun j h2 s hs => by
      simp only [List.length_range] at h2
      simp only [List.getElem_range]
      refine Ev.step (fun k => impl_ContestsOk.l1.eq_2 ..) (Ev.pos (by omega) (Ev.pos (by omega) (Ev.pos (by omega) (Ev.bind0 (impl_in _ _ _) ?_))))
      rw [rd_D h2]
      unfold teamB
      by_cases c1 : 0 ≤ y.f0.getD j 0 ∧ y.f0.getD j 0 ≤ wrap64 (n - 1)
      · rw [decide_eq_true c1, Bool.true_and]
        refine Ev.pos rfl (Ev.pos (by omega) (Ev.bind (impl_has _ _ (by simp; omega)) ?_))
        rw [Int.toNat_natCast]
        rcases hasB (y.f0.take j) (y.f0.getD j 0) with _ | _
        · refine Ev.neg (by simp) ?_
          rw [w64s (by omega)]
          simpa using hs
        · exact Ev.pos rfl (Ev.now _)
      · rw [decide_eq_false c1]
        exact Ev.neg (by simp) (Ev.now _)) (by
      rw [List.length_range]
      refine Ev.step (fun k => impl_ContestsOk.l1.eq_2 ..) (Ev.neg (by omega) (Ev.bind0 (impl_in _ _ _) ?_))
      unfold endB
      by_cases c1 : 0 ≤ y.f1 ∧ y.f1 ≤ 8
      · rw [decide_eq_true c1, Bool.true_and, w64s (by omega)]
        refine Ev.pos rfl ?_
        by_cases c2 : y.f2 = -1
        · rw [decide_eq_true c2, Bool.true_or, Bool.true_and]
          exact Ev.pos c2 hr
        · rw [decide_eq_false c2, Bool.false_or]
          refine Ev.neg c2 (Ev.bind0 (impl_in _ _ _) ?_)
          rw [show ((i + 1 : Nat) : Int) = (i : Int) + 1 by omega]
          by_cases c3 : (i : Int) + 1 ≤ y.f2 ∧ y.f2 ≤ wrap64 ((l.length : Int) - 1)
          · rw [decide_eq_true c3, Bool.true_and]
            exact Ev.pos rfl hr
          · rw [decide_eq_false c3]
            exact Ev.neg (by simp) (Ev.now _)
      · rw [decide_eq_false c1]
        exact Ev.neg (by simp) (Ev.now _))
    unfold contB
    rw [hy, Bool.and_assoc]
    exact this
  · rw [List.length_range]
    refine Ev.step (fun k => impl_ContestsOk.l0.eq_2 ..) (Ev.neg (by omega) (Ev.bind0 (impl_in _ _ _) ?_))
    by_cases c1 : 2 ≤ n ∧ n ≤ 8
    · rw [decide_eq_true c1, Bool.true_and]
      exact Ev.pos rfl (Ev.now _)
    · rw [decide_eq_false c1]
      exact Ev.neg (by simp) (Ev.now _)
end Go.Proofs.Ytaopcamaceddnaa.Z
