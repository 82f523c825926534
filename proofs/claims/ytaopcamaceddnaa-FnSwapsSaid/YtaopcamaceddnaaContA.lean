/- Contests as the laws hand them over; valid contests: program and reference tell the same. No condition beyond sizes. -/
import Derived.Test.YtaopcamaceddnaaLawInt
import Derived.Test.YtaopcamaceddnaaLawSz
import Derived.Test.YtaopcamaceddnaaLawHas
import Derived.Test.YtaopcamaceddnaaY2
import Derived.Test.YtaopcamaceddnaaY13
import Derived.Test.YtaopcamaceddnaaY15
import Derived.Test.YtaopcamaceddnaaY17
import Derived.Test.YtaopcamaceddnaaY20
namespace Go.Proofs.Ytaopcamaceddnaa.Y
set_option linter.unusedVariables false
set_option linter.unusedSimpArgs false
open Go.RowKit Go.Proofs.YtaopcamaceddnaaW.PrintWords Go.Proofs.Ytaopcamaceddnaa.PK
abbrev C0 := S52
abbrev C1 := S38
def cv (p : C0) : C1 := ⟨p.f0, p.f1, p.f2⟩
def zC : C1 := z38
theorem rd0_nat {x : List C0} {i : Nat} (h : i < x.length) : rd_T52 x (i : Int) = x[i] := by simp [rd_T52, List.getD_eq_getElem?_getD, h]
theorem rd1_nat {x : List C1} {i : Nat} (h : i < x.length) : rd_T38 x (i : Int) = x[i] := by simp [rd_T38, List.getD_eq_getElem?_getD, h]
theorem rd1_D {x : List C1} {i : Nat} (h : i < x.length) : rd_T38 x (i : Int) = x.getD i zC := by simp [rd_T38, zC]
theorem rd_D {l : List Int} {i : Nat} (h : i < l.length) : rd l (i : Int) = l.getD i 0 := by simp [rd]
theorem Ev.all2 {α : Type} (F : Nat → Nat → Option Bool) (xs : List α) (t : α → Bool) (e : Bool) (hs : ∀ i (h : i < xs.length) (r : Bool), Ev (F (i + 1)) r → Ev (F i) (t xs[i] && r)) (he : Ev (F xs.length) e) : Ev (F 0) (xs.all t && e) := by
  have := down (g := fun i => Ev (F i) ((xs.drop i).all t && e)) (n := xs.length) (fun i hi h => by
    rw [List.drop_eq_getElem_cons hi, List.all_cons, Bool.and_assoc]
    exact hs i hi _ h) (by simpa using he) xs.length 0 (by omega)
  simpa using this
theorem szContest_tells (a : List Int) (b c n : Int) (h0 : 0 ≤ n) (h1 : n ≤ 1048576) (hl : a.length ≤ maxLen) : ∃ r, laws_szContest.f a b c n = some r ∧ (r < 0 ∨ (0 ≤ r ∧ r ≤ n ∧ (a.length : Int) ≤ n)) := by
  obtain ⟨r, hr⟩ := szIntS_some a n
  unfold laws_szContest.f
  rw [hr, Option.bind_some]
  rcases szIntS_le a n r h0 (by omega) hl hr with h | ⟨h, h'⟩
  · rw [if_pos (by omega)]; exact ⟨_, rfl, by omega⟩
  · rw [if_neg (by omega)]; exact ⟨_, rfl, by omega⟩
theorem szContestS_tells (w : List C0) (hl : w.length ≤ maxLen) (hi : ∀ y ∈ w, y.f0.length ≤ maxLen) : ∃ r, Ev (fun k => laws_szContestS.f k w 1048576) r ∧ (r < 0 ∨ (w.length ≤ 1048576 ∧ ∀ y ∈ w, y.f0.length ≤ 1048576)) := by
  have hm := hl
  unfold maxLen at hm
  simp only [laws_szContestS.f]
  rw [w64 (by omega) (by omega)]
  by_cases c : (1048576 : Int) - (w.length : Int) < 0
  · exact ⟨-1, Ev.pos c (Ev.now _), .inl (by omega)⟩
  have key := down (g := fun i => ∀ a : Int, 0 ≤ a → a ≤ 1048576 → ∃ r, Ev (fun k => laws_szContestS.l0 k w a (i : Int)) r ∧ (r < 0 ∨ ∀ y ∈ w.drop i, y.f0.length ≤ 1048576)) (n := w.length) (fun i hi' h a h0 h1 => by
    obtain ⟨r, hr, hc⟩ := szContest_tells w[i].f0 w[i].f1 w[i].f2 a h0 h1 (hi _ (List.getElem_mem hi'))
    by_cases cr : r < 0
    · refine ⟨-1, Ev.step (fun k => laws_szContestS.l0.eq_2 ..) (Ev.pos (by omega) (Ev.pos (by omega) ?_)), .inl (by omega)⟩
      rw [rd0_nat hi']
      exact Ev.bind0 hr (Ev.pos cr (Ev.now _))
    · obtain ⟨s, hs, hd⟩ := h r (by omega) (by omega)
      refine ⟨s, Ev.step (fun k => laws_szContestS.l0.eq_2 ..) (Ev.pos (by omega) (Ev.pos (by omega) ?_)), ?_⟩
      · rw [rd0_nat hi', w64s (by omega)]
        exact Ev.bind0 hr (Ev.neg cr hs)
      · rcases hd with hd | hd
        · exact .inl hd
        · refine .inr (fun y hy => ?_)
          rw [List.drop_eq_getElem_cons hi'] at hy
          rcases List.mem_cons.1 hy with rfl | hy
          · omega
          · exact hd y hy) (fun a h0 h1 => ⟨a, Ev.step (fun k => laws_szContestS.l0.eq_2 ..) (Ev.neg (by omega) (Ev.now _)), .inr (by simp)⟩) w.length 0 (by omega)
  obtain ⟨r, h1, h2⟩ := key (1048576 - (w.length : Int)) (by omega) (by omega)
  refine ⟨r, Ev.neg c h1, ?_⟩
  rcases h2 with h2 | h2
  · exact .inl h2
  · exact .inr ⟨by omega, by simpa using h2⟩
theorem toContestS_same (l : List C0) (hb : l.length ≤ 1048576) (hi : ∀ y ∈ l, y.f0.length ≤ 1048576) : Ev (fun k => laws_toContestS.f k l) (l.map cv) := by
  have := Ev.iter (fun i k => laws_toContestS.l0 k l ((l.map cv).take i ++ (List.replicate l.length z38).drop i) (i : Int)) l.length (l.map cv) (fun i hi' h => by
    have hm := hi _ (List.getElem_mem hi')
    refine Ev.step (fun k => laws_toContestS.l0.eq_2 ..) (Ev.pos (by omega) (Ev.pos (by omega) ?_))
    rw [rd0_nat hi']
    refine Ev.bind (a := (l[i].f0, l[i].f1, l[i].f2)) (Ev.bind (toIntS_same _ (by omega)) (Ev.now _)) (Ev.pos (by simp; omega) ?_)
    rw [w64s (by omega), Int.toNat_natCast, set_step _ _ _ _ (by simp; omega) (by simpa using hi')]
    rw [take_snoc (l.map cv) i (by simpa using hi')] at h
    simpa [cv] using h) (by
    refine Ev.step (fun k => laws_toContestS.l0.eq_2 ..) ?_
    refine Ev.neg (by omega) ?_
    simp only [List.take_of_length_le (show (l.map cv).length ≤ l.length by simp), List.drop_eq_nil_of_le (show (List.replicate l.length z38).length ≤ l.length by simp), List.append_nil]
    exact Ev.now _)
  simp only [laws_toContestS.f]
  refine Ev.pos (by omega) (Ev.pos (by omega) ?_)
  simpa using this
theorem eqContest_self (a : List Int) (b c : Int) (hb : a.length ≤ 35184372088832) : Ev (fun k => laws_eqContest.f k a b c a b c) true :=
  Ev.bind (eqIntS_self a (by omega)) (Ev.pos rfl (Ev.pos rfl (Ev.pos rfl (Ev.now _))))
theorem eqContestS_self (x : List C1) (hb : x.length ≤ 1048576) (hi : ∀ y ∈ x, y.f0.length ≤ 1048576) : Ev (fun k => laws_eqContestS.f k x x) true := by
  have := Ev.iter (fun i k => laws_eqContestS.l0 k x x (i : Int)) x.length true (fun i hi' h => by
    have hm := hi _ (List.getElem_mem hi')
    refine Ev.step (fun k => laws_eqContestS.l0.eq_2 ..) (Ev.pos (by omega) (Ev.pos (by omega) (Ev.pos (by omega) ?_)))
    rw [rd1_nat hi']
    refine Ev.bind (eqContest_self _ _ _ (by omega)) (Ev.pos rfl ?_)
    rw [w64s (by omega)]
    exact h) (Ev.step (fun k => laws_eqContestS.l0.eq_2 ..) (Ev.neg (by omega) (Ev.now _)))
  exact Ev.pos rfl this

def hasB (l : List Int) (x : Int) : Bool := l.any fun y => decide (y = x)
theorem spec_has (l : List Int) (x : Int) (hl : l.length ≤ 35184372088832) : Ev (fun k => spec_l02Has.f k l x) (hasB l x) := by
  refine Ev.some_ (fun i k => spec_l02Has.l0 k x l (l.length : Int) (i : Int)) l _ (fun i h e r hr => ?_) (fun i h e => ?_) ?_
  · refine Ev.step (fun k => spec_l02Has.l0.eq_2 ..) (Ev.pos (by omega) (Ev.pos (by omega) (Ev.pos (by omega) (Ev.neg (by rw [rd_nat h]; exact of_decide_eq_false e) ?_))))
    rw [w64s (by omega)]; exact hr
  · exact Ev.step (fun k => spec_l02Has.l0.eq_2 ..) (Ev.pos (by omega) (Ev.pos (by omega) (Ev.pos (by omega) (Ev.pos (by rw [rd_nat h]; exact of_decide_eq_true e) (Ev.now _)))))
  · exact Ev.step (fun k => spec_l02Has.l0.eq_2 ..) (Ev.neg (by omega) (Ev.now _))
theorem impl_has (l : List Int) (x : Int) (hl : l.length ≤ 35184372088832) : Ev (fun k => slices_Contains_int_int.f k l x) (hasB l x) := by
  obtain ⟨r, h1, h2⟩ := Ev.place (fun i k => slices_Index_int_int.l0 k l x (l.length : Int) (i : Int)) l (fun y => decide (y = x)) (fun i h e r hr => by
    refine Ev.step (fun k => slices_Index_int_int.l0.eq_2 ..) (Ev.pos (by omega) (Ev.pos (by omega) (Ev.pos (by omega) (Ev.neg (by rw [rd_nat h]; exact fun q => of_decide_eq_false e q.symm) ?_))))
    rw [w64s (by omega)]; exact hr) (fun i h e =>
    Ev.step (fun k => slices_Index_int_int.l0.eq_2 ..) (Ev.pos (by omega) (Ev.pos (by omega) (Ev.pos (by omega) (Ev.pos (by rw [rd_nat h]; exact (of_decide_eq_true e).symm) (Ev.now _))))))
    (Ev.step (fun k => slices_Index_int_int.l0.eq_2 ..) (Ev.neg (by omega) (Ev.now _)))
  unfold hasB
  rw [← h2]
  exact Ev.bind h1 (Ev.now _)
theorem spec_in (a b c : Int) : spec_l01In.f a b c = some (decide (b ≤ a ∧ a ≤ c)) := by
  unfold spec_l01In.f
  by_cases h : b ≤ a
  · rw [if_pos h]; simp [h]
  · rw [if_neg h]; simp [h]
theorem impl_in (a b c : Int) : impl_within.f a b c = some (decide (b ≤ a ∧ a ≤ c)) := by
  unfold impl_within.f
  by_cases h : b ≤ a
  · rw [if_pos h]; simp [h]
  · rw [if_neg h]; simp [h]
/-- A place of a contest's order: a team that was not named before. -/
def teamB (n : Int) (q : List Int) (j : Nat) : Bool := decide (0 ≤ q.getD j 0 ∧ q.getD j 0 ≤ wrap64 (n - 1)) && !hasB (q.take j) (q.getD j 0)
def endB (m i : Nat) (y : C1) : Bool := decide (0 ≤ y.f1 ∧ y.f1 ≤ 8) && (decide (y.f2 = -1) || decide ((i : Int) + 1 ≤ y.f2 ∧ y.f2 ≤ wrap64 ((m : Int) - 1)))
def contB (n : Int) (l : List C1) (i : Nat) : Bool := (List.range (l.getD i zC).f0.length).all (teamB n (l.getD i zC).f0) && endB l.length i (l.getD i zC)
def contsB (n : Int) (l : List C1) : Bool := (List.range l.length).all (contB n l) && (decide (2 ≤ n ∧ n ≤ 8) && decide ((l.length : Int) ≤ 5))
theorem spec_conts (n : Int) (l : List C1) (hl : l.length ≤ 1048576) (hi : ∀ y ∈ l, y.f0.length ≤ 1048576) : Ev (fun k => spec_ContestsOk.f k n l) (contsB n l) := by
  have j0 : Ev (fun k => spec_ContestsOk.j0 k n l true) false := Ev.step (fun k => spec_ContestsOk.j0.eq_2 ..) (Ev.pos rfl (Ev.now _))
  have key : Ev (fun k => spec_ContestsOk.l0 k n l l (l.length : Int) 0) ((List.range l.length).all (contB n l) && true) := by
    refine Ev.all2 (fun i k => spec_ContestsOk.l0 k n l l (l.length : Int) (i : Int)) (List.range l.length) (contB n l) true (fun i h r hr => ?_) ?_
    · simp only [List.length_range] at h
      simp only [List.getElem_range]
      have hm : (l.getD i zC).f0.length ≤ 1048576 := by
        have := hi _ (List.getElem_mem h)
        simpa [List.getD_eq_getElem?_getD, h] using this
      refine Ev.step (fun k => spec_ContestsOk.l0.eq_2 ..) (Ev.pos (by omega) (Ev.pos (by omega) (Ev.pos (by omega) ?_)))
      rw [rd1_D h]
      generalize hy : l.getD i zC = y at hm
      have := Ev.all2 (fun j k => spec_ContestsOk.l1 k n l (i : Int) l (l.length : Int) (i : Int) y.f0 (y.f0.length : Int) (j : Int) y.f0 y.f1 y.f2) (List.range y.f0.length) (teamB n y.f0) (endB l.length i y && r) (fun j h2 s hs => by
        simp only [List.length_range] at h2
        simp only [List.getElem_range]
        refine Ev.step (fun k => spec_ContestsOk.l1.eq_2 ..) (Ev.pos (by omega) (Ev.pos (by omega) (Ev.pos (by omega) (Ev.bind0 (spec_in _ _ _) ?_))))
        rw [rd_D h2]
        unfold teamB
        by_cases c1 : 0 ≤ y.f0.getD j 0 ∧ y.f0.getD j 0 ≤ wrap64 (n - 1)
        · rw [decide_eq_true c1, Bool.true_and]
          refine Ev.pos rfl (Ev.pos (by omega) (Ev.bind (spec_has _ _ (by simp; omega)) ?_))
          rw [Int.toNat_natCast]
          rcases hasB (y.f0.take j) (y.f0.getD j 0) with _ | _
          · refine Ev.neg (by simp) ?_
            rw [w64s (by omega)]
            simpa using hs
          · exact Ev.pos rfl (Ev.now _)
        · rw [decide_eq_false c1]
          exact Ev.neg (by simp) (Ev.now _)) (by
        rw [List.length_range]
        refine Ev.step (fun k => spec_ContestsOk.l1.eq_2 ..) (Ev.neg (by omega) (Ev.bind0 (spec_in _ _ _) ?_))
        unfold endB
        by_cases c1 : 0 ≤ y.f1 ∧ y.f1 ≤ 8
        · rw [decide_eq_true c1, Bool.true_and, w64s (by omega)]
          refine Ev.pos rfl ?_
          by_cases c2 : y.f2 = -1
          · rw [decide_eq_true c2, Bool.true_or, Bool.true_and]
            exact Ev.pos c2 hr
          · rw [decide_eq_false c2, Bool.false_or]
            refine Ev.neg c2 (Ev.bind0 (spec_in _ _ _) ?_)
            rw [show ((i + 1 : Nat) : Int) = (i : Int) + 1 by omega]
            by_cases c3 : (i : Int) + 1 ≤ y.f2 ∧ y.f2 ≤ wrap64 ((l.length : Int) - 1)
            · rw [decide_eq_true c3, Bool.true_and]
              exact Ev.pos rfl hr
            · rw [decide_eq_false c3]
              exact Ev.neg (by simp) (Ev.now _)
        · rw [decide_eq_false c1]
          exact Ev.neg (by simp) (Ev.now _))
      unfold contB
      rw [hy, Bool.and_assoc]
      exact this
    · rw [List.length_range]
      exact Ev.step (fun k => spec_ContestsOk.l0.eq_2 ..) (Ev.neg (by omega) (Ev.now _))
  unfold spec_ContestsOk.f contsB
  refine Ev.bind0 (spec_in _ _ _) ?_
  by_cases c1 : 2 ≤ n ∧ n ≤ 8
  · rw [decide_eq_true c1, Bool.true_and]
    refine Ev.pos rfl ?_
    by_cases c2 : (l.length : Int) ≤ 5
    · rw [decide_eq_true c2, decide_eq_false (show ¬ (l.length : Int) > 5 by omega)]
      exact Ev.step (fun k => spec_ContestsOk.j0.eq_2 ..) (Ev.neg (by simp) key)
    · rw [decide_eq_false c2, Bool.and_false, decide_eq_true (show (l.length : Int) > 5 by omega)]
      exact j0
  · rw [decide_eq_false c1, Bool.false_and, Bool.and_false]
    exact Ev.neg (by simp) j0
theorem impl_conts (n : Int) (l : List C1) (hl : l.length ≤ 1048576) (hi : ∀ y ∈ l, y.f0.length ≤ 1048576) : Ev (fun k => impl_ContestsOk.f k n l) (contsB n l) := by
  refine Ev.all2 (fun i k => impl_ContestsOk.l0 k n l l (l.length : Int) (i : Int)) (List.range l.length) (contB n l) _ (fun i h r hr => ?_) ?_
  · simp only [List.length_range] at h
    simp only [List.getElem_range]
    have hm : (l.getD i zC).f0.length ≤ 1048576 := by
      have := hi _ (List.getElem_mem h)
      simpa [List.getD_eq_getElem?_getD, h] using this
    refine Ev.step (fun k => impl_ContestsOk.l0.eq_2 ..) (Ev.pos (by omega) (Ev.pos (by omega) (Ev.pos (by omega) ?_)))
    rw [rd1_D h]
    generalize hy : l.getD i zC = y at hm
    have := Ev.all2 (fun j k => impl_ContestsOk.l1 k n l (i : Int) l (l.length : Int) (i : Int) y.f0 (y.f0.length : Int) (j : Int) y.f0 y.f1 y.f2) (List.range y.f0.length) (teamB n y.f0) (endB l.length i y && r) (fun j h2 s hs => by
      simp only [List.length_range] at h2
      simp only [List.getElem_range]
      refine Ev.step (fun k => impl_ContestsOk.l1.eq_2 ..) (Ev.pos (by omega) (Ev.pos (by omega) (Ev.pos (by omega) (Ev.bind0 (impl_in _ _ _) ?_))))
      rw [rd_D h2]
      unfold teamB
      by_cases c1 : 0 ≤ y.f0.getD j 0 ∧ y.f0.getD j 0 ≤ wrap64 (n - 1)
      · rw [decide_eq_true c1, Bool.true_and]
        refine Ev.pos rfl (Ev.pos (by omega) (Ev.bind (impl_has _ _ (by simp; omega)) ?_))
        rw [Int.toNat_natCast]
        rcases hasB (y.f0.take j) (y.f0.getD j 0) with _ | _
        · refine Ev.neg (by simp) ?_
          rw [w64s (by omega)]
          simpa using hs
        · exact Ev.pos rfl (Ev.now _)
      · rw [decide_eq_false c1]
        exact Ev.neg (by simp) (Ev.now _)) (by
      rw [List.length_range]
      refine Ev.step (fun k => impl_ContestsOk.l1.eq_2 ..) (Ev.neg (by omega) (Ev.bind0 (impl_in _ _ _) ?_))
      unfold endB
      by_cases c1 : 0 ≤ y.f1 ∧ y.f1 ≤ 8
      · rw [decide_eq_true c1, Bool.true_and, w64s (by omega)]
        refine Ev.pos rfl ?_
        by_cases c2 : y.f2 = -1
        · rw [decide_eq_true c2, Bool.true_or, Bool.true_and]
          exact Ev.pos c2 hr
        · rw [decide_eq_false c2, Bool.false_or]
          refine Ev.neg c2 (Ev.bind0 (impl_in _ _ _) ?_)
          rw [show ((i + 1 : Nat) : Int) = (i : Int) + 1 by omega]
          by_cases c3 : (i : Int) + 1 ≤ y.f2 ∧ y.f2 ≤ wrap64 ((l.length : Int) - 1)
          · rw [decide_eq_true c3, Bool.true_and]
            exact Ev.pos rfl hr
          · rw [decide_eq_false c3]
            exact Ev.neg (by simp) (Ev.now _)
      · rw [decide_eq_false c1]
        exact Ev.neg (by simp) (Ev.now _))
    unfold contB
    rw [hy, Bool.and_assoc]
    exact this
  · rw [List.length_range]
    refine Ev.step (fun k => impl_ContestsOk.l0.eq_2 ..) (Ev.neg (by omega) (Ev.bind0 (impl_in _ _ _) ?_))
    by_cases c1 : 2 ≤ n ∧ n ≤ 8
    · rw [decide_eq_true c1, Bool.true_and]
      exact Ev.pos rfl (Ev.now _)
    · rw [decide_eq_false c1]
      exact Ev.neg (by simp) (Ev.now _)
end Go.Proofs.Ytaopcamaceddnaa.Y
