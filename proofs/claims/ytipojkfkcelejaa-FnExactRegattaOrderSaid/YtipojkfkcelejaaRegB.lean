/- Regattas: the program's test of a race, both tests of a regatta, and the laws' helpers over rows of rows. Conditions: sizes. -/
import Derived.Test.YtipojkfkcelejaaRegA
import Derived.Test.YtipojkfkcelejaaLawInt
import Derived.Test.YtipojkfkcelejaaLawSz
import Derived.Test.YtipojkfkcelejaaX2
import Derived.Test.YtipojkfkcelejaaX13
import Derived.Test.YtipojkfkcelejaaX15
import Derived.Test.YtipojkfkcelejaaX16
import Derived.Test.YtipojkfkcelejaaX17
import Derived.Test.YtipojkfkcelejaaX18
namespace Go.Proofs.Ytipojkfkcelejaa.X
set_option linter.unusedVariables false
set_option linter.unusedSimpArgs false
open Go.RowKit Go.Proofs.YtipojkfkcelejaaW.PrintWords Go.Proofs.Ytipojkfkcelejaa.PK
theorem rdL_nat {x : List (List Int)} {i : Nat} (h : i < x.length) : rd_L1 x (i : Int) = x[i] := by simp [rd_L1, List.getD_eq_getElem?_getD, h]
theorem impl_race (b : Int) (l : List Int) (hl : l.length ≤ 1048576) : Ev (fun k => impl_RaceOk.f k b l) (raceB b l) := by
  unfold impl_RaceOk.f raceB
  refine Ev.bind0 (impl_in b 2 8) ?_
  by_cases c : 2 ≤ b ∧ b ≤ 8
  · refine Ev.pos (decide_eq_true c) ?_
    rw [decide_eq_true c, Bool.true_and]
    by_cases d : (l.length : Int) = b
    · rw [decide_eq_true d, Bool.true_and]
      refine Ev.step (fun k => impl_RaceOk.j0.eq_2 ..) (Ev.neg (by simp [d]) ?_)
      have hfn : (fin b l).length ≤ 8 := Nat.le_trans (List.length_filter_le _ _) (by omega)
      by_cases cr : rngB b l = true
      · rw [cr, Bool.true_and]
        obtain ⟨r, h1, h2, h3⟩ := sort_tells ((fin b l).map (· - 1)) (by simp; omega)
        have hend : Ev (fun k => (slices_Sorted_int_slices_Values_int_int_1.f k ((fin b l).map (· - 1))).bind fun t247 => ((impl_upTo.f k (((fin b l).map (· - 1)).length : Int)).bind fun t250 => ((slices_Equal_int_int.f k t247 t250).bind fun t253 => (some t253)))) (goodB b l) := by
          rw [← good_sorted b l r cr h2 h3]
          refine Ev.bind (a := r) ?_ (Ev.bind (upTo_tells _ (by simp; omega)) (Ev.bind (a := decide (r = marks 0 (fin b l).length)) ?_ (Ev.now _)))
          · unfold slices_Sorted_int_slices_Values_int_int_1.f
            exact Ev.pos (by simp; omega) h1
          · have := equal_tells r (marks 0 (((fin b l).map (· - 1)).length)) (by rw [h2.length_eq]; simp; omega) (by rw [marks_length]; simp; omega)
            simpa using this
        have key := down (g := fun i => Ev (fun k => impl_RaceOk.l0 k b ((fin b (l.take i)).map (· - 1)) l (l.length : Int) (i : Int)) (goodB b l)) (n := l.length) (fun i h hn => by
          have hfl : (fin b (l.take i)).length ≤ i := Nat.le_trans (List.length_filter_le _ _) (by rw [List.length_take]; omega)
          have c0 : 1 ≤ l[i] ∧ l[i] ≤ b + 1 := of_decide_eq_true (List.all_eq_true.1 cr _ (List.getElem_mem h))
          refine Ev.step (fun k => impl_RaceOk.l0.eq_2 ..) (Ev.pos (by omega) (Ev.pos (by omega) (Ev.pos (by omega) ?_)))
          rw [rd_nat h, w64 (n := b + 1) (by omega) (by omega)]
          refine Ev.bind0 (impl_in _ _ _) (Ev.pos (decide_eq_true c0) ?_)
          rw [fin_snoc b l i h] at hn
          by_cases c1 : l[i] ≤ b
          · rw [if_pos c1, List.map_append] at hn
            refine Ev.pos c1 (Ev.pos (by simp; omega) ?_)
            rw [w64s (by omega), w64 (n := l[i] - 1) (by omega) (by omega)]
            exact hn
          · rw [if_neg c1] at hn
            refine Ev.neg c1 ?_
            rw [w64s (by omega)]
            exact hn) (by
          rw [List.take_length]
          exact Ev.step (fun k => impl_RaceOk.l0.eq_2 ..) (Ev.neg (by omega) hend)) l.length 0 (by omega)
        simpa [fin] using key
      · have cr' : rngB b l = false := by simpa using cr
        rw [cr', Bool.false_and]
        -- the first place out of range
        have key := down (g := fun i => ∀ x5 : List Int, x5.length ≤ i → rngB b (l.drop i) = false → Ev (fun k => impl_RaceOk.l0 k b x5 l (l.length : Int) (i : Int)) false) (n := l.length) (fun i h hn x5 h5 hr => by
          rw [List.drop_eq_getElem_cons h] at hr
          refine Ev.step (fun k => impl_RaceOk.l0.eq_2 ..) (Ev.pos (by omega) (Ev.pos (by omega) (Ev.pos (by omega) ?_)))
          rw [rd_nat h, w64 (n := b + 1) (by omega) (by omega)]
          refine Ev.bind0 (impl_in _ _ _) ?_
          by_cases c0 : 1 ≤ l[i] ∧ l[i] ≤ b + 1
          · have hr' : rngB b (l.drop (i + 1)) = false := by unfold rngB at hr ⊢; rw [List.all_cons, decide_eq_true c0, Bool.true_and] at hr; exact hr
            refine Ev.pos (decide_eq_true c0) ?_
            rw [w64s (by omega)]
            by_cases c1 : l[i] ≤ b
            · exact Ev.pos c1 (Ev.pos (by omega) (hn _ (by simp; omega) hr'))
            · exact Ev.neg c1 (hn _ (by omega) hr')
          · exact Ev.neg (by simp [c0]) (Ev.now _)) (fun x5 h5 hr => by
          rw [List.drop_length] at hr
          simp [rngB] at hr) l.length 0 (by omega)
        exact key [] (by simp) (by simpa using cr')
    · rw [decide_eq_false d, Bool.false_and]
      exact Ev.step (fun k => impl_RaceOk.j0.eq_2 ..) (Ev.pos (by simp [d]) (Ev.now _))
  · refine Ev.neg (by simp [c]) ?_
    rw [decide_eq_false c, Bool.false_and]
    exact Ev.step (fun k => impl_RaceOk.j0.eq_2 ..) (Ev.pos rfl (Ev.now _))
def regB (b : Int) (l : List (List Int)) (d : Int) : Bool := l.all (raceB b) && (decide (1 ≤ (l.length : Int) ∧ (l.length : Int) ≤ 10) && decide (0 ≤ d ∧ d ≤ (l.length : Int) - 1))
theorem spec_reg (b : Int) (l : List (List Int)) (d : Int) (hl : l.length ≤ 1048576) (hi : ∀ y ∈ l, y.length ≤ 1048576) : Ev (fun k => spec_RegattaOk.f k b l d) (regB b l d) := by
  unfold spec_RegattaOk.f regB
  refine Ev.all (fun i k => spec_RegattaOk.l0 k l (l.length : Int) (i : Int) b l d) l (raceB b) _ (fun i h e r hr => ?_) (fun i h e => ?_) ?_
  · refine Ev.step (fun k => spec_RegattaOk.l0.eq_2 ..) (Ev.pos (by omega) (Ev.pos (by omega) (Ev.pos (by omega) ?_)))
    rw [rdL_nat h, w64s (by omega)]
    exact Ev.bind (spec_race b _ (hi _ (List.getElem_mem h))) (Ev.pos e hr)
  · refine Ev.step (fun k => spec_RegattaOk.l0.eq_2 ..) (Ev.pos (by omega) (Ev.pos (by omega) (Ev.pos (by omega) ?_)))
    rw [rdL_nat h]
    exact Ev.bind (spec_race b _ (hi _ (List.getElem_mem h))) (Ev.neg (by rw [e]; simp) (Ev.now _))
  · refine Ev.step (fun k => spec_RegattaOk.l0.eq_2 ..) (Ev.neg (by omega) (Ev.bind0 (spec_in _ _ _) ?_))
    rw [w64 (by omega) (by omega)]
    by_cases c : 1 ≤ (l.length : Int) ∧ (l.length : Int) ≤ 10
    · rw [decide_eq_true c, Bool.true_and]
      exact Ev.pos rfl (Ev.bind0 (spec_in _ _ _) (Ev.now _))
    · rw [decide_eq_false c, Bool.false_and]
      exact Ev.neg (by simp) (Ev.now _)
theorem impl_reg (b : Int) (l : List (List Int)) (d : Int) (hl : l.length ≤ 1048576) (hi : ∀ y ∈ l, y.length ≤ 1048576) : Ev (fun k => impl_RegattaOk.f k b l d) (regB b l d) := by
  unfold impl_RegattaOk.f regB
  refine Ev.all (fun i k => impl_RegattaOk.l0 k l (l.length : Int) (i : Int) b l d) l (raceB b) _ (fun i h e r hr => ?_) (fun i h e => ?_) ?_
  · refine Ev.step (fun k => impl_RegattaOk.l0.eq_2 ..) (Ev.pos (by omega) (Ev.pos (by omega) (Ev.pos (by omega) ?_)))
    rw [rdL_nat h, w64s (by omega)]
    exact Ev.bind (impl_race b _ (hi _ (List.getElem_mem h))) (Ev.pos e hr)
  · refine Ev.step (fun k => impl_RegattaOk.l0.eq_2 ..) (Ev.pos (by omega) (Ev.pos (by omega) (Ev.pos (by omega) ?_)))
    rw [rdL_nat h]
    exact Ev.bind (impl_race b _ (hi _ (List.getElem_mem h))) (Ev.neg (by rw [e]; simp) (Ev.now _))
  · refine Ev.step (fun k => impl_RegattaOk.l0.eq_2 ..) (Ev.neg (by omega) (Ev.bind0 (impl_in _ _ _) ?_))
    rw [w64 (by omega) (by omega)]
    by_cases c : 1 ≤ (l.length : Int) ∧ (l.length : Int) ≤ 10
    · rw [decide_eq_true c, Bool.true_and]
      exact Ev.pos rfl (Ev.bind0 (impl_in _ _ _) (Ev.now _))
    · rw [decide_eq_false c, Bool.false_and]
      exact Ev.neg (by simp) (Ev.now _)
-- the laws' helpers
theorem szSS_tells (l : List (List Int)) (hl : l.length ≤ maxLen) (hi : ∀ y ∈ l, y.length ≤ maxLen) : ∃ r, Ev (fun k => laws_szIntSS.f k l 1048576) r ∧ (r < 0 ∨ (l.length ≤ 1048576 ∧ ∀ y ∈ l, y.length ≤ 1048576)) := by
  have hml := hl
  unfold maxLen at hml
  unfold laws_szIntSS.f
  rw [w64 (by omega) (by omega)]
  by_cases c : (1048576 : Int) - (l.length : Int) < 0
  · exact ⟨-1, Ev.pos c (Ev.now _), .inl (by omega)⟩
  · have key := down (g := fun i => ∀ a : Int, 0 ≤ a → a ≤ 1048576 → (∀ j (h : j < l.length), j < i → l[j].length ≤ 1048576) → ∃ r, Ev (fun k => laws_szIntSS.l0 k l a (i : Int)) r ∧ (r < 0 ∨ ∀ y ∈ l, y.length ≤ 1048576)) (n := l.length) (fun i h hn a h0 h1 hb => by
      obtain ⟨r, hr⟩ := szIntS_some l[i] a
      rcases szIntS_le l[i] a r h0 (by omega) (hi _ (List.getElem_mem h)) hr with rfl | ⟨rfl, hle⟩
      · refine ⟨-1, Ev.step (fun k => laws_szIntSS.l0.eq_2 ..) (Ev.pos (by omega) (Ev.pos (by omega) ?_)), .inl (by omega)⟩
        rw [rdL_nat h]
        exact Ev.bind0 hr (Ev.pos (by omega) (Ev.now _))
      · obtain ⟨r, h2, h3⟩ := hn (a - l[i].length) (by omega) (by omega) (fun j hj hji => by
          by_cases e : j = i
          · subst e; omega
          · exact hb j hj (by omega))
        refine ⟨r, Ev.step (fun k => laws_szIntSS.l0.eq_2 ..) (Ev.pos (by omega) (Ev.pos (by omega) ?_)), h3⟩
        rw [rdL_nat h, w64s (by omega)]
        exact Ev.bind0 hr (Ev.neg (by omega) h2)) (fun a h0 h1 hb => ⟨a, Ev.step (fun k => laws_szIntSS.l0.eq_2 ..) (Ev.neg (by omega) (Ev.now _)), .inr (fun y hy => by
        obtain ⟨j, hj, rfl⟩ := List.mem_iff_getElem.1 hy
        exact hb j hj hj)⟩) l.length 0 (by omega)
    obtain ⟨r, h2, h3⟩ := key (1048576 - (l.length : Int)) (by omega) (by omega) (fun j hj h => by omega)
    refine ⟨r, Ev.neg c h2, ?_⟩
    rcases h3 with h3 | h3
    · exact .inl h3
    · exact .inr ⟨by omega, h3⟩
theorem szReg_tells (b : Int) (l : List (List Int)) (d : Int) (hl : l.length ≤ maxLen) (hi : ∀ y ∈ l, y.length ≤ maxLen) : ∃ r, Ev (fun k => laws_szRegatta.f k b l d 1048576) r ∧ (r < 0 ∨ (l.length ≤ 1048576 ∧ ∀ y ∈ l, y.length ≤ 1048576)) := by
  obtain ⟨r, h1, h2⟩ := szSS_tells l hl hi
  unfold laws_szRegatta.f
  by_cases c : r < 0
  · exact ⟨-1, Ev.bind h1 (Ev.pos c (Ev.now _)), .inl (by omega)⟩
  · exact ⟨r, Ev.bind h1 (Ev.neg c (Ev.now _)), h2⟩
theorem toSS_same (l : List (List Int)) (hb : l.length ≤ 1048576) (hi : ∀ y ∈ l, y.length ≤ 1048576) : Ev (fun k => laws_toIntSS.f k l) l := by
  have := Ev.iter (fun i k => laws_toIntSS.l0 k l (l.take i ++ (List.replicate l.length ([] : List Int)).drop i) (i : Int)) l.length l (fun i h hr => by
    refine Ev.step (fun k => laws_toIntSS.l0.eq_2 ..) (Ev.pos (by omega) (Ev.pos (by omega) ?_))
    rw [rdL_nat h]
    refine Ev.bind (toIntS_same _ (by have := hi _ (List.getElem_mem h); omega)) (Ev.pos (by simp; omega) ?_)
    rw [w64s (by omega), Int.toNat_natCast, set_step _ _ _ _ (by simp; omega) (by simpa using h), ← take_snoc l i h]
    exact hr) (Ev.step (fun k => laws_toIntSS.l0.eq_2 ..) (Ev.neg (by omega) (by simpa using Ev.now l)))
  unfold laws_toIntSS.f
  refine Ev.pos (by omega) (Ev.pos (by omega) ?_)
  simpa using this
theorem toReg_same (b : Int) (l : List (List Int)) (d : Int) (hb : l.length ≤ 1048576) (hi : ∀ y ∈ l, y.length ≤ 1048576) : Ev (fun k => laws_toRegatta.f k b l d) (b, l, d) := by
  unfold laws_toRegatta.f
  exact Ev.bind (toSS_same l hb hi) (Ev.now _)
theorem eqSS_self (x : List (List Int)) (hb : x.length ≤ 1048576) (hi : ∀ y ∈ x, y.length ≤ 1048576) : Ev (fun k => laws_eqIntSS.f k x x) true := by
  have := Ev.iter (fun i k => laws_eqIntSS.l0 k x x (i : Int)) x.length true (fun i hi' h => by
    have hm := hi _ (List.getElem_mem hi')
    refine Ev.step (fun k => laws_eqIntSS.l0.eq_2 ..) (Ev.pos (by omega) (Ev.pos (by omega) (Ev.pos (by omega) ?_)))
    rw [rdL_nat hi', w64s (by omega)]
    exact Ev.bind (eqIntS_self _ (by omega)) (Ev.pos rfl h)) (Ev.step (fun k => laws_eqIntSS.l0.eq_2 ..) (Ev.neg (by omega) (Ev.now _)))
  exact Ev.pos rfl this
theorem eqReg_self (b : Int) (l : List (List Int)) (d : Int) (hb : l.length ≤ 1048576) (hi : ∀ y ∈ l, y.length ≤ 1048576) : Ev (fun k => laws_eqRegatta.f k b l d b l d) true := by
  unfold laws_eqRegatta.f
  exact Ev.pos rfl (Ev.bind (eqSS_self l hb hi) (Ev.pos rfl (Ev.pos rfl (Ev.now _))))
end Go.Proofs.Ytipojkfkcelejaa.X
