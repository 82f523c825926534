/- The pure part of the law FnExactRedressFor: what program and reference compute is the same. Conditions: those of the row. -/
import Derived.Test.YtipojkfkcelejaaRegB
import Derived.Test.YtipojkfkcelejaaX20
import Derived.Test.YtipojkfkcelejaaX21
import Derived.Test.YtipojkfkcelejaaX22
namespace Go.Proofs.Ytipojkfkcelejaa.X
set_option linter.unusedVariables false
set_option linter.unusedSimpArgs false
open Go.RowKit Go.Proofs.YtipojkfkcelejaaW.PrintWords Go.Proofs.Ytipojkfkcelejaa.PK
theorem race_len {b : Int} {l : List Int} (h : raceB b l = true) : (l.length : Int) = b ∧ 2 ≤ b ∧ b ≤ 8 := by
  unfold raceB at h
  rw [Bool.and_eq_true, Bool.and_eq_true] at h
  exact ⟨of_decide_eq_true h.2.1, (of_decide_eq_true h.1)⟩
theorem red_loop (b : Int) (l : List (List Int)) (x y n : Int) (hl : l.length ≤ 1048576) (hn : n ≠ 0) (hx : 0 ≤ x) (hi : ∀ z ∈ l, x < (z.length : Int)) :
    ∃ v, Ev (fun k => spec_RedressFor.l0 k x y n 0 l (l.length : Int) 0) v ∧ Ev (fun k => impl_RedressFor.l0 k x y n 0 l (l.length : Int) 0) v := by
  have := down (g := fun i => ∀ a : Int, ∃ v, Ev (fun k => spec_RedressFor.l0 k x y n a l (l.length : Int) (i : Int)) v ∧ Ev (fun k => impl_RedressFor.l0 k x y n a l (l.length : Int) (i : Int)) v) (n := l.length) (fun i h hn' a => by
    have hm := hi _ (List.getElem_mem h)
    by_cases c : (i : Int) = y
    · obtain ⟨v, h1, h2⟩ := hn' a
      refine ⟨v, Ev.step (fun k => spec_RedressFor.l0.eq_2 ..) (Ev.pos (by omega) (Ev.pos (by omega) (Ev.pos (by omega) (Ev.pos c ?_)))), Ev.step (fun k => impl_RedressFor.l0.eq_2 ..) (Ev.pos (by omega) (Ev.pos (by omega) (Ev.pos (by omega) (Ev.pos c ?_))))⟩
      · rw [w64s (by omega)]; exact h1
      · rw [w64s (by omega)]; exact h2
    · obtain ⟨v, h1, h2⟩ := hn' (wrap64 (a + rd (rd_L1 l (i : Int)) x))
      refine ⟨v, Ev.step (fun k => spec_RedressFor.l0.eq_2 ..) (Ev.pos (by omega) (Ev.pos (by omega) (Ev.pos (by omega) (Ev.neg c (Ev.pos hx (Ev.pos (by rw [rdL_nat h]; exact hm) ?_)))))), Ev.step (fun k => impl_RedressFor.l0.eq_2 ..) (Ev.pos (by omega) (Ev.pos (by omega) (Ev.pos (by omega) (Ev.neg c (Ev.pos hx (Ev.pos (by rw [rdL_nat h]; exact hm) ?_))))))⟩
      · rw [w64s (by omega)]; exact h1
      · rw [w64s (by omega)]; exact h2) (fun a => ⟨_, Ev.step (fun k => spec_RedressFor.l0.eq_2 ..) (Ev.neg (by omega) (Ev.neg hn (Ev.now _))), Ev.step (fun k => impl_RedressFor.l0.eq_2 ..) (Ev.neg (by omega) (Ev.neg hn (Ev.now _)))⟩) l.length 0 (by omega)
  exact this 0
theorem red_same (b : Int) (l : List (List Int)) (d x y : Int) (hl : l.length ≤ 1048576) (hi : ∀ z ∈ l, z.length ≤ 1048576) :
    ∃ v, Ev (fun k => spec_RedressFor.f k b l d x y) v ∧ Ev (fun k => impl_RedressFor.f k b l d x y) v := by
  have out : ∃ v, Ev (fun k => spec_RedressFor.j0 k x y true b l d) v ∧ Ev (fun k => impl_RedressFor.j0 k x y true b l d) v :=
    ⟨0, Ev.step (fun k => spec_RedressFor.j0.eq_2 ..) (Ev.pos rfl (Ev.now _)), Ev.step (fun k => impl_RedressFor.j0.eq_2 ..) (Ev.pos rfl (Ev.now _))⟩
  obtain ⟨vo, ho1, ho2⟩ := out
  by_cases c : regB b l d = true
  · by_cases c1 : 0 ≤ x ∧ x ≤ wrap64 (b - 1)
    · by_cases c2 : 0 ≤ y ∧ y ≤ wrap64 ((l.length : Int) - 1)
      · have hreg := c
        unfold regB at hreg
        rw [Bool.and_eq_true, Bool.and_eq_true] at hreg
        have hlen := of_decide_eq_true hreg.2.1
        have hne : ∀ z ∈ l, x < (z.length : Int) := by
          intro z hz
          obtain ⟨h1, h2, h3⟩ := race_len (List.all_eq_true.1 hreg.1 z hz)
          rw [w64 (by omega) (by omega)] at c1
          omega
        by_cases c3 : wrap64 ((l.length : Int) - 1) = 0
        · refine ⟨wrap64 (b + 1), ?_, ?_⟩
          · unfold spec_RedressFor.f
            refine Ev.bind (spec_reg b l d hl hi) (Ev.pos c (Ev.bind0 (spec_in _ _ _) (Ev.pos (decide_eq_true c1) (Ev.bind0 (spec_in _ _ _) (Ev.step (fun k => spec_RedressFor.j0.eq_2 ..) (Ev.neg (by rw [decide_eq_true c2]; simp) (Ev.pos c3 (Ev.now _))))))))
          · unfold impl_RedressFor.f
            refine Ev.bind (impl_reg b l d hl hi) (Ev.pos c (Ev.bind0 (impl_in _ _ _) (Ev.pos (decide_eq_true c1) (Ev.bind0 (impl_in _ _ _) (Ev.step (fun k => impl_RedressFor.j0.eq_2 ..) (Ev.neg (by rw [decide_eq_true c2]; simp) (Ev.pos c3 (Ev.now _))))))))
        · obtain ⟨v, h1, h2⟩ := red_loop b l x y (wrap64 ((l.length : Int) - 1)) hl c3 c1.1 hne
          refine ⟨v, ?_, ?_⟩
          · unfold spec_RedressFor.f
            refine Ev.bind (spec_reg b l d hl hi) (Ev.pos c (Ev.bind0 (spec_in _ _ _) (Ev.pos (decide_eq_true c1) (Ev.bind0 (spec_in _ _ _) (Ev.step (fun k => spec_RedressFor.j0.eq_2 ..) (Ev.neg (by rw [decide_eq_true c2]; simp) (Ev.neg c3 h1)))))))
          · unfold impl_RedressFor.f
            refine Ev.bind (impl_reg b l d hl hi) (Ev.pos c (Ev.bind0 (impl_in _ _ _) (Ev.pos (decide_eq_true c1) (Ev.bind0 (impl_in _ _ _) (Ev.step (fun k => impl_RedressFor.j0.eq_2 ..) (Ev.neg (by rw [decide_eq_true c2]; simp) (Ev.neg c3 h2)))))))
      · refine ⟨vo, ?_, ?_⟩
        · unfold spec_RedressFor.f
          refine Ev.bind (spec_reg b l d hl hi) (Ev.pos c (Ev.bind0 (spec_in _ _ _) (Ev.pos (decide_eq_true c1) (Ev.bind0 (spec_in _ _ _) ?_))))
          rw [decide_eq_false c2]; exact ho1
        · unfold impl_RedressFor.f
          refine Ev.bind (impl_reg b l d hl hi) (Ev.pos c (Ev.bind0 (impl_in _ _ _) (Ev.pos (decide_eq_true c1) (Ev.bind0 (impl_in _ _ _) ?_))))
          rw [decide_eq_false c2]; exact ho2
    · refine ⟨vo, ?_, ?_⟩
      · unfold spec_RedressFor.f
        exact Ev.bind (spec_reg b l d hl hi) (Ev.pos c (Ev.bind0 (spec_in _ _ _) (Ev.neg (by rw [decide_eq_false c1]; simp) ho1)))
      · unfold impl_RedressFor.f
        exact Ev.bind (impl_reg b l d hl hi) (Ev.pos c (Ev.bind0 (impl_in _ _ _) (Ev.neg (by rw [decide_eq_false c1]; simp) ho2)))
  · refine ⟨vo, ?_, ?_⟩
    · unfold spec_RedressFor.f
      exact Ev.bind (spec_reg b l d hl hi) (Ev.neg c ho1)
    · unfold impl_RedressFor.f
      exact Ev.bind (impl_reg b l d hl hi) (Ev.neg c ho2)
theorem FnExactRedressFor.pure : ∀ (a0_0 : Int) (l0_1 : List (List Int)) (a0_2 : Int) (a1 : Int) (a2 : Int), (Lit.int .i64 a0_0).wf = true → (l0_1.length ≤ maxLen ∧ ∀ y ∈ l0_1, (y.length ≤ maxLen ∧ ∀ yy ∈ y, (Lit.int .i64 yy).wf = true)) → (Lit.int .i64 a0_2).wf = true → (Lit.int .i64 a1).wf = true → (Lit.int .i64 a2).wf = true → ∃ k, laws_FnExactRedressFor.f k a0_0 l0_1 a0_2 a1 a2 = some true := by
  intro b l d x y _ hl _ _ _
  refine Ev.rounds (g := fun k => laws_FnExactRedressFor.f k b l d x y) ?_
  obtain ⟨r, hr, hc⟩ := szReg_tells b l d hl.1 (fun y hy => (hl.2 y hy).1)
  by_cases c : r < 0
  · exact Ev.bind hr (Ev.pos c (Ev.now _))
  obtain ⟨hb, hi⟩ := hc.resolve_left c
  have h1 := toReg_same b l d hb hi
  have h2 := eqReg_self b l d hb hi
  obtain ⟨v, h3, h4⟩ := red_same b l d x y hb hi
  unfold laws_FnExactRedressFor.f
  repeat (first
    | exact Ev.now _
    | (with_reducible refine Ev.bind hr ?_)
    | (with_reducible refine Ev.bind h1 ?_)
    | (with_reducible refine Ev.bind h2 ?_)
    | (with_reducible refine Ev.bind h3 ?_)
    | (with_reducible refine Ev.bind h4 ?_)
    | refine Ev.neg (by first | assumption | omega | exact bnot_ne_self) ?_
    | refine Ev.pos (by first | assumption | rfl | omega) ?_)
end Go.Proofs.Ytipojkfkcelejaa.X
