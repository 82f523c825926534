/- The pure part of the law FnExactSameSent: what program and reference compute is the same. Conditions: those of the row. -/
import Derived.Test.YtmpealaejigbfaaLawInt
import Derived.Test.YtmpealaejigbfaaLawSz
import Derived.Test.YtmpealaejigbfaaLawHas
import Derived.Test.YtmpealaejigbfaaX5
namespace Go.Proofs.Ytmpealaejigbfaa.X
set_option linter.unusedVariables false
set_option linter.unusedSimpArgs false
open Go.RowKit Go.Proofs.YtmpealaejigbfaaW.PrintWords Go.Proofs.Ytmpealaejigbfaa.PK
theorem szSent_tells (a : Int) (l : List Int) (n : Int) (h0 : 0 ≤ n) (h1 : n ≤ 4611686018427387904) (hl : l.length ≤ maxLen) : ∃ r, laws_szSent.f a l n = some r ∧ (r < 0 ∨ (0 ≤ r ∧ r ≤ n ∧ (l.length : Int) ≤ n)) := by
  obtain ⟨r, hr⟩ := szIntS_some l n
  unfold laws_szSent.f
  rw [hr, Option.bind_some]
  rcases szIntS_le l n r h0 h1 hl hr with h | ⟨h, h'⟩
  · rw [if_pos (by omega)]; exact ⟨_, rfl, by omega⟩
  · rw [if_neg (by omega)]; exact ⟨_, rfl, by omega⟩
theorem toSent_same (a : Int) (l : List Int) (hb : l.length ≤ 35184372088832) : Ev (fun k => laws_toSent.f k a l) (a, l) := Ev.bind (toIntS_same l hb) (Ev.now _)
theorem eqSent_self (a : Int) (l : List Int) (hb : l.length ≤ 35184372088832) : Ev (fun k => laws_eqSent.f k a l a l) true := by
  unfold laws_eqSent.f
  exact Ev.pos rfl (Ev.bind (eqIntS_self l (by omega)) (Ev.pos rfl (Ev.now _)))
theorem spec_list (a b : List Int) (ha : a.length ≤ 35184372088832) (hb : b.length ≤ 35184372088832) : Ev (fun k => spec_l21List.f k a b) (decide (a = b)) := by
  unfold spec_l21List.f
  by_cases c : a.length = b.length
  · refine Ev.pos (by omega) ?_
    refine Ev.rows (fun i k => spec_l21List.l0 k b a (a.length : Int) (i : Int)) a b c (fun i h h' e r hr => ?_) (fun i h h' e => ?_) ?_
    · refine Ev.step (fun k => spec_l21List.l0.eq_2 ..) (Ev.pos (by omega) (Ev.pos (by omega) (Ev.pos (by omega) (Ev.pos (by omega) (Ev.pos (by rw [rd_nat h, rd_nat h']; exact e) ?_)))))
      rw [w64s (by omega)]; exact hr
    · exact Ev.step (fun k => spec_l21List.l0.eq_2 ..) (Ev.pos (by omega) (Ev.pos (by omega) (Ev.pos (by omega) (Ev.pos (by omega) (Ev.neg (by rw [rd_nat h, rd_nat h']; exact e) (Ev.now _))))))
    · exact Ev.step (fun k => spec_l21List.l0.eq_2 ..) (Ev.neg (by omega) (Ev.now _))
  · rw [decide_eq_false (fun e => c (by rw [e]))]
    exact Ev.neg (by omega) (Ev.now _)
theorem impl_list (a b : List Int) (ha : a.length ≤ 35184372088832) (hb : b.length ≤ 35184372088832) : Ev (fun k => slices_Equal_int_int.f k a b) (decide (a = b)) := by
  unfold slices_Equal_int_int.f
  by_cases c : a.length = b.length
  · refine Ev.pos (by omega) ?_
    refine Ev.rows (fun i k => slices_Equal_int_int.l0 k a b (a.length : Int) (i : Int)) a b c (fun i h h' e r hr => ?_) (fun i h h' e => ?_) ?_
    · refine Ev.step (fun k => slices_Equal_int_int.l0.eq_2 ..) (Ev.pos (by omega) (Ev.pos (by omega) (Ev.pos (by omega) (Ev.pos (by omega) (Ev.pos (by rw [rd_nat h, rd_nat h']; exact e) ?_)))))
      rw [w64s (by omega)]; exact hr
    · exact Ev.step (fun k => slices_Equal_int_int.l0.eq_2 ..) (Ev.pos (by omega) (Ev.pos (by omega) (Ev.pos (by omega) (Ev.pos (by omega) (Ev.neg (by rw [rd_nat h, rd_nat h']; exact e) (Ev.now _))))))
    · exact Ev.step (fun k => slices_Equal_int_int.l0.eq_2 ..) (Ev.neg (by omega) (Ev.now _))
  · rw [decide_eq_false (fun e => c (by rw [e]))]
    exact Ev.neg (by omega) (Ev.now _)
def sameB (a : Int) (l : List Int) (b : Int) (m : List Int) : Bool := decide (a = b) && decide (l = m)
theorem spec_same (a : Int) (l : List Int) (b : Int) (m : List Int) (hl : l.length ≤ 35184372088832) (hm : m.length ≤ 35184372088832) : Ev (fun k => spec_SameSent.f k a l b m) (sameB a l b m) := by
  unfold spec_SameSent.f sameB
  by_cases c : a = b
  · rw [decide_eq_true c, Bool.true_and]
    exact Ev.pos c (Ev.bind (spec_list l m hl hm) (Ev.now _))
  · rw [decide_eq_false c, Bool.false_and]
    exact Ev.neg c (Ev.now _)
theorem impl_same (a : Int) (l : List Int) (b : Int) (m : List Int) (hl : l.length ≤ 35184372088832) (hm : m.length ≤ 35184372088832) : Ev (fun k => impl_SameSent.f k a l b m) (sameB a l b m) := by
  unfold impl_SameSent.f sameB
  by_cases c : a = b
  · rw [decide_eq_true c, Bool.true_and]
    exact Ev.pos c (Ev.bind (impl_list l m hl hm) (Ev.now _))
  · rw [decide_eq_false c, Bool.false_and]
    exact Ev.neg c (Ev.now _)
theorem FnExactSameSent.pure : ∀ (a0_0 : Int) (l0_1 : List Int) (a1_0 : Int) (l1_1 : List Int), (Lit.int .i64 a0_0).wf = true → (l0_1.length ≤ maxLen ∧ ∀ y ∈ l0_1, (Lit.int .i64 y).wf = true) → (Lit.int .i64 a1_0).wf = true → (l1_1.length ≤ maxLen ∧ ∀ y ∈ l1_1, (Lit.int .i64 y).wf = true) → ∃ k, laws_FnExactSameSent.f k a0_0 l0_1 a1_0 l1_1 = some true := by
  intro a l b m _ hl _ hm
  refine Ev.rounds (g := fun k => laws_FnExactSameSent.f k a l b m) ?_
  obtain ⟨r, hr, hc⟩ := szSent_tells a l 1048576 (by omega) (by omega) hl.1
  by_cases c : r < 0
  · exact Ev.bind0 hr (Ev.pos c (Ev.now _))
  obtain ⟨s, hs, hd⟩ := szSent_tells b m r (by omega) (by omega) hm.1
  by_cases d : s < 0
  · exact Ev.bind0 hr (Ev.neg c (Ev.bind0 hs (Ev.pos d (Ev.now _))))
  have h1 := toSent_same a l (by omega)
  have h2 := toSent_same b m (by omega)
  have h3 := eqSent_self a l (by omega)
  have h4 := eqSent_self b m (by omega)
  have h5 := spec_same a l b m (by omega) (by omega)
  have h6 := impl_same a l b m (by omega) (by omega)
  unfold laws_FnExactSameSent.f
  repeat (first
    | exact Ev.now _
    | (with_reducible refine Ev.bind0 hr ?_)
    | (with_reducible refine Ev.bind0 hs ?_)
    | (with_reducible refine Ev.bind h1 ?_)
    | (with_reducible refine Ev.bind h2 ?_)
    | (with_reducible refine Ev.bind h3 ?_)
    | (with_reducible refine Ev.bind h4 ?_)
    | (with_reducible refine Ev.bind h5 ?_)
    | (with_reducible refine Ev.bind h6 ?_)
    | refine Ev.neg (by first | assumption | omega | exact bnot_ne_self) ?_
    | refine Ev.pos (by first | assumption | rfl | omega) ?_)
end Go.Proofs.Ytmpealaejigbfaa.X
