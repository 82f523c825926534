/- Who gains by an exchange: program and reference tell the same list. Conditions: sizes of rows. -/
import Derived.Test.YtaopcamaceddnaaContC
import Derived.Test.YtaopcamaceddnaaDelSwap
import Derived.Test.YtaopcamaceddnaaY9
import Derived.Test.YtaopcamaceddnaaY10
import Derived.Test.YtaopcamaceddnaaY11
import Derived.Test.YtaopcamaceddnaaY23
import Derived.Test.YtaopcamaceddnaaY24
namespace Go.Proofs.Ytaopcamaceddnaa.Y
set_option linter.unusedVariables false
set_option linter.unusedSimpArgs false
open Go.RowKit Go.Proofs.YtaopcamaceddnaaW.PrintWords Go.Proofs.Ytaopcamaceddnaa.PK
def swapC (l : List C1) (c a : Nat) : List C1 := l.set c ⟨((l.getD c zC).f0.set a ((l.getD c zC).f0.getD (a + 1) 0)).set (a + 1) ((l.getD c zC).f0.getD a 0), (l.getD c zC).f1, (l.getD c zC).f2⟩
def gainT (n : Int) (l sw : List C1) (t : Int) : Bool := decide (conOf n sw t < 0) || decide (conOf n l t ≥ 0)
def gains (n : Int) (l : List C1) (c a : Int) : List Int :=
  if contsB n l = true then (if 0 ≤ c ∧ c ≤ wrap64 ((l.length : Int) - 1) then (if 0 ≤ a ∧ a ≤ wrap64 (((l.getD c.toNat zC).f0.length : Int) - 2) then (marks 0 n.toNat).filter (fun t => !gainT n l (swapC l c.toNat a.toNat) t) else []) else []) else []
theorem gains_small (n : Int) (l : List C1) (c a : Int) (hl : l.length ≤ 1048576) : (gains n l c a).length ≤ 8 := by
  unfold gains
  by_cases h1 : contsB n l = true
  · rw [if_pos h1]
    have hn : 2 ≤ n ∧ n ≤ 8 := by
      unfold contsB at h1
      simp only [Bool.and_eq_true, decide_eq_true_eq] at h1
      exact h1.2.1
    split
    · split
      · have := List.length_filter_le (fun t => !gainT n l (swapC l c.toNat a.toNat) t) (marks 0 n.toNat)
        rw [marks_length] at this
        omega
      · simp
    · simp
  · rw [if_neg h1]; simp
theorem swapC_small {l : List C1} {c a : Nat} (hl : l.length ≤ 1048576) (hi : ∀ y ∈ l, y.f0.length ≤ 1048576) (hc : c < l.length) : (swapC l c a).length ≤ 1048576 ∧ ∀ y ∈ swapC l c a, y.f0.length ≤ 1048576 := by
  refine ⟨by unfold swapC; rw [List.length_set]; exact hl, fun y hy => ?_⟩
  rcases List.mem_or_eq_of_mem_set hy with hy | rfl
  · exact hi y hy
  · show ((List.set _ _ _).set _ _).length ≤ _
    rw [List.length_set, List.length_set]
    have e : l.getD c zC = l[c] := by simp [List.getD_eq_getElem?_getD, hc]
    rw [e]
    exact hi _ (List.getElem_mem hc)
theorem upTo_tells (n : Nat) (hn : n ≤ 1048576) : Ev (fun k => impl_upTo.f k (n : Int)) (marks 0 n) := by
  have := Ev.iter (fun i k => impl_upTo.l0 k (marks 0 i) (n : Int) (i : Int)) n (marks 0 n) (fun i h hr => by
    refine Ev.step (fun k => impl_upTo.l0.eq_2 ..) (Ev.pos (by omega) (Ev.pos (by rw [marks_length]; omega) ?_))
    rw [marks_succ, Int.zero_add] at hr
    rw [w64s (by omega)]
    exact hr) (Ev.step (fun k => impl_upTo.l0.eq_2 ..) (Ev.neg (by omega) (Ev.now _)))
  unfold impl_upTo.f
  rw [show mx (n : Int) 0 = (n : Int) by unfold mx; omega]
  exact this
theorem gain_one (n : Int) (l sw : List C1) (t : Int) (hl : l.length ≤ 1048576) (hi : ∀ y ∈ l, y.f0.length ≤ 1048576) (hl' : sw.length ≤ 1048576) (hi' : ∀ y ∈ sw, y.f0.length ≤ 1048576) : Ev (fun k => impl_SwapGains_1.f k t n sw l) (gainT n l sw t) := by
  unfold impl_SwapGains_1.f gainT
  refine Ev.bind (impl_con n sw t hl' hi') ?_
  by_cases c : conOf n sw t < 0
  · rw [decide_eq_true c, Bool.true_or]; exact Ev.pos c (Ev.now _)
  · rw [decide_eq_false c, Bool.false_or]; exact Ev.neg c (Ev.bind (impl_con n l t hl hi) (Ev.now _))
theorem nOf {n : Int} {l : List C1} (h1 : contsB n l = true) : ∃ N : Nat, n = (N : Int) ∧ 2 ≤ N ∧ N ≤ 8 := by
  unfold contsB at h1
  simp only [Bool.and_eq_true, decide_eq_true_eq] at h1
  exact ⟨n.toNat, by omega, by omega, by omega⟩
theorem clone_c (l : List C1) (hl : l.length ≤ 1048576) : impl_Contest.f l = some l := by
  unfold impl_Contest.f
  rw [Option.bind_some, if_pos (by rw [List.length_nil]; omega), List.nil_append]
theorem clone_i (l : List Int) (hl : l.length ≤ 1048576) : slices_Clone_int_int.f l = some l := by
  unfold slices_Clone_int_int.f
  rw [Option.bind_some, if_pos (by rw [List.length_nil]; omega), List.nil_append]
theorem impl_swap (n : Int) (l : List C1) (c a : Int) (hl : l.length ≤ 1048576) (hi : ∀ y ∈ l, y.f0.length ≤ 1048576) : Ev (fun k => impl_SwapGains.f k n l c a) (gains n l c a) := by
  have hno : Ev (fun k => impl_SwapGains.j0 k c a true n l) [] := Ev.step (fun k => impl_SwapGains.j0.eq_2 ..) (Ev.pos rfl (Ev.now _))
  unfold impl_SwapGains.f gains
  refine Ev.bind (impl_conts n l hl hi) ?_
  by_cases h1 : contsB n l = true
  · rw [if_pos h1]
    refine Ev.pos h1 (Ev.bind0 (impl_in _ _ _) ?_)
    obtain ⟨N, hN, N0, N1⟩ := nOf h1
    by_cases h2 : 0 ≤ c ∧ c ≤ wrap64 ((l.length : Int) - 1)
    · rw [if_pos h2, decide_eq_true h2]
      rw [w64 (by omega) (by omega)] at h2
      obtain ⟨i, rfl⟩ := Int.eq_ofNat_of_zero_le h2.1
      have h : i < l.length := by omega
      have e : l.getD i zC = l[i] := by simp [List.getD_eq_getElem?_getD, h]
      have hm := hi _ (List.getElem_mem h)
      have hm' : (l.getD i zC).f0.length ≤ 1048576 := by rw [e]; exact hm
      refine Ev.pos rfl (Ev.pos (by omega) (Ev.pos (by omega) (Ev.bind0 (impl_in _ _ _) ?_)))
      rw [rd1_D h, Int.toNat_natCast]
      by_cases h3 : 0 ≤ a ∧ a ≤ wrap64 (((l.getD i zC).f0.length : Int) - 2)
      · rw [if_pos h3, decide_eq_true h3]
        rw [w64 (by omega) (by omega)] at h3
        obtain ⟨j, rfl⟩ := Int.eq_ofNat_of_zero_le h3.1
        have hj : j + 1 < (l.getD i zC).f0.length := by omega
        have hw : wrap64 ((j : Int) + 1) = ((j + 1 : Nat) : Int) := w64s (by omega)
        refine Ev.step (fun k => impl_SwapGains.j0.eq_2 ..) (Ev.neg (by simp) (Ev.bind0 (clone_c l hl) (Ev.pos (by omega) (Ev.pos (by omega) ?_))))
        rw [rd1_D h, hw]
        refine Ev.bind0 (clone_i _ hm') (Ev.pos (by omega) (Ev.pos (by omega) (Ev.pos (by omega) (Ev.pos (by omega) (Ev.pos (by omega) ?_)))))
        subst hN
        rw [Int.toNat_natCast, Int.toNat_natCast, Int.toNat_natCast, rd_D hj, rd_D (by omega)]
        refine Ev.bind (upTo_tells N (by omega)) (Ev.bind (Ev.pos (by rw [marks_length]; omega) ?_) (Ev.now _))
        exact slices_DeleteFunc_int_int_impl_SwapGains_1.del_tells _ (gainT (N : Int) l (swapC l i j)) _ (fun t ht => gain_one (N : Int) l (swapC l i j) t hl hi (swapC_small hl hi h).1 (swapC_small hl hi h).2)
      · rw [if_neg h3, decide_eq_false h3]
        exact hno
    · rw [if_neg h2, decide_eq_false h2]
      exact Ev.neg (by simp) hno
  · rw [if_neg h1]
    exact Ev.neg h1 hno
theorem spec_copy (l : List C1) (hl : l.length ≤ 1048576) (hi : ∀ y ∈ l, y.f0.length ≤ 1048576) : Ev (fun k => spec_l20Copy.f k l) l := by
  have := Ev.iter (fun i k => spec_l20Copy.l0 k (l.take i) l (l.length : Int) (i : Int)) l.length l (fun i h hr => by
    have hm := hi _ (List.getElem_mem h)
    refine Ev.step (fun k => spec_l20Copy.l0.eq_2 ..) (Ev.pos (by omega) (Ev.pos (by omega) (Ev.pos (by omega) (Ev.bind0 (a := []) rfl ?_))))
    rw [rd1_nat h, w64s (by omega)]
    refine Ev.pos (by rw [List.length_nil]; omega) (Ev.pos (by rw [List.length_take]; omega) ?_)
    rw [List.nil_append]
    rw [take_snoc l i h] at hr
    exact hr) (Ev.step (fun k => spec_l20Copy.l0.eq_2 ..) (by rw [List.take_length]; exact Ev.neg (by omega) (Ev.now _)))
  exact this
theorem spec_swap (n : Int) (l : List C1) (c a : Int) (hl : l.length ≤ 1048576) (hi : ∀ y ∈ l, y.f0.length ≤ 1048576) : Ev (fun k => spec_SwapGains.f k n l c a) (gains n l c a) := by
  have hno : Ev (fun k => spec_SwapGains.j0 k n l c a true) [] := Ev.step (fun k => spec_SwapGains.j0.eq_2 ..) (Ev.pos rfl (Ev.now _))
  unfold spec_SwapGains.f gains
  refine Ev.bind (spec_conts n l hl hi) ?_
  by_cases h1 : contsB n l = true
  · rw [if_pos h1]
    refine Ev.pos h1 (Ev.bind0 (spec_in _ _ _) ?_)
    obtain ⟨N, hN, N0, N1⟩ := nOf h1
    by_cases h2 : 0 ≤ c ∧ c ≤ wrap64 ((l.length : Int) - 1)
    · rw [if_pos h2, decide_eq_true h2]
      rw [w64 (by omega) (by omega)] at h2
      obtain ⟨i, rfl⟩ := Int.eq_ofNat_of_zero_le h2.1
      have h : i < l.length := by omega
      have e : l.getD i zC = l[i] := by simp [List.getD_eq_getElem?_getD, h]
      have hm := hi _ (List.getElem_mem h)
      have hm' : (l.getD i zC).f0.length ≤ 1048576 := by rw [e]; exact hm
      refine Ev.pos rfl (Ev.pos (by omega) (Ev.pos (by omega) (Ev.bind0 (spec_in _ _ _) ?_)))
      rw [rd1_D h, Int.toNat_natCast]
      by_cases h3 : 0 ≤ a ∧ a ≤ wrap64 (((l.getD i zC).f0.length : Int) - 2)
      · rw [if_pos h3, decide_eq_true h3]
        rw [w64 (by omega) (by omega)] at h3
        obtain ⟨j, rfl⟩ := Int.eq_ofNat_of_zero_le h3.1
        have hj : j + 1 < (l.getD i zC).f0.length := by omega
        have hw : wrap64 ((j : Int) + 1) = ((j + 1 : Nat) : Int) := w64s (by omega)
        refine Ev.step (fun k => spec_SwapGains.j0.eq_2 ..) (Ev.neg (by simp) (Ev.bind (spec_copy l hl hi) ?_))
        rw [rd1_D h, hw, Int.toNat_natCast, Int.toNat_natCast, Int.toNat_natCast, rd_D hj, rd_D (by omega)]
        refine Ev.pos (by omega) (Ev.pos (by omega) (Ev.pos (by omega) (Ev.pos (by omega) (Ev.pos (by omega) (Ev.pos (by omega) (Ev.bind0 rfl ?_))))))
        have hr : rd_T38 (l.set i (⟨(l.getD i zC).f0.set j ((l.getD i zC).f0.getD (j + 1) 0), (l.getD i zC).f1, (l.getD i zC).f2⟩ : C1)) (i : Int) = ⟨(l.getD i zC).f0.set j ((l.getD i zC).f0.getD (j + 1) 0), (l.getD i zC).f1, (l.getD i zC).f2⟩ := by
          rw [rd1_nat (by rw [List.length_set]; exact h), List.getElem_set_self]
        rw [hr]
        refine Ev.pos (by show _ < (((l.getD i zC).f0.set j _).length : Int); rw [List.length_set]; omega) ?_
        rw [List.set_set]
        subst hN
        have hsm := swapC_small (a := j) hl hi h
        have lp := Ev.iter (fun m k => spec_SwapGains.l0 k (N : Int) l (swapC l i j) ((marks 0 m).filter (fun t => !gainT (N : Int) l (swapC l i j) t)) (m : Int)) N ((marks 0 N).filter (fun t => !gainT (N : Int) l (swapC l i j) t)) (fun m hm2 hq => by
          rw [marks_succ, List.filter_append, Int.zero_add] at hq
          have hle := List.length_filter_le (fun t => !gainT (N : Int) l (swapC l i j) t) (marks 0 m)
          rw [marks_length] at hle
          refine Ev.step (fun k => spec_SwapGains.l0.eq_2 ..) (Ev.pos (by omega) (Ev.bind (spec_con (N : Int) l (m : Int) hl hi) ?_))
          rw [w64s (by omega)]
          by_cases c1 : conOf (N : Int) l (m : Int) < 0
          · refine Ev.pos c1 (Ev.bind (spec_con (N : Int) (swapC l i j) (m : Int) hsm.1 hsm.2) ?_)
            by_cases c2 : conOf (N : Int) (swapC l i j) (m : Int) ≥ 0
            · refine Ev.pos c2 (Ev.pos (by omega) ?_)
              have eg : gainT (N : Int) l (swapC l i j) (m : Int) = false := by unfold gainT; rw [decide_eq_false (by omega), decide_eq_false (by omega)]; rfl
              rw [List.filter_cons, eg] at hq
              exact hq
            · refine Ev.neg c2 ?_
              have eg : gainT (N : Int) l (swapC l i j) (m : Int) = true := by unfold gainT; rw [decide_eq_true (show conOf (N : Int) (swapC l i j) (m : Int) < 0 by omega)]; rfl
              rw [List.filter_cons, eg] at hq
              simpa using hq
          · refine Ev.neg c1 ?_
            have eg : gainT (N : Int) l (swapC l i j) (m : Int) = true := by unfold gainT; rw [decide_eq_true (show conOf (N : Int) l (m : Int) ≥ 0 by omega), Bool.or_true]
            rw [List.filter_cons, eg] at hq
            simpa using hq) (Ev.step (fun k => spec_SwapGains.l0.eq_2 ..) (Ev.neg (by omega) (Ev.now _)))
        exact lp
      · rw [if_neg h3, decide_eq_false h3]
        exact hno
    · rw [if_neg h2, decide_eq_false h2]
      exact Ev.neg (by simp) hno
  · rw [if_neg h1]
    exact Ev.neg h1 hno
end Go.Proofs.Ytaopcamaceddnaa.Y
