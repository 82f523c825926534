/- What slices.DeleteFunc leaves of a row: the elements that the function doesn't fit. No condition. -/
import Derived.Test.YtaopcamaceddnaaPK
import Derived.Test.YtaopcamaceddnaaY11
namespace Go.Proofs.Ytaopcamaceddnaa.Y
set_option linter.unusedVariables false
set_option linter.unusedSimpArgs false
open Go.RowKit Go.Proofs.YtaopcamaceddnaaW.PrintWords Go.Proofs.Ytaopcamaceddnaa.PK
theorem slices_DeleteFunc_int_int_impl_SwapGains_1.del_tells (p : Nat → Int → Option Bool) (t : Int → Bool) (xs : List Int) (hp : ∀ x ∈ xs, Ev (fun k => p k x) (t x)) : Ev (fun k => slices_DeleteFunc_int_int_impl_SwapGains_1.del p k xs) (xs.filter (fun x => !t x)) := by
  have hix := down (g := fun i => ∃ r : Int, Ev (fun k => slices_DeleteFunc_int_int_impl_SwapGains_1.ix p k xs i) r ∧ ((r = -1 ∧ ∀ j (h : j < xs.length), i ≤ j → t xs[j] = false) ∨ ∃ m, ∃ hm : m < xs.length, i ≤ m ∧ r = (m : Int) ∧ t xs[m] = true ∧ ∀ j (h : j < xs.length), i ≤ j → j < m → t xs[j] = false)) (n := xs.length) (fun i h hn => by
    have hg : xs.getD i 0 = xs[i] := by simp [List.getD_eq_getElem?_getD, h]
    have hpi := hp _ (List.getElem_mem h)
    rw [← hg] at hpi
    cases ht : t xs[i] with
    | true =>
      refine ⟨(i : Int), Ev.step (fun k => slices_DeleteFunc_int_int_impl_SwapGains_1.ix.eq_2 ..) (Ev.pos h (Ev.bind hpi (Ev.pos (by rw [hg]; exact ht) (Ev.now _)))), .inr ⟨i, h, Nat.le_refl _, rfl, ht, fun j _ h1 h2 => by omega⟩⟩
    | false =>
      obtain ⟨r, h1, h2⟩ := hn
      refine ⟨r, Ev.step (fun k => slices_DeleteFunc_int_int_impl_SwapGains_1.ix.eq_2 ..) (Ev.pos h (Ev.bind hpi (Ev.neg (by rw [hg, ht]; simp) h1))), ?_⟩
      rcases h2 with ⟨e, ha⟩ | ⟨m, hm, h3, e, h4, ha⟩
      · refine .inl ⟨e, fun j hj hij => ?_⟩
        by_cases c : j = i
        · subst c; exact ht
        · exact ha j hj (by omega)
      · refine .inr ⟨m, hm, by omega, e, h4, fun j hj hij hjm => ?_⟩
        by_cases c : j = i
        · subst c; exact ht
        · exact ha j hj (by omega) hjm) ⟨-1, Ev.step (fun k => slices_DeleteFunc_int_int_impl_SwapGains_1.ix.eq_2 ..) (Ev.neg (by omega) (Ev.now _)), .inl ⟨rfl, fun j hj hij => by omega⟩⟩ xs.length 0 (by omega)
  have key := down (g := fun j => ∀ (ys : List Int) (i : Nat), ys.length = xs.length → i < j → ys.take i = (xs.take j).filter (fun x => !t x) → ys.drop j = xs.drop j → Ev (fun k => slices_DeleteFunc_int_int_impl_SwapGains_1.dl p k ys i j) (xs.filter (fun x => !t x))) (n := xs.length) (fun j h hn ys i hl hi ht hd => by
    have h' : j < ys.length := by omega
    have hg : ys.getD j 0 = xs[j] := by
      rw [List.drop_eq_getElem_cons h, List.drop_eq_getElem_cons h'] at hd
      rw [← (List.cons.inj hd).1]
      simp [List.getD_eq_getElem?_getD, h']
    have hd' : ys.drop (j + 1) = xs.drop (j + 1) := by
      rw [List.drop_eq_getElem_cons h, List.drop_eq_getElem_cons h'] at hd
      exact (List.cons.inj hd).2
    refine Ev.step (fun k => slices_DeleteFunc_int_int_impl_SwapGains_1.dl.eq_2 ..) (Ev.pos h' ?_)
    rw [hg]
    refine Ev.bind (hp _ (List.getElem_mem h)) ?_
    cases hq : t xs[j] with
    | true =>
      exact Ev.pos rfl (hn ys i hl (by omega) (by rw [take_snoc xs j h, List.filter_append, ht]; simp [hq]) hd')
    | false =>
      refine Ev.neg (by simp) (Ev.pos (by omega) (hn (ys.set i xs[j]) (i + 1) (by simpa using hl) (by omega) ?_ ?_))
      · rw [take_snoc xs j h, List.filter_append, ← ht, take_snoc _ i (by simp; omega), List.take_set, List.set_eq_of_length_le (by rw [List.length_take]; omega)]
        simp [hq]
      · rw [List.drop_set_of_lt (by omega)]; exact hd') (fun ys i hl hi ht hd => by
    refine Ev.step (fun k => slices_DeleteFunc_int_int_impl_SwapGains_1.dl.eq_2 ..) (Ev.neg (by omega) (Ev.pos (by omega) ?_))
    rw [ht, List.take_of_length_le (Nat.le_refl _)]
    exact Ev.now _)
  obtain ⟨r, h1, h2⟩ := hix
  refine Ev.bind h1 ?_
  rcases h2 with ⟨rfl, ha⟩ | ⟨m, hm, _, rfl, h4, ha⟩
  · have e : xs.filter (fun x => !t x) = xs := by
      rw [List.filter_eq_self]
      intro x hx
      obtain ⟨j, hj, rfl⟩ := List.mem_iff_getElem.1 hx
      simp [ha j hj (by omega)]
    rw [e]
    exact Ev.pos rfl (Ev.now _)
  · refine Ev.neg (by omega) (Ev.pos (by omega) ?_)
    rw [Int.toNat_natCast]
    refine key (xs.length - (m + 1)) (m + 1) (by omega) xs m rfl (by omega) ?_ rfl
    rw [take_snoc xs m hm, List.filter_append]
    have e : (xs.take m).filter (fun x => !t x) = xs.take m := by
      rw [List.filter_eq_self]
      intro x hx
      obtain ⟨j, hj, rfl⟩ := List.mem_iff_getElem.1 hx
      simp only [List.length_take] at hj
      rw [List.getElem_take]
      simp [ha j (by omega) (by omega) (by omega)]
    rw [e]
    simp [h4]
end Go.Proofs.Ytaopcamaceddnaa.Y
