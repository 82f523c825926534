/- The pure part of the law FnSwaps: whoever gains by an exchange is one of the next teams, and did not qualify before. Conditions: those of the row. -/
import Derived.Test.YtaopcamaceddnaaDrawC
import Derived.Test.YtaopcamaceddnaaSwapA
import Derived.Test.YtaopcamaceddnaaContO
import Derived.Test.YtaopcamaceddnaaY6
import Derived.Test.YtaopcamaceddnaaY12
namespace Go.Proofs.Ytaopcamaceddnaa.Y
set_option linter.unusedVariables false
set_option linter.unusedSimpArgs false
open Go.RowKit Go.Proofs.YtaopcamaceddnaaW.PrintWords Go.Proofs.Ytaopcamaceddnaa.PK
theorem has_tells (l : List Int) (x : Int) (hl : l.length ≤ 1048576) : Ev (fun k => laws_has.f k l x) (hasB l x) := by
  refine Ev.some_ (fun i k => laws_has.l0 k x l (l.length : Int) (i : Int)) l _ (fun i h e r hr => ?_) (fun i h e => ?_) ?_
  · refine Ev.step (fun k => laws_has.l0.eq_2 ..) (Ev.pos (by omega) (Ev.pos (by omega) (Ev.pos (by omega) (Ev.neg (by rw [rd_nat h]; exact of_decide_eq_false e) ?_))))
    rw [w64s (by omega)]; exact hr
  · exact Ev.step (fun k => laws_has.l0.eq_2 ..) (Ev.pos (by omega) (Ev.pos (by omega) (Ev.pos (by omega) (Ev.pos (by rw [rd_nat h]; exact of_decide_eq_true e) (Ev.now _)))))
  · exact Ev.step (fun k => laws_has.l0.eq_2 ..) (Ev.neg (by omega) (Ev.now _))
theorem firstI_low (t : Int) : ∀ (l : List (List Int)) (i : Nat), firstI t l i = -1 ∨ 0 ≤ firstI t l i
  | [], i => .inl rfl
  | q :: r, i => by
    unfold firstI
    split
    · exact .inr (by omega)
    · exact firstI_low t r (i + 1)
theorem con_neg {n : Int} {l : List C1} {t : Int} (h : conOf n l t < 0) : conOf n l t = -1 := by
  rcases firstI_low t (outsC n l) 0 with h' | h'
  · exact h'
  · unfold conOf at h; omega
theorem firstO_tells (n : Int) (l : List C1) : ∀ (o : List Int), (firstO n l o = -1 ∧ ∀ t ∈ o, 0 ≤ t → ¬ conOf n l t < 0) ∨ (firstO n l o ∈ o ∧ conOf n l (firstO n l o) < 0)
  | [] => .inl ⟨rfl, fun t ht => by cases ht⟩
  | t :: r => by
    unfold firstO
    by_cases c : conOf n l t < 0
    · rw [if_pos c]
      exact .inr ⟨List.mem_cons_self, c⟩
    · rw [if_neg c]
      rcases firstO_tells n l r with ⟨h1, h2⟩ | ⟨h1, h2⟩
      · refine .inl ⟨h1, fun u hu hu0 => ?_⟩
        rcases List.mem_cons.1 hu with rfl | hu
        · exact c
        · exact h2 u hu hu0
      · exact .inr ⟨List.mem_cons_of_mem _ h1, h2⟩
theorem gains_mem {N : Nat} {l : List C1} {c a : Int} {t : Int} (h : t ∈ gains (N : Int) l c a) : 0 ≤ t ∧ t < (N : Int) ∧ conOf (N : Int) l t = -1 := by
  unfold gains at h
  split at h
  · split at h
    · split at h
      · obtain ⟨h1, h2⟩ := List.mem_filter.1 h
        obtain ⟨j, hj, rfl⟩ := List.mem_iff_getElem.1 h1
        rw [marks_length, Int.toNat_natCast] at hj
        rw [marks_get _ _ _ (by rw [Int.toNat_natCast]; exact hj)] at h2 ⊢
        unfold gainT at h2
        simp only [Bool.not_eq_true', Bool.or_eq_false_iff, decide_eq_false_iff_not] at h2
        exact ⟨by omega, by omega, con_neg (by omega)⟩
      · cases h
    · cases h
  · cases h
theorem swaps_l2 (N : Nat) (l : List C1) (i : Nat) (f : Int) (a : Nat) (hl : l.length ≤ 1048576) (hi : ∀ y ∈ l, y.f0.length ≤ 1048576)
    (hn : Ev (fun k => laws_FnSwaps.l1 k (N : Int) l (i : Int) f (wrap64 ((a : Int) + 1)) l (l.length : Int) (i : Int)) true) :
    Ev (fun k => laws_FnSwaps.l2 k (N : Int) l (i : Int) f (a : Int) l (l.length : Int) (i : Int) (gains (N : Int) l (i : Int) (a : Int)) ((gains (N : Int) l (i : Int) (a : Int)).length : Int) 0) true := by
  have hg := gains_small (N : Int) l (i : Int) (a : Int) hl
  have hm : ∀ t ∈ gains (N : Int) l (i : Int) (a : Int), 0 ≤ t ∧ t < (N : Int) ∧ conOf (N : Int) l t = -1 := fun t ht => gains_mem ht
  generalize gains (N : Int) l (i : Int) (a : Int) = gs at hg hm
  have := Ev.iter (fun j k => laws_FnSwaps.l2 k (N : Int) l (i : Int) f (a : Int) l (l.length : Int) (i : Int) gs (gs.length : Int) (j : Int)) gs.length true (fun j hj hr => by
    obtain ⟨t0, t1, t2⟩ := hm _ (List.getElem_mem hj)
    refine Ev.step (fun k => laws_FnSwaps.l2.eq_2 ..) (Ev.pos (by omega) (Ev.pos (by omega) (Ev.pos (by omega) ?_)))
    rw [rd_nat hj, w64s (by omega)]
    exact Ev.neg (by omega) (Ev.neg (by omega) (Ev.bind (impl_con (N : Int) l _ hl hi) (Ev.pos t2 hr)))) (Ev.step (fun k => laws_FnSwaps.l2.eq_2 ..) (Ev.neg (by omega) hn))
  exact this
theorem swaps_one (N : Nat) (l : List C1) (i : Nat) (h : i < l.length) (h3 : 3 ≤ N) (h7 : N ≤ 7) (hl : l.length ≤ 4) (hi : ∀ y ∈ l, y.f0.length ≤ 1048576) (hg : Good (N : Int) l.length i l[i]) (hc : contsB (N : Int) l = true)
    (hn : Ev (fun k => laws_FnSwaps.l0 k (N : Int) l l (l.length : Int) ((i + 1 : Nat) : Int)) true) : Ev (fun k => laws_FnSwaps.l0 k (N : Int) l l (l.length : Int) (i : Int)) true := by
  have hw : wrap64 ((i : Int) + 1) = ((i + 1 : Nat) : Int) := w64s (by omega)
  have hf := impl_out (N : Int) l (i : Int) (by omega) hi
  have e : l.getD i zC = l[i] := by simp [List.getD_eq_getElem?_getD, h]
  have hfo : firstOut (N : Int) l (i : Int) = firstO (N : Int) l l[i].f0 := by
    unfold firstOut
    rw [if_pos hc, if_pos ⟨by omega, by rw [w64 (by omega) (by omega)]; omega⟩, Int.toNat_natCast, e]
  rw [hfo] at hf
  have hol : l[i].f0.length ≤ 8 := hg.len
  -- behind the first test
  have l1 : Ev (fun k => laws_FnSwaps.l1 k (N : Int) l (i : Int) (firstO (N : Int) l l[i].f0) 0 l (l.length : Int) (i : Int)) true := by
    have tail : ∀ (a : Nat), l[i].f0.length ≤ a + 1 → a ≤ 8 → Ev (fun k => laws_FnSwaps.l1 k (N : Int) l (i : Int) (firstO (N : Int) l l[i].f0) (a : Int) l (l.length : Int) (i : Int)) true := by
      intro a ha ha8
      refine Ev.step (fun k => laws_FnSwaps.l1.eq_2 ..) (Ev.pos (by omega) (Ev.pos (by omega) ?_))
      rw [rd1_nat h, hw]
      refine Ev.neg (by rw [w64 (by omega) (by omega)]; omega) ?_
      by_cases c1 : firstO (N : Int) l l[i].f0 = -1
      · refine Ev.pos c1 (Ev.pos (by have := hg.pos; omega) (Ev.pos (by have := hg.pos; omega) (Ev.bind (impl_con (N : Int) l _ (by omega) hi) (Ev.neg ?_ hn))))
        have hp : 0 < l[i].f0.length := hg.pos
        rw [show rd l[i].f0 0 = l[i].f0[0] from rd_nat (i := 0) hp]
        have hr := hg.rng _ (List.getElem_mem hp)
        rcases firstO_tells (N : Int) l l[i].f0 with ⟨_, q⟩ | ⟨q, _⟩
        · have := q _ (List.getElem_mem hp) hr.1
          omega
        · rw [c1] at q
          have := (hg.rng _ q).1
          omega
      · exact Ev.neg c1 hn
    by_cases c : l[i].f0.length ≤ 1
    · exact tail 0 c (by omega)
    · have := down (g := fun a => Ev (fun k => laws_FnSwaps.l1 k (N : Int) l (i : Int) (firstO (N : Int) l l[i].f0) (a : Int) l (l.length : Int) (i : Int)) true) (n := l[i].f0.length - 1) (fun a ha hr => by
        refine Ev.step (fun k => laws_FnSwaps.l1.eq_2 ..) (Ev.pos (by omega) (Ev.pos (by omega) ?_))
        rw [rd1_nat h]
        refine Ev.pos (by rw [w64 (by omega) (by omega)]; omega) (Ev.bind (impl_swap (N : Int) l (i : Int) (a : Int) (by omega) hi) ?_)
        refine swaps_l2 N l i _ a (by omega) hi ?_
        rw [w64s (by omega)]
        exact hr) (tail _ (by omega) (by omega)) (l[i].f0.length - 1) 0 (by omega)
      exact this
  have j1 : Ev (fun k => laws_FnSwaps.j1 k (N : Int) l (i : Int) (firstO (N : Int) l l[i].f0) l (l.length : Int) (i : Int) false) true := Ev.step (fun k => laws_FnSwaps.j1.eq_2 ..) (Ev.neg (by simp) l1)
  refine Ev.step (fun k => laws_FnSwaps.l0.eq_2 ..) (Ev.pos (by omega) (Ev.pos (by omega) (Ev.pos (by omega) (Ev.bind hf ?_))))
  by_cases c : firstO (N : Int) l l[i].f0 ≥ 0
  · refine Ev.pos c (Ev.bind (impl_con (N : Int) l _ (by omega) hi) ?_)
    rcases firstO_tells (N : Int) l l[i].f0 with ⟨q, _⟩ | ⟨q, q2⟩
    · omega
    · refine Ev.pos (con_neg q2) ?_
      rw [rd1_nat h]
      refine Ev.bind (has_tells _ _ (by omega)) ?_
      have hh : hasB l[i].f0 (firstO (N : Int) l l[i].f0) = true := by
        unfold hasB
        rw [List.any_eq_true]
        exact ⟨_, q, by simp⟩
      rw [hh]
      exact j1
  · exact Ev.neg c j1
theorem FnSwaps.pure : ∀ (l0 : List Int), (l0.length ≤ maxLen ∧ ∀ y ∈ l0, (Lit.int .u8 y).wf = true) → ∃ k, laws_FnSwaps.f k l0 = some true := by
  intro l0 hl0
  refine Ev.rounds (g := fun k => laws_FnSwaps.f k l0) ?_
  by_cases c0 : (l0.length : Int) > 1048576
  · exact Ev.pos c0 (Ev.now _)
  refine Ev.neg c0 ?_
  obtain ⟨N, l, hm, h3, h7, hl, hg, hc⟩ := make_tells l0 (by omega)
  have hi : ∀ y ∈ l, y.f0.length ≤ 1048576 := by
    intro y hy
    obtain ⟨j, hj, rfl⟩ := List.mem_iff_getElem.1 hy
    have := (hg j hj).len
    omega
  have hk := impl_conts (N : Int) l (by omega) hi
  rw [hc] at hk
  refine Ev.bind hm (Ev.bind hk (Ev.pos rfl ?_))
  exact Ev.iter (fun i k => laws_FnSwaps.l0 k (N : Int) l l (l.length : Int) (i : Int)) l.length true (fun i hi2 hr => swaps_one N l i hi2 h3 h7 hl hi (hg i hi2) hc hr) (Ev.step (fun k => laws_FnSwaps.l0.eq_2 ..) (Ev.neg (by omega) (Ev.now _)))
end Go.Proofs.Ytaopcamaceddnaa.Y
