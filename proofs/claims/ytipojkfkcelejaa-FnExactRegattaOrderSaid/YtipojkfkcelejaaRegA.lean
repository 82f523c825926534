/- Races: what the tests of the reference and of the program tell. Conditions: sizes. -/
import Derived.Test.YtipojkfkcelejaaRegS
import Derived.Test.YtipojkfkcelejaaLawHas
import Derived.Test.YtipojkfkcelejaaX1
import Derived.Test.YtipojkfkcelejaaX2
import Derived.Test.YtipojkfkcelejaaX3
import Derived.Test.YtipojkfkcelejaaX4
import Derived.Test.YtipojkfkcelejaaX5
import Derived.Test.YtipojkfkcelejaaX12
import Derived.Test.YtipojkfkcelejaaX13
namespace Go.Proofs.Ytipojkfkcelejaa.X
set_option linter.unusedVariables false
set_option linter.unusedSimpArgs false
open Go.RowKit Go.Proofs.YtipojkfkcelejaaW.PrintWords Go.Proofs.Ytipojkfkcelejaa.PK
theorem less_tells (a b : Int) : cmp_Less_int.f a b = some (decide (a < b)) := by
  simp [cmp_Less_int.f, cmp_isNaN_int.f]
theorem set_two {α : Type} (A : List α) (u v : α) (B : List α) : ((A ++ u :: v :: B).set (A.length + 1) u).set A.length v = A ++ v :: u :: B := by
  rw [show A ++ u :: v :: B = (A ++ [u]) ++ v :: B by simp, show A.length + 1 = (A ++ [u]).length by simp, set_mid _ _ _ _ _ rfl]
  rw [show A ++ [u] ++ [u] ++ B = A ++ u :: (u :: B) by simp, set_mid A u v _ _ rfl]
  simp
theorem rd_two_v (A : List Int) (u v : Int) (B : List Int) : rd (A ++ u :: v :: B) ((A.length + 1 : Nat) : Int) = v := by
  rw [rd_nat (by simp)]
  simp [List.getElem_append_right]
theorem rd_two_u (A : List Int) (u v : Int) (B : List Int) : rd (A ++ u :: v :: B) ((A.length : Nat) : Int) = u := by
  rw [rd_nat (by simp)]
  simp [List.getElem_append_right]
theorem len_two {α : Type} (A : List α) (u v : α) (B : List α) : (A ++ u :: v :: B).length = A.length + B.length + 2 := by simp; omega
theorem insertion_tells (l : List Int) (h : l.length ≤ 12) : ∃ r, Ev (fun k => slices_insertionSortOrdered_int.f k l 0 (l.length : Int)) r ∧ r.Perm l ∧ r.Pairwise (· ≤ ·) := by
  obtain ⟨r, h1, h2, h3⟩ := sort_outer (fun a b => decide (a < b)) l (fun x i k => slices_insertionSortOrdered_int.l0 k x 0 (l.length : Int) (i : Int)) (fun x i j k => slices_insertionSortOrdered_int.l1 k x 0 (l.length : Int) (i : Int) (j : Int))
    (fun x i r hp h1 hi hr => Ev.step (fun k => slices_insertionSortOrdered_int.l0.eq_2 ..) (Ev.pos (by omega) hr))
    (fun x i hp hi _ => Ev.step (fun k => slices_insertionSortOrdered_int.l0.eq_2 ..) (Ev.neg (by omega) (Ev.now _)))
    (fun i h1 hi x r hp hr => Ev.step (fun k => slices_insertionSortOrdered_int.l1.eq_2 ..) (Ev.neg (by omega) (by rw [w64s (by omega)]; exact hr)))
    (fun i h1 hi A u v B r hp c hr => by
      have hlen := hp.length_eq
      rw [len_two] at hlen
      refine Ev.step (fun k => slices_insertionSortOrdered_int.l1.eq_2 ..) (Ev.pos (by omega) (Ev.pos (by omega) (Ev.pos (by rw [len_two]; omega) ?_)))
      rw [show wrap64 (((A.length + 1 : Nat) : Int) - 1) = ((A.length : Nat) : Int) by rw [w64 (by omega) (by omega)]; omega]
      refine Ev.pos (by omega) (Ev.pos (by rw [len_two]; omega) ?_)
      rw [rd_two_v, rd_two_u, Int.toNat_natCast, Int.toNat_natCast, set_two]
      exact Ev.bind0 (less_tells _ _) (Ev.pos c hr))
    (fun i h1 hi A u v B r hp c hr => by
      have hlen := hp.length_eq
      rw [len_two] at hlen
      refine Ev.step (fun k => slices_insertionSortOrdered_int.l1.eq_2 ..) (Ev.pos (by omega) (Ev.pos (by omega) (Ev.pos (by rw [len_two]; omega) ?_)))
      rw [show wrap64 (((A.length + 1 : Nat) : Int) - 1) = ((A.length : Nat) : Int) by rw [w64 (by omega) (by omega)]; omega]
      refine Ev.pos (by omega) (Ev.pos (by rw [len_two]; omega) ?_)
      rw [rd_two_v, rd_two_u, w64s (by omega)]
      exact Ev.bind0 (less_tells _ _) (Ev.neg (by rw [c]; simp) hr))
    (fun a b c h1 h2 => by simp only [decide_eq_false_iff_not] at h1 h2 ⊢; omega) (fun a b h1 => by simp only [decide_eq_true_eq, decide_eq_false_iff_not] at h1 ⊢; omega)
  refine ⟨r, ?_, h2, h3.imp (fun {a b} h => by simp only [decide_eq_false_iff_not] at h; omega)⟩
  unfold slices_insertionSortOrdered_int.f
  rw [show wrap64 ((0 : Int) + 1) = ((1 : Nat) : Int) by rw [w64 (by omega) (by omega)]; rfl]
  exact h1
theorem len_small (l : List Int) (h : l.length ≤ 12) : ∃ t, bits_Len.f (IntKind.u64.wrap ((l.length : Int))) = some t := by
  have e : IntKind.u64.wrap (l.length : Int) = (l.length : Int) := by
    unfold IntKind.wrap; simp [IntKind.bits, IntKind.signed]; omega
  rw [e]
  exact ⟨_, by unfold bits_Len.f; rw [if_pos (by omega), if_pos (by omega)]⟩
theorem sort_tells (l : List Int) (h : l.length ≤ 12) : ∃ r, Ev (fun k => slices_Sort_int_int.f k l) r ∧ r.Perm l ∧ r.Pairwise (· ≤ ·) := by
  obtain ⟨r, h1, h2, h3⟩ := insertion_tells l h
  obtain ⟨t, ht⟩ := len_small l h
  refine ⟨r, ?_, h2, h3⟩
  unfold slices_Sort_int_int.f
  refine Ev.bind0 ht ?_
  unfold slices_pdqsortOrdered_int.f
  refine Ev.bind (a := r) (Ev.pos (by rw [w64 (by omega) (by omega)]; omega) h1) (Ev.now _)
theorem equal_tells (a b : List Int) (ha : a.length ≤ 35184372088832) (hb : b.length ≤ 35184372088832) : Ev (fun k => slices_Equal_int_int.f k a b) (decide (a = b)) := by
  unfold slices_Equal_int_int.f
  by_cases c : a.length = b.length
  · refine Ev.pos (by omega) ?_
    refine Ev.rows (fun i k => slices_Equal_int_int.l0 k a b (a.length : Int) (i : Int)) a b c (fun i h h' e r hr => ?_) (fun i h h' e => ?_) ?_
    · refine Ev.step (fun k => slices_Equal_int_int.l0.eq_2 ..) (Ev.pos (by omega) (Ev.pos (by omega) (Ev.pos (by omega) (Ev.pos (by omega) (Ev.pos (by rw [rd_nat h, rd_nat h']; exact e) ?_)))))
      rw [w64s (by omega)]; exact hr
    · exact Ev.step (fun k => slices_Equal_int_int.l0.eq_2 ..) (Ev.pos (by omega) (Ev.pos (by omega) (Ev.pos (by omega) (Ev.pos (by omega) (Ev.neg (by rw [rd_nat h, rd_nat h']; exact e) (Ev.now _))))))
    · exact Ev.step (fun k => slices_Equal_int_int.l0.eq_2 ..) (Ev.neg (by omega) (Ev.now _))
  · rw [decide_eq_false (fun e => c (by rw [e]))]
    exact Ev.neg (by omega) (Ev.now _)
theorem upTo_tells (n : Nat) (hn : n ≤ 1048576) : Ev (fun k => impl_upTo.f k (n : Int)) (marks 0 n) := by
  have := Ev.iter (fun i k => impl_upTo.l0 k (marks 0 i) (n : Int) (i : Int)) n (marks 0 n) (fun i h hr => by
    refine Ev.step (fun k => impl_upTo.l0.eq_2 ..) (Ev.pos (by omega) (Ev.pos (by rw [marks_length]; omega) ?_))
    rw [marks_succ, Int.zero_add] at hr
    rw [w64s (by omega)]
    exact hr) (Ev.step (fun k => impl_upTo.l0.eq_2 ..) (Ev.neg (by omega) (Ev.now _)))
  unfold impl_upTo.f
  rw [show mx (n : Int) 0 = (n : Int) by unfold mx; omega]
  exact this
theorem spec_in (a b c : Int) : spec_l01In.f a b c = some (decide (b ≤ a ∧ a ≤ c)) := by
  unfold spec_l01In.f
  by_cases h : b ≤ a
  · rw [if_pos (by omega)]; simp [h]
  · rw [if_neg (by omega)]; simp [h]
theorem impl_in (a b c : Int) : impl_within.f a b c = some (decide (b ≤ a ∧ a ≤ c)) := by
  unfold impl_within.f
  by_cases h : b ≤ a
  · rw [if_pos (by omega)]; simp [h]
  · rw [if_neg (by omega)]; simp [h]
def hasB (l : List Int) (x : Int) : Bool := l.any fun y => decide (y = x)
theorem spec_has (l : List Int) (x : Int) (hl : l.length ≤ 35184372088832) : Ev (fun k => spec_l02Has.f k l x) (hasB l x) := by
  refine Ev.some_ (fun i k => spec_l02Has.l0 k x l (l.length : Int) (i : Int)) l _ (fun i h e r hr => ?_) (fun i h e => ?_) ?_
  · refine Ev.step (fun k => spec_l02Has.l0.eq_2 ..) (Ev.pos (by omega) (Ev.pos (by omega) (Ev.pos (by omega) (Ev.neg (by rw [rd_nat h]; exact of_decide_eq_false e) ?_))))
    rw [w64s (by omega)]; exact hr
  · exact Ev.step (fun k => spec_l02Has.l0.eq_2 ..) (Ev.pos (by omega) (Ev.pos (by omega) (Ev.pos (by omega) (Ev.pos (by rw [rd_nat h]; exact of_decide_eq_true e) (Ev.now _)))))
  · exact Ev.step (fun k => spec_l02Has.l0.eq_2 ..) (Ev.neg (by omega) (Ev.now _))
theorem hasB_iff (l : List Int) (x : Int) : hasB l x = true ↔ x ∈ l := by
  unfold hasB; rw [List.any_eq_true]
  constructor
  · rintro ⟨y, h1, h2⟩; rw [← of_decide_eq_true h2]; exact h1
  · intro h; exact ⟨x, h, decide_eq_true rfl⟩
/-- The places of those who finished. -/
def fin (b : Int) (l : List Int) : List Int := l.filter fun p => decide (p ≤ b)
def rngB (b : Int) (l : List Int) : Bool := l.all fun p => decide (1 ≤ p ∧ p ≤ b + 1)
def smallB (b : Int) (m : Nat) (l : List Int) : Bool := l.all fun p => !decide (p ≤ b) || decide (p ≤ (m : Int))
def okF (b : Int) : List Int → List Int → Bool
  | _, [] => true
  | pre, p :: r => decide (1 ≤ p ∧ p ≤ b + 1) && ((!decide (p ≤ b) || !hasB pre p) && okF b (pre ++ [p]) r)
theorem okF_iff (b : Int) : ∀ (r pre : List Int), (fin b pre).Nodup → (okF b pre r = true ↔ rngB b r = true ∧ (fin b (pre ++ r)).Nodup)
  | [], pre, h => by simp [okF, rngB, h]
  | p :: r, pre, h => by
    simp only [okF, rngB, Bool.and_eq_true, List.all_cons, Bool.or_eq_true]
    rw [show pre ++ p :: r = (pre ++ [p]) ++ r by simp]
    by_cases c : p ≤ b
    · have ef : fin b (pre ++ [p]) = fin b pre ++ [p] := by simp [fin, List.filter_append, c]
      by_cases d : p ∈ pre
      · have h1 : hasB pre p = true := (hasB_iff _ _).2 d
        constructor
        · rintro ⟨_, h2, _⟩
          simp [c, h1] at h2
        · rintro ⟨_, h2⟩
          exfalso
          have : fin b (pre ++ [p] ++ r) = fin b pre ++ ([p] ++ fin b r) := by simp [fin, List.filter_append, c]
          rw [this, List.nodup_append] at h2
          exact h2.2.2 p (by simp [fin, c, d]) p (by simp) rfl
      · have h1 : hasB pre p = false := by
          cases e : hasB pre p
          · rfl
          · exact absurd ((hasB_iff _ _).1 e) d
        have hn : (fin b (pre ++ [p])).Nodup := by
          rw [ef, List.nodup_append]
          refine ⟨h, by simp, fun x hx y hy e => ?_⟩
          rw [List.mem_singleton.1 hy] at e
          subst e
          exact d (List.mem_filter.1 hx).1
        rw [okF_iff b r (pre ++ [p]) hn]
        simp only [rngB, h1, Bool.not_false, or_true, true_and]
        exact ⟨fun ⟨a, b', c'⟩ => ⟨⟨a, b'⟩, c'⟩, fun ⟨⟨a, b'⟩, c'⟩ => ⟨a, b', c'⟩⟩
    · have ef : fin b (pre ++ [p]) = fin b pre := by simp [fin, List.filter_append, c]
      rw [okF_iff b r (pre ++ [p]) (by rw [ef]; exact h)]
      simp only [rngB, c, decide_false, Bool.not_false, true_or, true_and]
      exact ⟨fun ⟨a, b', c'⟩ => ⟨⟨a, b'⟩, c'⟩, fun ⟨⟨a, b'⟩, c'⟩ => ⟨a, b', c'⟩⟩
theorem marks_sorted (q : Int) (n : Nat) : (marks q n).Pairwise (· < ·) := by
  unfold marks
  rw [List.pairwise_map]
  exact (List.pairwise_lt_range (n := n)).imp (fun h => by omega)
theorem strict_marks : ∀ (r : List Int) (lo : Int), r.Pairwise (· < ·) → (∀ x ∈ r, lo ≤ x ∧ x < lo + r.length) → r = marks lo r.length
  | [], lo, _, _ => rfl
  | a :: t, lo, hs, hm => by
    have hs' := List.pairwise_cons.1 hs
    have ha := hm a (by simp)
    have ht := strict_marks t (lo + 1) hs'.2 (fun x hx => by
      have h1 := hm x (by simp [hx])
      have h2 := hs'.1 x hx
      rw [List.length_cons] at h1
      constructor
      · omega
      · omega)
    have e : a = lo := by
      by_cases c : t = []
      · subst c; simp at ha; omega
      · obtain ⟨b, t', rfl⟩ := List.exists_cons_of_ne_nil c
        have h1 := hs'.1 b (by simp)
        have h2 : b = lo + 1 := by
          rw [List.length_cons] at ht
          have : marks (lo + 1) (t'.length + 1) = (lo + 1) :: marks (lo + 2) t'.length := by
            unfold marks
            rw [List.range_succ_eq_map]
            simp only [List.map_cons, List.map_map]
            congr 1
            · omega
            · apply List.map_congr_left; intro i _; simp only [Function.comp]; omega
          rw [this] at ht
          exact (List.cons.inj ht).1
        omega
    rw [List.length_cons]
    unfold marks
    rw [List.range_succ_eq_map]
    simp only [List.map_cons, List.map_map]
    rw [e]
    congr 1
    · omega
    · rw [ht, marks_length]
      unfold marks
      apply List.map_congr_left; intro i _; simp only [Function.comp]; omega
def goodB (b : Int) (l : List Int) : Bool := decide ((fin b l).Nodup) && smallB b (fin b l).length l
theorem good_sorted (b : Int) (l r : List Int) (hr : rngB b l = true) (hp : r.Perm ((fin b l).map (· - 1))) (hs : r.Pairwise (· ≤ ·)) : decide (r = marks 0 (fin b l).length) = goodB b l := by
  have h1 : ∀ p ∈ fin b l, 1 ≤ p := fun p hp => (of_decide_eq_true (List.all_eq_true.1 hr p (List.mem_filter.1 hp).1)).1
  have hl : r.length = (fin b l).length := by rw [hp.length_eq]; simp
  rw [Bool.eq_iff_iff, decide_eq_true_eq]
  unfold goodB
  rw [Bool.and_eq_true, decide_eq_true_eq]
  constructor
  · intro e
    have hn : ((fin b l).map (· - 1)).Nodup := by
      rw [← hp.nodup_iff, e]
      exact (marks_sorted 0 _).imp (fun h => by omega)
    refine ⟨?_, ?_⟩
    · have := List.Pairwise.of_map (S := fun (a b : Int) => a ≠ b) (R := fun (a b : Int) => a ≠ b) (· - 1) (fun a b h e => h (by rw [e])) hn
      exact this
    · unfold smallB
      rw [List.all_eq_true]
      intro p hpl
      by_cases c : p ≤ b
      · have hm : p - 1 ∈ r := hp.mem_iff.2 (List.mem_map.2 ⟨p, by simp [fin, hpl, c], rfl⟩)
        rw [e] at hm
        obtain ⟨i, hi, h2⟩ := List.mem_map.1 hm
        have := List.mem_range.1 hi
        simp only [Bool.or_eq_true, decide_eq_true_eq]
        exact .inr (by omega)
      · simp [c]
  · rintro ⟨hn, hsm⟩
    have hn' : r.Nodup := by
      rw [hp.nodup_iff]
      exact List.Pairwise.map (· - 1) (fun a b h e => h (by omega)) hn
    have hlt : r.Pairwise (· < ·) := (List.Pairwise.and hs hn').imp (fun h => by omega)
    rw [← hl]
    refine strict_marks r 0 hlt (fun x hx => ?_)
    obtain ⟨p, hpm, rfl⟩ := List.mem_map.1 (hp.mem_iff.1 hx)
    have h2 := List.all_eq_true.1 hsm p (List.mem_filter.1 hpm).1
    have h3 : p ≤ b := by simpa using (List.mem_filter.1 hpm).2
    have h4 := h1 p hpm
    simp only [h3, decide_true, Bool.not_true, Bool.false_or, decide_eq_true_eq] at h2
    constructor <;> omega
theorem fin_snoc (b : Int) (l : List Int) (i : Nat) (h : i < l.length) : fin b (l.take (i + 1)) = if l[i] ≤ b then fin b (l.take i) ++ [l[i]] else fin b (l.take i) := by
  rw [take_snoc l i h]
  unfold fin
  rw [List.filter_append]
  split <;> simp_all
def raceB (b : Int) (l : List Int) : Bool := decide (2 ≤ b ∧ b ≤ 8) && (decide ((l.length : Int) = b) && (rngB b l && goodB b l))
theorem spec_race (b : Int) (l : List Int) (hl : l.length ≤ 1048576) : Ev (fun k => spec_RaceOk.f k b l) (raceB b l) := by
  unfold spec_RaceOk.f raceB
  refine Ev.bind0 (spec_in b 2 8) ?_
  by_cases c : 2 ≤ b ∧ b ≤ 8
  · refine Ev.pos (decide_eq_true c) ?_
    rw [decide_eq_true c, Bool.true_and]
    by_cases d : (l.length : Int) = b
    · rw [decide_eq_true d, Bool.true_and]
      refine Ev.step (fun k => spec_RaceOk.j0.eq_2 ..) (Ev.neg (by simp [d]) ?_)
      have hl1 : Ev (fun k => spec_RaceOk.l1 k b ((fin b l).length : Int) l (l.length : Int) 0) (smallB b (fin b l).length l) := by
        have := Ev.all (fun i k => spec_RaceOk.l1 k b ((fin b l).length : Int) l (l.length : Int) (i : Int)) l (fun p => !decide (p ≤ b) || decide (p ≤ ((fin b l).length : Int))) true (fun i h e r hr => ?_) (fun i h e => ?_) ?_
        · rw [Bool.and_true] at this; exact this
        · refine Ev.step (fun k => spec_RaceOk.l1.eq_2 ..) (Ev.pos (by omega) (Ev.pos (by omega) (Ev.pos (by omega) ?_)))
          rw [rd_nat h, w64s (by omega)]
          by_cases c1 : l[i] ≤ b
          · refine Ev.pos c1 (Ev.neg ?_ hr)
            simp [c1] at e; omega
          · exact Ev.neg c1 hr
        · refine Ev.step (fun k => spec_RaceOk.l1.eq_2 ..) (Ev.pos (by omega) (Ev.pos (by omega) (Ev.pos (by omega) ?_)))
          rw [rd_nat h]
          by_cases c1 : l[i] ≤ b
          · refine Ev.pos c1 (Ev.pos ?_ (Ev.now _))
            simp [c1] at e; omega
          · simp [c1] at e
        · exact Ev.step (fun k => spec_RaceOk.l1.eq_2 ..) (Ev.neg (by omega) (Ev.now _))
      have key := down (g := fun i => Ev (fun k => spec_RaceOk.l0 k b l ((fin b (l.take i)).length : Int) l (l.length : Int) (i : Int)) (okF b (l.take i) (l.drop i) && smallB b (fin b l).length l)) (n := l.length) (fun i h hn => by
        have hfl : (fin b (l.take i)).length ≤ i := Nat.le_trans (List.length_filter_le _ _) (by rw [List.length_take]; omega)
        rw [List.drop_eq_getElem_cons h]
        simp only [okF]
        rw [← take_snoc l i h]
        refine Ev.step (fun k => spec_RaceOk.l0.eq_2 ..) (Ev.pos (by omega) (Ev.pos (by omega) (Ev.pos (by omega) ?_)))
        rw [rd_nat h, w64 (n := b + 1) (by omega) (by omega)]
        refine Ev.bind0 (spec_in _ _ _) ?_
        by_cases c0 : 1 ≤ l[i] ∧ l[i] ≤ b + 1
        · refine Ev.pos (decide_eq_true c0) ?_
          rw [decide_eq_true c0, Bool.true_and]
          rw [fin_snoc b l i h] at hn
          by_cases c1 : l[i] ≤ b
          · rw [if_pos c1] at hn
            refine Ev.pos c1 (Ev.pos (by omega) ?_)
            rw [Int.toNat_natCast]
            refine Ev.bind (spec_has _ _ (by rw [List.length_take]; omega)) ?_
            rw [decide_eq_true c1]
            cases e : hasB (l.take i) l[i] with
            | true => exact Ev.pos rfl (Ev.now _)
            | false =>
              refine Ev.neg (by simp) ?_
              rw [w64s (by omega), w64s (by omega)]
              simpa using hn
          · rw [if_neg c1] at hn
            refine Ev.neg c1 ?_
            rw [decide_eq_false c1, w64s (by omega)]
            simpa using hn
        · refine Ev.neg (by simp [c0]) ?_
          rw [decide_eq_false c0]
          exact Ev.now _) (by
        rw [List.take_length, List.drop_length]
        simp only [okF, Bool.true_and]
        exact Ev.step (fun k => spec_RaceOk.l0.eq_2 ..) (Ev.neg (by omega) hl1)) l.length 0 (by omega)
      have e : (okF b (l.take 0) (l.drop 0) && smallB b (fin b l).length l) = (rngB b l && goodB b l) := by
        rw [Bool.eq_iff_iff, Bool.and_eq_true, List.take_zero, List.drop_zero, okF_iff b l [] (by simp [fin])]
        unfold goodB
        simp [and_assoc]
      rw [e] at key
      simpa [fin] using key
    · rw [decide_eq_false d, Bool.false_and]
      exact Ev.step (fun k => spec_RaceOk.j0.eq_2 ..) (Ev.pos (by simp [d]) (Ev.now _))
  · refine Ev.neg (by simp [c]) ?_
    rw [decide_eq_false c, Bool.false_and]
    exact Ev.step (fun k => spec_RaceOk.j0.eq_2 ..) (Ev.pos rfl (Ev.now _))
end Go.Proofs.Ytipojkfkcelejaa.X
