/- The places of a boat that count, and their sums. Conditions: a valid regatta, a boat of it. -/
import Derived.Test.YtipojkfkcelejaaRegB
import Derived.Test.YtipojkfkcelejaaX12
import Derived.Test.YtipojkfkcelejaaX23
import Derived.Test.YtipojkfkcelejaaX24
import Derived.Test.YtipojkfkcelejaaX28
import Derived.Test.YtipojkfkcelejaaX29
namespace Go.Proofs.Ytipojkfkcelejaa.X
set_option linter.unusedVariables false
set_option linter.unusedSimpArgs false
open Go.RowKit Go.Proofs.YtipojkfkcelejaaW.PrintWords Go.Proofs.Ytipojkfkcelejaa.PK
theorem race_len {b : Int} {l : List Int} (h : raceB b l = true) : (l.length : Int) = b ∧ 2 ≤ b ∧ b ≤ 8 := by
  unfold raceB at h
  rw [Bool.and_eq_true, Bool.and_eq_true] at h
  exact ⟨of_decide_eq_true h.2.1, (of_decide_eq_true h.1)⟩
theorem race_in {b : Int} {l : List Int} (h : raceB b l = true) : ∀ p ∈ l, 1 ≤ p ∧ p ≤ b + 1 := by
  unfold raceB at h
  rw [Bool.and_eq_true, Bool.and_eq_true, Bool.and_eq_true] at h
  exact fun p hp => of_decide_eq_true (List.all_eq_true.1 h.2.2.1 p hp)
structure Reg (b : Int) (l : List (List Int)) (d : Int) : Prop where
  b2 : 2 ≤ b
  b8 : b ≤ 8
  len : ∀ z ∈ l, (z.length : Int) = b
  rng : ∀ z ∈ l, ∀ p ∈ z, 1 ≤ p ∧ p ≤ b + 1
  l1 : 1 ≤ l.length
  l10 : l.length ≤ 10
  d0 : 0 ≤ d
  dl : d ≤ (l.length : Int) - 1
theorem reg_of {b : Int} {l : List (List Int)} {d : Int} (h : regB b l d = true) : Reg b l d := by
  unfold regB at h
  rw [Bool.and_eq_true, Bool.and_eq_true] at h
  have h1 := List.all_eq_true.1 h.1
  have h2 := of_decide_eq_true h.2.1
  have h3 := of_decide_eq_true h.2.2
  obtain ⟨z, t, rfl⟩ : ∃ z t, l = z :: t := by
    cases l with
    | nil => simp at h2
    | cons z t => exact ⟨z, t, rfl⟩
  have h4 := race_len (h1 z (by simp))
  exact ⟨h4.2.1, h4.2.2, fun z hz => (race_len (h1 z hz)).1, fun z hz => race_in (h1 z hz), by omega, by omega, h3.1, h3.2⟩
def col (l : List (List Int)) (x : Int) : List Int := l.map fun z => rd z x
theorem col_len (l : List (List Int)) (x : Int) : (col l x).length = l.length := by simp [col]
theorem col_snoc (l : List (List Int)) (x : Int) (i : Nat) (h : i < l.length) : col (l.take (i + 1)) x = col (l.take i) x ++ [rd l[i] x] := by
  rw [take_snoc l i h]
  unfold col
  rw [List.map_append]
  rfl
theorem col_rng {b : Int} {l : List (List Int)} {d x : Int} (h : Reg b l d) (h0 : 0 ≤ x) (h1 : x < b) : ∀ p ∈ col l x, 1 ≤ p ∧ p ≤ b + 1 := by
  intro p hp
  obtain ⟨z, hz, rfl⟩ := List.mem_map.1 hp
  have hl := h.len z hz
  obtain ⟨n, rfl⟩ := Int.eq_ofNat_of_zero_le h0
  rw [rd_nat (by omega)]
  exact h.rng z hz _ (List.getElem_mem _)
def upPl (c : List Int) (m : Nat) : List Int := (marks 1 m).flatMap fun q => c.filter fun p => decide (p = q)
theorem upPl_succ (c : List Int) (m : Nat) : upPl c (m + 1) = upPl c m ++ c.filter fun p => decide (p = 1 + (m : Int)) := by
  unfold upPl
  rw [marks_succ, List.flatMap_append]
  simp
theorem filter_join (c : List Int) (p q : Int → Bool) (hd : ∀ x, p x = true → q x = false) : (c.filter p ++ c.filter q).Perm (c.filter fun x => p x || q x) := by
  induction c with
  | nil => exact List.Perm.refl _
  | cons a c ih =>
    cases hp : p a with
    | true =>
      have hq := hd a hp
      simp only [List.filter_cons, hp, hq, Bool.true_or, if_true, List.cons_append]
      exact List.Perm.cons a (by simpa using ih)
    | false =>
      cases hq : q a with
      | true =>
        simp only [List.filter_cons, hp, hq, Bool.or_true, if_true]
        exact List.perm_middle.trans (List.Perm.cons a (by simpa using ih))
      | false => simpa [List.filter_cons, hp, hq] using ih
theorem upPl_perm (c : List Int) (m : Nat) : (upPl c m).Perm (c.filter fun p => decide (1 ≤ p ∧ p ≤ (m : Int))) := by
  induction m with
  | zero =>
    have : (c.filter fun p => decide (1 ≤ p ∧ p ≤ ((0 : Nat) : Int))) = [] := by
      rw [List.filter_eq_nil_iff]
      intro p _
      simp only [decide_eq_true_eq]
      omega
    rw [this]
    exact List.Perm.refl _
  | succ m ih =>
    rw [upPl_succ]
    refine (List.Perm.append_right _ ih).trans ((filter_join c _ _ (fun x hx => ?_)).trans ?_)
    · simp only [decide_eq_true_eq, decide_eq_false_iff_not] at hx ⊢; omega
    · have : (fun x : Int => decide (1 ≤ x ∧ x ≤ (m : Int)) || decide (x = 1 + (m : Int))) = fun p => decide (1 ≤ p ∧ p ≤ ((m + 1 : Nat) : Int)) := by
        funext x
        rw [Bool.eq_iff_iff]
        simp only [Bool.or_eq_true, decide_eq_true_eq]
        omega
      rw [this]
theorem upPl_in (c : List Int) (m : Nat) : ∀ p ∈ upPl c m, p ≤ (m : Int) := by
  intro p hp
  have := (upPl_perm c m).mem_iff.1 hp
  have h2 := of_decide_eq_true (List.mem_filter.1 this).2
  exact h2.2
theorem upPl_sorted (c : List Int) (m : Nat) : (upPl c m).Pairwise (· ≤ ·) := by
  induction m with
  | zero => exact List.Pairwise.nil
  | succ m ih =>
    rw [upPl_succ, List.pairwise_append]
    refine ⟨ih, ?_, fun a ha b hb => ?_⟩
    · refine List.pairwise_of_forall_mem_list (fun a ha b hb => ?_)
      have h1 := of_decide_eq_true (List.mem_filter.1 ha).2
      have h2 := of_decide_eq_true (List.mem_filter.1 hb).2
      omega
    · have h1 := upPl_in c m a ha
      have h2 := of_decide_eq_true (List.mem_filter.1 hb).2
      omega
def keptB (b : Int) (l : List (List Int)) (d x : Int) : List Int := (upPl (col l x) (b + 1).toNat).take (l.length - d.toNat)
theorem upPl_all {b : Int} {l : List (List Int)} {d x : Int} (h : Reg b l d) (h0 : 0 ≤ x) (h1 : x < b) : (upPl (col l x) (b + 1).toNat).Perm (col l x) := by
  refine (upPl_perm _ _).trans ?_
  rw [List.filter_eq_self.2]
  intro p hp
  have := col_rng h h0 h1 p hp
  exact decide_eq_true ⟨this.1, by omega⟩
theorem keptB_len {b : Int} {l : List (List Int)} {d x : Int} (h : Reg b l d) (h0 : 0 ≤ x) (h1 : x < b) : (keptB b l d x).length = l.length - d.toNat := by
  unfold keptB
  rw [List.length_take, (upPl_all h h0 h1).length_eq, col_len]
  omega
theorem impl_kept {b : Int} {l : List (List Int)} {d x : Int} (h : Reg b l d) (h0 : 0 ≤ x) (h1 : x < b) : Ev (fun k => impl_Regatta_kept.f k b l d x) (keptB b l d x) := by
  have hb := h.l10
  have hd0 := h.d0
  have hdl := h.dl
  obtain ⟨r, hr, hp, hs⟩ := sort_tells (col l x) (by rw [col_len]; omega)
  have e : r = upPl (col l x) (b + 1).toNat := sorted_same (fun a b h1 h2 => by omega) (hp.trans (upPl_all h h0 h1).symm) hs (upPl_sorted _ _)
  have hend : Ev (fun k => impl_Regatta_kept.l0 k x (col l x) l (l.length : Int) (l.length : Int) b l d) (keptB b l d x) := by
    refine Ev.step (fun k => impl_Regatta_kept.l0.eq_2 ..) (Ev.neg (by omega) (Ev.bind hr ?_))
    rw [col_len, w64 (by omega) (by omega)]
    refine Ev.pos (by omega) (Ev.pos (by omega) ?_)
    unfold keptB
    rw [e, show ((l.length : Int) - d).toNat = l.length - d.toNat by omega]
    exact Ev.now _
  have := Ev.iter (fun i k => impl_Regatta_kept.l0 k x (col (l.take i) x) l (l.length : Int) (i : Int) b l d) l.length (keptB b l d x) (fun i hi hn => by
    have hz := h.len _ (List.getElem_mem hi)
    refine Ev.step (fun k => impl_Regatta_kept.l0.eq_2 ..) (Ev.pos (by omega) (Ev.pos (by omega) (Ev.pos (by omega) (Ev.pos h0 (Ev.pos (by rw [rdL_nat hi]; omega) (Ev.pos (by rw [col_len, List.length_take]; omega) ?_))))))
    rw [w64s (by omega), rdL_nat hi]
    rw [col_snoc l x i hi] at hn
    exact hn) (by rw [List.take_length]; exact hend)
  unfold impl_Regatta_kept.f
  simpa [col] using this
theorem spec_kept {b : Int} {l : List (List Int)} {d x : Int} (h : Reg b l d) (h0 : 0 ≤ x) (h1 : x < b) : Ev (fun k => spec_l15Kept.f k b l d x) (keptB b l d x) := by
  have hb := h.l10
  have hd0 := h.d0
  have hdl := h.dl
  have hb2 := h.b2
  have hb8 := h.b8
  have hlen := (upPl_all h h0 h1).length_eq
  rw [col_len] at hlen
  have hsm : ∀ m, (upPl (col l x) m).length ≤ l.length := fun m => by
    rw [(upPl_perm _ _).length_eq]
    exact Nat.le_trans (List.length_filter_le _ _) (by rw [col_len]; exact Nat.le_refl _)
  have key := down (g := fun m => Ev (fun k => spec_l15Kept.l0 k x (upPl (col l x) m) (1 + (m : Int)) b l d) (keptB b l d x)) (n := (b + 1).toNat) (fun m hm hn => by
    refine Ev.step (fun k => spec_l15Kept.l0.eq_2 ..) (Ev.pos (by rw [w64 (by omega) (by omega)]; omega) ?_)
    have inner := Ev.iter (fun i k => spec_l15Kept.l1 k x (upPl (col l x) m ++ (col (l.take i) x).filter fun p => decide (p = 1 + (m : Int))) (1 + (m : Int)) l (l.length : Int) (i : Int) b l d) l.length (keptB b l d x) (fun i hi hr => by
      have hz := h.len _ (List.getElem_mem hi)
      refine Ev.step (fun k => spec_l15Kept.l1.eq_2 ..) (Ev.pos (by omega) (Ev.pos (by omega) (Ev.pos (by omega) (Ev.pos h0 (Ev.pos (by rw [rdL_nat hi]; omega) ?_)))))
      rw [rdL_nat hi, w64s (by omega)]
      rw [col_snoc l x i hi, List.filter_append] at hr
      have hf := List.length_filter_le (fun p => decide (p = 1 + (m : Int))) (col (l.take i) x)
      rw [col_len, List.length_take] at hf
      have hs := hsm m
      by_cases c : rd l[i] x = 1 + (m : Int)
      · refine Ev.pos c (Ev.pos (by rw [List.length_append]; omega) ?_)
        rw [show [rd l[i] x].filter (fun p => decide (p = 1 + (m : Int))) = [1 + (m : Int)] by simp [c], ← List.append_assoc] at hr
        exact hr
      · refine Ev.neg c ?_
        rw [show [rd l[i] x].filter (fun p => decide (p = 1 + (m : Int))) = [] by simp [c], List.append_nil] at hr
        exact hr) (by
      rw [List.take_length, ← upPl_succ]
      refine Ev.step (fun k => spec_l15Kept.l1.eq_2 ..) (Ev.neg (by omega) ?_)
      rw [show wrap64 (1 + (m : Int) + 1) = 1 + ((m + 1 : Nat) : Int) by rw [w64 (by omega) (by omega)]; omega]
      exact hn)
    simpa [col] using inner) (by
    refine Ev.step (fun k => spec_l15Kept.l0.eq_2 ..) (Ev.neg (by rw [w64 (by omega) (by omega)]; omega) ?_)
    rw [hlen, w64 (n := (l.length : Int) - d) (by omega) (by omega)]
    refine Ev.pos (by omega) (Ev.pos (by omega) ?_)
    unfold keptB
    rw [show ((l.length : Int) - d).toNat = l.length - d.toNat by omega]
    exact Ev.now _) (b + 1).toNat 0 (by omega)
  unfold spec_l15Kept.f
  simpa [upPl, marks] using key
def sumW (l : List Int) : Int := l.foldl (fun a x => wrap64 (a + x)) 0
theorem total_tells (l : List Int) (hl : l.length ≤ 1048576) : Ev (fun k => impl_total.f k l) (sumW l) := by
  unfold impl_total.f sumW
  refine Ev.fold (fun i s k => impl_total.l0 k s l (l.length : Int) (i : Int)) l (fun a x => wrap64 (a + x)) (fun _ _ => True) (fun s => s) (fun i s h _ => trivial) (fun i s h _ r hr => ?_) (fun s _ => ?_) 0 trivial
  · refine Ev.step (fun k => impl_total.l0.eq_2 ..) (Ev.pos (by omega) (Ev.pos (by omega) (Ev.pos (by omega) ?_)))
    rw [rd_nat h, w64s (by omega)]; exact hr
  · exact Ev.step (fun k => impl_total.l0.eq_2 ..) (Ev.neg (by omega) (Ev.now _))
theorem score_tells {b : Int} {l : List (List Int)} {d x : Int} (h : Reg b l d) (h0 : 0 ≤ x) (h1 : x < b) : Ev (fun k => spec_l15Score.f k b l d x) (sumW (keptB b l d x)) := by
  have hlen := keptB_len h h0 h1
  have hb := h.l10
  unfold spec_l15Score.f
  refine Ev.bind (spec_kept h h0 h1) ?_
  generalize keptB b l d x = c at hlen
  unfold sumW
  refine Ev.fold (fun i s k => spec_l15Score.l0 k s c (c.length : Int) (i : Int)) c (fun a x => wrap64 (a + x)) (fun _ _ => True) (fun s => s) (fun i s h _ => trivial) (fun i s h _ r hr => ?_) (fun s _ => ?_) 0 trivial
  · refine Ev.step (fun k => spec_l15Score.l0.eq_2 ..) (Ev.pos (by omega) (Ev.pos (by omega) (Ev.pos (by omega) ?_)))
    rw [rd_nat h, w64s (by omega)]; exact hr
  · exact Ev.step (fun k => spec_l15Score.l0.eq_2 ..) (Ev.neg (by omega) (Ev.now _))
end Go.Proofs.Ytipojkfkcelejaa.X
