/- Sorting by insertion, and rows that are sorted, in plain words. No condition. -/
import Derived.Test.YtipojkfkcelejaaPK
namespace Go.Proofs.Ytipojkfkcelejaa.PK
set_option linter.unusedVariables false
set_option linter.unusedSimpArgs false
open Go.RowKit Go.Proofs.YtipojkfkcelejaaW.PrintWords
theorem pair_ins {le : Int → Int → Prop} {A B : List Int} {v : Int} (h : (A ++ B).Pairwise le) (ha : ∀ a ∈ A, le a v) (hb : ∀ b ∈ B, le v b) : (A ++ v :: B).Pairwise le := by
  rw [List.pairwise_append] at h ⊢
  refine ⟨h.1, List.pairwise_cons.2 ⟨hb, h.2.1⟩, fun a ha' b hb' => ?_⟩
  rcases List.mem_cons.1 hb' with rfl | hb'
  · exact ha a ha'
  · exact h.2.2 a ha' b hb'
theorem sort_inner (lt : Int → Int → Bool) (x0 : List Int) (L0 : List Int → Nat → Nat → Option (List Int)) (L1 : List Int → Nat → Nat → Nat → Option (List Int)) (i : Nat) (hi : i < x0.length)
    (hz : ∀ x r, x.Perm x0 → Ev (L0 x (i + 1)) r → Ev (L1 x i 0) r)
    (ht : ∀ A u v B r, (A ++ u :: v :: B).Perm x0 → lt v u = true → Ev (L1 (A ++ v :: u :: B) i A.length) r → Ev (L1 (A ++ u :: v :: B) i (A.length + 1)) r)
    (hf : ∀ A u v B r, (A ++ u :: v :: B).Perm x0 → lt v u = false → Ev (L0 (A ++ u :: v :: B) (i + 1)) r → Ev (L1 (A ++ u :: v :: B) i (A.length + 1)) r)
    (tr : ∀ a b c, lt b a = false → lt c b = false → lt c a = false) (as : ∀ a b, lt a b = true → lt b a = false)
    (G : ∀ x, x.Perm x0 → (x.take (i + 1)).Pairwise (fun a b => lt b a = false) → ∃ r, Ev (L0 x (i + 1)) r ∧ r.Perm x0 ∧ r.Pairwise (fun a b => lt b a = false)) :
    ∀ (m : Nat) (A : List Int) (v : Int) (B C : List Int), A.length = m → A.length + B.length = i → (A ++ v :: (B ++ C)).Perm x0 → (A ++ B).Pairwise (fun a b => lt b a = false) → (∀ b ∈ B, lt v b = true) →
      ∃ r, Ev (L1 (A ++ v :: (B ++ C)) i A.length) r ∧ r.Perm x0 ∧ r.Pairwise (fun a b => lt b a = false)
  | 0, A, v, B, C, hm, hl, hp, hs, hv => by
    obtain rfl : A = [] := List.eq_nil_of_length_eq_zero hm
    have e : ((v :: (B ++ C)).take (i + 1)) = v :: B := by
      have : B.length = i := by simpa using hl
      simp [this.symm]
    obtain ⟨r, h1, h2, h3⟩ := G (v :: (B ++ C)) hp (by
      rw [e]
      exact List.pairwise_cons.2 ⟨fun b hb => as _ _ (hv b hb), by simpa using hs⟩)
    exact ⟨r, hz _ _ hp h1, h2, h3⟩
  | m + 1, A, v, B, C, hm, hl, hp, hs, hv => by
    obtain ⟨A', u, rfl⟩ : ∃ A' u, A = A' ++ [u] := ⟨A.dropLast, A.getLast (by intro e; rw [e] at hm; simp at hm), (List.dropLast_concat_getLast _).symm⟩
    have hlen : A'.length = m := by simpa using hm
    have e1 : A' ++ [u] ++ v :: (B ++ C) = A' ++ u :: v :: (B ++ C) := by simp
    have e2 : (A' ++ [u]).length = A'.length + 1 := by simp
    rw [e1] at hp ⊢
    rw [e2]
    have hs' : (A' ++ u :: B).Pairwise (fun a b => lt b a = false) := by simpa using hs
    cases c : lt v u with
    | true =>
      have hp2 : (A' ++ v :: ((u :: B) ++ C)).Perm x0 := (List.Perm.append_left A' (List.Perm.swap u v _)).trans hp
      obtain ⟨r, h1, h2, h3⟩ := sort_inner lt x0 L0 L1 i hi hz ht hf tr as G m A' v (u :: B) C hlen (by simp at hl ⊢; omega) hp2 hs' (fun b hb => by
        rcases List.mem_cons.1 hb with rfl | hb
        · exact c
        · exact hv b hb)
      exact ⟨r, ht _ _ _ _ _ hp c h1, h2, h3⟩
    | false =>
      obtain ⟨r, h1, h2, h3⟩ := G (A' ++ u :: v :: (B ++ C)) hp (by
        have e : (A' ++ u :: v :: (B ++ C)).take (i + 1) = A' ++ [u] ++ v :: B := by
          have : A'.length + 1 + B.length = i := by simpa using hl
          rw [show A' ++ u :: v :: (B ++ C) = (A' ++ [u] ++ v :: B) ++ C by simp]
          exact List.take_left' (by simp; omega)
        rw [e]
        refine pair_ins (by simpa using hs') (fun a ha => ?_) (fun b hb => as _ _ (hv b hb))
        rcases List.mem_append.1 ha with ha | ha
        · have := (List.pairwise_append.1 hs').2.2 a ha u (by simp)
          exact tr _ _ _ this c
        · rw [List.mem_singleton.1 ha]; exact c)
      exact ⟨r, hf _ _ _ _ _ hp c h1, h2, h3⟩
theorem sort_outer (lt : Int → Int → Bool) (x0 : List Int) (L0 : List Int → Nat → Nat → Option (List Int)) (L1 : List Int → Nat → Nat → Nat → Option (List Int))
    (h0 : ∀ x i r, x.Perm x0 → 1 ≤ i → i < x0.length → Ev (L1 x i i) r → Ev (L0 x i) r) (he : ∀ x i, x.Perm x0 → x0.length ≤ i → i ≤ x0.length + 1 → Ev (L0 x i) x)
    (hz : ∀ i, 1 ≤ i → i < x0.length → ∀ x r, x.Perm x0 → Ev (L0 x (i + 1)) r → Ev (L1 x i 0) r)
    (ht : ∀ i, 1 ≤ i → i < x0.length → ∀ A u v B r, (A ++ u :: v :: B).Perm x0 → lt v u = true → Ev (L1 (A ++ v :: u :: B) i A.length) r → Ev (L1 (A ++ u :: v :: B) i (A.length + 1)) r)
    (hf : ∀ i, 1 ≤ i → i < x0.length → ∀ A u v B r, (A ++ u :: v :: B).Perm x0 → lt v u = false → Ev (L0 (A ++ u :: v :: B) (i + 1)) r → Ev (L1 (A ++ u :: v :: B) i (A.length + 1)) r)
    (tr : ∀ a b c, lt b a = false → lt c b = false → lt c a = false) (as : ∀ a b, lt a b = true → lt b a = false) :
    ∃ r, Ev (L0 x0 1) r ∧ r.Perm x0 ∧ r.Pairwise (fun a b => lt b a = false) := by
  have main : ∀ d i x, i + d = x0.length → 1 ≤ i → x.Perm x0 → (x.take i).Pairwise (fun a b => lt b a = false) → ∃ r, Ev (L0 x i) r ∧ r.Perm x0 ∧ r.Pairwise (fun a b => lt b a = false) := by
    intro d
    induction d with
    | zero =>
      intro i x hi h1 hp hs
      have : x.take i = x := List.take_of_length_le (by rw [hp.length_eq]; omega)
      rw [this] at hs
      exact ⟨x, he x i hp (by omega) (by omega), hp, hs⟩
    | succ d ih =>
      intro i x hi h1 hp hs
      have hil : i < x0.length := by omega
      have hix : i < x.length := by rw [hp.length_eq]; exact hil
      have hx : x = x.take i ++ x[i] :: ([] ++ x.drop (i + 1)) := by
        rw [List.nil_append, ← List.drop_eq_getElem_cons hix, List.take_append_drop]
      obtain ⟨r, h2, h3, h4⟩ := sort_inner lt x0 L0 L1 i hil (hz i h1 hil) (ht i h1 hil) (hf i h1 hil) tr as (fun x' hp' hs' => ih (i + 1) x' (by omega) (by omega) hp' hs') i (x.take i) x[i] [] (x.drop (i + 1)) (by rw [List.length_take]; omega) (by rw [List.length_take]; simp; omega) (by rw [← hx]; exact hp) (by simpa using hs) (by simp)
      rw [← hx, show (x.take i).length = i by rw [List.length_take]; omega] at h2
      exact ⟨r, h0 x i r hp h1 hil h2, h3, h4⟩
  by_cases c : x0.length = 0
  · have : x0 = [] := List.eq_nil_of_length_eq_zero c
    exact ⟨x0, he x0 1 (List.Perm.refl _) (by omega) (by omega), List.Perm.refl _, by rw [this]; exact List.Pairwise.nil⟩
  · refine main (x0.length - 1) 1 x0 (by omega) (by omega) (List.Perm.refl _) ?_
    have hix : 0 < x0.length := by omega
    obtain ⟨a, r, rfl⟩ : ∃ a r, x0 = a :: r := by
      cases x0 with
      | nil => simp at hix
      | cons a r => exact ⟨a, r, rfl⟩
    simp
/-- Two rows that are sorted and hold the same are the same. -/
theorem sorted_same {le : Int → Int → Prop} (anti : ∀ a b, le a b → le b a → a = b) : ∀ {x y : List Int}, x.Perm y → x.Pairwise le → y.Pairwise le → x = y
  | [], y, h, _, _ => (List.nil_perm.1 h).symm
  | a :: x, [], h, _, _ => by simpa using h.length_eq
  | a :: x, b :: y, h, hx, hy => by
    have hab : a = b := by
      by_cases c : a = b
      · exact c
      · have ha : a ∈ b :: y := h.subset (by simp)
        have hb : b ∈ a :: x := h.symm.subset (by simp)
        have ha' : a ∈ y := (List.mem_cons.1 ha).resolve_left c
        have hb' : b ∈ x := (List.mem_cons.1 hb).resolve_left (fun e => c e.symm)
        exact anti _ _ ((List.pairwise_cons.1 hx).1 b hb') ((List.pairwise_cons.1 hy).1 a ha')
    subst hab
    rw [sorted_same anti ((List.perm_cons a).1 h) (List.pairwise_cons.1 hx).2 (List.pairwise_cons.1 hy).2]
end Go.Proofs.Ytipojkfkcelejaa.PK
