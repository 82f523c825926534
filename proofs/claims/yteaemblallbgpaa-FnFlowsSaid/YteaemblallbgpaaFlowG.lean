/- Behind the greatest flow: the search is closed; what leaves a set of nodes. Conditions: a valid net. -/
import Derived.Test.YteaemblallbgpaaFlowE
namespace Go.Proofs.Yteaemblallbgpaa.X
set_option linter.unusedVariables false
set_option linter.unusedSimpArgs false
open Go.RowKit Go.Proofs.YteaemblallbgpaaW.PrintWords Go.Proofs.Yteaemblallbgpaa.PK
abbrev Sn (l : List HP) (x : Int) : Prop := (rd_T69 l x).f2 = true
/-- From one state of the search to a later one. -/
def Lat (s t : BS) : Prop := t.1.length = s.1.length ∧ (∀ x : Nat, Sn s.1 x → Sn t.1 x) ∧ (∀ x : Nat, Sn t.1 x → Sn s.1 x ∨ (x : Int) ∈ t.2) ∧ ∀ y ∈ s.2, y ∈ t.2
theorem Lat.refl (s : BS) : Lat s s := ⟨rfl, fun _ h => h, fun _ h => .inl h, fun _ h => h⟩
theorem Lat.trans {s t u : BS} (h : Lat s t) (k : Lat t u) : Lat s u := ⟨k.1.trans h.1, fun x hx => k.2.1 x (h.2.1 x hx), fun x hx => (k.2.2.1 x hx).elim (fun q => (h.2.2.1 x q).imp id (k.2.2.2 _)) .inr, fun y hy => k.2.2.2 y (h.2.2.2 y hy)⟩
theorem Lat.see (s : BS) {nd : Int} (h0 : 0 ≤ nd) (h1 : nd < s.1.length) (i : Int) (b : Bool) : Lat s (see s nd i b) ∧ Sn (X.see s nd i b).1 nd := by
  obtain ⟨j, rfl⟩ : ∃ j : Nat, nd = j := ⟨nd.toNat, by omega⟩
  have hj : j < s.1.length := by omega
  refine ⟨⟨?_, fun x hx => see_seen hj i b hx, fun x hx => ?_, fun y hy => ?_⟩, ?_⟩
  · unfold X.see; split <;> simp
  · unfold X.see at hx ⊢
    split
    · rename_i c; rw [if_pos c] at hx; exact .inl hx
    · rename_i c
      rw [if_neg c] at hx
      simp only [Int.toNat_natCast, Sn] at hx
      rw [rdh_set hj] at hx
      by_cases e : x = j
      · right; rw [e]; simp
      · rw [if_neg e] at hx; exact .inl hx
  · unfold X.see
    split
    · exact hy
    · exact List.mem_append_left _ hy
  · unfold X.see Sn
    split
    · assumption
    · simp only [Int.toNat_natCast]
      rw [rdh_set hj, if_pos rfl]
def Cl (w : List P1) (f : List Int) (l : List HP) (v : Nat) (k : Nat) : Prop := ∀ j : Nat, j < k → ((rd_T60 w (j : Int)).f0 = (v : Int) → rd f (j : Int) < (rd_T60 w (j : Int)).f2 → Sn l (rd_T60 w (j : Int)).f1) ∧ ((rd_T60 w (j : Int)).f1 = (v : Int) → 0 < rd f (j : Int) → Sn l (rd_T60 w (j : Int)).f0)
theorem Lat.int {n : Nat} {w : List P1} {s t : BS} (h : Lat s t) {x : Int} (h0 : 0 ≤ x) (hx : Sn s.1 x) : Sn t.1 x := by
  obtain ⟨j, rfl⟩ : ∃ j : Nat, x = j := ⟨x.toNat, by omega⟩
  exact h.2.1 j hx
theorem Cl.lat {n : Nat} {w : List P1} (hw : Ends n w) {f : List Int} {s t : BS} (h : Lat s t) {v k : Nat} (hk : k ≤ w.length) (hc : Cl w f s.1 v k) : Cl w f t.1 v k := fun j hj => by
  have he := hw.at (show j < w.length by omega)
  rw [← rd1_nat (show j < w.length by omega)] at he
  exact ⟨fun a b => h.int (n := n) (w := w) he.2.1 ((hc j hj).1 a b), fun a b => h.int (n := n) (w := w) he.1.1 ((hc j hj).2 a b)⟩
theorem inn_lat {n : Nat} {w : List P1} (hw : Ends n w) (f : List Int) (v : Nat) (s : BS) (hs : s.1.length = n) : ∀ i, i ≤ w.length → Lat s (inn w f (v : Int) s i) ∧ Cl w f (inn w f (v : Int) s i).1 v i
  | 0, _ => ⟨Lat.refl s, fun j hj => absurd hj (by omega)⟩
  | i + 1, hi => by
    obtain ⟨h1, h2⟩ := inn_lat hw f v s hs i (by omega)
    have he := hw.at (show i < w.length by omega)
    rw [← rd1_nat (show i < w.length by omega)] at he
    simp only [X.inn, pst]
    have hn := h1.1
    generalize X.inn w f (v : Int) s i = t at h1 h2 hn
    have k1 : Lat t (half0 (v : Int) t (rd_T60 w (i : Int)) (rd f (i : Int)) (i : Int)) ∧ ((rd_T60 w (i : Int)).f0 = (v : Int) → rd f (i : Int) < (rd_T60 w (i : Int)).f2 → Sn (half0 (v : Int) t (rd_T60 w (i : Int)) (rd f (i : Int)) (i : Int)).1 (rd_T60 w (i : Int)).f1) := by
      unfold half0
      split
      · obtain ⟨q1, q2⟩ := Lat.see t he.2.1 (by omega) (i : Int) false
        exact ⟨q1, fun _ _ => q2⟩
      · rename_i c
        exact ⟨Lat.refl t, fun a b => absurd ⟨a, b⟩ c⟩
    generalize half0 (v : Int) t (rd_T60 w (i : Int)) (rd f (i : Int)) (i : Int) = u at k1
    have hu := k1.1.1
    have k2 : Lat u (half1 (v : Int) u (rd_T60 w (i : Int)) (rd f (i : Int)) (i : Int)) ∧ ((rd_T60 w (i : Int)).f1 = (v : Int) → 0 < rd f (i : Int) → Sn (half1 (v : Int) u (rd_T60 w (i : Int)) (rd f (i : Int)) (i : Int)).1 (rd_T60 w (i : Int)).f0) := by
      unfold half1
      split
      · obtain ⟨q1, q2⟩ := Lat.see u he.1.1 (by omega) (i : Int) true
        exact ⟨q1, fun _ _ => q2⟩
      · rename_i c
        exact ⟨Lat.refl u, fun a b => absurd ⟨a, b⟩ c⟩
    generalize half1 (v : Int) u (rd_T60 w (i : Int)) (rd f (i : Int)) (i : Int) = x at k2
    refine ⟨h1.trans (k1.1.trans k2.1), fun j hj => ?_⟩
    by_cases e : j = i
    · subst e
      exact ⟨fun a b => k2.1.int (n := n) (w := w) he.2.1 (k1.2 a b), k2.2⟩
    · exact Cl.lat hw (k1.1.trans k2.1) (by omega) h2 j (by omega)
theorem bfs_closed {n : Nat} {w : List P1} (hw : Ends n w) (f : List Int) : ∀ (m q : Nat) (s : BS), q ≤ m → Bs n q s → (∀ y ∈ s.2, ∃ v : Nat, y = (v : Int)) → (∀ x : Nat, Sn s.1 x → (x : Int) ∈ s.2 ∨ Cl w f s.1 x w.length) → ∀ x : Nat, Sn (bfs w f m s) x → Cl w f (bfs w f m s) x w.length
  | 0, q, s, hm, h, _, hi => fun x hx => (hi x hx).resolve_left (fun hc => by
    have h2 := h.2
    have : s.2 = [] := List.length_eq_zero_iff.mp (by omega)
    rw [this] at hc
    simp at hc)
  | m + 1, q, s, hm, h, hN, hi => by
    simp only [bfs]
    by_cases c : s.2 = []
    · rw [if_pos c]
      exact fun x hx => (hi x hx).resolve_left (fun hc => by rw [c] at hc; simp at hc)
    · rw [if_neg c]
      obtain ⟨y, ws, e⟩ := List.exists_cons_of_ne_nil c
      obtain ⟨v, rfl⟩ := hN y (by rw [e]; simp)
      have h2 := h.2
      have hlen : s.2.length = ws.length + 1 := by rw [e]; rfl
      rw [e, show rd ((v : Int) :: ws) 0 = (v : Int) from rfl, show ((v : Int) :: ws).drop 1 = ws from rfl]
      have h' : Bs n (q - 1) (s.1, ws) := ⟨h.1, by show ws.length + unseen s.1 = q - 1; omega⟩
      obtain ⟨l1, l2⟩ := inn_lat hw f v (s.1, ws) h.1 w.length (Nat.le_refl _)
      refine bfs_closed hw f m (q - 1) _ (by omega) (Bs.inn hw h' f (v : Int) w.length (Nat.le_refl _)) ?_ ?_
      · intro y hy
        have : ∀ i, i ≤ w.length → ∀ y ∈ (inn w f (v : Int) (s.1, ws) i).2, ∃ v : Nat, y = (v : Int) := by
          intro i
          induction i with
          | zero => intro _ y hy; exact hN y (by rw [e]; exact List.mem_cons_of_mem _ hy)
          | succ i ih =>
            intro hi y hy
            have he := hw.at (show i < w.length by omega)
            rw [← rd1_nat (show i < w.length by omega)] at he
            simp only [X.inn, pst] at hy
            have ih := ih (by omega)
            generalize X.inn w f (v : Int) (s.1, ws) i = t at ih hy
            have s1 : ∀ (t : BS) (nd i : Int) (b : Bool), 0 ≤ nd → (∀ y ∈ t.2, ∃ v : Nat, y = (v : Int)) → ∀ y ∈ (see t nd i b).2, ∃ v : Nat, y = (v : Int) := by
              intro t nd i b h0 ht y hy
              unfold X.see at hy
              split at hy
              · exact ht y hy
              · rcases List.mem_append.mp hy with hy | hy
                · exact ht y hy
                · exact ⟨nd.toNat, by simp at hy; omega⟩
            have s2 : ∀ y ∈ (half0 (v : Int) t (rd_T60 w (i : Int)) (rd f (i : Int)) (i : Int)).2, ∃ v : Nat, y = (v : Int) := by
              unfold half0
              split
              · exact s1 _ _ _ _ he.2.1 ih
              · exact ih
            revert hy
            unfold half1
            split
            · exact s1 _ _ _ _ he.1.1 s2 y
            · exact s2 y
        exact this w.length (Nat.le_refl _) y hy
      · intro x hx
        rcases l1.2.2.1 x hx with hx | hx
        · rcases hi x hx with hm' | hc
          · rw [e] at hm'
            rcases List.mem_cons.mp hm' with q' | q'
            · right
              have : x = v := by omega
              subst this
              exact l2
            · exact .inl (l1.2.2.2 _ q')
          · exact .inr (Cl.lat hw l1 (Nat.le_refl _) hc)
        · exact .inl hx
theorem reachR_closed {n : Nat} {w : List P1} (hw : Ends n w) (f : List Int) {a : Nat} (ha : a < n) : ∀ x : Nat, Sn (reachR n w f a) x → Cl w f (reachR n w f a) x w.length := by
  refine bfs_closed hw f n n (bs0 n a) (Nat.le_refl _) (bs0_bs ha) (fun y hy => ⟨a, by simpa [bs0] using hy⟩) (fun x hx => ?_)
  left
  have hl : a < (List.replicate n z69).length := by simpa using ha
  simp only [bs0, Sn] at hx ⊢
  rw [rdh_set hl] at hx
  by_cases e : x = a
  · rw [e]; simp
  · rw [if_neg e] at hx
    have : (rd_T69 (List.replicate n z69) (x : Int)).f2 = false := by
      simp only [rd_T69, Int.toNat_natCast, List.getD_eq_getElem?_getD, List.getElem?_replicate]
      split <;> rfl
    rw [this] at hx
    simp at hx
end Go.Proofs.Yteaemblallbgpaa.X
