/- What is given out: each contest within its places, nobody twice, nobody passed over, none lost from the count. Conditions: drawn contests. -/
import Derived.Test.YtaopcamaceddnaaContD
import Derived.Test.YtaopcamaceddnaaDrawC
namespace Go.Proofs.Ytaopcamaceddnaa.Z
set_option linter.unusedVariables false
set_option linter.unusedSimpArgs false
open Go.RowKit Go.Proofs.YtaopcamaceddnaaW.PrintWords Go.Proofs.Ytaopcamaceddnaa.PK
/-- What the choice of one contest keeps. -/
structure PickI (lim : Int) (t0 pre : List Int) (s : List Int × List Int) : Prop where
  tk : s.2 = t0 ++ s.1
  nd : s.2.Nodup
  mem : ∀ x ∈ s.1, x ∈ pre
  len : (s.1.length : Int) ≤ lim
  all : (s.1.length : Int) < lim → ∀ x ∈ pre, x ∈ s.2
  last : s.1 = [] ∨ ∃ a x b, pre = a ++ x :: b ∧ s.1.getLast? = some x ∧ ∀ y ∈ a, y ∈ s.2
theorem hasB_mem (l : List Int) (x : Int) : hasB l x = true ↔ x ∈ l := by
  unfold hasB
  rw [List.any_eq_true]
  exact ⟨fun ⟨y, h, e⟩ => by rw [decide_eq_true_eq] at e; exact e ▸ h, fun h => ⟨x, h, by simp⟩⟩
theorem pick_inv {lim : Int} {t0 pre : List Int} {s : List Int × List Int} (h : PickI lim t0 pre s) (x : Int) : PickI lim t0 (pre ++ [x]) (pick lim s x) := by
  have ext : (s.1 = [] ∨ ∃ a x b, pre = a ++ x :: b ∧ s.1.getLast? = some x ∧ ∀ y ∈ a, y ∈ s.2) → (s.1 = [] ∨ ∃ a z b, pre ++ [x] = a ++ z :: b ∧ s.1.getLast? = some z ∧ ∀ y ∈ a, y ∈ s.2) := by
    rintro (e | ⟨a, z, b, e1, e2, e3⟩)
    · exact .inl e
    · exact .inr ⟨a, z, b ++ [x], by rw [e1]; simp, e2, e3⟩
  unfold pick
  by_cases c : (s.1.length : Int) < lim
  · rw [if_pos c]
    by_cases c2 : hasB s.2 x = true
    · rw [if_pos c2]
      have hx := (hasB_mem _ _).1 c2
      refine ⟨h.tk, h.nd, fun y hy => List.mem_append_left _ (h.mem y hy), h.len, fun hl y hy => ?_, ext h.last⟩
      rcases List.mem_append.1 hy with hy | hy
      · exact h.all hl y hy
      · rw [List.mem_singleton.1 hy]; exact hx
    · rw [if_neg c2]
      have hx : x ∉ s.2 := fun hc => c2 ((hasB_mem _ _).2 hc)
      refine ⟨by simp [h.tk], ?_, fun y hy => ?_, by simp only [List.length_append, List.length_singleton]; omega, fun hl y hy => ?_, .inr ⟨pre, x, [], rfl, by simp, fun y hy => List.mem_append_left _ (h.all c y hy)⟩⟩
      · refine List.nodup_append.2 ⟨h.nd, by simp, fun a ha b hb => ?_⟩
        rw [List.mem_singleton.1 hb]
        exact fun e => hx (e ▸ ha)
      · rcases List.mem_append.1 hy with hy | hy
        · exact List.mem_append_left _ (h.mem y hy)
        · exact List.mem_append_right _ hy
      · rcases List.mem_append.1 hy with hy | hy
        · exact List.mem_append_left _ (h.all c y hy)
        · exact List.mem_append_right _ hy
  · rw [if_neg c]
    exact ⟨h.tk, h.nd, fun y hy => List.mem_append_left _ (h.mem y hy), h.len, fun hl => absurd hl c, ext h.last⟩
theorem picks_inv {lim : Int} {t0 : List Int} : ∀ (xs pre : List Int) (s : List Int × List Int), PickI lim t0 pre s → PickI lim t0 (pre ++ xs) (xs.foldl (pick lim) s)
  | [], pre, s, h => by simpa using h
  | x :: xs, pre, s, h => by
    have := picks_inv xs (pre ++ [x]) (pick lim s x) (pick_inv h x)
    rw [List.append_assoc] at this
    exact this
def sumI : List Int → Int
  | [] => 0
  | x :: r => x + sumI r
theorem sumI_set : ∀ (l : List Int) (k j : Nat) (v : Int), k ≤ j → j < l.length → sumI ((l.set j v).drop k) = sumI (l.drop k) + v - l.getD j 0
  | [], k, j, v, h, h2 => by simp at h2
  | x :: r, 0, 0, v, h, h2 => by simp [sumI]; omega
  | x :: r, 0, j + 1, v, h, h2 => by
    have := sumI_set r 0 j v (by omega) (by simpa using h2)
    simp [sumI] at this ⊢
    omega
  | x :: r, k + 1, 0, v, h, h2 => by omega
  | x :: r, k + 1, j + 1, v, h, h2 => by
    have := sumI_set r k j v (by omega) (by simpa using h2)
    simpa using this
theorem sumI_drop (l : List Int) (i : Nat) (h : i < l.length) : sumI (l.drop i) = l.getD i 0 + sumI (l.drop (i + 1)) := by
  rw [List.drop_eq_getElem_cons h]
  simp [sumI, List.getD_eq_getElem?_getD, h]
theorem sumI_nonneg : ∀ (l : List Int), (∀ y ∈ l, 0 ≤ y) → 0 ≤ sumI l
  | [], _ => by simp [sumI]
  | x :: r, h => by
    have h1 := h x List.mem_cons_self
    have h2 := sumI_nonneg r fun y hy => h y (List.mem_cons_of_mem _ hy)
    simp only [sumI]; omega
theorem sumI_snoc : ∀ (l : List Int) (x : Int), sumI (l ++ [x]) = sumI l + x
  | [], x => by simp [sumI]
  | y :: r, x => by simp only [List.cons_append, sumI, sumI_snoc r x]; omega
theorem totL_snoc : ∀ (l : List (List Int)) (x : List Int), totL (l ++ [x]) = totL l + x.length
  | [], x => by simp [totL]
  | y :: r, x => by simp only [List.cons_append, totL, totL_snoc r x]; omega
structure RunI (l : List C1) (i : Nat) (s : St) : Prop where
  io : s.outs.length = i
  il : s.left.length = l.length
  it : s.taken = s.outs.flatten
  nd : s.taken.Nodup
  lo : 0 ≤ s.lost
  ln : ∀ y ∈ s.left, 0 ≤ y
  lp : ∀ j, j < l.length → (l.getD j zC).f1 ≤ s.left.getD j 0
  sum : totL s.outs + s.lost + sumI (s.left.drop i) = sumI (l.map fun y => y.f1)
theorem getD_pos {l : List Int} (h : ∀ y ∈ l, 0 ≤ y) (j : Nat) : 0 ≤ l.getD j 0 := by
  by_cases c : j < l.length
  · rw [List.getD_eq_getElem?_getD, List.getElem?_eq_getElem c]
    exact h _ (List.getElem_mem c)
  · simp [List.getD_eq_getElem?_getD, Nat.le_of_not_lt c]
structure Fact (l : List C1) (sf : St) (j : Nat) : Prop where
  len : ((sf.outs.getD j []).length : Int) ≤ sf.left.getD j 0
  lp : (l.getD j zC).f1 ≤ sf.left.getD j 0
  mem : ∀ x ∈ sf.outs.getD j [], x ∈ (l.getD j zC).f0
  last : sf.outs.getD j [] = [] ∨ ∃ a x b, (l.getD j zC).f0 = a ++ x :: b ∧ (sf.outs.getD j []).getLast? = some x ∧ ∀ y ∈ a, y ∈ (sf.outs.take (j + 1)).flatten
theorem one_inv {n : Int} {l : List C1} {i : Nat} {s : St} (h : i < l.length) (hs : RunI l i s) (hsm : sumI (l.map fun y => y.f1) ≤ 1000) (hg : Good n l.length i (l.getD i zC)) :
    ∃ own, (one s i (l.getD i zC)).outs = s.outs ++ [own] ∧ RunI l (i + 1) (one s i (l.getD i zC)) ∧ (∀ j, j ≤ i → (one s i (l.getD i zC)).left.getD j 0 = s.left.getD j 0) ∧
      PickI (s.left.getD i 0) s.taken (l.getD i zC).f0 (own, (one s i (l.getD i zC)).taken) := by
  generalize l.getD i zC = y at hg
  have hp0 : PickI (s.left.getD i 0) s.taken [] (([] : List Int), s.taken) := ⟨by simp, hs.nd, fun x hx => absurd hx (by simp), by simpa using getD_pos hs.ln i, fun _ x hx => absurd hx (by simp), .inl rfl⟩
  have hp := picks_inv y.f0 [] _ hp0
  rw [List.nil_append] at hp
  unfold one
  generalize y.f0.foldl (pick (s.left.getD i 0)) ([], s.taken) = q at hp
  obtain ⟨own, tk⟩ := q
  have hil := hs.il
  have htk := hp.tk
  have hlen := hp.len
  dsimp only at htk hlen
  have hd := sumI_drop s.left i (by omega)
  have hn1 : 0 ≤ sumI (s.left.drop (i + 1)) := sumI_nonneg _ fun y hy => hs.ln y (List.mem_of_mem_drop hy)
  have hsum := hs.sum
  have hlo := hs.lo
  have ht := totL_nonneg s.outs
  have hw : wrap64 (s.left.getD i 0 - (own.length : Int)) = s.left.getD i 0 - (own.length : Int) := w64 (by omega) (by omega)
  unfold fin
  dsimp only
  rw [hw]
  by_cases c : y.f2 < 0
  · simp only [if_pos c]
    rw [w64 (by omega) (by omega)]
    refine ⟨own, rfl, ⟨by simp [hs.io], hil, by simp [htk, hs.it], hp.nd, by dsimp only; omega, hs.ln, hs.lp, ?_⟩, by simp, hp⟩
    dsimp only
    rw [totL_snoc]; omega
  · simp only [if_neg c]
    have hnx : (i : Int) + 1 ≤ y.f2 ∧ y.f2 ≤ (l.length : Int) - 1 := by
      rcases hg.nx with e | e
      · omega
      · exact e
    generalize hz : y.f2.toNat = z
    have hz1 : i + 1 ≤ z := by omega
    have hz2 : z < s.left.length := by omega
    have hzl := sumI_drop (s.left) z hz2
    have hst := sumI_set s.left (i + 1) z (s.left.getD z 0 + (s.left.getD i 0 - (own.length : Int))) hz1 hz2
    have hzp := getD_pos hs.ln z
    have hset0 := sumI_set s.left (i + 1) z 0 hz1 hz2
    have hset1 : 0 ≤ sumI ((s.left.set z 0).drop (i + 1)) := sumI_nonneg _ fun y hy => by
      rcases List.mem_or_eq_of_mem_set (List.mem_of_mem_drop hy) with h | h
      · exact hs.ln y h
      · omega
    rw [w64 (by omega) (by omega)]
    have hget : ∀ j, j ≠ z → (s.left.set z (s.left.getD z 0 + (s.left.getD i 0 - (own.length : Int)))).getD j 0 = s.left.getD j 0 := fun j hj => by
      rw [List.getD_eq_getElem?_getD, List.getElem?_set_ne (by omega), ← List.getD_eq_getElem?_getD]
    refine ⟨own, rfl, ⟨by simp [hs.io], by simpa using hil, by simp [htk, hs.it], hp.nd, hlo, fun y hy => ?_, fun j hj => ?_, ?_⟩, fun j hj => hget j (by omega), hp⟩
    · rcases List.mem_or_eq_of_mem_set hy with h | h
      · exact hs.ln y h
      · omega
    · have := hs.lp j hj
      dsimp only
      by_cases cz : j = z
      · subst cz
        have e : (s.left.set j (s.left.getD j 0 + (s.left.getD i 0 - (own.length : Int)))).getD j 0 = s.left.getD j 0 + (s.left.getD i 0 - (own.length : Int)) := by
          rw [List.getD_eq_getElem?_getD (l := s.left.set j _), List.getElem?_set_self hz2]; rfl
        rw [e]
        omega
      · rw [hget j cz]; exact this
    · dsimp only
      rw [totL_snoc, hst]; omega
theorem runs {n : Int} {l : List C1} (hsm : sumI (l.map fun y => y.f1) ≤ 1000) (hg : ∀ i, i < l.length → Good n l.length i (l.getD i zC)) :
    ∀ (r : List C1) (i : Nat) (s : St), r = l.drop i → i ≤ l.length → RunI l i s →
      (runC r i s).outs.take i = s.outs ∧ (∀ j, j < i → (runC r i s).left.getD j 0 = s.left.getD j 0) ∧ RunI l l.length (runC r i s) ∧ ∀ j, i ≤ j → j < l.length → Fact l (runC r i s) j := by
  intro r
  induction r with
  | nil =>
    intro i s hr hi hs
    have e : i = l.length := by
      have := congrArg List.length hr
      rw [List.length_drop, List.length_nil] at this
      omega
    subst e
    refine ⟨?_, fun _ _ => rfl, hs, fun j h1 h2 => by omega⟩
    unfold runC
    exact List.take_of_length_le (by rw [hs.io]; exact Nat.le_refl _)
  | cons y r ih =>
    intro i s hr hi hs
    have hil : i < l.length := by
      have := congrArg List.length hr
      rw [List.length_drop, List.length_cons] at this
      omega
    rw [List.drop_eq_getElem_cons hil] at hr
    obtain ⟨e1, e2⟩ := List.cons.inj hr
    have ey : y = l.getD i zC := by rw [e1, List.getD_eq_getElem?_getD, List.getElem?_eq_getElem hil]; rfl
    obtain ⟨own, o1, o2, o3, o4⟩ := one_inv hil hs hsm (hg i hil)
    rw [← ey] at o1 o2 o3 o4
    unfold runC
    obtain ⟨k1, k2, k3, k4⟩ := ih (i + 1) (one s i y) e2 hil o2
    generalize runC r (i + 1) (one s i y) = sf at k1 k2 k3 k4
    rw [o1] at k1
    have hio := hs.io
    have t1 : sf.outs.take i = s.outs := by
      have := congrArg (List.take i) k1
      rw [List.take_take, Nat.min_eq_left (by omega), List.take_left' hio] at this
      exact this
    have t2 : sf.outs.getD i [] = own := by
      have := congrArg (fun z => z.getD i []) k1
      simpa [List.getD_eq_getElem?_getD, List.getElem?_take, hio] using this
    have l1 : ∀ j, j < i + 1 → sf.left.getD j 0 = s.left.getD j 0 := fun j hj => by rw [k2 j hj, o3 j (by omega)]
    refine ⟨t1, fun j hj => l1 j (by omega), k3, fun j h1 h2 => ?_⟩
    by_cases c : j = i
    · subst c
      refine ⟨by rw [t2, l1 j (by omega)]; exact o4.len, by rw [l1 j (by omega)]; exact hs.lp j h2, by rw [t2, ← ey]; exact o4.mem, ?_⟩
      rw [t2, ← ey, k1, ← o1, ← o2.it]
      exact o4.last
    · exact k4 j (by omega) h2
theorem runs0 {n : Int} {l : List C1} (hl : l.length ≤ 4) (hg : ∀ i, i < l.length → Good n l.length i (l.getD i zC)) :
    RunI l l.length (runC l 0 ⟨[], l.map (fun y => y.f1), 0, []⟩) ∧ (∀ j, j < l.length → Fact l (runC l 0 ⟨[], l.map (fun y => y.f1), 0, []⟩) j) ∧ (∀ i, 0 ≤ sumI ((l.map fun y => y.f1).take i) ∧ sumI ((l.map fun y => y.f1).take i) ≤ 12) ∧ 0 ≤ sumI (l.map fun y => y.f1) ∧ sumI (l.map fun y => y.f1) ≤ 12 := by
  have hget : ∀ j, j < l.length → (l.map fun y => y.f1).getD j 0 = (l.getD j zC).f1 := fun j hj => by simp [List.getD_eq_getElem?_getD, hj]
  have hpos : ∀ y ∈ l.map (fun y => y.f1), 0 ≤ y ∧ y ≤ 3 := fun y hy => by
    obtain ⟨j, hj, rfl⟩ := List.mem_iff_getElem.1 hy
    rw [List.length_map] at hj
    have := (hg j hj).pl
    rw [← hget j hj] at this
    simpa [List.getD_eq_getElem?_getD, hj] using this
  have hup : ∀ (x : List Int), (∀ y ∈ x, 0 ≤ y ∧ y ≤ 3) → sumI x ≤ 3 * (x.length : Int) := by
    intro x
    induction x with
    | nil => intro _; simp [sumI]
    | cons z r ih =>
      intro h
      have h1 := h z List.mem_cons_self
      have h2 := ih fun y hy => h y (List.mem_cons_of_mem _ hy)
      simp only [sumI, List.length_cons]
      omega
  have hu := hup _ hpos
  rw [List.length_map] at hu
  have h0 : RunI l 0 ⟨[], l.map (fun y => y.f1), 0, []⟩ := ⟨rfl, by simp, rfl, List.nodup_nil, Int.le_refl 0, fun y hy => (hpos y hy).1, fun j hj => by dsimp only; rw [hget j hj]; exact Int.le_refl _, by simp [totL]⟩
  obtain ⟨_, _, k3, k4⟩ := runs (by omega) hg l 0 _ rfl (by omega) h0
  refine ⟨k3, fun j hj => k4 j (by omega) hj, fun i => ⟨sumI_nonneg _ fun y hy => (hpos y (List.mem_of_mem_take hy)).1, ?_⟩, sumI_nonneg _ fun y hy => (hpos y hy).1, by omega⟩
  have h1 := hup ((l.map fun y => y.f1).take i) fun y hy => hpos y (List.mem_of_mem_take hy)
  rw [List.length_take, List.length_map] at h1
  omega
theorem firstI_at (t : Int) : ∀ (x : List (List Int)) (i q : Nat), x.flatten.Nodup → (h : q < x.length) → t ∈ x[q] → firstI t x i = ((i + q : Nat) : Int)
  | [], i, q, _, h, _ => by simp at h
  | y :: r, i, q, hn, h, ht => by
    rw [List.flatten_cons, List.nodup_append] at hn
    unfold firstI
    cases q with
    | zero =>
      have ht0 : t ∈ y := ht
      rw [if_pos ((hasB_mem _ _).2 ht0)]; rfl
    | succ q =>
      have h' : q < r.length := by simpa using h
      have ht' : t ∈ r[q] := by simpa using ht
      rw [if_neg (fun hc => hn.2.2 t ((hasB_mem _ _).1 hc) t (List.mem_flatten.2 ⟨_, List.getElem_mem h', ht'⟩) rfl), firstI_at t r (i + 1) q hn.2.1 h' ht']
      omega
end Go.Proofs.Ytaopcamaceddnaa.Z
