/- What leaves a set of nodes: the sums of balances, and the limits of a cut. Conditions: a valid net, a balanced flow. -/
import Derived.Test.YteaemblallbgpaaFlowG
import Derived.Test.YteaemblallbgpaaNetAi
namespace Go.Proofs.Yteaemblallbgpaa.X
set_option linter.unusedVariables false
set_option linter.unusedSimpArgs false
open Go.RowKit Go.Proofs.YteaemblallbgpaaW.PrintWords Go.Proofs.Yteaemblallbgpaa.PK
/-- The balances of the nodes of S below k, summed up. -/
def cutSum (S : Nat → Bool) (w : List P1) (g : List Int) : Nat → Int
  | 0 => 0
  | k + 1 => cutSum S w g k + (if S k = true then bal (k : Int) w g else 0)
def ind (S : Nat → Bool) (z : Int) : Int := if S z.toNat = true then 1 else 0
def indSum (S : Nat → Bool) (z : Int) : Nat → Int
  | 0 => 0
  | k + 1 => indSum S z k + (if S k = true then (if z = (k : Int) then 1 else 0) else 0)
theorem indSum_tells (S : Nat → Bool) {z : Int} (h0 : 0 ≤ z) : ∀ k : Nat, indSum S z k = if z < (k : Int) then ind S z else 0
  | 0 => by rw [if_neg (by omega)]; rfl
  | k + 1 => by
    simp only [indSum]
    rw [indSum_tells S h0 k]
    by_cases c : z < (k : Int)
    · rw [if_pos c, if_pos (show z < ((k + 1 : Nat) : Int) by omega), if_neg (show ¬ z = (k : Int) by omega)]; simp
    · rw [if_neg c]
      by_cases e : z = (k : Int)
      · rw [if_pos e, if_pos (show z < ((k + 1 : Nat) : Int) by omega)]
        unfold ind
        rw [show z.toNat = k by omega]
        omega
      · rw [if_neg e, if_neg (show ¬ z < ((k + 1 : Nat) : Int) by omega)]; simp
theorem cutSum_nil (S : Nat → Bool) (g : List Int) : ∀ k, cutSum S [] g k = 0
  | 0 => rfl
  | k + 1 => by simp [cutSum, cutSum_nil S g k, bal]
theorem cutSum_cons (S : Nat → Bool) (p : P1) (w : List P1) (x : Int) (g : List Int) : ∀ k, cutSum S (p :: w) (x :: g) k = (indSum S p.f0 k - indSum S p.f1 k) * x + cutSum S w g k
  | 0 => by simp [cutSum, indSum]
  | k + 1 => by
    simp only [cutSum, indSum]
    rw [cutSum_cons S p w x g k]
    by_cases c : S k = true
    · simp only [if_pos c, bal, coef]
      generalize indSum S p.f0 k = A
      generalize indSum S p.f1 k = B
      generalize cutSum S w g k = C
      generalize bal (k : Int) w g = D
      by_cases c0 : p.f0 = (k : Int) <;> by_cases c1 : p.f1 = (k : Int)
      · rw [if_pos c0, if_pos c1, show A + 1 - (B + 1) = A - B by omega]; simp; omega
      · rw [if_pos c0, if_neg c1, show A + 1 - (B + 0) = (A - B) + 1 by omega, Int.add_mul]; simp; omega
      · rw [if_neg c0, if_pos c1, show A + 0 - (B + 1) = (A - B) + (-1) by omega, Int.add_mul]; simp; omega
      · rw [if_neg c0, if_neg c1, show A + 0 - (B + 0) = A - B by omega]; simp; omega
    · simp only [if_neg c, Int.add_zero]
/-- The limits of the pipes that leave the set. -/
def limS (S : Nat → Bool) : List P1 → Int
  | [] => 0
  | p :: w => (if S p.f0.toNat = true ∧ ¬ S p.f1.toNat = true then p.f2 else 0) + limS S w
theorem cut_lim (S : Nat → Bool) (n : Nat) : ∀ (w : List P1) (g : List Int), g.length = w.length → (∀ p ∈ w, (0 ≤ p.f0 ∧ p.f0 < n) ∧ (0 ≤ p.f1 ∧ p.f1 < n)) →
    (∀ i (h : i < w.length) (h' : i < g.length), (S w[i].f0.toNat = true → ¬ S w[i].f1.toNat = true → g[i] = w[i].f2) ∧ (¬ S w[i].f0.toNat = true → S w[i].f1.toNat = true → g[i] = 0)) → cutSum S w g n = limS S w
  | [], g, _, _, _ => cutSum_nil S g n
  | _ :: _, [], h, _, _ => absurd h (by simp)
  | p :: w, x :: g, hl, he, hc => by
    have ih := cut_lim S n w g (by simpa using hl) (fun q hq => he q (List.mem_cons_of_mem _ hq)) (fun i h h' => by
      have := hc (i + 1) (by simpa using h) (by simpa using h')
      simpa using this)
    have h0 := hc 0 (by simp) (by simp)
    simp only [List.getElem_cons_zero] at h0
    have e := he p (by simp)
    rw [cutSum_cons, ih, indSum_tells S e.1.1, indSum_tells S e.2.1, if_pos e.1.2, if_pos e.2.2]
    simp only [limS, ind]
    by_cases c0 : S p.f0.toNat = true <;> by_cases c1 : S p.f1.toNat = true
    · rw [if_pos c0, if_pos c1, if_neg (fun q => q.2 c1)]; simp
    · rw [if_pos c0, if_neg c1, if_pos ⟨c0, c1⟩, h0.1 c0 c1]; simp
    · rw [if_neg c0, if_pos c1, if_neg (fun q => c0 q.1), h0.2 c0 c1]; simp
    · rw [if_neg c0, if_neg c1, if_neg (fun q => c0 q.1)]; simp
/-- All balances but that of a (and that of b, where b is in the set) are nought. -/
theorem cutSum_two {S : Nat → Bool} {w : List P1} {g : List Int} {a b : Nat} (hz : ∀ z : Int, z ≠ (a : Int) → z ≠ (b : Int) → bal z w g = 0) (hab : a ≠ b) (ha : S a = true) : ∀ k : Nat, cutSum S w g k = (if a < k then bal (a : Int) w g else 0) + (if b < k ∧ S b = true then bal (b : Int) w g else 0)
  | 0 => by simp [cutSum]
  | k + 1 => by
    simp only [cutSum]
    rw [cutSum_two hz hab ha k]
    by_cases ka : k = a
    · subst ka
      rw [if_pos ha, if_neg (by omega), if_pos (show k < k + 1 by omega)]
      by_cases q : b < k ∧ S b = true
      · rw [if_pos q, if_pos ⟨by omega, q.2⟩]; omega
      · rw [if_neg q, if_neg (fun r => q ⟨by omega, r.2⟩)]; omega
    · by_cases kb : k = b
      · subst kb
        rw [if_neg (show ¬ (k < k ∧ S k = true) by omega)]
        by_cases q : a < k
        · rw [if_pos q, if_pos (show a < k + 1 by omega)]
          by_cases s : S k = true
          · rw [if_pos s, if_pos ⟨by omega, s⟩]; omega
          · rw [if_neg s, if_neg (fun r => s r.2)]; omega
        · rw [if_neg q, if_neg (show ¬ a < k + 1 by omega)]
          by_cases s : S k = true
          · rw [if_pos s, if_pos ⟨by omega, s⟩]; omega
          · rw [if_neg s, if_neg (fun r => s r.2)]; omega
      · rw [hz (k : Int) (by omega) (by omega)]
        have e1 : (if a < k then bal (a : Int) w g else 0) = if a < k + 1 then bal (a : Int) w g else 0 := by
          by_cases q : a < k
          · rw [if_pos q, if_pos (by omega)]
          · rw [if_neg q, if_neg (by omega)]
        have e2 : (if b < k ∧ S b = true then bal (b : Int) w g else 0) = if b < k + 1 ∧ S b = true then bal (b : Int) w g else 0 := by
          by_cases q : b < k ∧ S b = true
          · rw [if_pos q, if_pos ⟨by omega, q.2⟩]
          · rw [if_neg q, if_neg (fun r => q ⟨by omega, r.2⟩)]
        rw [e1, e2]
        split <;> omega
theorem cutSum_all (n : Nat) : ∀ (w : List P1) (g : List Int), g.length = w.length → (∀ p ∈ w, (0 ≤ p.f0 ∧ p.f0 < n) ∧ (0 ≤ p.f1 ∧ p.f1 < n)) → cutSum (fun _ => true) w g n = 0
  | [], g, _, _ => cutSum_nil _ g n
  | _ :: _, [], h, _ => absurd h (by simp)
  | p :: w, x :: g, hl, he => by
    have ih := cutSum_all n w g (by simpa using hl) (fun q hq => he q (List.mem_cons_of_mem _ hq))
    have e := he p (by simp)
    rw [cutSum_cons, ih, indSum_tells _ e.1.1, indSum_tells _ e.2.1, if_pos e.1.2, if_pos e.2.2]
    simp [ind]
/-- What the programs sum up is the balance. -/
theorem flowV_bal (z : Int) : ∀ (w : List P1) (g : List Int) (s m : Int), Lim w → (∀ p ∈ w, p.f0 ≠ p.f1) → Good w g → -m ≤ s → s ≤ m → m + 1000 * (w.length : Int) ≤ 120000 → (w.zip g).foldl (fv1 z) s = s + bal z w g
  | [], g, s, m, _, _, _, _, _, _ => by simp [bal]
  | p :: w, [], _, _, _, _, h, _, _, _ => absurd h.1 (by simp)
  | p :: w, x :: g, s, m, hl, hne, h, s1, s2, s3 => by
    have h0 := h.2 0 (by simp)
    have l0 := hl p (by simp)
    have e1 : rd (x :: g) ((0 : Nat) : Int) = x := rfl
    have e2 : rd_T60 (p :: w) ((0 : Nat) : Int) = p := rfl
    rw [e1, e2] at h0
    simp only [List.length_cons] at s3
    have hp := hne p (by simp)
    have hg : Good w g := ⟨by simpa using h.1, fun i hi => by
      have := h.2 (i + 1) (by simpa using hi)
      have hg : i < g.length := by have := h.1; simp at this; omega
      rw [rd_nat (by simpa using hg), rd1_nat (by simpa using hi)] at this
      rw [rd_nat hg, rd1_nat hi]
      simpa using this⟩
    rw [List.zip_cons_cons, List.foldl_cons, fv1_plain z s x p hp (by omega) (by omega)]
    have hc : coef z p * x = (if p.f0 = z then x else 0) - (if p.f1 = z then x else 0) := by
      unfold coef
      by_cases c0 : p.f0 = z <;> by_cases c1 : p.f1 = z
      · exact absurd (c0.trans c1.symm) hp
      · rw [if_pos c0, if_neg c1, if_pos c0, if_neg c1]; omega
      · rw [if_neg c0, if_pos c1, if_neg c0, if_pos c1]; omega
      · rw [if_neg c0, if_neg c1, if_neg c0, if_neg c1]; omega
    rw [flowV_bal z w g _ (m + 1000) (fun q hq => hl q (List.mem_cons_of_mem _ hq)) (fun q hq => hne q (List.mem_cons_of_mem _ hq)) hg (by split <;> split <;> omega) (by split <;> split <;> omega) (by omega)]
    simp only [bal]
    rw [hc]
    omega
theorem cutL_lim (side : List Bool) : ∀ (w : List P1) (s m : Int), Lim w → 0 ≤ s → s ≤ m → m + 1000 * (w.length : Int) ≤ 120000 → w.foldl (ct1 side) s = s + limS (fun i => side.getD i false) w
  | [], s, m, _, _, _, _ => by simp [limS]
  | p :: w, s, m, hl, s1, s2, s3 => by
    have l0 := hl p (by simp)
    simp only [List.length_cons] at s3
    rw [List.foldl_cons]
    have e : ct1 side s p = s + (if side.getD p.f0.toNat false = true ∧ ¬ side.getD p.f1.toNat false = true then p.f2 else 0) := by
      unfold ct1
      by_cases c0 : side.getD p.f0.toNat false = true
      · rw [if_pos c0]
        by_cases c1 : side.getD p.f1.toNat false = true
        · rw [if_pos c1, if_neg (fun q => q.2 c1)]; omega
        · rw [if_neg c1, if_pos ⟨c0, c1⟩, w64 (by omega) (by omega)]
      · rw [if_neg c0, if_neg (fun q => c0 q.1)]; omega
    rw [e, cutL_lim side w _ (m + 1000) (fun q hq => hl q (List.mem_cons_of_mem _ hq)) (by split <;> omega) (by split <;> omega) (by omega)]
    simp only [limS]
    omega
end Go.Proofs.Yteaemblallbgpaa.X
