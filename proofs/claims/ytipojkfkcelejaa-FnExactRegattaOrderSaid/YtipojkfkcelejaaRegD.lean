/- Which boat comes first: one order, told by the reference and by the program. Conditions: a valid regatta, boats of it. -/
import Derived.Test.YtipojkfkcelejaaRegC
import Derived.Test.YtipojkfkcelejaaX28
import Derived.Test.YtipojkfkcelejaaX29
import Derived.Test.YtipojkfkcelejaaX31
import Derived.Test.YtipojkfkcelejaaX32
import Derived.Test.YtipojkfkcelejaaX33
import Derived.Test.YtipojkfkcelejaaX34
namespace Go.Proofs.Ytipojkfkcelejaa.X
set_option linter.unusedVariables false
set_option linter.unusedSimpArgs false
open Go.RowKit Go.Proofs.YtipojkfkcelejaaW.PrintWords Go.Proofs.Ytipojkfkcelejaa.PK
def lexLt : List Int → List Int → Bool
  | [], [] => false
  | [], _ :: _ => true
  | _ :: _, [] => false
  | a :: r, b :: s => if a = b then lexLt r s else decide (a < b)
theorem lex_refl : ∀ a : List Int, lexLt a a = false
  | [] => rfl
  | a :: r => by simp only [lexLt, if_true]; exact lex_refl r
theorem lex_asym : ∀ a b : List Int, lexLt a b = true → lexLt b a = false
  | [], [], h => by simp [lexLt] at h
  | [], _ :: _, _ => rfl
  | _ :: _, [], h => by simp [lexLt] at h
  | a :: r, b :: s, h => by
    simp only [lexLt] at h ⊢
    by_cases c : a = b
    · rw [if_pos c] at h
      rw [if_pos c.symm]
      exact lex_asym r s h
    · rw [if_neg c] at h
      rw [if_neg (fun e => c e.symm)]
      have := of_decide_eq_true h
      exact decide_eq_false (by omega)
theorem lex_le_trans : ∀ a b c : List Int, lexLt b a = false → lexLt c b = false → lexLt c a = false
  | [], [], _, _, h => h
  | [], _ :: _, [], _, _ => rfl
  | [], _ :: _, _ :: _, _, _ => rfl
  | _ :: _, [], _, h, _ => by simp [lexLt] at h
  | _ :: _, _ :: _, [], _, h => by simp [lexLt] at h
  | a :: r, b :: s, c :: t, h1, h2 => by
    simp only [lexLt] at h1 h2 ⊢
    by_cases e1 : b = a
    · rw [if_pos e1] at h1
      by_cases e2 : c = b
      · rw [if_pos e2] at h2
        rw [if_pos (e2.trans e1)]
        exact lex_le_trans r s t h1 h2
      · rw [if_neg e2] at h2
        rw [if_neg (fun e => e2 (e.trans e1.symm)), ← e1]
        exact h2
    · rw [if_neg e1] at h1
      have h1' := of_decide_eq_false h1
      by_cases e2 : c = b
      · rw [e2, if_neg e1]; exact h1
      · rw [if_neg e2] at h2
        have h2' := of_decide_eq_false h2
        rw [if_neg (by omega)]
        exact decide_eq_false (by omega)
theorem lex_anti : ∀ a b : List Int, lexLt a b = false → lexLt b a = false → a = b
  | [], [], _, _ => rfl
  | [], _ :: _, h, _ => by simp [lexLt] at h
  | _ :: _, [], _, h => by simp [lexLt] at h
  | a :: r, b :: s, h1, h2 => by
    simp only [lexLt] at h1 h2
    by_cases c : a = b
    · rw [if_pos c] at h1
      rw [if_pos c.symm] at h2
      rw [c, lex_anti r s h1 h2]
    · rw [if_neg c] at h1
      rw [if_neg (fun e => c e.symm)] at h2
      have h1' := of_decide_eq_false h1
      have h2' := of_decide_eq_false h2
      omega
def tailK (l : List (List Int)) (x : Int) : List Int := (col l x).reverse ++ [x]
def key (b : Int) (l : List (List Int)) (d x : Int) : List Int := sumW (keptB b l d x) :: (keptB b l d x ++ tailK l x)
def beforeB (b : Int) (l : List (List Int)) (d x y : Int) : Bool := lexLt (key b l d x) (key b l d y)
theorem before_anti {b : Int} {l : List (List Int)} {d x y : Int} (h1 : beforeB b l d x y = false) (h2 : beforeB b l d y x = false) : x = y := by
  have e := lex_anti _ _ h1 h2
  have e2 := congrArg List.getLast? e
  simp only [key, tailK, ← List.append_assoc, ← List.cons_append, List.getLast?_concat, Option.some.injEq] at e2
  exact e2
theorem tail_snoc (l : List (List Int)) (x : Int) (i : Nat) (h : i < l.length) : tailK (l.take (i + 1)) x = rd l[i] x :: tailK (l.take i) x := by
  unfold tailK
  rw [col_snoc l x i h]
  simp
theorem spec_tail {b : Int} {l : List (List Int)} {d x y : Int} (h : Reg b l d) (x0 : 0 ≤ x) (x1 : x < b) (y0 : 0 ≤ y) (y1 : y < b) :
    ∀ m, m ≤ l.length → Ev (fun k => spec_l15Before.l1 k x y ((m : Int) - 1) b l d) (lexLt (tailK (l.take m) x) (tailK (l.take m) y))
  | 0, _ => by
    have e : lexLt (tailK (l.take 0) x) (tailK (l.take 0) y) = decide (x < y) := by
      show lexLt [x] [y] = _
      simp only [lexLt]
      by_cases c : x = y
      · rw [if_pos c]; exact (decide_eq_false (by omega)).symm
      · rw [if_neg c]
    rw [e]
    exact Ev.step (fun k => spec_l15Before.l1.eq_2 ..) (Ev.neg (by omega) (Ev.now _))
  | m + 1, hm => by
    have ih := spec_tail h x0 x1 y0 y1 m (by omega)
    have h10 := h.l10
    have hz := h.len _ (List.getElem_mem (show m < l.length by omega))
    rw [tail_snoc l x m (by omega), tail_snoc l y m (by omega), show ((m + 1 : Nat) : Int) - 1 = (m : Int) by omega]
    refine Ev.step (fun k => spec_l15Before.l1.eq_2 ..) (Ev.pos (by omega) (Ev.pos (by omega) (Ev.pos (by omega) (Ev.pos x0 (Ev.pos (by rw [rdL_nat (by omega)]; omega) (Ev.pos y0 (Ev.pos (by rw [rdL_nat (by omega)]; omega) ?_)))))))
    rw [rdL_nat (show m < l.length by omega)]
    simp only [lexLt]
    by_cases c : rd l[m] x = rd l[m] y
    · rw [if_pos c]
      refine Ev.pos c ?_
      rw [w64 (by omega) (by omega)]
      exact ih
    · rw [if_neg c]
      exact Ev.neg c (Ev.now _)
theorem impl_tail {b : Int} {l : List (List Int)} {d x y : Int} (h : Reg b l d) (x0 : 0 ≤ x) (x1 : x < b) (y0 : 0 ≤ y) (y1 : y < b) :
    ∀ m, m ≤ l.length → Ev (fun k => impl_BoatBefore.l0 k x y ((m : Int) - 1) b l d) (lexLt (tailK (l.take m) x) (tailK (l.take m) y))
  | 0, _ => by
    have e : lexLt (tailK (l.take 0) x) (tailK (l.take 0) y) = decide (x < y) := by
      show lexLt [x] [y] = _
      simp only [lexLt]
      by_cases c : x = y
      · rw [if_pos c]; exact (decide_eq_false (by omega)).symm
      · rw [if_neg c]
    rw [e]
    exact Ev.step (fun k => impl_BoatBefore.l0.eq_2 ..) (Ev.neg (by omega) (Ev.now _))
  | m + 1, hm => by
    have ih := impl_tail h x0 x1 y0 y1 m (by omega)
    have h10 := h.l10
    have hz := h.len _ (List.getElem_mem (show m < l.length by omega))
    rw [tail_snoc l x m (by omega), tail_snoc l y m (by omega), show ((m + 1 : Nat) : Int) - 1 = (m : Int) by omega]
    refine Ev.step (fun k => impl_BoatBefore.l0.eq_2 ..) (Ev.pos (by omega) (Ev.pos (by omega) (Ev.pos (by omega) (Ev.pos x0 (Ev.pos (by rw [rdL_nat (by omega)]; omega) (Ev.pos y0 (Ev.pos (by rw [rdL_nat (by omega)]; omega) ?_)))))))
    rw [rdL_nat (show m < l.length by omega)]
    simp only [lexLt]
    by_cases c : rd l[m] x = rd l[m] y
    · rw [if_pos c]
      refine Ev.pos c ?_
      rw [w64 (by omega) (by omega)]
      exact ih
    · rw [if_neg c]
      exact Ev.neg c (Ev.now _)
theorem spec_before {b : Int} {l : List (List Int)} {d x y : Int} (h : Reg b l d) (x0 : 0 ≤ x) (x1 : x < b) (y0 : 0 ≤ y) (y1 : y < b) : Ev (fun k => spec_l15Before.f k b l d x y) (beforeB b l d x y) := by
  have h10 := h.l10
  have hl1 := h.l1
  unfold spec_l15Before.f beforeB key
  refine Ev.bind (score_tells h x0 x1) (Ev.bind (score_tells h y0 y1) ?_)
  have hp := keptB_len h x0 x1
  have hq := keptB_len h y0 y1
  simp only [lexLt]
  by_cases c : sumW (keptB b l d x) = sumW (keptB b l d y)
  · rw [if_pos c]
    refine Ev.pos c (Ev.bind (spec_kept h x0 x1) (Ev.bind (spec_kept h y0 y1) ?_))
    have ht := spec_tail h x0 x1 y0 y1 l.length (Nat.le_refl _)
    rw [List.take_length] at ht
    generalize keptB b l d x = p at hp
    generalize keptB b l d y = q at hq
    have key := down (g := fun i => Ev (fun k => spec_l15Before.l0 k x y q p (p.length : Int) (i : Int) b l d) (lexLt (p.drop i ++ tailK l x) (q.drop i ++ tailK l y))) (n := p.length) (fun i hi hn => by
      have hi' : i < q.length := by omega
      rw [List.drop_eq_getElem_cons hi, List.drop_eq_getElem_cons hi', List.cons_append, List.cons_append]
      refine Ev.step (fun k => spec_l15Before.l0.eq_2 ..) (Ev.pos (by omega) (Ev.pos (by omega) (Ev.pos (by omega) (Ev.pos (by omega) ?_))))
      rw [rd_nat hi, rd_nat hi']
      simp only [lexLt]
      by_cases c2 : p[i] = q[i]
      · rw [if_pos c2]
        refine Ev.pos c2 ?_
        rw [w64s (by omega)]; exact hn
      · rw [if_neg c2]
        exact Ev.neg c2 (Ev.now _)) (by
      rw [List.drop_length, show q.drop p.length = [] from List.drop_eq_nil_of_le (by omega)]
      refine Ev.step (fun k => spec_l15Before.l0.eq_2 ..) (Ev.neg (by omega) ?_)
      rw [w64 (by omega) (by omega)]
      exact ht) p.length 0 (by omega)
    exact key
  · rw [if_neg c]
    exact Ev.neg c (Ev.now _)
theorem cmp_tells (a b : Int) : cmp_Compare_int.f a b = some (if a < b then -1 else if a > b then 1 else 0) := by
  simp only [cmp_Compare_int.f, cmp_isNaN_int.f, Option.bind_some, bne_self_eq_false, Bool.false_eq_true, if_false]
  split
  · rfl
  · split <;> rfl
theorem compare_tells (p q : List Int) (hp : p.length ≤ 1048576) (hq : p.length = q.length) : ∃ t : Int, Ev (fun k => slices_Compare_int_int.f k p q) t ∧ ((t = 0 ∧ p = q) ∨ (t ≠ 0 ∧ ∀ r s, lexLt (p ++ r) (q ++ s) = decide (t < 0))) := by
  have key := down (g := fun i => ∃ t : Int, Ev (fun k => slices_Compare_int_int.l0 k p q p (p.length : Int) (i : Int)) t ∧ ((t = 0 ∧ p.drop i = q.drop i) ∨ (t ≠ 0 ∧ ∀ r s, lexLt (p.drop i ++ r) (q.drop i ++ s) = decide (t < 0)))) (n := p.length) (fun i hi hn => by
    have hi' : i < q.length := by omega
    obtain ⟨t, h1, h2⟩ := hn
    rw [List.drop_eq_getElem_cons hi, List.drop_eq_getElem_cons hi']
    by_cases c : p[i] = q[i]
    · refine ⟨t, Ev.step (fun k => slices_Compare_int_int.l0.eq_2 ..) (Ev.pos (by omega) (Ev.pos (by omega) (Ev.pos (by omega) (Ev.neg (by omega) (Ev.pos (by omega) (Ev.bind0 (cmp_tells _ _) (Ev.pos (by rw [rd_nat hi, rd_nat hi', c]; simp) ?_))))))), ?_⟩
      · rw [w64s (by omega)]; exact h1
      · rcases h2 with ⟨h3, h4⟩ | ⟨h3, h4⟩
        · exact .inl ⟨h3, by rw [c, h4]⟩
        · refine .inr ⟨h3, fun r s => ?_⟩
          simp only [List.cons_append, lexLt]
          rw [if_pos c]; exact h4 r s
    · refine ⟨if p[i] < q[i] then -1 else if p[i] > q[i] then 1 else 0, Ev.step (fun k => slices_Compare_int_int.l0.eq_2 ..) (Ev.pos (by omega) (Ev.pos (by omega) (Ev.pos (by omega) (Ev.neg (by omega) (Ev.pos (by omega) (Ev.bind0 (cmp_tells _ _) (Ev.neg (by rw [rd_nat hi, rd_nat hi']; split; omega; split <;> omega) ?_))))))), .inr ⟨by split; omega; split <;> omega, fun r s => ?_⟩⟩
      · rw [rd_nat hi, rd_nat hi']; exact Ev.now _
      · simp only [List.cons_append, lexLt]
        rw [if_neg c]
        by_cases c2 : p[i] < q[i]
        · rw [if_pos c2, decide_eq_true c2]; rfl
        · rw [if_neg c2, decide_eq_false c2, if_pos (by omega)]; rfl) ⟨0, Ev.step (fun k => slices_Compare_int_int.l0.eq_2 ..) (Ev.neg (by omega) (Ev.neg (by omega) (Ev.now _))), .inl ⟨rfl, by rw [List.drop_length, List.drop_eq_nil_of_le (by omega)]⟩⟩ p.length 0 (by omega)
  unfold slices_Compare_int_int.f
  simpa using key
theorem impl_before {b : Int} {l : List (List Int)} {d x y : Int} (h : Reg b l d) (x0 : 0 ≤ x) (x1 : x < b) (y0 : 0 ≤ y) (y1 : y < b) : Ev (fun k => impl_BoatBefore.j0 k x y false b l d) (beforeB b l d x y) := by
  have h10 := h.l10
  have hl1 := h.l1
  have hp := keptB_len h x0 x1
  have hq := keptB_len h y0 y1
  unfold beforeB key
  refine Ev.step (fun k => impl_BoatBefore.j0.eq_2 ..) (Ev.neg (by simp) (Ev.bind (impl_kept h x0 x1) (Ev.bind (impl_kept h y0 y1) (Ev.bind (total_tells _ (by omega)) (Ev.bind (total_tells _ (by omega)) ?_)))))
  simp only [lexLt]
  by_cases c : sumW (keptB b l d x) = sumW (keptB b l d y)
  · rw [if_pos c]
    refine Ev.pos c ?_
    have ht := impl_tail h x0 x1 y0 y1 l.length (Nat.le_refl _)
    rw [List.take_length] at ht
    obtain ⟨t, h1, h2⟩ := compare_tells (keptB b l d x) (keptB b l d y) (by omega) (by omega)
    refine Ev.bind h1 ?_
    rcases h2 with ⟨h3, h4⟩ | ⟨h3, h4⟩
    · refine Ev.pos h3 ?_
      have e : ∀ p r s : List Int, lexLt (p ++ r) (p ++ s) = lexLt r s := by
        intro p r s
        induction p with
        | nil => rfl
        | cons a p ih => simp only [List.cons_append, lexLt, if_true]; exact ih
      rw [h4, e, w64 (by omega) (by omega)]
      exact ht
    · rw [h4]
      exact Ev.neg h3 (Ev.now _)
  · rw [if_neg c]
    exact Ev.neg c (Ev.now _)
theorem spec_boat (b : Int) (l : List (List Int)) (d x y : Int) (hl : l.length ≤ 1048576) (hi : ∀ z ∈ l, z.length ≤ 1048576) : Ev (fun k => spec_BoatBefore.f k b l d x y) (regB b l d && (decide (0 ≤ x ∧ x ≤ wrap64 (b - 1)) && (decide (0 ≤ y ∧ y ≤ wrap64 (b - 1)) && beforeB b l d x y))) := by
  unfold spec_BoatBefore.f
  refine Ev.bind (spec_reg b l d hl hi) ?_
  by_cases c : regB b l d = true
  · refine Ev.pos c (Ev.bind0 (spec_in _ _ _) ?_)
    rw [c, Bool.true_and]
    have h := reg_of c
    have hb2 := h.b2
    have hb8 := h.b8
    by_cases c1 : 0 ≤ x ∧ x ≤ wrap64 (b - 1)
    · refine Ev.pos (decide_eq_true c1) (Ev.bind0 (spec_in _ _ _) ?_)
      rw [decide_eq_true c1, Bool.true_and]
      by_cases c2 : 0 ≤ y ∧ y ≤ wrap64 (b - 1)
      · refine Ev.pos (decide_eq_true c2) ?_
        rw [decide_eq_true c2, Bool.true_and]
        rw [w64 (by omega) (by omega)] at c1 c2
        by_cases c3 : x = y
        · refine Ev.pos c3 ?_
          rw [c3, show beforeB b l d y y = false from lex_refl _]
          exact Ev.now _
        · exact Ev.neg c3 (Ev.bind (spec_before h c1.1 (by omega) c2.1 (by omega)) (Ev.now _))
      · rw [decide_eq_false c2, Bool.false_and]
        exact Ev.neg (by simp) (Ev.now _)
    · rw [decide_eq_false c1, Bool.false_and]
      exact Ev.neg (by simp) (Ev.now _)
  · rw [show regB b l d = false by simpa using c, Bool.false_and]
    exact Ev.neg (by simp) (Ev.now _)
theorem impl_boat (b : Int) (l : List (List Int)) (d x y : Int) (hl : l.length ≤ 1048576) (hi : ∀ z ∈ l, z.length ≤ 1048576) : Ev (fun k => impl_BoatBefore.f k b l d x y) (regB b l d && (decide (0 ≤ x ∧ x ≤ wrap64 (b - 1)) && (decide (0 ≤ y ∧ y ≤ wrap64 (b - 1)) && beforeB b l d x y))) := by
  have out : Ev (fun k => impl_BoatBefore.j0 k x y true b l d) false := Ev.step (fun k => impl_BoatBefore.j0.eq_2 ..) (Ev.pos rfl (Ev.now _))
  unfold impl_BoatBefore.f
  refine Ev.bind (impl_reg b l d hl hi) ?_
  by_cases c : regB b l d = true
  · refine Ev.pos c (Ev.bind0 (impl_in _ _ _) ?_)
    rw [c, Bool.true_and]
    have h := reg_of c
    have hb2 := h.b2
    have hb8 := h.b8
    by_cases c1 : 0 ≤ x ∧ x ≤ wrap64 (b - 1)
    · refine Ev.pos (decide_eq_true c1) (Ev.bind0 (impl_in _ _ _) ?_)
      rw [decide_eq_true c1, Bool.true_and]
      by_cases c2 : 0 ≤ y ∧ y ≤ wrap64 (b - 1)
      · rw [decide_eq_true c2, Bool.true_and]
        rw [w64 (by omega) (by omega)] at c1 c2
        exact impl_before h c1.1 (by omega) c2.1 (by omega)
      · rw [decide_eq_false c2, Bool.false_and]
        exact out
    · rw [decide_eq_false c1, Bool.false_and]
      exact Ev.neg (by simp) out
  · rw [show regB b l d = false by simpa using c, Bool.false_and]
    exact Ev.neg (by simp) out
end Go.Proofs.Ytipojkfkcelejaa.X
