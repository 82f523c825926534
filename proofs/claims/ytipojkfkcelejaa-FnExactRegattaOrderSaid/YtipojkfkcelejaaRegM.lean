/- Marks over rows of rows, and over a regatta. Conditions: sizes. -/
import Derived.Test.YtipojkfkcelejaaRegB
import Derived.Test.YtipojkfkcelejaaLawMark
import Derived.Test.YtipojkfkcelejaaX25
import Derived.Test.YtipojkfkcelejaaX26
namespace Go.Proofs.Ytipojkfkcelejaa.X
set_option linter.unusedVariables false
set_option linter.unusedSimpArgs false
open Go.RowKit Go.Proofs.YtipojkfkcelejaaW.PrintWords Go.Proofs.Ytipojkfkcelejaa.PK
def markAll : List (List Int) → Int → List (List Int)
  | [], _ => []
  | x :: r, q => marks q x.length :: markAll r (q + x.length)
def totL : List (List Int) → Int
  | [] => 0
  | x :: r => x.length + totL r
theorem markAll_len : ∀ (xs : List (List Int)) (q : Int), (markAll xs q).length = xs.length
  | [], _ => rfl
  | _ :: r, q => by simp [markAll, markAll_len r]
theorem markIntSS_marks (l : List (List Int)) (hl : l.length ≤ 1048576) (hi : ∀ y ∈ l, y.length ≤ 1048576) : Ev (fun k => laws_markIntSS.f k l 1) (1 + totL l, markAll l 1) := by
  have := down (g := fun i => ∀ ys : List (List Int), ys.length = i → ∀ q : Int, 1 ≤ q → q ≤ 1 + i * 1048576 → Ev (fun k => laws_markIntSS.l0 k (ys ++ l.drop i) q (i : Int)) (q + totL (l.drop i), ys ++ markAll (l.drop i) q)) (n := l.length) (fun i h hn ys hy q h1 h2 => by
    have hm := hi _ (List.getElem_mem h)
    have hg : (ys ++ l.drop i)[i]'(by simp; omega) = l[i] := by
      rw [List.getElem_append_right (by omega)]; simp [hy]
    have hr : rd_L1 (ys ++ l.drop i) (i : Int) = l[i] := by
      rw [rdL_nat (by simp; omega)]; exact hg
    have hn' := hn (ys ++ [marks q l[i].length]) (by simp; omega) (q + l[i].length) (by omega) (by push_cast; omega)
    refine Ev.step (fun k => laws_markIntSS.l0.eq_2 ..) (Ev.pos (by simp; omega) (Ev.pos (by omega) ?_))
    rw [hr]
    refine Ev.bind (markIntS_marks _ q (by omega) (by omega)) ?_
    rw [w64s (by omega), Int.toNat_natCast, set_step _ _ _ _ hy h, List.drop_eq_getElem_cons h]
    simp only [totL, markAll]
    rw [show q + ((l[i].length : Int) + totL (l.drop (i + 1))) = q + l[i].length + totL (l.drop (i + 1)) by omega, show ys ++ marks q l[i].length :: markAll (l.drop (i + 1)) (q + l[i].length) = ys ++ [marks q l[i].length] ++ markAll (l.drop (i + 1)) (q + l[i].length) by simp]
    exact hn') (fun ys hy q h1 h2 => by
    rw [List.drop_length]
    refine Ev.step (fun k => laws_markIntSS.l0.eq_2 ..) (Ev.neg (by simp; omega) ?_)
    simp only [totL, markAll, Int.add_zero]
    exact Ev.now _) l.length 0 (by omega)
  simpa [laws_markIntSS.f] using this [] rfl 1 (by omega) (by omega)
theorem totL_nonneg : ∀ l : List (List Int), 0 ≤ totL l
  | [] => by simp [totL]
  | x :: r => by have := totL_nonneg r; simp only [totL]; omega
theorem markReg_marks (b : Int) (l : List (List Int)) (d : Int) (hl : l.length ≤ 1048576) (hi : ∀ y ∈ l, y.length ≤ 1048576) : Ev (fun k => laws_markRegatta.f k b l d 1) (1 + totL l, markAll l 1) := by
  unfold laws_markRegatta.f
  exact markIntSS_marks l hl hi
end Go.Proofs.Ytipojkfkcelejaa.X
