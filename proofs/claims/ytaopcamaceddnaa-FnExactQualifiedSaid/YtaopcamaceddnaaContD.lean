/- Marks over contests, and places and lists of those who qualify: what the laws' helpers tell of them. Conditions: sizes. -/
import Derived.Test.YtaopcamaceddnaaContC
import Derived.Test.YtaopcamaceddnaaLawMark
import Derived.Test.YtaopcamaceddnaaX16
import Derived.Test.YtaopcamaceddnaaX23
import Derived.Test.YtaopcamaceddnaaX24
import Derived.Test.YtaopcamaceddnaaX27
import Derived.Test.YtaopcamaceddnaaX28
namespace Go.Proofs.Ytaopcamaceddnaa.X
set_option linter.unusedVariables false
set_option linter.unusedSimpArgs false
open Go.RowKit Go.Proofs.YtaopcamaceddnaaW.PrintWords Go.Proofs.Ytaopcamaceddnaa.PK
theorem markContestS_some (l : List C1) (hl : l.length ≤ 1048576) (hi : ∀ y ∈ l, y.f0.length ≤ 1048576) : ∃ r, Ev (fun k => laws_markContestS.f k l 1) r ∧ 0 ≤ r.1 := by
  have := down (g := fun i => ∀ ys : List C1, ys.length = i → ∀ q : Int, 1 ≤ q → q ≤ 1 + i * 1048578 → ∃ r, Ev (fun k => laws_markContestS.l0 k (ys ++ l.drop i) q (i : Int)) r ∧ 0 ≤ r.1) (n := l.length) (fun i h hn ys hy q h1 h2 => by
    have hm := hi _ (List.getElem_mem h)
    have hg : (ys ++ l.drop i)[i]'(by simp; omega) = l[i] := by
      rw [List.getElem_append_right (by omega)]; simp [hy]
    have hr : rd_T38 (ys ++ l.drop i) (i : Int) = l[i] := by
      rw [rd1_nat (by simp; omega)]; exact hg
    obtain ⟨r, hr1, hr2⟩ := hn (ys ++ [⟨marks q l[i].f0.length, q + l[i].f0.length, q + l[i].f0.length + 1⟩]) (by simp; omega) (q + l[i].f0.length + 2) (by omega) (by push_cast; omega)
    refine ⟨r, Ev.step (fun k => laws_markContestS.l0.eq_2 ..) (Ev.pos (by simp; omega) (Ev.pos (by omega) ?_)), hr2⟩
    rw [hr]
    refine Ev.bind (markIntS_marks _ q (by omega) (by omega)) ?_
    rw [w64s (by omega), w64 (n := q + (l[i].f0.length : Int) + 1) (by omega) (by omega), w64 (by omega) (by omega), Int.toNat_natCast, set_step _ _ _ _ hy h]
    rw [show q + (l[i].f0.length : Int) + 1 + 1 = q + l[i].f0.length + 2 by omega]
    exact hr1) (fun ys hy q h1 h2 => ⟨_, Ev.step (fun k => laws_markContestS.l0.eq_2 ..) (Ev.neg (by simp; omega) (Ev.now _)), by show (0 : Int) ≤ q; omega⟩) l.length 0 (by omega)
  simpa [laws_markContestS.f] using this [] rfl 1 (by omega) (by omega)
def markAll : List (List Int) → Int → List (List Int)
  | [], _ => []
  | x :: r, q => marks q x.length :: markAll r (q + x.length)
def totL : List (List Int) → Int
  | [] => 0
  | x :: r => x.length + totL r
theorem markAll_len : ∀ (xs : List (List Int)) (q : Int), (markAll xs q).length = xs.length
  | [], _ => rfl
  | _ :: r, q => by simp [markAll, markAll_len r]
theorem markIntSS_marks (l : List (List Int)) (hl : l.length ≤ 1048576) (hi : ∀ y ∈ l, y.length ≤ 1048576) : Ev (fun k => laws_markIntSS.f k l 1) (1 + totL l, markAll l 1) := by
  have := down (g := fun i => ∀ ys : List (List Int), ys.length = i → ∀ q : Int, 1 ≤ q → q ≤ 1 + i * 1048576 → Ev (fun k => laws_markIntSS.l0 k (ys ++ l.drop i) q (i : Int)) (q + totL (l.drop i), ys ++ markAll (l.drop i) q)) (n := l.length) (fun i h hn ys hy q h1 h2 => by
    have hm := hi _ (List.getElem_mem h)
    have hg : (ys ++ l.drop i)[i]'(by simp; omega) = l[i] := by
      rw [List.getElem_append_right (by omega)]; simp [hy]
    have hr : rd_L1 (ys ++ l.drop i) (i : Int) = l[i] := by
      rw [rdL_nat (by simp; omega)]; exact hg
    have hn' := hn (ys ++ [marks q l[i].length]) (by simp; omega) (q + l[i].length) (by omega) (by push_cast; omega)
    refine Ev.step (fun k => laws_markIntSS.l0.eq_2 ..) (Ev.pos (by simp; omega) (Ev.pos (by omega) ?_))
    rw [hr]
    refine Ev.bind (markIntS_marks _ q (by omega) (by omega)) ?_
    rw [w64s (by omega), Int.toNat_natCast, set_step _ _ _ _ hy h, List.drop_eq_getElem_cons h]
    simp only [totL, markAll]
    rw [show q + ((l[i].length : Int) + totL (l.drop (i + 1))) = q + l[i].length + totL (l.drop (i + 1)) by omega, show ys ++ marks q l[i].length :: markAll (l.drop (i + 1)) (q + l[i].length) = ys ++ [marks q l[i].length] ++ markAll (l.drop (i + 1)) (q + l[i].length) by simp]
    exact hn') (fun ys hy q h1 h2 => by
    rw [List.drop_length]
    refine Ev.step (fun k => laws_markIntSS.l0.eq_2 ..) (Ev.neg (by simp; omega) ?_)
    simp only [totL, markAll, Int.add_zero]
    exact Ev.now _) l.length 0 (by omega)
  simpa [laws_markIntSS.f] using this [] rfl 1 (by omega) (by omega)
theorem heldIntSS_marks (l : List (List Int)) (hl : l.length ≤ 1048576) (hi : ∀ y ∈ l, y.length ≤ 1048576) : Ev (fun k => laws_heldIntSS.f k (markAll l 1) 1) (1 + totL l) := by
  have := down (g := fun i => ∀ q : Int, 1 ≤ q → q ≤ 1 + i * 1048576 → (markAll l 1).drop i = markAll (l.drop i) q → Ev (fun k => laws_heldIntSS.l0 k (markAll l 1) q (i : Int)) (q + totL (l.drop i))) (n := l.length) (fun i h hn q h1 h2 e => by
    have hm := hi _ (List.getElem_mem h)
    have h' : i < (markAll l 1).length := by rw [markAll_len]; exact h
    rw [List.drop_eq_getElem_cons h, List.drop_eq_getElem_cons h'] at e
    simp only [markAll] at e
    obtain ⟨e1, e2⟩ := List.cons.inj e
    have hn' := hn (q + l[i].length) (by omega) (by push_cast; omega) e2
    refine Ev.step (fun k => laws_heldIntSS.l0.eq_2 ..) (Ev.pos (by omega) (Ev.pos (by omega) ?_))
    rw [rdL_nat h', e1, w64s (by omega), List.drop_eq_getElem_cons h]
    refine Ev.bind (heldIntS_marks q _ (by omega) (by omega)) (Ev.neg (by omega) ?_)
    simp only [totL]
    rw [show q + ((l[i].length : Int) + totL (l.drop (i + 1))) = q + l[i].length + totL (l.drop (i + 1)) by omega]
    exact hn') (fun q h1 h2 e => by
    rw [List.drop_length]
    refine Ev.step (fun k => laws_heldIntSS.l0.eq_2 ..) (Ev.neg (by rw [markAll_len]; omega) ?_)
    simp only [totL, Int.add_zero]
    exact Ev.now _) l.length 0 (by omega)
  simpa [laws_heldIntSS.f] using this 1 (by omega) (by omega) rfl
theorem totL_nonneg : ∀ l : List (List Int), 0 ≤ totL l
  | [] => by simp [totL]
  | x :: r => by have := totL_nonneg r; simp only [totL]; omega
theorem eqIntSS_self (x : List (List Int)) (hb : x.length ≤ 1048576) (hi : ∀ y ∈ x, y.length ≤ 1048576) : Ev (fun k => laws_eqIntSS.f k x x) true := by
  have := Ev.iter (fun i k => laws_eqIntSS.l0 k x x (i : Int)) x.length true (fun i hi' h => by
    have hm := hi _ (List.getElem_mem hi')
    refine Ev.step (fun k => laws_eqIntSS.l0.eq_2 ..) (Ev.pos (by omega) (Ev.pos (by omega) (Ev.pos (by omega) ?_)))
    rw [rdL_nat hi', w64s (by omega)]
    exact Ev.bind (eqIntS_self _ (by omega)) (Ev.pos rfl h)) (Ev.step (fun k => laws_eqIntSS.l0.eq_2 ..) (Ev.neg (by omega) (Ev.now _)))
  exact Ev.pos rfl this
theorem runC_left : ∀ (l : List C1) (i : Nat) (s : St), (runC l i s).left.length = s.left.length
  | [], _, _ => rfl
  | y :: r, i, s => by
    unfold runC
    rw [runC_left r]
    unfold one fin
    split <;> simp
def leftC (n : Int) (l : List C1) : List Int := if contsB n l = true then (runL l).left else []
theorem left_small {n : Int} {l : List C1} (hl : l.length ≤ 1048576) : (leftC n l).length ≤ 1048576 := by
  unfold leftC
  split
  · rw [runC_left]; simpa using hl
  · simp
theorem spec_places (n : Int) (l : List C1) (hl : l.length ≤ 1048576) (hi : ∀ y ∈ l, y.f0.length ≤ 1048576) : Ev (fun k => spec_PlacesOf.f k n l) (leftC n l) := by
  unfold spec_PlacesOf.f leftC
  refine Ev.bind (spec_conts n l hl hi) ?_
  by_cases c : contsB n l = true
  · rw [if_pos c]
    exact Ev.pos c (Ev.bind (spec_settled l hl hi (conts_ends hl c)) (Ev.now _))
  · rw [if_neg c]
    exact Ev.neg c (Ev.now _)
theorem impl_places (n : Int) (l : List C1) (hl : l.length ≤ 1048576) (hi : ∀ y ∈ l, y.f0.length ≤ 1048576) : Ev (fun k => impl_PlacesOf.f k n l) (leftC n l) := by
  unfold impl_PlacesOf.f leftC
  refine Ev.bind (impl_conts n l hl hi) ?_
  by_cases c : contsB n l = true
  · rw [if_pos c]
    exact Ev.pos c (Ev.bind (impl_settled l hl hi (conts_ends hl c)) (Ev.now _))
  · rw [if_neg c]
    exact Ev.neg c (Ev.now _)
end Go.Proofs.Ytaopcamaceddnaa.X
