/- The first team that does not qualify, as the program tells it. Conditions: sizes of rows. -/
import Derived.Test.YtaopcamaceddnaaContC
import Derived.Test.YtaopcamaceddnaaY9
namespace Go.Proofs.Ytaopcamaceddnaa.Y
set_option linter.unusedVariables false
set_option linter.unusedSimpArgs false
open Go.RowKit Go.Proofs.YtaopcamaceddnaaW.PrintWords Go.Proofs.Ytaopcamaceddnaa.PK
def firstO (n : Int) (l : List C1) : List Int → Int
  | [] => -1
  | t :: r => if conOf n l t < 0 then t else firstO n l r
def firstOut (n : Int) (l : List C1) (c : Int) : Int := if contsB n l = true then (if 0 ≤ c ∧ c ≤ wrap64 ((l.length : Int) - 1) then firstO n l (l.getD c.toNat zC).f0 else -1) else -1
theorem impl_out (n : Int) (l : List C1) (c : Int) (hl : l.length ≤ 1048576) (hi : ∀ y ∈ l, y.f0.length ≤ 1048576) : Ev (fun k => impl_FirstOut.f k n l c) (firstOut n l c) := by
  have hno : Ev (fun k => impl_FirstOut.j0 k n l c true) (-1) := Ev.step (fun k => impl_FirstOut.j0.eq_2 ..) (Ev.pos rfl (Ev.now _))
  unfold impl_FirstOut.f firstOut
  refine Ev.bind (impl_conts n l hl hi) ?_
  by_cases h1 : contsB n l = true
  · rw [if_pos h1]
    refine Ev.pos h1 (Ev.bind0 (impl_in _ _ _) ?_)
    by_cases h2 : 0 ≤ c ∧ c ≤ wrap64 ((l.length : Int) - 1)
    · rw [if_pos h2, decide_eq_true h2]
      rw [w64 (by omega) (by omega)] at h2
      obtain ⟨i, rfl⟩ := Int.eq_ofNat_of_zero_le h2.1
      have h : i < l.length := by omega
      have hm := hi _ (List.getElem_mem h)
      refine Ev.step (fun k => impl_FirstOut.j0.eq_2 ..) (Ev.neg (by simp) (Ev.pos (by omega) (Ev.pos (by omega) ?_)))
      rw [rd1_nat h, Int.toNat_natCast, show l.getD i zC = l[i] by simp [List.getD_eq_getElem?_getD, h]]
      generalize l[i].f0 = xs at hm
      have := down (g := fun i => Ev (fun k => impl_FirstOut.l0 k n l xs (xs.length : Int) (i : Int)) (firstO n l (xs.drop i))) (n := xs.length) (fun i h hn => by
        refine Ev.step (fun k => impl_FirstOut.l0.eq_2 ..) (Ev.pos (by omega) (Ev.pos (by omega) (Ev.pos (by omega) ?_)))
        rw [rd_nat h, List.drop_eq_getElem_cons h, w64s (by omega)]
        refine Ev.bind (impl_con n l _ hl hi) ?_
        unfold firstO
        by_cases c : conOf n l xs[i] < 0
        · rw [if_pos c]; exact Ev.pos c (Ev.now _)
        · rw [if_neg c]; exact Ev.neg c hn) (by
        rw [List.drop_length]
        exact Ev.step (fun k => impl_FirstOut.l0.eq_2 ..) (Ev.neg (by omega) (Ev.now _))) xs.length 0 (by omega)
      exact this
    · rw [if_neg h2, decide_eq_false h2]
      exact hno
  · rw [if_neg h1]
    exact Ev.neg h1 hno
end Go.Proofs.Ytaopcamaceddnaa.Y
