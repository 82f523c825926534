/- What the laws write into contests. Conditions: sizes of rows. -/
import Derived.Test.YtaopcamaceddnaaContC
import Derived.Test.YtaopcamaceddnaaLawMark
import Derived.Test.YtaopcamaceddnaaX12
namespace Go.Proofs.Ytaopcamaceddnaa.X
set_option linter.unusedVariables false
set_option linter.unusedSimpArgs false
open Go.RowKit Go.Proofs.YtaopcamaceddnaaW.PrintWords Go.Proofs.Ytaopcamaceddnaa.PK
theorem markContestS_some (l : List C1) (hl : l.length ≤ 1048576) (hi : ∀ y ∈ l, y.f0.length ≤ 1048576) : ∃ r, Ev (fun k => laws_markContestS.f k l 1) r ∧ 0 ≤ r.1 := by
  have := down (g := fun i => ∀ ys : List C1, ys.length = i → ∀ q : Int, 1 ≤ q → q ≤ 1 + i * 1048578 → ∃ r, Ev (fun k => laws_markContestS.l0 k (ys ++ l.drop i) q (i : Int)) r ∧ 0 ≤ r.1) (n := l.length) (fun i h hn ys hy q h1 h2 => by
    have hm := hi _ (List.getElem_mem h)
    have hg : (ys ++ l.drop i)[i]'(by simp; omega) = l[i] := by
      rw [List.getElem_append_right (by omega)]; simp [hy]
    have hr : rd_T38 (ys ++ l.drop i) (i : Int) = l[i] := by
      rw [rd1_nat (by simp; omega)]; exact hg
    obtain ⟨r, hr1, hr2⟩ := hn (ys ++ [⟨marks q l[i].f0.length, q + l[i].f0.length, q + l[i].f0.length + 1⟩]) (by simp; omega) (q + l[i].f0.length + 2) (by omega) (by push_cast; omega)
    refine ⟨r, Ev.step (fun k => laws_markContestS.l0.eq_2 ..) (Ev.pos (by simp; omega) (Ev.pos (by omega) ?_)), hr2⟩
    rw [hr]
    refine Ev.bind (markIntS_marks _ q (by omega) (by omega)) ?_
    rw [w64s (by omega), w64 (n := q + (l[i].f0.length : Int) + 1) (by omega) (by omega), w64 (by omega) (by omega), Int.toNat_natCast, set_step _ _ _ _ hy h]
    rw [show q + (l[i].f0.length : Int) + 1 + 1 = q + l[i].f0.length + 2 by omega]
    exact hr1) (fun ys hy q h1 h2 => ⟨_, Ev.step (fun k => laws_markContestS.l0.eq_2 ..) (Ev.neg (by simp; omega) (Ev.now _)), by show (0 : Int) ≤ q; omega⟩) l.length 0 (by omega)
  simpa [laws_markContestS.f] using this [] rfl 1 (by omega) (by omega)
end Go.Proofs.Ytaopcamaceddnaa.X
