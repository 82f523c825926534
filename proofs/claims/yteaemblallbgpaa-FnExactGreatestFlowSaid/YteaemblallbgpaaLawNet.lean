/- Nets and rows of bools as the laws hand them over: copied, compared, measured, marked. No condition beyond sizes. -/
import Derived.Test.YteaemblallbgpaaNetP
import Derived.Test.YteaemblallbgpaaLawInt
import Derived.Test.YteaemblallbgpaaX1
import Derived.Test.YteaemblallbgpaaX3
import Derived.Test.YteaemblallbgpaaX6
import Derived.Test.YteaemblallbgpaaX14
import Derived.Test.YteaemblallbgpaaX16
import Derived.Test.YteaemblallbgpaaX30
import Derived.Test.YteaemblallbgpaaX31
namespace Go.Proofs.Yteaemblallbgpaa.X
set_option linter.unusedVariables false
set_option linter.unusedSimpArgs false
open Go.RowKit Go.Proofs.YteaemblallbgpaaW.PrintWords Go.Proofs.Yteaemblallbgpaa.PK
theorem szNet_tells (n : Int) (w : List P0) (hl : w.length ≤ maxLen) : ∃ r, laws_szNet.f n w 1048576 = some r ∧ (r < 0 ∨ w.length ≤ 1048576) := by
  unfold maxLen at hl
  simp only [laws_szNet.f, laws_szPipeS.f]
  rw [w64 (by omega) (by omega)]
  by_cases c : (1048576 : Int) - (w.length : Int) < 0
  · rw [if_pos c]; exact ⟨-1, by simp, .inl (by omega)⟩
  · rw [if_neg c, Option.bind_some, if_neg c]; exact ⟨_, rfl, .inr (by omega)⟩
theorem toPipeS_same (l : List P0) (hb : l.length ≤ 1048576) : Ev (fun k => laws_toPipeS.f k l) (l.map cv) := by
  have := Ev.iter (fun i k => laws_toPipeS.l0 k l ((l.map cv).take i ++ (List.replicate l.length z60).drop i) (i : Int)) l.length (l.map cv) (fun i hi h => by
    refine Ev.step (fun k => laws_toPipeS.l0.eq_2 ..) ?_
    refine Ev.pos (by omega) (Ev.pos (by omega) (Ev.bind0 rfl (Ev.pos (by simp; omega) ?_)))
    rw [w64s (by omega), Int.toNat_natCast, set_step _ _ _ _ (by simp; omega) (by simpa using hi), rd0_nat hi]
    rw [take_snoc (l.map cv) i (by simpa using hi)] at h
    simpa [cv] using h) (by
    refine Ev.step (fun k => laws_toPipeS.l0.eq_2 ..) ?_
    refine Ev.neg (by omega) ?_
    simp only [List.take_of_length_le (show (l.map cv).length ≤ l.length by simp), List.drop_eq_nil_of_le (show (List.replicate l.length z60).length ≤ l.length by simp), List.append_nil]
    exact Ev.now _)
  simp only [laws_toPipeS.f]
  refine Ev.pos (by omega) (Ev.pos (by omega) ?_)
  simpa using this
theorem toNet_same (n : Int) (w : List P0) (hl : w.length ≤ 1048576) : Ev (fun k => laws_toNet.f k n w) (n, w.map cv) := Ev.bind (toPipeS_same w hl) (Ev.now _)
theorem eqPipeS_self (x : List P1) (hb : x.length ≤ 4611686018427387904) : Ev (fun k => laws_eqPipeS.f k x x) true := by
  have := Ev.iter (fun i k => laws_eqPipeS.l0 k x x (i : Int)) x.length true (fun i hi h => by
    refine Ev.step (fun k => laws_eqPipeS.l0.eq_2 ..) ?_
    refine Ev.pos (by omega) (Ev.pos (by omega) (Ev.pos (by omega) (Ev.bind0 (a := true) (by simp [laws_eqPipe.f]) (Ev.pos rfl ?_))))
    rw [w64s (by omega)]
    exact h) (Ev.step (fun k => laws_eqPipeS.l0.eq_2 ..) (Ev.neg (by omega) (Ev.now _)))
  exact Ev.pos rfl this
theorem eqNet_self (n : Int) (w : List P1) (hl : w.length ≤ 1048577) : Ev (fun k => laws_eqNet.f k n w n w) true := by
  refine Ev.pos rfl (Ev.bind (eqPipeS_self w (by omega)) (Ev.pos rfl (Ev.now _)))
theorem toBoolS_same (l : List Bool) (hb : l.length ≤ 1048576) : Ev (fun k => laws_toBoolS.f k l) l := by
  have := Ev.iter (fun i k => laws_toBoolS.l0 k l (l.take i ++ (List.replicate l.length false).drop i) (i : Int)) l.length l (fun i hi h => by
    refine Ev.step (fun k => laws_toBoolS.l0.eq_2 ..) (Ev.pos (by omega) (Ev.pos (by omega) (Ev.pos (by simp; omega) ?_)))
    rw [w64s (by omega), Int.toNat_natCast, set_step _ _ _ _ (by simp; omega) (by simpa using hi), rdOf_nat hi, ← take_snoc l i hi]
    exact h) (Ev.step (fun k => laws_toBoolS.l0.eq_2 ..) (Ev.neg (by omega) (by simpa using Ev.now l)))
  simp only [laws_toBoolS.f]
  refine Ev.pos (by omega) (Ev.pos (by omega) ?_)
  simpa using this
theorem eqBoolS_self (x : List Bool) (hb : x.length ≤ 4611686018427387904) : Ev (fun k => laws_eqBoolS.f k x x) true := by
  have := Ev.iter (fun i k => laws_eqBoolS.l0 k x x (i : Int)) x.length true (fun i hi h => by
    refine Ev.step (fun k => laws_eqBoolS.l0.eq_2 ..) (Ev.pos (by omega) (Ev.pos (by omega) (Ev.pos (by omega) (Ev.neg (by simp) ?_))))
    rw [w64s (by omega)]
    exact h) (Ev.step (fun k => laws_eqBoolS.l0.eq_2 ..) (Ev.neg (by omega) (Ev.now _)))
  exact Ev.pos rfl this
end Go.Proofs.Yteaemblallbgpaa.X
