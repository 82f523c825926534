/- Nets and rows of bools as the laws mark them. Conditions: sizes. -/
import Derived.Test.YteaemblallbgpaaLawNet
import Derived.Test.YteaemblallbgpaaLawMark
import Derived.Test.YteaemblallbgpaaX30
import Derived.Test.YteaemblallbgpaaX31
namespace Go.Proofs.Yteaemblallbgpaa.X
set_option linter.unusedVariables false
set_option linter.unusedSimpArgs false
open Go.RowKit Go.Proofs.YteaemblallbgpaaW.PrintWords Go.Proofs.Yteaemblallbgpaa.PK
def mkP (q : Int) (i : Nat) : P1 := ⟨q + 3 * i, q + 3 * i + 1, q + 3 * i + 2⟩
def marksP (q : Int) (n : Nat) : List P1 := (List.range n).map (mkP q)
theorem marksP_len (q : Int) (n : Nat) : (marksP q n).length = n := by simp [marksP]
theorem marksP_succ (q : Int) (n : Nat) : marksP q (n + 1) = marksP q n ++ [mkP q n] := by simp [marksP, List.range_succ]
theorem markPipeS_marks (l : List P1) (hb : l.length ≤ 1048576) : Ev (fun k => laws_markPipeS.f k l 1) (1 + 3 * (l.length : Int), marksP 1 l.length) := by
  have := Ev.iter (fun i k => laws_markPipeS.l0 k (marksP 1 i ++ l.drop i) (1 + 3 * (i : Int)) (i : Int)) l.length (1 + 3 * (l.length : Int), marksP 1 l.length) (fun i hi h => by
    have hlen : (marksP 1 i ++ l.drop i).length = l.length := by simp [marksP_len]; omega
    have hlen2 : i < (marksP 1 i ++ l.drop i).length := by omega
    refine Ev.step (fun k => laws_markPipeS.l0.eq_2 ..) (Ev.pos (by rw [hlen]; omega) (Ev.pos (by omega) (Ev.bind0 rfl (Ev.bind0 rfl ?_))))
    rw [w64 (n := 1 + 3 * (i : Int) + 1) (by omega) (by omega), w64 (n := 1 + 3 * (i : Int) + 1 + 1) (by omega) (by omega), w64 (n := 1 + 3 * (i : Int) + 1 + 1 + 1) (by omega) (by omega), w64s (by omega), Int.toNat_natCast]
    have hs : ∀ a : P1, rd_T60 ((marksP 1 i ++ l.drop i).set i a) (i : Int) = a := fun a => by
      rw [rd1_nat (by simpa using hlen2)]; simp
    simp only [hs, List.set_set]
    rw [set_step _ _ _ _ (marksP_len _ _) hi]
    rw [marksP_succ, show (1 : Int) + 3 * ((i + 1 : Nat) : Int) = 1 + 3 * (i : Int) + 1 + 1 + 1 by omega] at h
    simpa only [mkP, show (1 : Int) + 3 * (i : Int) + 1 + 1 = 1 + 3 * (i : Int) + 2 by omega] using h) (by
    refine Ev.step (fun k => laws_markPipeS.l0.eq_2 ..) (Ev.neg (by simp [marksP_len]) ?_)
    simpa using Ev.now _)
  simpa [laws_markPipeS.f, marksP] using this
theorem markNet_marks (n : Int) (l : List P1) (hb : l.length ≤ 1048576) : Ev (fun k => laws_markNet.f k n l 1) (1 + 3 * (l.length : Int), marksP 1 l.length) := Ev.bind (markPipeS_marks l hb) (Ev.now _)
def marksB (q : Int) (n : Nat) : List Bool := (List.range n).map fun (i : Nat) => Int.tmod (q + (i : Int)) 3 == 0
theorem marksB_len (q : Int) (n : Nat) : (marksB q n).length = n := by simp [marksB]
theorem marksB_succ (q : Int) (n : Nat) : marksB q (n + 1) = marksB q n ++ [Int.tmod (q + n) 3 == 0] := by simp [marksB, List.range_succ]
theorem markBoolS_marks (l : List Bool) (q : Int) (hq : 0 ≤ q) (hb : q + l.length ≤ 4611686018427387904) : Ev (fun k => laws_markBoolS.f k l q) (q + l.length, marksB q l.length) := by
  have := Ev.iter (fun i k => laws_markBoolS.l0 k (marksB q i ++ l.drop i) (q + i) (i : Int)) l.length (q + l.length, marksB q l.length) (fun i hi h => by
    refine Ev.step (fun k => laws_markBoolS.l0.eq_2 ..) (Ev.pos (by simp [marksB_len]; omega) (Ev.pos (by omega) ?_))
    rw [w64s (by omega), w64 (by omega) (by omega), Int.toNat_natCast, set_step _ _ _ _ (marksB_len _ _) hi]
    rw [marksB_succ, show q + ((i + 1 : Nat) : Int) = q + (i : Int) + 1 by omega] at h
    exact h) (by
    refine Ev.step (fun k => laws_markBoolS.l0.eq_2 ..) (Ev.neg (by simp [marksB_len]) ?_)
    simpa using Ev.now _)
  simpa [laws_markBoolS.f, marksB] using this
theorem heldBoolS_marks (q : Int) (n : Nat) (hq : 0 ≤ q) (hb : q + n ≤ 4611686018427387904) : Ev (fun k => laws_heldBoolS.f k (marksB q n) q) (q + n) := by
  have := Ev.iter (fun i k => laws_heldBoolS.l0 k (marksB q n) (q + i) (i : Int)) n (q + n) (fun i hi h => by
    refine Ev.step (fun k => laws_heldBoolS.l0.eq_2 ..) (Ev.pos (by rw [marksB_len]; omega) (Ev.pos (by omega) (Ev.neg ?_ ?_)))
    · rw [rdOf_nat (by rw [marksB_len]; omega)]
      simp [marksB]
    · rw [w64s (by omega), w64 (by omega) (by omega), show q + (i : Int) + 1 = q + ((i + 1 : Nat) : Int) by omega]
      exact h) (Ev.step (fun k => laws_heldBoolS.l0.eq_2 ..) (Ev.neg (by rw [marksB_len]; omega) (Ev.now _)))
  simpa [laws_heldBoolS.f] using this
end Go.Proofs.Yteaemblallbgpaa.X
