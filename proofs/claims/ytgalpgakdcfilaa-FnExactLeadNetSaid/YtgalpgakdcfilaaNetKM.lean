/- Nets in books' laws: equal nets, marks. No condition beyond sizes. -/
import Derived.Test.YtgalpgakdcfilaaNetK
import Derived.Test.YtgalpgakdcfilaaQ48
import Derived.Test.YtgalpgakdcfilaaQ51
namespace Go.Proofs.Ytgalpgakdcfilaa.Q
set_option linter.unusedVariables false
set_option linter.unusedSimpArgs false
open Go.RowKit Go.Proofs.YtgalpgakdcfilaaW.PrintWords Go.Proofs.Ytgalpgakdcfilaa.PK
theorem eqPipeS_self (x : List P1) (hb : x.length ≤ 4611686018427387904) : Ev (fun k => laws_eqPipeS.f k x x) true := by
  have := Ev.iter (fun i k => laws_eqPipeS.l0 k x x (i : Int)) x.length true (fun i hi h => by
    refine Ev.step (fun k => laws_eqPipeS.l0.eq_2 ..) ?_
    refine Ev.pos (by omega) (Ev.pos (by omega) (Ev.pos (by omega) (Ev.bind0 (a := true) (by simp [laws_eqPipe.f]) (Ev.pos rfl ?_))))
    rw [w64s (by omega)]
    exact h) (Ev.step (fun k => laws_eqPipeS.l0.eq_2 ..) (Ev.neg (by omega) (Ev.now _)))
  exact Ev.pos rfl this
theorem eqNet_self (n : Int) (w : List P1) (hl : w.length ≤ 1048577) : Ev (fun k => laws_eqNet.f k n w n w) true := by
  refine Ev.pos rfl (Ev.bind (eqPipeS_self w (by omega)) (Ev.pos rfl (Ev.now _)))
def mkP (q : Int) (i : Nat) : P1 := ⟨q + 3 * i, q + 3 * i + 1, q + 3 * i + 2⟩
def marksP (q : Int) (n : Nat) : List P1 := (List.range n).map (mkP q)
theorem marksP_len (q : Int) (n : Nat) : (marksP q n).length = n := by simp [marksP]
theorem marksP_succ (q : Int) (n : Nat) : marksP q (n + 1) = marksP q n ++ [mkP q n] := by simp [marksP, List.range_succ]
theorem markPipeS_marks (l : List P1) (hb : l.length ≤ 1048576) : Ev (fun k => laws_markPipeS.f k l 1) (1 + 3 * (l.length : Int), marksP 1 l.length) := by
  have := Ev.iter (fun i k => laws_markPipeS.l0 k (marksP 1 i ++ l.drop i) (1 + 3 * (i : Int)) (i : Int)) l.length (1 + 3 * (l.length : Int), marksP 1 l.length) (fun i hi h => by
    have hlen : (marksP 1 i ++ l.drop i).length = l.length := by simp [marksP_len]; omega
    have hlen2 : i < (marksP 1 i ++ l.drop i).length := by omega
    refine Ev.step (fun k => laws_markPipeS.l0.eq_2 ..) (Ev.pos (by rw [hlen]; omega) (Ev.pos (by omega) (Ev.bind0 rfl (Ev.bind0 rfl ?_))))
    rw [w64 (n := 1 + 3 * (i : Int) + 1) (by omega) (by omega), w64 (n := 1 + 3 * (i : Int) + 1 + 1) (by omega) (by omega), w64 (n := 1 + 3 * (i : Int) + 1 + 1 + 1) (by omega) (by omega), w64s (by omega), Int.toNat_natCast]
    have hs : ∀ a : P1, rd_T112 ((marksP 1 i ++ l.drop i).set i a) (i : Int) = a := fun a => by
      rw [rd1_nat (by simpa using hlen2)]; simp
    simp only [hs, List.set_set]
    rw [set_step _ _ _ _ (marksP_len _ _) hi]
    rw [marksP_succ, show (1 : Int) + 3 * ((i + 1 : Nat) : Int) = 1 + 3 * (i : Int) + 1 + 1 + 1 by omega] at h
    simpa only [mkP, show (1 : Int) + 3 * (i : Int) + 1 + 1 = 1 + 3 * (i : Int) + 2 by omega] using h) (by
    refine Ev.step (fun k => laws_markPipeS.l0.eq_2 ..) (Ev.neg (by simp [marksP_len]) ?_)
    simpa using Ev.now _)
  simpa [laws_markPipeS.f, marksP] using this
theorem markNet_marks (n : Int) (l : List P1) (hb : l.length ≤ 1048576) : Ev (fun k => laws_markNet.f k n l 1) (1 + 3 * (l.length : Int), marksP 1 l.length) := Ev.bind (markPipeS_marks l hb) (Ev.now _)
theorem marksP_get (q : Int) (n i : Nat) (h : i < n) (h' : i < (marksP q n).length) : (marksP q n)[i] = mkP q i := by simp [marksP]
theorem heldPipeS_marks (n : Nat) (hb : n ≤ 1048576) : Ev (fun k => laws_heldPipeS.f k (marksP 1 n) 1) (1 + 3 * (n : Int)) := by
  have := Ev.iter (fun i k => laws_heldPipeS.l0 k (marksP 1 n) (1 + 3 * (i : Int)) (i : Int)) n (1 + 3 * (n : Int)) (fun i hi h => by
    have hl : i < (marksP 1 n).length := by rw [marksP_len]; exact hi
    refine Ev.step (fun k => laws_heldPipeS.l0.eq_2 ..) (Ev.pos (by rw [marksP_len]; omega) (Ev.pos (by omega) ?_))
    rw [rd1_nat hl, marksP_get _ _ _ hi hl, w64 (n := 1 + 3 * (i : Int) + 1) (by omega) (by omega), w64 (n := 1 + 3 * (i : Int) + 1 + 1) (by omega) (by omega), w64 (n := 1 + 3 * (i : Int) + 1 + 1 + 1) (by omega) (by omega), w64s (by omega)]
    refine Ev.pos (by simp only [mkP]) (Ev.pos (by simp only [mkP]) (Ev.pos (by simp only [mkP]; omega) ?_))
    rw [show (1 : Int) + 3 * ((i + 1 : Nat) : Int) = 1 + 3 * (i : Int) + 1 + 1 + 1 by omega] at h
    exact h) (Ev.step (fun k => laws_heldPipeS.l0.eq_2 ..) (Ev.neg (by rw [marksP_len]; omega) (Ev.now _)))
  simpa [laws_heldPipeS.f] using this
theorem heldNet_marks (m : Int) (n : Nat) (hb : n ≤ 1048576) : Ev (fun k => laws_heldNet.f k m (marksP 1 n) 1) (1 + 3 * (n : Int)) := Ev.bind (heldPipeS_marks n hb) (Ev.neg (by omega) (Ev.now _))
end Go.Proofs.Ytgalpgakdcfilaa.Q
