/- The laws' drawing: bytes of a cursor, numbers below a bound. Conditions: sizes of rows as the rows' forms allow. -/
import Derived.Test.YtaopcamaceddnaaPK
import Derived.Laws.BitsLemmas
import Derived.Test.YtaopcamaceddnaaZ3
import Derived.Test.YtaopcamaceddnaaZ6
namespace Go.Proofs.Ytaopcamaceddnaa.Z
set_option linter.unusedVariables false
set_option linter.unusedSimpArgs false
open Go.RowKit Go.Proofs.YtaopcamaceddnaaW.PrintWords Go.Proofs.Ytaopcamaceddnaa.PK
theorem and_le (a : Int) (m : Nat) (hm : m < 4294967296) : 0 ≤ Go.bits .and .i64 a (m : Int) ∧ Go.bits .and .i64 a (m : Int) ≤ m := by
  have h : ((BitVec.ofInt 64 a &&& BitVec.ofInt 64 (m : Int)).toNat) ≤ m := by
    rw [BitVec.toNat_and]
    refine Nat.le_trans Nat.and_le_right ?_
    simp only [BitVec.ofInt_natCast, BitVec.toNat_ofNat]
    exact Nat.mod_le _ _
  have e : Go.bits .and .i64 a (m : Int) = IntKind.i64.wrap (((BitVec.ofInt 64 a &&& BitVec.ofInt 64 (m : Int)).toNat : Nat) : Int) := rfl
  rw [e, Go.IntKind.wrap_i64]
  omega
theorem and255 (a : Int) : 0 ≤ Go.bits .and .i64 a 255 ∧ Go.bits .and .i64 a 255 ≤ 255 := and_le a 255 (by decide)
theorem byte_tells (b : List Int) (i h : Int) (hi : 0 ≤ i) (hb : b.length ≤ 1099511627776) : ∃ x j g, spec_l01Byte.f b i h = some (x, j, g) ∧ 0 ≤ x ∧ x ≤ 255 ∧ 0 ≤ j := by
  unfold spec_l01Byte.f
  by_cases c : i < (b.length : Int)
  · rw [if_pos c, if_pos hi]
    refine ⟨_, _, _, rfl, (and255 _).1, (and255 _).2, ?_⟩
    rw [w64 (by omega) (by omega)]; omega
  · rw [if_neg c]
    exact ⟨_, _, _, rfl, (and255 _).1, (and255 _).2, hi⟩
theorem below_tells (b : List Int) (i h n : Int) (hi : 0 ≤ i) (hb : b.length ≤ 1099511627776) (hn : 1 ≤ n) (hn2 : n ≤ 256) : ∃ x j g, spec_l01Below.f b i h n = some (x, j, g) ∧ 0 ≤ x ∧ x < n ∧ 0 ≤ j := by
  obtain ⟨x, j, g, e, h0, h1, h2⟩ := byte_tells b i h hi hb
  unfold spec_l01Below.f
  rw [if_neg (by omega), if_pos hn2, e, Option.bind_some, if_neg (by omega)]
  refine ⟨_, _, _, rfl, ?_, ?_, h2⟩
  · exact Int.tmod_nonneg _ h0
  · exact Int.tmod_lt_of_pos _ (by omega)
theorem new_tells (l : List Int) (hb : l.length ≤ 1099511627776) : ∃ h, Ev (fun k => spec_l01New.f k l) (l, 0, h) := by
  have := down (g := fun i => ∀ h : Int, ∃ r, Ev (fun k => spec_l01New.l0 k l h (i : Int)) (l, 0, r)) (n := l.length) (fun i hl hn h => by
    by_cases c : (i : Int) < 4000
    · obtain ⟨r, hr⟩ := hn (Go.bits .and .i64 (wrap64 ((wrap64 ((wrap64 (h * 89)) + (wrap64 (rd l i)))) + 7)) 1073741823)
      refine ⟨r, Ev.step (fun k => spec_l01New.l0.eq_2 ..) (Ev.pos (by omega) (Ev.pos c (Ev.pos (by omega) ?_)))⟩
      rw [w64s (by omega)]; exact hr
    · exact ⟨h, Ev.step (fun k => spec_l01New.l0.eq_2 ..) (Ev.pos (by omega) (Ev.neg c (Ev.now _)))⟩) (fun h => ⟨h, Ev.step (fun k => spec_l01New.l0.eq_2 ..) (Ev.neg (by omega) (Ev.now _))⟩) l.length 0 (by omega)
  obtain ⟨r, hr⟩ := this (wrap64 (1978 + (l.length : Int)))
  exact ⟨r, hr⟩
end Go.Proofs.Ytaopcamaceddnaa.Z
