/- The places given out, contest by contest: program and reference tell the same. Conditions: valid contests. -/
import Derived.Test.YtaopcamaceddnaaContA
import Derived.Test.YtaopcamaceddnaaZ7
import Derived.Test.YtaopcamaceddnaaZ19
namespace Go.Proofs.Ytaopcamaceddnaa.Z
set_option linter.unusedVariables false
set_option linter.unusedSimpArgs false
open Go.RowKit Go.Proofs.YtaopcamaceddnaaW.PrintWords Go.Proofs.Ytaopcamaceddnaa.PK
/-- What was given out in each contest, places left, places lost, teams taken. -/
structure St where
  outs : List (List Int)
  left : List Int
  lost : Int
  taken : List Int
def pick (lim : Int) (s : List Int × List Int) (x : Int) : List Int × List Int := if (s.1.length : Int) < lim then (if hasB s.2 x = true then s else (s.1 ++ [x], s.2 ++ [x])) else s
def fin (s : St) (i : Nat) (y : C1) (q : List Int × List Int) : St :=
  if y.f2 < 0 then ⟨s.outs ++ [q.1], s.left, wrap64 (s.lost + wrap64 (s.left.getD i 0 - (q.1.length : Int))), q.2⟩
  else ⟨s.outs ++ [q.1], s.left.set y.f2.toNat (wrap64 (s.left.getD y.f2.toNat 0 + wrap64 (s.left.getD i 0 - (q.1.length : Int)))), s.lost, q.2⟩
def one (s : St) (i : Nat) (y : C1) : St := fin s i y (y.f0.foldl (pick (s.left.getD i 0)) ([], s.taken))
def runC : List C1 → Nat → St → St
  | [], _, s => s
  | y :: r, i, s => runC r (i + 1) (one s i y)
theorem wr (x a b : Int) : wrap64 (wrap64 (x + a) - b) = wrap64 (x + wrap64 (a - b)) := by unfold wrap64; omega
theorem rd_D' {l : List Int} {i : Int} : rd l i = l.getD i.toNat 0 := by simp [rd]
theorem pick_len (lim : Int) (xs : List Int) : ∀ (s : List Int × List Int), (xs.foldl (pick lim) s).1.length ≤ s.1.length + xs.length ∧ (xs.foldl (pick lim) s).2.length ≤ s.2.length + xs.length := by
  induction xs with
  | nil => intro s; simp
  | cons x xs ih =>
    intro s
    rw [List.foldl_cons]
    have h := ih (pick lim s x)
    have h2 : (pick lim s x).1.length ≤ s.1.length + 1 ∧ (pick lim s x).2.length ≤ s.2.length + 1 := by
      unfold pick
      split
      · split
        · omega
        · simp
      · omega
    simp only [List.length_cons]
    omega
def Fine (l : List C1) (i : Nat) (s : St) : Prop := s.outs.length = i ∧ s.left.length = l.length ∧ s.taken.length ≤ i * 1048576
theorem one_fine {l : List C1} {i : Nat} {s : St} {y : C1} (h : Fine l i s) (hy : y.f0.length ≤ 1048576) : Fine l (i + 1) (one s i y) := by
  obtain ⟨h1, h2, h3⟩ := h
  have := (pick_len (s.left.getD i 0) y.f0 ([], s.taken)).2
  unfold one fin Fine
  split <;> (refine ⟨by simp; omega, by simpa using h2, ?_⟩) <;> (simp at this ⊢; omega)
def Ends (l : List C1) : Prop := ∀ i (h : i < l.length), l[i].f2 < 0 ∨ (0 ≤ l[i].f2 ∧ l[i].f2 < (l.length : Int))
theorem impl_settled (l : List C1) (hl : l.length ≤ 1048576) (hi : ∀ y ∈ l, y.f0.length ≤ 1048576) (he : Ends l) : Ev (fun k => impl_settle.f k l) ((runC l 0 ⟨[], l.map (fun y => y.f1), 0, []⟩).outs, (runC l 0 ⟨[], l.map (fun y => y.f1), 0, []⟩).left, (runC l 0 ⟨[], l.map (fun y => y.f1), 0, []⟩).lost) := by
  have key := down (g := fun i => ∀ s, Fine l i s → Ev (fun k => impl_settle.l1 k s.outs s.left s.lost s.taken l (l.length : Int) (i : Int)) ((runC (l.drop i) i s).outs, (runC (l.drop i) i s).left, (runC (l.drop i) i s).lost)) (n := l.length) (fun i h hn s hf => by
    have hm := hi _ (List.getElem_mem h)
    have hz := he i h
    obtain ⟨f1, f2, f3⟩ := hf
    refine Ev.step (fun k => impl_settle.l1.eq_2 ..) (Ev.pos (by omega) (Ev.pos (by omega) (Ev.pos (by omega) ?_)))
    rw [rd1_nat h, List.drop_eq_getElem_cons h]
    unfold runC
    generalize l[i] = y at hm hz
    have hn' := hn (one s i y) (one_fine ⟨f1, f2, f3⟩ hm)
    refine Ev.fold (fun j q k => impl_settle.l2 k s.outs s.left s.lost q.2 (i : Int) q.1 l (l.length : Int) (i : Int) y.f0 (y.f0.length : Int) (j : Int) y.f0 y.f1 y.f2) y.f0 (pick (s.left.getD i 0)) (fun j q => q.1.length ≤ j ∧ q.2.length ≤ i * 1048576 + j) (fun q => ((runC (l.drop (i + 1)) (i + 1) (fin s i y q)).outs, (runC (l.drop (i + 1)) (i + 1) (fin s i y q)).left, (runC (l.drop (i + 1)) (i + 1) (fin s i y q)).lost)) (fun j q hj hq => ?_) (fun j q hj hq r hr => ?_) (fun q hq => ?_) ([], s.taken) ⟨by simp, by simpa using f3⟩
    · unfold pick
      split
      · split
        · omega
        · simp; omega
      · omega
    · refine Ev.step (fun k => impl_settle.l2.eq_2 ..) (Ev.pos (by omega) (Ev.pos (by omega) (Ev.pos (by omega) (Ev.pos (by omega) (Ev.pos (by omega) ?_)))))
      rw [rd_nat hj, rd_D', Int.toNat_natCast, w64s (by omega)]
      unfold pick at hr
      by_cases c1 : (q.1.length : Int) < s.left.getD i 0
      · rw [if_pos c1] at hr
        refine Ev.pos c1 (Ev.bind (impl_has _ _ (by omega)) ?_)
        by_cases c2 : hasB q.2 y.f0[j] = true
        · rw [if_pos c2] at hr
          exact Ev.pos c2 hr
        · rw [if_neg c2] at hr
          exact Ev.neg c2 (Ev.pos (by omega) (Ev.pos (by omega) hr))
      · rw [if_neg c1] at hr
        exact Ev.neg c1 hr
    · have hff : Fine l (i + 1) (fin s i y q) := by
        unfold fin Fine
        split <;> (refine ⟨by simp; omega, by simpa using f2, ?_⟩) <;> (simp; omega)
      have hn' := hn (fin s i y q) hff
      refine Ev.step (fun k => impl_settle.l2.eq_2 ..) (Ev.neg (by omega) (Ev.pos (by omega) (Ev.bind0 rfl (Ev.pos (by omega) (Ev.pos (by omega) ?_)))))
      rw [rd_D', rd_D', Int.toNat_natCast, w64s (by omega)]
      unfold fin at hn' ⊢
      by_cases c : y.f2 < 0
      · simp only [if_pos c] at hn' ⊢
        exact hn'
      · simp only [if_neg c] at hn' ⊢
        exact Ev.pos (by omega) (Ev.pos (by omega) hn')) (fun s hf => by
    rw [List.drop_length]
    exact Ev.step (fun k => impl_settle.l1.eq_2 ..) (Ev.neg (by omega) (Ev.now _))) l.length 0 (by omega)
  have key2 := Ev.iter (fun i k => impl_settle.l0 k l [] ((l.map (fun y => y.f1)).take i) 0 [] l (l.length : Int) (i : Int)) l.length ((runC l 0 ⟨[], l.map (fun y => y.f1), 0, []⟩).outs, (runC l 0 ⟨[], l.map (fun y => y.f1), 0, []⟩).left, (runC l 0 ⟨[], l.map (fun y => y.f1), 0, []⟩).lost) (fun i h hr => by
    refine Ev.step (fun k => impl_settle.l0.eq_2 ..) (Ev.pos (by omega) (Ev.pos (by omega) (Ev.pos (by omega) (Ev.pos (by simp; omega) ?_))))
    rw [rd1_nat h, w64s (by omega)]
    rw [take_snoc _ i (by simpa using h)] at hr
    simpa using hr) (by
    refine Ev.step (fun k => impl_settle.l0.eq_2 ..) (Ev.neg (by omega) ?_)
    have := key ⟨[], l.map (fun y => y.f1), 0, []⟩ ⟨rfl, by simp, by simp⟩
    rw [List.take_of_length_le (by simp)]
    exact this)
  exact key2
theorem conts_ends {n : Int} {l : List C1} (hl : l.length ≤ 1048576) (h : contsB n l = true) : Ends l := by
  intro i hi
  simp only [contsB, Bool.and_eq_true, List.all_eq_true, List.mem_range] at h
  have := h.1 i hi
  simp only [contB, Bool.and_eq_true, endB, Bool.or_eq_true, decide_eq_true_eq] at this
  have e : l.getD i zC = l[i] := by simp [List.getD_eq_getElem?_getD, hi]
  rw [e] at this
  have h2 := this.2.2
  rw [w64 (by omega) (by omega)] at h2
  omega
def lostC (n : Int) (l : List C1) : Int := if contsB n l = true then (runC l 0 ⟨[], l.map (fun y => y.f1), 0, []⟩).lost else -1
end Go.Proofs.Ytaopcamaceddnaa.Z
