/- Valid nets, values of flows, limits of cuts: program and reference tell the same. No condition beyond sizes. -/
import Derived.Test.YteaemblallbgpaaLawNet
import Derived.Test.YteaemblallbgpaaX2
import Derived.Test.YteaemblallbgpaaX4
import Derived.Test.YteaemblallbgpaaX8
import Derived.Test.YteaemblallbgpaaX10
import Derived.Test.YteaemblallbgpaaX13
import Derived.Test.YteaemblallbgpaaX15
import Derived.Test.YteaemblallbgpaaX18
import Derived.Test.YteaemblallbgpaaX19
import Derived.Test.YteaemblallbgpaaX21
import Derived.Test.YteaemblallbgpaaX23
namespace Go.Proofs.Yteaemblallbgpaa.X
set_option linter.unusedVariables false
set_option linter.unusedSimpArgs false
open Go.RowKit Go.Proofs.YteaemblallbgpaaW.PrintWords Go.Proofs.Yteaemblallbgpaa.PK
theorem spec_in (a b c : Int) : spec_l01In.f a b c = some (decide (b ≤ a ∧ a ≤ c)) := by
  simp only [spec_l01In.f]
  by_cases h : a ≥ b
  · rw [if_pos h]; simp [show b ≤ a from h]
  · rw [if_neg h]; simp [show ¬ b ≤ a from h]
theorem impl_in (a b c : Int) : impl_within.f a b c = some (decide (b ≤ a ∧ a ≤ c)) := by
  simp only [impl_within.f]
  by_cases h : b ≤ a
  · rw [if_pos h]; simp [h]
  · rw [if_neg h]; simp [h]
def okP (m : Int) (p : P1) : Bool := decide (0 ≤ p.f0 ∧ p.f0 ≤ m) && (decide (0 ≤ p.f1 ∧ p.f1 ≤ m) && (!decide (p.f0 = p.f1) && decide (0 ≤ p.f2 ∧ p.f2 ≤ 1000)))
def netB (n : Int) (w : List P1) : Bool := w.all (okP (wrap64 (n - 1))) && (decide (2 ≤ n ∧ n ≤ 40) && decide ((w.length : Int) ≤ 120))
theorem impl_net (n : Int) (w : List P1) (hw : w.length ≤ 1099511627776) : Ev (fun k => impl_NetOk.f k n w) (netB n w) := by
  have := Ev.all (fun i k => impl_NetOk.l0 k w (w.length : Int) (i : Int) n w) w (okP (wrap64 (n - 1))) (decide (2 ≤ n ∧ n ≤ 40) && decide ((w.length : Int) ≤ 120)) (fun i hi ht r h => by
    simp only [okP, Bool.and_eq_true, decide_eq_true_eq, Bool.not_eq_true', decide_eq_false_iff_not] at ht
    refine Ev.step (fun k => impl_NetOk.l0.eq_2 ..) (Ev.pos (by omega) (Ev.pos (by omega) (Ev.pos (by omega) ?_)))
    rw [rd1_nat hi, w64s (by omega)]
    exact Ev.bind0 (impl_in _ _ _) (Ev.pos (by simpa using ht.1) (Ev.bind0 (impl_in _ _ _) (Ev.pos (by simpa using ht.2.1) (Ev.neg ht.2.2.1 (Ev.bind0 (impl_in _ _ _) (Ev.pos (by simpa using ht.2.2.2) h)))))))
    (fun i hi ht => by
    refine Ev.step (fun k => impl_NetOk.l0.eq_2 ..) (Ev.pos (by omega) (Ev.pos (by omega) (Ev.pos (by omega) ?_)))
    rw [rd1_nat hi]
    refine Ev.bind0 (impl_in _ _ _) ?_
    by_cases h1 : 0 ≤ w[i].f0 ∧ w[i].f0 ≤ wrap64 (n - 1)
    · refine Ev.pos (by simpa using h1) (Ev.bind0 (impl_in _ _ _) ?_)
      by_cases h2 : 0 ≤ w[i].f1 ∧ w[i].f1 ≤ wrap64 (n - 1)
      · refine Ev.pos (by simpa using h2) ?_
        by_cases h3 : w[i].f0 = w[i].f1
        · exact Ev.pos h3 (Ev.now _)
        · refine Ev.neg h3 (Ev.bind0 (impl_in _ _ _) ?_)
          refine Ev.neg (fun h4 => ?_) (Ev.now _)
          simp [okP, h1, h2, h3] at ht
          simp at h4
          omega
      · exact Ev.neg (by simpa using h2) (Ev.now _)
    · exact Ev.neg (by simpa using h1) (Ev.now _)) (by
    refine Ev.step (fun k => impl_NetOk.l0.eq_2 ..) (Ev.neg (by omega) (Ev.bind0 (impl_in _ _ _) ?_))
    by_cases h : 2 ≤ n ∧ n ≤ 40
    · rw [decide_eq_true h]; exact Ev.pos rfl (Ev.now _)
    · rw [decide_eq_false h]; exact Ev.neg (by simp) (Ev.now _))
  exact this
theorem spec_net (n : Int) (w : List P1) (hw : w.length ≤ 1099511627776) : Ev (fun k => spec_NetOk.f k n w) (netB n w) := by
  simp only [spec_NetOk.f, spec_in]
  refine Ev.bind0 rfl ?_
  have j0 : Ev (fun k => spec_NetOk.j0 k true n w) false := Ev.step (fun k => spec_NetOk.j0.eq_2 ..) (Ev.pos rfl (Ev.now _))
  by_cases hn : 2 ≤ n ∧ n ≤ 40
  · refine Ev.pos (by simpa using hn) ?_
    by_cases hl : (w.length : Int) > 120
    · have : netB n w = false := by simp [netB]; omega
      rw [this, decide_eq_true hl]
      exact j0
    · rw [decide_eq_false hl]
      have key := Ev.all (fun i k => spec_NetOk.l0 k w (w.length : Int) (i : Int) n w) w (okP (wrap64 (n - 1))) true (fun i hi ht r h => by
        simp only [okP, Bool.and_eq_true, decide_eq_true_eq, Bool.not_eq_true', decide_eq_false_iff_not] at ht
        refine Ev.step (fun k => spec_NetOk.l0.eq_2 ..) (Ev.pos (by omega) (Ev.pos (by omega) (Ev.pos (by omega) ?_)))
        rw [rd1_nat hi, w64s (by omega)]
        exact Ev.bind0 (spec_in _ _ _) (Ev.pos (by simpa using ht.1) (Ev.bind0 (spec_in _ _ _) (Ev.pos (by simpa using ht.2.1) (Ev.neg ht.2.2.1 (Ev.bind0 (spec_in _ _ _) (Ev.pos (by simpa using ht.2.2.2) h)))))))
        (fun i hi ht => by
        refine Ev.step (fun k => spec_NetOk.l0.eq_2 ..) (Ev.pos (by omega) (Ev.pos (by omega) (Ev.pos (by omega) ?_)))
        rw [rd1_nat hi]
        refine Ev.bind0 (spec_in _ _ _) ?_
        by_cases h1 : 0 ≤ w[i].f0 ∧ w[i].f0 ≤ wrap64 (n - 1)
        · refine Ev.pos (by simpa using h1) (Ev.bind0 (spec_in _ _ _) ?_)
          by_cases h2 : 0 ≤ w[i].f1 ∧ w[i].f1 ≤ wrap64 (n - 1)
          · refine Ev.pos (by simpa using h2) ?_
            by_cases h3 : w[i].f0 = w[i].f1
            · exact Ev.pos h3 (Ev.now _)
            · refine Ev.neg h3 (Ev.bind0 (spec_in _ _ _) ?_)
              refine Ev.neg (fun h4 => ?_) (Ev.now _)
              simp [okP, h1, h2, h3] at ht
              simp at h4
              omega
          · exact Ev.neg (by simpa using h2) (Ev.now _)
        · exact Ev.neg (by simpa using h1) (Ev.now _)) (Ev.step (fun k => spec_NetOk.l0.eq_2 ..) (Ev.neg (by omega) (Ev.now _)))
      have e : netB n w = (w.all (okP (wrap64 (n - 1))) && true) := by
        simp only [netB, decide_eq_true hn, decide_eq_true (show (w.length : Int) ≤ 120 by omega), Bool.and_true]
      rw [e]
      exact Ev.step (fun k => spec_NetOk.j0.eq_2 ..) (Ev.neg (by simp) key)
  · have : netB n w = false := by simp only [netB, decide_eq_false hn]; simp
    rw [this]
    exact Ev.neg (by simpa using hn) j0
theorem net_facts {n : Int} {w : List P1} (h : netB n w = true) : (2 ≤ n ∧ n ≤ 40) ∧ w.length ≤ 120 ∧ wrap64 (n - 1) = n - 1 ∧ ∀ p ∈ w, (0 ≤ p.f0 ∧ p.f0 ≤ n - 1) ∧ (0 ≤ p.f1 ∧ p.f1 ≤ n - 1) ∧ p.f0 ≠ p.f1 ∧ (0 ≤ p.f2 ∧ p.f2 ≤ 1000) := by
  simp only [netB, Bool.and_eq_true, decide_eq_true_eq, List.all_eq_true] at h
  obtain ⟨h1, h2, h3⟩ := h
  have e : wrap64 (n - 1) = n - 1 := w64 (by omega) (by omega)
  refine ⟨h2, by omega, e, fun p hp => ?_⟩
  have := h1 p hp
  rw [e] at this
  simp only [okP, Bool.and_eq_true, decide_eq_true_eq, Bool.not_eq_true', decide_eq_false_iff_not] at this
  exact ⟨this.1, this.2.1, this.2.2.1, this.2.2.2⟩

def fv1 (v : Int) (s : Int) (x : P1 × Int) : Int := if x.1.f1 = v then wrap64 ((if x.1.f0 = v then wrap64 (s + x.2) else s) - x.2) else (if x.1.f0 = v then wrap64 (s + x.2) else s)
def flowV (w : List P1) (v : Int) (f : List Int) : Int := (w.zip f).foldl (fv1 v) 0
theorem zip_get {α β : Type} {a : List α} {b : List β} {i : Nat} (h : i < (a.zip b).length) (ha : i < a.length) (hb : i < b.length) : (a.zip b)[i] = (a[i], b[i]) := by simp
theorem spec_flowV (n : Int) (w : List P1) (v : Int) (f : List Int) (hw : w.length ≤ 1099511627776) (hf : f.length ≤ 1099511627776) : Ev (fun k => spec_FlowValue.f k n w v f) (flowV w v f) := by
  refine Ev.fold (fun i s k => spec_FlowValue.l0 k v f s w (w.length : Int) (i : Int)) (w.zip f) (fv1 v) (fun _ _ => True) (fun s => s) (fun _ _ _ _ => trivial) (fun i s hi _ r h => ?_) (fun s _ => ?_) 0 trivial
  · have h1 : i < w.length := by simp at hi; omega
    have h2 : i < f.length := by simp at hi; omega
    rw [zip_get hi h1 h2] at h
    refine Ev.step (fun k => spec_FlowValue.l0.eq_2 ..) (Ev.pos (by omega) (Ev.pos (by omega) (Ev.pos (by omega) (Ev.neg (by omega) ?_))))
    rw [rd1_nat h1, rd_nat h2, w64s (by omega)]
    simp only [fv1] at h
    by_cases c0 : w[i].f0 = v
    · refine Ev.pos c0 (Ev.pos (by omega) ?_)
      rw [if_pos c0] at h
      by_cases c1 : w[i].f1 = v
      · rw [if_pos c1] at h; exact Ev.pos c1 h
      · rw [if_neg c1] at h; exact Ev.neg c1 h
    · refine Ev.neg c0 ?_
      rw [if_neg c0] at h
      by_cases c1 : w[i].f1 = v
      · rw [if_pos c1] at h; exact Ev.pos c1 (Ev.pos (by omega) h)
      · rw [if_neg c1] at h; exact Ev.neg c1 h
  · refine Ev.step (fun k => spec_FlowValue.l0.eq_2 ..) ?_
    rw [List.length_zip]
    by_cases c : w.length ≤ f.length
    · rw [Nat.min_eq_left c]
      exact Ev.neg (by omega) (Ev.now _)
    · rw [Nat.min_eq_right (by omega)]
      exact Ev.pos (by omega) (Ev.pos (by omega) (Ev.pos (by omega) (Ev.pos (by omega) (Ev.now _))))
theorem mn_nat (a b : Nat) : mn (a : Int) (b : Int) = ((min a b : Nat) : Int) := by unfold mn; omega
theorem impl_flowV (n : Int) (w : List P1) (v : Int) (f : List Int) (hw : w.length ≤ 1099511627776) (hf : f.length ≤ 1099511627776) : Ev (fun k => impl_FlowValue.f k n w v f) (flowV w v f) := by
  simp only [impl_FlowValue.f]
  rw [mn_nat]
  refine Ev.fold (fun i s k => impl_FlowValue.l0 k v f s ((min w.length f.length : Nat) : Int) (i : Int) n w) (w.zip f) (fv1 v) (fun _ _ => True) (fun s => s) (fun _ _ _ _ => trivial) (fun i s hi _ r h => ?_) (fun s _ => ?_) 0 trivial
  · have h1 : i < w.length := by simp at hi; omega
    have h2 : i < f.length := by simp at hi; omega
    rw [zip_get hi h1 h2] at h
    refine Ev.step (fun k => impl_FlowValue.l0.eq_2 ..) (Ev.pos (by omega) (Ev.pos (by omega) (Ev.pos (by omega) ?_)))
    rw [rd1_nat h1, rd_nat h2, w64s (by omega)]
    simp only [fv1] at h
    by_cases c0 : w[i].f0 = v
    · refine Ev.pos c0 (Ev.pos (by omega) ?_)
      rw [if_pos c0] at h
      by_cases c1 : w[i].f1 = v
      · rw [if_pos c1] at h; exact Ev.pos c1 h
      · rw [if_neg c1] at h; exact Ev.neg c1 h
    · refine Ev.neg c0 ?_
      rw [if_neg c0] at h
      by_cases c1 : w[i].f1 = v
      · rw [if_pos c1] at h; exact Ev.pos c1 (Ev.pos (by omega) h)
      · rw [if_neg c1] at h; exact Ev.neg c1 h
  · refine Ev.step (fun k => impl_FlowValue.l0.eq_2 ..) (Ev.neg (by rw [List.length_zip]; omega) (Ev.now _))

def ct1 (side : List Bool) (s : Int) (p : P1) : Int := if side.getD p.f0.toNat false = true then (if side.getD p.f1.toNat false = true then s else wrap64 (s + p.f2)) else s
def cutL (n : Int) (w : List P1) (side : List Bool) : Int := if netB n w = true then (if (side.length : Int) = n then w.foldl (ct1 side) 0 else 0) else 0
theorem spec_cutL (n : Int) (w : List P1) (side : List Bool) (hw : w.length ≤ 1099511627776) : Ev (fun k => spec_CutLimit.f k n w side) (cutL n w side) := by
  refine Ev.bind (spec_net n w hw) ?_
  have j0 : Ev (fun k => spec_CutLimit.j0 k side 0 true n w) 0 := Ev.step (fun k => spec_CutLimit.j0.eq_2 ..) (Ev.pos rfl (Ev.now _))
  unfold cutL
  by_cases hn : netB n w = true
  · rw [if_pos hn]
    refine Ev.pos hn ?_
    by_cases hs : (side.length : Int) = n
    · rw [if_pos hs]
      obtain ⟨hn2, hl, _, hp⟩ := net_facts hn
      refine Ev.step (fun k => spec_CutLimit.j0.eq_2 ..) (Ev.neg (by simp [hs]) ?_)
      refine Ev.fold (fun i s k => spec_CutLimit.l0 k side s w (w.length : Int) (i : Int)) w (ct1 side) (fun _ _ => True) (fun s => s) (fun _ _ _ _ => trivial) (fun i s hi _ r h => ?_) (fun s _ => ?_) 0 trivial
      · have hq := hp w[i] (List.getElem_mem hi)
        refine Ev.step (fun k => spec_CutLimit.l0.eq_2 ..) (Ev.pos (by omega) (Ev.pos (by omega) (Ev.pos (by omega) ?_)))
        rw [rd1_nat hi, w64s (by omega)]
        refine Ev.pos (by omega) (Ev.pos (by omega) ?_)
        simp only [ct1] at h
        by_cases c0 : side.getD w[i].f0.toNat false = true
        · rw [if_pos c0] at h
          refine Ev.pos (by simpa [rdOf] using c0) (Ev.pos (by omega) (Ev.pos (by omega) ?_))
          by_cases c1 : side.getD w[i].f1.toNat false = true
          · rw [if_pos c1] at h; exact Ev.pos (by simpa [rdOf] using c1) h
          · rw [if_neg c1] at h; exact Ev.neg (by simpa [rdOf] using c1) h
        · rw [if_neg c0] at h
          exact Ev.neg (by simpa [rdOf] using c0) h
      · exact Ev.step (fun k => spec_CutLimit.l0.eq_2 ..) (Ev.neg (by omega) (Ev.now _))
    · rw [if_neg hs]
      exact Ev.step (fun k => spec_CutLimit.j0.eq_2 ..) (Ev.pos (by simpa using hs) (Ev.now _))
  · rw [if_neg hn]
    exact Ev.neg hn j0
theorem impl_cutL (n : Int) (w : List P1) (side : List Bool) (hw : w.length ≤ 1099511627776) : Ev (fun k => impl_CutLimit.f k n w side) (cutL n w side) := by
  refine Ev.bind (impl_net n w hw) ?_
  have j0 : Ev (fun k => impl_CutLimit.j0 k side 0 true n w) 0 := Ev.step (fun k => impl_CutLimit.j0.eq_2 ..) (Ev.pos rfl (Ev.now _))
  unfold cutL
  by_cases hn : netB n w = true
  · rw [if_pos hn]
    refine Ev.pos hn ?_
    by_cases hs : (side.length : Int) = n
    · rw [if_pos hs]
      obtain ⟨hn2, hl, _, hp⟩ := net_facts hn
      refine Ev.step (fun k => impl_CutLimit.j0.eq_2 ..) (Ev.neg (by simp [hs]) ?_)
      refine Ev.fold (fun i s k => impl_CutLimit.l0 k side s w (w.length : Int) (i : Int)) w (ct1 side) (fun _ _ => True) (fun s => s) (fun _ _ _ _ => trivial) (fun i s hi _ r h => ?_) (fun s _ => ?_) 0 trivial
      · have hq := hp w[i] (List.getElem_mem hi)
        refine Ev.step (fun k => impl_CutLimit.l0.eq_2 ..) (Ev.pos (by omega) (Ev.pos (by omega) (Ev.pos (by omega) ?_)))
        rw [rd1_nat hi, w64s (by omega)]
        refine Ev.pos (by omega) (Ev.pos (by omega) ?_)
        simp only [ct1] at h
        by_cases c0 : side.getD w[i].f0.toNat false = true
        · rw [if_pos c0] at h
          refine Ev.pos (by simpa [rdOf] using c0) (Ev.pos (by omega) (Ev.pos (by omega) ?_))
          by_cases c1 : side.getD w[i].f1.toNat false = true
          · rw [if_pos c1] at h; exact Ev.pos (by simpa [rdOf] using c1) h
          · rw [if_neg c1] at h; exact Ev.neg (by simpa [rdOf] using c1) h
        · rw [if_neg c0] at h
          exact Ev.neg (by simpa [rdOf] using c0) h
      · exact Ev.step (fun k => impl_CutLimit.l0.eq_2 ..) (Ev.neg (by omega) (Ev.now _))
    · rw [if_neg hs]
      exact Ev.step (fun k => impl_CutLimit.j0.eq_2 ..) (Ev.pos (by simpa using hs) (Ev.now _))
  · rw [if_neg hn]
    exact Ev.neg hn j0
def isCutB (n : Int) (w : List P1) (a b : Int) (side : List Bool) (l : Int) : Bool := netB n w && (decide ((side.length : Int) = n) && (decide (0 ≤ a ∧ a ≤ n - 1) && (decide (0 ≤ b ∧ b ≤ n - 1) && (side.getD a.toNat false && (!side.getD b.toNat false && decide (cutL n w side = l))))))
theorem spec_isCut (n : Int) (w : List P1) (a b : Int) (side : List Bool) (l : Int) (hw : w.length ≤ 1099511627776) : Ev (fun k => spec_IsCut.f k n w a b side l) (isCutB n w a b side l) := by
  refine Ev.bind (spec_net n w hw) ?_
  unfold isCutB
  by_cases hn : netB n w = true
  · obtain ⟨hn2, hl, e1, hp⟩ := net_facts hn
    rw [hn, e1, Bool.true_and]
    refine Ev.pos rfl ?_
    by_cases hs : (side.length : Int) = n
    · rw [decide_eq_true hs, Bool.true_and]
      refine Ev.pos hs (Ev.bind0 (spec_in _ _ _) ?_)
      by_cases ha : 0 ≤ a ∧ a ≤ n - 1
      · rw [decide_eq_true ha, Bool.true_and]
        refine Ev.pos rfl (Ev.bind0 (spec_in _ _ _) ?_)
        by_cases hb : 0 ≤ b ∧ b ≤ n - 1
        · rw [decide_eq_true hb, Bool.true_and]
          refine Ev.pos rfl (Ev.pos (by omega) (Ev.pos (by omega) ?_))
          have ea : rdOf false side a = side.getD a.toNat false := rfl
          have eb : rdOf false side b = side.getD b.toNat false := rfl
          rw [ea]
          rcases side.getD a.toNat false with _ | _
          · exact Ev.neg (by simp) (Ev.now _)
          · rw [Bool.true_and]
            refine Ev.pos rfl (Ev.pos (by omega) (Ev.pos (by omega) ?_))
            rw [eb]
            rcases side.getD b.toNat false with _ | _
            · refine Ev.neg (by simp) (Ev.bind (spec_cutL n w side hw) ?_)
              exact Ev.now _
            · exact Ev.pos rfl (Ev.now _)
        · rw [decide_eq_false hb]
          exact Ev.neg (by simp) (Ev.now _)
      · rw [decide_eq_false ha]
        exact Ev.neg (by simp) (Ev.now _)
    · rw [decide_eq_false hs]
      exact Ev.neg hs (Ev.now _)
  · rw [Bool.eq_false_iff.2 hn]
    exact Ev.neg (by simp) (Ev.now _)
theorem impl_isCut (n : Int) (w : List P1) (a b : Int) (side : List Bool) (l : Int) (hw : w.length ≤ 1099511627776) : Ev (fun k => impl_IsCut.f k n w a b side l) (isCutB n w a b side l) := by
  refine Ev.bind (impl_net n w hw) ?_
  unfold isCutB
  by_cases hn : netB n w = true
  · obtain ⟨hn2, hl, e1, hp⟩ := net_facts hn
    rw [hn, e1, Bool.true_and]
    refine Ev.pos rfl ?_
    by_cases hs : (side.length : Int) = n
    · rw [decide_eq_true hs, Bool.true_and]
      refine Ev.pos hs (Ev.bind0 (impl_in _ _ _) ?_)
      by_cases ha : 0 ≤ a ∧ a ≤ n - 1
      · rw [decide_eq_true ha, Bool.true_and]
        refine Ev.pos rfl (Ev.bind0 (impl_in _ _ _) ?_)
        by_cases hb : 0 ≤ b ∧ b ≤ n - 1
        · rw [decide_eq_true hb, Bool.true_and]
          refine Ev.pos rfl (Ev.pos (by omega) (Ev.pos (by omega) ?_))
          have ea : rdOf false side a = side.getD a.toNat false := rfl
          have eb : rdOf false side b = side.getD b.toNat false := rfl
          rw [ea]
          rcases side.getD a.toNat false with _ | _
          · exact Ev.neg (by simp) (Ev.now _)
          · rw [Bool.true_and]
            refine Ev.pos rfl (Ev.pos (by omega) (Ev.pos (by omega) ?_))
            rw [eb]
            rcases side.getD b.toNat false with _ | _
            · refine Ev.neg (by simp) (Ev.bind (impl_cutL n w side hw) ?_)
              exact Ev.now _
            · exact Ev.pos rfl (Ev.now _)
        · rw [decide_eq_false hb]
          exact Ev.neg (by simp) (Ev.now _)
      · rw [decide_eq_false ha]
        exact Ev.neg (by simp) (Ev.now _)
    · rw [decide_eq_false hs]
      exact Ev.neg hs (Ev.now _)
  · rw [Bool.eq_false_iff.2 hn]
    exact Ev.neg (by simp) (Ev.now _)
end Go.Proofs.Yteaemblallbgpaa.X
