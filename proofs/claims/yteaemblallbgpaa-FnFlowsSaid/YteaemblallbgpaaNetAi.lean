/- Flows and cuts of the program. No condition beyond sizes. -/
import Derived.Test.YteaemblallbgpaaNetA0
import Derived.Test.YteaemblallbgpaaX10
import Derived.Test.YteaemblallbgpaaX15
import Derived.Test.YteaemblallbgpaaX19
import Derived.Test.YteaemblallbgpaaX24
namespace Go.Proofs.Yteaemblallbgpaa.X
set_option linter.unusedVariables false
set_option linter.unusedSimpArgs false
open Go.RowKit Go.Proofs.YteaemblallbgpaaW.PrintWords Go.Proofs.Yteaemblallbgpaa.PK
def fv1 (v : Int) (s : Int) (x : P1 × Int) : Int := if x.1.f1 = v then wrap64 ((if x.1.f0 = v then wrap64 (s + x.2) else s) - x.2) else (if x.1.f0 = v then wrap64 (s + x.2) else s)
def flowV (w : List P1) (v : Int) (f : List Int) : Int := (w.zip f).foldl (fv1 v) 0
theorem zip_get {α β : Type} {a : List α} {b : List β} {i : Nat} (h : i < (a.zip b).length) (ha : i < a.length) (hb : i < b.length) : (a.zip b)[i] = (a[i], b[i]) := by simp
theorem mn_nat (a b : Nat) : mn (a : Int) (b : Int) = ((min a b : Nat) : Int) := by unfold mn; omega
theorem impl_flowV (n : Int) (w : List P1) (v : Int) (f : List Int) (hw : w.length ≤ 1099511627776) (hf : f.length ≤ 1099511627776) : Ev (fun k => impl_FlowValue.f k n w v f) (flowV w v f) := by
  simp only [impl_FlowValue.f]
  rw [mn_nat]
  refine Ev.fold (fun i s k => impl_FlowValue.l0 k v f s ((min w.length f.length : Nat) : Int) (i : Int) n w) (w.zip f) (fv1 v) (fun _ _ => True) (fun s => s) (fun _ _ _ _ => trivial) (fun i s hi _ r h => ?_) (fun s _ => ?_) 0 trivial
  · have h1 : i < w.length := by simp at hi; omega
    have h2 : i < f.length := by simp at hi; omega
    rw [zip_get hi h1 h2] at h
    refine Ev.step (fun k => impl_FlowValue.l0.eq_2 ..) (Ev.pos (by omega) (Ev.pos (by omega) (Ev.pos (by omega) ?_)))
    rw [rd1_nat h1, rd_nat h2, w64s (by omega)]
    simp only [fv1] at h
    by_cases c0 : w[i].f0 = v
    · refine Ev.pos c0 (Ev.pos (by omega) ?_)
      rw [if_pos c0] at h
      by_cases c1 : w[i].f1 = v
      · rw [if_pos c1] at h; exact Ev.pos c1 h
      · rw [if_neg c1] at h; exact Ev.neg c1 h
    · refine Ev.neg c0 ?_
      rw [if_neg c0] at h
      by_cases c1 : w[i].f1 = v
      · rw [if_pos c1] at h; exact Ev.pos c1 (Ev.pos (by omega) h)
      · rw [if_neg c1] at h; exact Ev.neg c1 h
  · refine Ev.step (fun k => impl_FlowValue.l0.eq_2 ..) (Ev.neg (by rw [List.length_zip]; omega) (Ev.now _))

def ct1 (side : List Bool) (s : Int) (p : P1) : Int := if side.getD p.f0.toNat false = true then (if side.getD p.f1.toNat false = true then s else wrap64 (s + p.f2)) else s
def cutL (n : Int) (w : List P1) (side : List Bool) : Int := if netB n w = true then (if (side.length : Int) = n then w.foldl (ct1 side) 0 else 0) else 0
theorem impl_cutL (n : Int) (w : List P1) (side : List Bool) (hw : w.length ≤ 1099511627776) : Ev (fun k => impl_CutLimit.f k n w side) (cutL n w side) := by
  refine Ev.bind (impl_net n w hw) ?_
  have j0 : Ev (fun k => impl_CutLimit.j0 k side 0 true n w) 0 := Ev.step (fun k => impl_CutLimit.j0.eq_2 ..) (Ev.pos rfl (Ev.now _))
  unfold cutL
  by_cases hn : netB n w = true
  · rw [if_pos hn]
    refine Ev.pos hn ?_
    by_cases hs : (side.length : Int) = n
    · rw [if_pos hs]
      obtain ⟨hn2, hl, _, hp⟩ := net_facts hn
      refine Ev.step (fun k => impl_CutLimit.j0.eq_2 ..) (Ev.neg (by simp [hs]) ?_)
      refine Ev.fold (fun i s k => impl_CutLimit.l0 k side s w (w.length : Int) (i : Int)) w (ct1 side) (fun _ _ => True) (fun s => s) (fun _ _ _ _ => trivial) (fun i s hi _ r h => ?_) (fun s _ => ?_) 0 trivial
      · have hq := hp w[i] (List.getElem_mem hi)
        refine Ev.step (fun k => impl_CutLimit.l0.eq_2 ..) (Ev.pos (by omega) (Ev.pos (by omega) (Ev.pos (by omega) ?_)))
        rw [rd1_nat hi, w64s (by omega)]
        refine Ev.pos (by omega) (Ev.pos (by omega) ?_)
        simp only [ct1] at h
        by_cases c0 : side.getD w[i].f0.toNat false = true
        · rw [if_pos c0] at h
          refine Ev.pos (by simpa [rdOf] using c0) (Ev.pos (by omega) (Ev.pos (by omega) ?_))
          by_cases c1 : side.getD w[i].f1.toNat false = true
          · rw [if_pos c1] at h; exact Ev.pos (by simpa [rdOf] using c1) h
          · rw [if_neg c1] at h; exact Ev.neg (by simpa [rdOf] using c1) h
        · rw [if_neg c0] at h
          exact Ev.neg (by simpa [rdOf] using c0) h
      · exact Ev.step (fun k => impl_CutLimit.l0.eq_2 ..) (Ev.neg (by omega) (Ev.now _))
    · rw [if_neg hs]
      exact Ev.step (fun k => impl_CutLimit.j0.eq_2 ..) (Ev.pos (by simpa using hs) (Ev.now _))
  · rw [if_neg hn]
    exact Ev.neg hn j0
def isCutB (n : Int) (w : List P1) (a b : Int) (side : List Bool) (l : Int) : Bool := netB n w && (decide ((side.length : Int) = n) && (decide (0 ≤ a ∧ a ≤ n - 1) && (decide (0 ≤ b ∧ b ≤ n - 1) && (side.getD a.toNat false && (!side.getD b.toNat false && decide (cutL n w side = l))))))
theorem impl_isCut (n : Int) (w : List P1) (a b : Int) (side : List Bool) (l : Int) (hw : w.length ≤ 1099511627776) : Ev (fun k => impl_IsCut.f k n w a b side l) (isCutB n w a b side l) := by
  refine Ev.bind (impl_net n w hw) ?_
  unfold isCutB
  by_cases hn : netB n w = true
  · obtain ⟨hn2, hl, e1, hp⟩ := net_facts hn
    rw [hn, e1, Bool.true_and]
    refine Ev.pos rfl ?_
    by_cases hs : (side.length : Int) = n
    · rw [decide_eq_true hs, Bool.true_and]
      refine Ev.pos hs (Ev.bind0 (impl_in _ _ _) ?_)
      by_cases ha : 0 ≤ a ∧ a ≤ n - 1
      · rw [decide_eq_true ha, Bool.true_and]
        refine Ev.pos rfl (Ev.bind0 (impl_in _ _ _) ?_)
        by_cases hb : 0 ≤ b ∧ b ≤ n - 1
        · rw [decide_eq_true hb, Bool.true_and]
          refine Ev.pos rfl (Ev.pos (by omega) (Ev.pos (by omega) ?_))
          have ea : rdOf false side a = side.getD a.toNat false := rfl
          have eb : rdOf false side b = side.getD b.toNat false := rfl
          rw [ea]
          rcases side.getD a.toNat false with _ | _
          · exact Ev.neg (by simp) (Ev.now _)
          · rw [Bool.true_and]
            refine Ev.pos rfl (Ev.pos (by omega) (Ev.pos (by omega) ?_))
            rw [eb]
            rcases side.getD b.toNat false with _ | _
            · refine Ev.neg (by simp) (Ev.bind (impl_cutL n w side hw) ?_)
              exact Ev.now _
            · exact Ev.pos rfl (Ev.now _)
        · rw [decide_eq_false hb]
          exact Ev.neg (by simp) (Ev.now _)
      · rw [decide_eq_false ha]
        exact Ev.neg (by simp) (Ev.now _)
    · rw [decide_eq_false hs]
      exact Ev.neg hs (Ev.now _)
  · rw [Bool.eq_false_iff.2 hn]
    exact Ev.neg (by simp) (Ev.now _)
def inR (x : P1 × Int) : Bool := decide (0 ≤ x.2 ∧ x.2 ≤ x.1.f2)
def balB (w : List P1) (a b : Int) (f : List Int) (v : Nat) : Bool := decide ((v : Int) = a ∨ (v : Int) = b ∨ flowV w v f = 0)
def isFlowB (n : Int) (w : List P1) (a b : Int) (f : List Int) : Bool := endsB n w a b && (decide (f.length = w.length) && ((w.zip f).all inR && (List.range n.toNat).all (balB w a b f)))
theorem impl_flow (n : Int) (w : List P1) (a b : Int) (f : List Int) (hw : w.length ≤ 1099511627776) (hf : f.length ≤ 1099511627776) : Ev (fun k => impl_IsFlow.f k n w a b f) (isFlowB n w a b f) := by
  refine Ev.bind (impl_ends n w a b hw) ?_
  unfold isFlowB
  by_cases he : endsB n w a b = true
  · obtain ⟨hn, ha, hb, hab⟩ := ends_facts he
    obtain ⟨hn2, hl, _, hp⟩ := net_facts hn
    rw [he, Bool.true_and]
    refine Ev.pos rfl ?_
    by_cases hfl : f.length = w.length
    · rw [decide_eq_true hfl, Bool.true_and]
      refine Ev.step (fun k => impl_IsFlow.j0.eq_2 ..) (Ev.neg (by simp [hfl]) ?_)
      have hz : (w.zip f).length = w.length := by simp [hfl]
      have key := Ev.all (fun i k => impl_IsFlow.l0 k a b f w (w.length : Int) (i : Int) n w) (w.zip f) inR ((List.range n.toNat).all (balB w a b f)) (fun i hi ht r h => by
        have h1 : i < w.length := by omega
        have h2 : i < f.length := by omega
        rw [zip_get hi h1 h2] at ht
        refine Ev.step (fun k => impl_IsFlow.l0.eq_2 ..) (Ev.pos (by omega) (Ev.pos (by omega) (Ev.pos (by omega) (Ev.pos (by omega) (Ev.bind0 (impl_in _ _ _) ?_)))))
        rw [rd1_nat h1, rd_nat h2, w64s (by omega)]
        exact Ev.pos ht h) (fun i hi ht => by
        have h1 : i < w.length := by omega
        have h2 : i < f.length := by omega
        rw [zip_get hi h1 h2] at ht
        refine Ev.step (fun k => impl_IsFlow.l0.eq_2 ..) (Ev.pos (by omega) (Ev.pos (by omega) (Ev.pos (by omega) (Ev.pos (by omega) (Ev.bind0 (impl_in _ _ _) ?_)))))
        rw [rd1_nat h1, rd_nat h2]
        exact Ev.neg (by simpa [inR] using ht) (Ev.now _)) (by
        rw [hz]
        refine Ev.step (fun k => impl_IsFlow.l0.eq_2 ..) (Ev.neg (by omega) ?_)
        have := Ev.all (fun i k => impl_IsFlow.l1 k a b f n (i : Int) n w) (List.range n.toNat) (balB w a b f) true (fun i hi ht r h => by
          have hi' : i < n.toNat := by simpa using hi
          rw [List.getElem_range] at ht
          simp only [balB, decide_eq_true_eq] at ht
          refine Ev.step (fun k => impl_IsFlow.l1.eq_2 ..) (Ev.pos (by omega) ?_)
          rw [w64s (by omega)]
          by_cases c1 : (i : Int) = a
          · exact Ev.pos c1 h
          · refine Ev.neg c1 ?_
            by_cases c2 : (i : Int) = b
            · exact Ev.pos c2 h
            · refine Ev.neg c2 (Ev.bind (impl_flowV n w i f hw hf) (Ev.pos ?_ h))
              omega) (fun i hi ht => by
          have hi' : i < n.toNat := by simpa using hi
          rw [List.getElem_range] at ht
          simp only [balB, decide_eq_false_iff_not, not_or] at ht
          exact Ev.step (fun k => impl_IsFlow.l1.eq_2 ..) (Ev.pos (by omega) (Ev.neg ht.1 (Ev.neg ht.2.1 (Ev.bind (impl_flowV n w i f hw hf) (Ev.neg ht.2.2 (Ev.now _))))))) (by
          rw [List.length_range]
          exact Ev.step (fun k => impl_IsFlow.l1.eq_2 ..) (Ev.neg (by omega) (Ev.now _)))
        simpa using this)
      exact key
    · rw [decide_eq_false hfl]
      exact Ev.step (fun k => impl_IsFlow.j0.eq_2 ..) (Ev.pos (by simp; omega) (Ev.now _))
  · rw [Bool.eq_false_iff.2 he]
    exact Ev.neg (by simp) (Ev.step (fun k => impl_IsFlow.j0.eq_2 ..) (Ev.pos rfl (Ev.now _)))

theorem fv1_plain (v s x : Int) (p : P1) (hne : p.f0 ≠ p.f1) (hs : -1000000 ≤ s ∧ s ≤ 1000000) (hx : 0 ≤ x ∧ x ≤ 1000) : fv1 v s (p, x) = s + (if p.f0 = v then x else 0) - (if p.f1 = v then x else 0) := by
  unfold fv1
  simp only
  by_cases c1 : p.f1 = v
  · rw [if_pos c1, if_pos c1, if_neg (by omega), if_neg (by omega), w64 (by omega) (by omega)]; omega
  · rw [if_neg c1, if_neg c1]
    by_cases c0 : p.f0 = v
    · rw [if_pos c0, if_pos c0, w64 (by omega) (by omega)]; omega
    · rw [if_neg c0, if_neg c0]; omega
end Go.Proofs.Yteaemblallbgpaa.X
