/- Flows: program and reference tell the same. No condition beyond sizes. -/
import Derived.Test.YteaemblallbgpaaNetA
import Derived.Test.YteaemblallbgpaaX22
import Derived.Test.YteaemblallbgpaaX24
namespace Go.Proofs.Yteaemblallbgpaa.X
set_option linter.unusedVariables false
set_option linter.unusedSimpArgs false
open Go.RowKit Go.Proofs.YteaemblallbgpaaW.PrintWords Go.Proofs.Yteaemblallbgpaa.PK
def endsB (n : Int) (w : List P1) (a b : Int) : Bool := netB n w && (decide (0 ≤ a ∧ a ≤ n - 1) && (decide (0 ≤ b ∧ b ≤ n - 1) && (a != b)))
theorem spec_ends (n : Int) (w : List P1) (a b : Int) (hw : w.length ≤ 1099511627776) : Ev (fun k => spec_l17Ends.f k n w a b) (endsB n w a b) := by
  refine Ev.bind (spec_net n w hw) ?_
  unfold endsB
  by_cases hn : netB n w = true
  · obtain ⟨hn2, hl, e1, hp⟩ := net_facts hn
    rw [hn, e1, Bool.true_and]
    refine Ev.pos rfl (Ev.bind0 (spec_in _ _ _) ?_)
    by_cases ha : 0 ≤ a ∧ a ≤ n - 1
    · rw [decide_eq_true ha, Bool.true_and]
      refine Ev.pos rfl (Ev.bind0 (spec_in _ _ _) ?_)
      by_cases hb : 0 ≤ b ∧ b ≤ n - 1
      · rw [decide_eq_true hb, Bool.true_and]
        exact Ev.pos rfl (Ev.now _)
      · rw [decide_eq_false hb]
        exact Ev.neg (by simp) (Ev.now _)
    · rw [decide_eq_false ha]
      exact Ev.neg (by simp) (Ev.now _)
  · rw [Bool.eq_false_iff.2 hn]
    exact Ev.neg (by simp) (Ev.now _)
theorem impl_ends (n : Int) (w : List P1) (a b : Int) (hw : w.length ≤ 1099511627776) : Ev (fun k => impl_areEnds.f k n w a b) (endsB n w a b) := by
  refine Ev.bind (impl_net n w hw) ?_
  unfold endsB
  by_cases hn : netB n w = true
  · obtain ⟨hn2, hl, e1, hp⟩ := net_facts hn
    rw [hn, e1, Bool.true_and]
    refine Ev.pos rfl (Ev.bind0 (impl_in _ _ _) ?_)
    by_cases ha : 0 ≤ a ∧ a ≤ n - 1
    · rw [decide_eq_true ha, Bool.true_and]
      refine Ev.pos rfl (Ev.bind0 (impl_in _ _ _) ?_)
      by_cases hb : 0 ≤ b ∧ b ≤ n - 1
      · rw [decide_eq_true hb, Bool.true_and]
        exact Ev.pos rfl (Ev.now _)
      · rw [decide_eq_false hb]
        exact Ev.neg (by simp) (Ev.now _)
    · rw [decide_eq_false ha]
      exact Ev.neg (by simp) (Ev.now _)
  · rw [Bool.eq_false_iff.2 hn]
    exact Ev.neg (by simp) (Ev.now _)
def inR (x : P1 × Int) : Bool := decide (0 ≤ x.2 ∧ x.2 ≤ x.1.f2)
def balB (w : List P1) (a b : Int) (f : List Int) (v : Nat) : Bool := decide ((v : Int) = a ∨ (v : Int) = b ∨ flowV w v f = 0)
def isFlowB (n : Int) (w : List P1) (a b : Int) (f : List Int) : Bool := endsB n w a b && (decide (f.length = w.length) && ((w.zip f).all inR && (List.range n.toNat).all (balB w a b f)))
theorem ends_facts {n : Int} {w : List P1} {a b : Int} (h : endsB n w a b = true) : netB n w = true ∧ (0 ≤ a ∧ a ≤ n - 1) ∧ (0 ≤ b ∧ b ≤ n - 1) ∧ a ≠ b := by
  simpa [endsB] using h
theorem impl_flow (n : Int) (w : List P1) (a b : Int) (f : List Int) (hw : w.length ≤ 1099511627776) (hf : f.length ≤ 1099511627776) : Ev (fun k => impl_IsFlow.f k n w a b f) (isFlowB n w a b f) := by
  refine Ev.bind (impl_ends n w a b hw) ?_
  unfold isFlowB
  by_cases he : endsB n w a b = true
  · obtain ⟨hn, ha, hb, hab⟩ := ends_facts he
    obtain ⟨hn2, hl, _, hp⟩ := net_facts hn
    rw [he, Bool.true_and]
    refine Ev.pos rfl ?_
    by_cases hfl : f.length = w.length
    · rw [decide_eq_true hfl, Bool.true_and]
      refine Ev.step (fun k => impl_IsFlow.j0.eq_2 ..) (Ev.neg (by simp [hfl]) ?_)
      have hz : (w.zip f).length = w.length := by simp [hfl]
      have key := Ev.all (fun i k => impl_IsFlow.l0 k a b f w (w.length : Int) (i : Int) n w) (w.zip f) inR ((List.range n.toNat).all (balB w a b f)) (fun i hi ht r h => by
        have h1 : i < w.length := by omega
        have h2 : i < f.length := by omega
        rw [zip_get hi h1 h2] at ht
        refine Ev.step (fun k => impl_IsFlow.l0.eq_2 ..) (Ev.pos (by omega) (Ev.pos (by omega) (Ev.pos (by omega) (Ev.pos (by omega) (Ev.bind0 (impl_in _ _ _) ?_)))))
        rw [rd1_nat h1, rd_nat h2, w64s (by omega)]
        exact Ev.pos ht h) (fun i hi ht => by
        have h1 : i < w.length := by omega
        have h2 : i < f.length := by omega
        rw [zip_get hi h1 h2] at ht
        refine Ev.step (fun k => impl_IsFlow.l0.eq_2 ..) (Ev.pos (by omega) (Ev.pos (by omega) (Ev.pos (by omega) (Ev.pos (by omega) (Ev.bind0 (impl_in _ _ _) ?_)))))
        rw [rd1_nat h1, rd_nat h2]
        exact Ev.neg (by simpa [inR] using ht) (Ev.now _)) (by
        rw [hz]
        refine Ev.step (fun k => impl_IsFlow.l0.eq_2 ..) (Ev.neg (by omega) ?_)
        have := Ev.all (fun i k => impl_IsFlow.l1 k a b f n (i : Int) n w) (List.range n.toNat) (balB w a b f) true (fun i hi ht r h => by
          have hi' : i < n.toNat := by simpa using hi
          rw [List.getElem_range] at ht
          simp only [balB, decide_eq_true_eq] at ht
          refine Ev.step (fun k => impl_IsFlow.l1.eq_2 ..) (Ev.pos (by omega) ?_)
          rw [w64s (by omega)]
          by_cases c1 : (i : Int) = a
          · exact Ev.pos c1 h
          · refine Ev.neg c1 ?_
            by_cases c2 : (i : Int) = b
            · exact Ev.pos c2 h
            · refine Ev.neg c2 (Ev.bind (impl_flowV n w i f hw hf) (Ev.pos ?_ h))
              omega) (fun i hi ht => by
          have hi' : i < n.toNat := by simpa using hi
          rw [List.getElem_range] at ht
          simp only [balB, decide_eq_false_iff_not, not_or] at ht
          exact Ev.step (fun k => impl_IsFlow.l1.eq_2 ..) (Ev.pos (by omega) (Ev.neg ht.1 (Ev.neg ht.2.1 (Ev.bind (impl_flowV n w i f hw hf) (Ev.neg ht.2.2 (Ev.now _))))))) (by
          rw [List.length_range]
          exact Ev.step (fun k => impl_IsFlow.l1.eq_2 ..) (Ev.neg (by omega) (Ev.now _)))
        simpa using this)
      exact key
    · rw [decide_eq_false hfl]
      exact Ev.step (fun k => impl_IsFlow.j0.eq_2 ..) (Ev.pos (by simp; omega) (Ev.now _))
  · rw [Bool.eq_false_iff.2 he]
    exact Ev.neg (by simp) (Ev.step (fun k => impl_IsFlow.j0.eq_2 ..) (Ev.pos rfl (Ev.now _)))

/-- What has left node v over the first i pipes. -/
def pf (w : List P1) (f : List Int) (v : Int) (i : Nat) : Int := ((w.zip f).take i).foldl (fv1 v) 0
theorem pf_succ (w : List P1) (f : List Int) (v : Int) (i : Nat) (h : i < (w.zip f).length) : pf w f v (i + 1) = fv1 v (pf w f v i) (w.zip f)[i] := by
  unfold pf; rw [take_snoc _ i h, List.foldl_append]; rfl
theorem fv1_plain (v s x : Int) (p : P1) (hne : p.f0 ≠ p.f1) (hs : -1000000 ≤ s ∧ s ≤ 1000000) (hx : 0 ≤ x ∧ x ≤ 1000) : fv1 v s (p, x) = s + (if p.f0 = v then x else 0) - (if p.f1 = v then x else 0) := by
  unfold fv1
  simp only
  by_cases c1 : p.f1 = v
  · rw [if_pos c1, if_pos c1, if_neg (by omega), if_neg (by omega), w64 (by omega) (by omega)]; omega
  · rw [if_neg c1, if_neg c1]
    by_cases c0 : p.f0 = v
    · rw [if_pos c0, if_pos c0, w64 (by omega) (by omega)]; omega
    · rw [if_neg c0, if_neg c0]; omega
theorem pf_bound (w : List P1) (f : List Int) (v : Int) (hlim : ∀ p ∈ w, p.f0 ≠ p.f1 ∧ p.f2 ≤ 1000) (hlen : w.length ≤ 120) : ∀ i, i ≤ (w.zip f).length → (∀ j (h : j < (w.zip f).length), j < i → inR (w.zip f)[j] = true) → -(1000 * (i : Int)) ≤ pf w f v i ∧ pf w f v i ≤ 1000 * (i : Int)
  | 0, _, _ => by simp [pf]
  | i + 1, hi, hr => by
    have ih := pf_bound w f v hlim hlen i (by omega) (fun j h hj => hr j h (by omega))
    have h1 : i < w.length := by simp at hi; omega
    have h2 : i < f.length := by simp at hi; omega
    have hx := hr i (by omega) (by omega)
    rw [zip_get (by omega) h1 h2] at hx
    simp only [inR, decide_eq_true_eq] at hx
    have hq := hlim w[i] (List.getElem_mem h1)
    rw [pf_succ w f v i (by omega), zip_get (by omega) h1 h2, fv1_plain _ _ _ _ hq.1 (by omega) (by omega)]
    by_cases c0 : w[i].f0 = v <;> by_cases c1 : w[i].f1 = v <;> simp only [c0, c1, if_true, if_false] <;> (try rw [if_pos rfl]) <;> (try rw [if_pos rfl]) <;> (try simp only [if_neg (show ¬ v = w[i].f0 by omega)]) <;> omega
theorem getD_set (l : List Int) (i j : Nat) (x : Int) (hi : i < l.length) : (l.set i x).getD j 0 = if i = j then x else l.getD j 0 := by
  simp only [List.getD_eq_getElem?_getD, List.getElem?_set]
  by_cases h : i = j
  · subst h; simp [hi]
  · simp [h]
theorem spec_flow (n : Int) (w : List P1) (a b : Int) (f : List Int) (hw : w.length ≤ 1099511627776) (hf : f.length ≤ 1099511627776) : Ev (fun k => spec_IsFlow.f k n w a b f) (isFlowB n w a b f) := by
  refine Ev.bind (spec_ends n w a b hw) ?_
  unfold isFlowB
  by_cases he : endsB n w a b = true
  · obtain ⟨hn, ha, hb, hab⟩ := ends_facts he
    obtain ⟨hn2, hl, _, hp⟩ := net_facts hn
    rw [he, Bool.true_and]
    refine Ev.pos rfl ?_
    by_cases hfl : f.length = w.length
    · rw [decide_eq_true hfl, Bool.true_and]
      have hz : (w.zip f).length = w.length := by simp [hfl]
      refine Ev.step (fun k => spec_IsFlow.j0.eq_2 ..) (Ev.neg (by simp [hfl]) (Ev.pos (by omega) (Ev.pos (by omega) ?_)))
      have key := down (g := fun i => ∀ acc : List Int, acc.length = n.toNat → (∀ j (h : j < (w.zip f).length), j < i → inR (w.zip f)[j] = true) → (∀ v : Nat, v < n.toNat → acc.getD v 0 = - pf w f v i) → Ev (fun k => spec_IsFlow.l0 k a b f acc w (w.length : Int) (i : Int)) (((w.zip f).drop i).all inR && (List.range n.toNat).all (balB w a b f))) (n := w.length) (fun i hi ih acc hacc hr hv => by
        have h1 : i < w.length := by omega
        have h2 : i < f.length := by omega
        have h3 : i < (w.zip f).length := by omega
        have hq := hp w[i] (List.getElem_mem h1)
        rw [List.drop_eq_getElem_cons h3, List.all_cons]
        refine Ev.step (fun k => spec_IsFlow.l0.eq_2 ..) (Ev.pos (by omega) (Ev.pos (by omega) (Ev.pos (by omega) (Ev.pos (by omega) (Ev.bind0 (spec_in _ _ _) ?_)))))
        rw [rd1_nat h1, rd_nat h2, w64s (by omega)]
        have hx0 : inR (w.zip f)[i] = decide (0 ≤ f[i] ∧ f[i] ≤ w[i].f2) := by rw [zip_get h3 h1 h2]; rfl
        by_cases hx : 0 ≤ f[i] ∧ f[i] ≤ w[i].f2
        · rw [hx0, decide_eq_true hx, Bool.true_and]
          obtain ⟨⟨q1, q2⟩, ⟨q3, q4⟩, q5, q6, q7⟩ := hq
          refine Ev.pos rfl (Ev.pos q1 (Ev.pos (by omega) (Ev.bind0 rfl (Ev.pos q3 (Ev.pos (by omega) ?_)))))
          have hb : ∀ v : Int, -(1000 * (i : Int)) ≤ pf w f v i ∧ pf w f v i ≤ 1000 * (i : Int) := fun v => pf_bound w f v (fun p hp' => ⟨(hp p hp').2.2.1, (hp p hp').2.2.2.2⟩) hl i (by omega) hr
          refine ih _ (by simp [hacc]) (fun j h hj => ?_) (fun v hvn => ?_)
          · rcases Nat.lt_or_ge j i with hji | hji
            · exact hr j h hji
            · obtain rfl : j = i := by omega
              rw [hx0]; exact decide_eq_true hx
          · have e0 : rd acc w[i].f0 = - pf w f w[i].f0 i := by
              have := hv w[i].f0.toNat (by omega)
              rw [Int.toNat_of_nonneg q1] at this
              exact this
            have e1 : rd acc w[i].f1 = - pf w f w[i].f1 i := by
              have := hv w[i].f1.toNat (by omega)
              rw [Int.toNat_of_nonneg q3] at this
              exact this
            have b0 := hb w[i].f0
            have b1 := hb w[i].f1
            have e2 : rd (acc.set w[i].f0.toNat (wrap64 (rd acc w[i].f0 - f[i]))) w[i].f1 = rd acc w[i].f1 := by
              unfold rd
              rw [getD_set _ _ _ _ (by omega), if_neg (by omega)]
            rw [e2, e0, e1, w64 (by omega) (by omega), w64 (by omega) (by omega)]
            rw [getD_set _ _ _ _ (by first | omega | (simp; omega)), getD_set _ _ _ _ (by omega), hv v hvn, pf_succ w f v i h3, zip_get h3 h1 h2, fv1_plain _ _ _ _ q5 (by have := hb v; omega) (by omega)]
            by_cases c0 : w[i].f0 = (v : Int)
            · have c1 : ¬ w[i].f1 = (v : Int) := by omega
              rw [if_neg (by omega), if_pos (by omega), if_pos c0, if_neg c1, c0]; omega
            · by_cases c1 : w[i].f1 = (v : Int)
              · rw [if_pos (by omega), if_neg c0, if_pos c1, c1]; omega
              · rw [if_neg (by omega), if_neg (by omega), if_neg c0, if_neg c1]; omega
        · rw [hx0, decide_eq_false hx]
          exact Ev.neg (by simp) (Ev.now _)) (fun acc hacc hr hv => by
        rw [show ((w.zip f).drop w.length) = [] from List.drop_eq_nil_of_le (by omega)]
        refine Ev.step (fun k => spec_IsFlow.l0.eq_2 ..) (Ev.neg (by omega) ?_)
        rw [hacc]
        have hfin : ∀ v : Nat, v < n.toNat → acc.getD v 0 = - flowV w v f := fun v hv' => by
          rw [hv v hv']; unfold pf flowV; rw [List.take_of_length_le (by omega)]
        have := Ev.all (fun i k => spec_IsFlow.l1 k a b acc (n.toNat : Int) (i : Int)) (List.range n.toNat) (balB w a b f) true (fun i hi ht r h => by
          have hi' : i < n.toNat := by simpa using hi
          rw [List.getElem_range] at ht
          simp only [balB, decide_eq_true_eq] at ht
          refine Ev.step (fun k => spec_IsFlow.l1.eq_2 ..) (Ev.pos (by omega) (Ev.pos (by omega) (Ev.pos (by omega) ?_)))
          rw [w64s (by omega)]
          have e : rd acc (i : Int) = - flowV w i f := hfin i hi'
          rw [e]
          by_cases c1 : (i : Int) = a
          · exact Ev.pos c1 h
          · refine Ev.neg c1 ?_
            by_cases c2 : (i : Int) = b
            · exact Ev.pos c2 h
            · exact Ev.neg c2 (Ev.pos (by omega) h)) (fun i hi ht => by
          have hi' : i < n.toNat := by simpa using hi
          rw [List.getElem_range] at ht
          simp only [balB, decide_eq_false_iff_not, not_or] at ht
          refine Ev.step (fun k => spec_IsFlow.l1.eq_2 ..) (Ev.pos (by omega) (Ev.pos (by omega) (Ev.pos (by omega) ?_)))
          have e : rd acc (i : Int) = - flowV w i f := hfin i hi'
          rw [e]
          exact Ev.neg ht.1 (Ev.neg ht.2.1 (Ev.neg (by omega) (Ev.now _)))) (by
          rw [List.length_range]
          exact Ev.step (fun k => spec_IsFlow.l1.eq_2 ..) (Ev.neg (by omega) (Ev.now _)))
        simpa using this) w.length 0 (by omega) (List.replicate n.toNat 0) (by simp) (fun j _ h => by omega) (fun v hv => by simp [pf, List.getD_eq_getElem?_getD, hv])
      simpa using key
    · rw [decide_eq_false hfl]
      exact Ev.step (fun k => spec_IsFlow.j0.eq_2 ..) (Ev.pos (by simp; omega) (Ev.now _))
  · rw [Bool.eq_false_iff.2 he]
    exact Ev.neg (by simp) (Ev.step (fun k => spec_IsFlow.j0.eq_2 ..) (Ev.pos rfl (Ev.now _)))
end Go.Proofs.Yteaemblallbgpaa.X
