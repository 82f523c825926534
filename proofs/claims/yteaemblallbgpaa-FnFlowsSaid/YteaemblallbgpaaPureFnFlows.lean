/- The pure part of the law FnFlows: the greatest flow is a flow, and as great as a cut. Conditions: those of the row. -/
import Derived.Test.YteaemblallbgpaaFlowH
import Derived.Test.YteaemblallbgpaaFlowF0
import Derived.Test.YteaemblallbgpaaDrawA
import Derived.Test.YteaemblallbgpaaX29
import Derived.Test.YteaemblallbgpaaX39
import Derived.Test.YteaemblallbgpaaX40
import Derived.Test.YteaemblallbgpaaX41
namespace Go.Proofs.Yteaemblallbgpaa.X
set_option linter.unusedVariables false
set_option linter.unusedSimpArgs false
open Go.RowKit Go.Proofs.YteaemblallbgpaaW.PrintWords Go.Proofs.Yteaemblallbgpaa.PK
theorem drawNet_loop (b : List Int) (hb : b.length ≤ 1099511627776) (n : Int) (hn : 3 ≤ n ∧ n ≤ 6) : ∀ (d : Nat) (w : List P1) (i h : Int), w.length + d ≤ 8 → (∀ p ∈ w, okP (n - 1) p = true) → 0 ≤ i → ∃ v j g, Ev (fun k => spec_l17Draw.l0 k (d : Int) b i h n w) (n, v, j, g) ∧ v.length ≤ 8 ∧ ∀ p ∈ v, okP (n - 1) p = true
  | 0, w, i, h, hl, hw, _ => ⟨w, i, h, Ev.step (fun k => spec_l17Draw.l0.eq_2 ..) (Ev.neg (by omega) (Ev.now _)), by omega, hw⟩
  | d + 1, w, i, h, hl, hw, hi => by
    obtain ⟨x, i1, h1, e1, x0, x1, hi1⟩ := below_tells b i h n hi hb (by omega) (by omega)
    obtain ⟨y, i2, h2, e2, y0, y1, hi2⟩ := below_tells b i1 h1 n hi1 hb (by omega) (by omega)
    by_cases c : x = y
    · obtain ⟨v, j, g, r1, r2, r3⟩ := drawNet_loop b hb n hn d w i2 h2 (by omega) hw hi2
      refine ⟨v, j, g, Ev.step (fun k => spec_l17Draw.l0.eq_2 ..) (Ev.pos (by omega) (Ev.bind0 e1 (Ev.bind0 e2 (Ev.pos c ?_)))), r2, r3⟩
      rw [show wrap64 (((d + 1 : Nat) : Int) - 1) = (d : Int) by rw [w64 (by omega) (by omega)]; omega]
      exact r1
    · obtain ⟨z, i3, h3, e3, z0, z1, hi3⟩ := below_tells b i2 h2 8 hi2 hb (by omega) (by omega)
      obtain ⟨v, j, g, r1, r2, r3⟩ := drawNet_loop b hb n hn d (w ++ [⟨x, y, z⟩]) i3 h3 (by simp; omega) (fun p hp => by
        rcases List.mem_append.mp hp with hp | hp
        · exact hw p hp
        · rw [List.mem_singleton.mp hp]
          simp only [okP, Bool.and_eq_true, decide_eq_true_eq, Bool.not_eq_true', decide_eq_false_iff_not]
          refine ⟨⟨x0, by omega⟩, ⟨y0, by omega⟩, c, z0, by omega⟩) hi3
      refine ⟨v, j, g, Ev.step (fun k => spec_l17Draw.l0.eq_2 ..) (Ev.pos (by omega) (Ev.bind0 e1 (Ev.bind0 e2 (Ev.neg c (Ev.bind0 e3 (Ev.pos (by omega) ?_)))))), r2, r3⟩
      rw [show wrap64 (((d + 1 : Nat) : Int) - 1) = (d : Int) by rw [w64 (by omega) (by omega)]; omega]
      exact r1
theorem drawNet_tells (l : List Int) (hb : l.length ≤ 1099511627776) : ∃ n w, Ev (fun k => spec_MakeNet.f k l) (n, w) ∧ netB n w = true ∧ 3 ≤ n := by
  obtain ⟨h, hh⟩ := new_tells l hb
  obtain ⟨x, i1, h1, e1, x0, x1, hi1⟩ := below_tells l 0 h 4 (by omega) hb (by omega) (by omega)
  obtain ⟨y, i2, h2, e2, y0, y1, hi2⟩ := below_tells l i1 h1 9 hi1 hb (by omega) (by omega)
  obtain ⟨q, rfl⟩ : ∃ q : Nat, y = q := ⟨y.toNat, by omega⟩
  obtain ⟨v, j, g, r1, r2, r3⟩ := drawNet_loop l hb (3 + x) (by omega) q [] i2 h2 (by simp; omega) (fun p hp => by simp at hp) hi2
  refine ⟨3 + x, v, Ev.bind hh (Ev.bind (a := (3 + x, v, j, g)) (Ev.bind0 e1 (Ev.bind0 e2 ?_)) (Ev.now _)), ?_, by omega⟩
  · rw [show wrap64 (3 + x) = 3 + x from w64 (by omega) (by omega)]
    exact r1
  · unfold netB
    rw [w64 (by omega) (by omega)]
    simp only [Bool.and_eq_true, List.all_eq_true, decide_eq_true_eq]
    exact ⟨r3, by omega, by omega⟩
theorem impl_side {m : Nat} {w : List P1} (hc : netB (m : Int) w = true) (he : Ends m w) (a : Nat) (ha : a < m) (f : List Int) (hf : f.length = w.length) : Ev (fun k => impl_SourceSide.f k (m : Int) w (a : Int) f) ((reachR m w f a).map (·.f2)) := by
  have e1 := (net_facts hc).2.2.1
  have hm := he.1
  have hw := he.2.1
  obtain ⟨rk, cc, T⟩ := reachR_tree he f a ha
  have hlen := T.1
  unfold impl_SourceSide.f
  refine Ev.bind (impl_net _ w (by omega)) (Ev.pos hc (Ev.bind0 (impl_in _ _ _) (Ev.pos (by rw [e1]; exact decide_eq_true (by omega)) ?_)))
  rw [show ((f.length : Int) != (w.length : Int)) = false by simp [hf]]
  refine Ev.step (fun k => impl_SourceSide.j0.eq_2 ..) (Ev.neg (by simp) (Ev.bind (impl_reach_tells he f hf a ha) ?_))
  generalize reachR m w f a = l at hlen
  have := Ev.iter (fun i k => impl_SourceSide.l0 k ((l.map (·.f2)).take i) l (l.length : Int) (i : Int)) l.length (l.map (·.f2)) (fun i hi h => by
    refine Ev.step (fun k => impl_SourceSide.l0.eq_2 ..) (Ev.pos (by omega) (Ev.pos (by omega) (Ev.pos (by omega) (Ev.pos (by simp; omega) ?_))))
    rw [w64s (by omega), rdh_nat hi]
    rw [take_snoc _ i (by simpa using hi), List.getElem_map] at h
    exact h) (by
    refine Ev.step (fun k => impl_SourceSide.l0.eq_2 ..) (Ev.neg (by omega) ?_)
    rw [List.take_of_length_le (by simp)]
    exact Ev.now _)
  simpa using this
theorem isFlow_of {n : Int} {w : List P1} {a b : Int} {g : List Int} (he : endsB n w a b = true) (hlim : Lim w) (h : Flow w a b g) : isFlowB n w a b g = true := by
  obtain ⟨c1, c2, c3, c4⟩ := ends_facts he
  obtain ⟨h1, h2, _, h4⟩ := net_facts c1
  unfold isFlowB
  rw [he, Bool.true_and, decide_eq_true h.1.1, Bool.true_and, Bool.and_eq_true, List.all_eq_true, List.all_eq_true]
  refine ⟨fun x hx => ?_, fun v hv => ?_⟩
  · obtain ⟨i, hi, e⟩ := List.getElem_of_mem hx
    have hi' := hi
    rw [List.length_zip] at hi'
    rw [zip_get hi (by omega) (by omega)] at e
    have := h.1.2 i (by omega)
    rw [rd_nat (by omega), rd1_nat (by omega)] at this
    rw [← e]
    simp only [inR, decide_eq_true_eq]
    exact this
  · simp only [balB, decide_eq_true_eq]
    by_cases e1 : (v : Int) = a
    · exact .inl e1
    · by_cases e2 : (v : Int) = b
      · exact .inr (.inl e2)
      · right; right
        unfold flowV
        rw [flowV_bal (v : Int) w g 0 0 hlim (fun p hp => (h4 p hp).2.2.1) h.1 (by omega) (by omega) (by omega), h.2 _ e1 e2]
        omega
theorem side_S (l : List HP) (i : Nat) : (l.map (·.f2)).getD i false = (rd_T69 l (i : Int)).f2 := by
  simp only [rd_T69, Int.toNat_natCast, List.getD_eq_getElem?_getD, List.getElem?_map]
  cases l[i]? <;> rfl
theorem flows_hold (n : Int) (w : List P1) (hc : netB n w = true) (hn : 3 ≤ n) : ∃ g : List Int, Ev (fun k => impl_GreatestFlow.f k n w 0 1) (g, true) ∧ Ev (fun k => impl_IsFlow.f k n w 0 1 g) true ∧ Ev (fun k => laws_FnFlows.j0 k g false n w) true := by
  have he0 : endsB n w 0 1 = true := by
    unfold endsB
    rw [hc]
    simp; omega
  obtain ⟨h1, h2, e1, h4⟩ := net_facts hc
  obtain ⟨⟨g, d⟩, hG, hL⟩ := great_is he0
  have v3 := impl_great he0 hG hL
  clear hL
  obtain ⟨m, s, t, rfl, hs, ht, hsm, htm, hst, he, hlim, hd, hF, hV, hun⟩ := hG
  obtain rfl : s = 0 := by omega
  obtain rfl : t = 1 := by omega
  simp only at hd hF hV hun v3
  subst hd
  have hgl := hF.1.1
  have hne : ∀ p ∈ w, p.f0 ≠ p.f1 := fun p hp => (h4 p hp).2.2.1
  have hFl := impl_flow (m : Int) w 0 1 g (by omega) (by omega)
  rw [isFlow_of he0 hlim hF] at hFl
  have hle := bal_le 0 w g hlim hF.1
  have hfv : ∀ z : Int, flowV w z g = bal z w g := fun z => by
    unfold flowV
    rw [flowV_bal z w g 0 0 hlim hne hF.1 (by omega) (by omega) (by omega)]; omega
  obtain ⟨rk, cc, T⟩ := reachR_tree he g 0 hsm
  have hcl := reachR_closed he g hsm
  have hsd := impl_side hc he 0 hsm g hgl
  generalize hR : reachR m w g 0 = hs' at T hcl hsd hun
  have hlen := T.1
  have hS0 : (hs'.map (·.f2)).getD 0 false = true := by rw [side_S]; exact T.2.2.1
  have hS1 : ¬ (hs'.map (·.f2)).getD 1 false = true := by rw [side_S]; exact hun
  have hcut : limS (fun i => (hs'.map (·.f2)).getD i false) w = bal 0 w g := by
    rw [← cut_lim (fun i => (hs'.map (·.f2)).getD i false) m w g hgl he.2.2 (fun i hi hi' => by
      have hep := he.at hi
      have hg := hF.1.2 i hi
      rw [rd_nat hi', rd1_nat hi] at hg
      obtain ⟨u, hu⟩ : ∃ u : Nat, w[i].f0 = u := ⟨w[i].f0.toNat, by omega⟩
      obtain ⟨v, hv⟩ : ∃ v : Nat, w[i].f1 = v := ⟨w[i].f1.toNat, by omega⟩
      simp only [side_S]
      rw [hu, hv, Int.toNat_natCast, Int.toNat_natCast]
      refine ⟨fun k1 k2 => ?_, fun k1 k2 => ?_⟩
      · have := (hcl u k1 i hi).1
        rw [rd1_nat hi, rd_nat hi', hu, hv] at this
        by_cases q : g[i] < w[i].f2
        · exact absurd (this rfl q) k2
        · omega
      · have := (hcl v k2 i hi).2
        rw [rd1_nat hi, rd_nat hi', hu, hv] at this
        by_cases q : 0 < g[i]
        · exact absurd (this rfl q) k1
        · omega)]
    rw [cutSum_two (a := 0) (b := 1) (fun z z1 z2 => hF.2 z z1 z2) (by omega) hS0 m, if_pos hsm, if_neg (fun q => hS1 q.2)]
    simp
  have hall := cutSum_all m w g hgl he.2.2
  rw [cutSum_two (S := fun _ => true) (a := 0) (b := 1) (fun z z1 z2 => hF.2 z z1 z2) (by omega) rfl m, if_pos hsm, if_pos ⟨htm, rfl⟩] at hall
  have hb1 : bal 1 w g = -bal 0 w g := by
    have : bal ((0 : Nat) : Int) w g + bal ((1 : Nat) : Int) w g = 0 := hall
    simp only [Int.natCast_zero, Int.natCast_one] at this
    omega
  have hcL : cutL (m : Int) w (hs'.map (·.f2)) = bal 0 w g := by
    unfold cutL
    rw [if_pos hc, if_pos (by simp [hlen]), cutL_lim (hs'.map (·.f2)) w 0 0 hlim (by omega) (by omega) (by omega), hcut]
    omega
  have hcutB : ∀ x : Int, isCutB (m : Int) w 0 1 (hs'.map (·.f2)) x = decide (bal 0 w g = x) := fun x => by
    unfold isCutB
    rw [hc, hcL, show (0 : Int).toNat = 0 from rfl, show (1 : Int).toNat = 1 from rfl, hS0, Bool.eq_false_iff.2 hS1, decide_eq_true (show ((hs'.map (·.f2)).length : Int) = (m : Int) by simp [hlen]), decide_eq_true (show (0 : Int) ≤ 0 ∧ (0 : Int) ≤ (m : Int) - 1 by omega), decide_eq_true (show (0 : Int) ≤ 1 ∧ (1 : Int) ≤ (m : Int) - 1 by omega)]
    rfl
  have k1 := impl_isCut (m : Int) w 0 1 (hs'.map (·.f2)) (bal 0 w g) (by omega)
  rw [hcutB, decide_eq_true rfl] at k1
  have k2 := impl_isCut (m : Int) w 0 1 (hs'.map (·.f2)) (wrap64 (bal 0 w g + 1)) (by omega)
  rw [hcutB, decide_eq_false (by rw [w64 (by omega) (by omega)]; omega)] at k2
  have k3 := impl_flow (m : Int) w 0 1 (List.replicate w.length 0) (by omega) (by simp; omega)
  rw [isFlow_of he0 hlim (flow_zero hlim 0 1)] at k3
  have k4 := impl_flowV (m : Int) w 0 g (by omega) (by omega)
  rw [hfv] at k4
  have k5 := impl_flowV (m : Int) w 1 g (by omega) (by omega)
  rw [hfv, hb1] at k5
  have k6 := impl_cutL (m : Int) w (hs'.map (·.f2)) (by omega)
  rw [hcL] at k6
  refine ⟨g, v3, hFl, Ev.step (fun k => laws_FnFlows.j0.eq_2 ..) (Ev.neg (by simp) (Ev.bind k4 (Ev.bind hsd (Ev.pos (by omega) (Ev.pos (by omega) (Ev.pos hV (Ev.pos (by simp [hlen]) (Ev.bind k6 (Ev.pos rfl (Ev.bind k1 (Ev.pos rfl (Ev.bind k2 (Ev.neg (by simp) ?_)))))))))))))⟩
  rw [Int.toNat_natCast]
  refine Ev.bind k3 (Ev.pos rfl (Ev.bind k5 ?_))
  rw [w64 (by omega) (by omega)]
  simpa using Ev.now true
theorem FnFlows.pure : ∀ (l0 : List Int), (l0.length ≤ maxLen ∧ ∀ y ∈ l0, (Lit.int .u8 y).wf = true) → ∃ k, laws_FnFlows.f k l0 = some true := by
  intro l hl
  refine Ev.rounds (g := fun k => laws_FnFlows.f k l) ?_
  unfold laws_FnFlows.f
  by_cases c : (l.length : Int) > 1048576
  · exact Ev.pos c (Ev.now _)
  · obtain ⟨n, w, e, hc, hn⟩ := drawNet_tells l (by omega)
    obtain ⟨g, h1, h2, h3⟩ := flows_hold n w hc hn
    exact Ev.neg c (Ev.bind e (Ev.bind h1 (Ev.pos rfl (Ev.bind h2 h3))))
end Go.Proofs.Yteaemblallbgpaa.X
