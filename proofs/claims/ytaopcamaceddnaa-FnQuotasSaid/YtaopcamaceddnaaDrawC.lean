/- The contests that the laws draw are valid. Conditions: sizes of rows. -/
import Derived.Test.YtaopcamaceddnaaDrawA
import Derived.Test.YtaopcamaceddnaaContC
import Derived.Test.YtaopcamaceddnaaPK2
import Derived.Test.YtaopcamaceddnaaZ3
import Derived.Test.YtaopcamaceddnaaZ4
import Derived.Test.YtaopcamaceddnaaZ5
import Derived.Test.YtaopcamaceddnaaZ6
namespace Go.Proofs.Ytaopcamaceddnaa.Z
set_option linter.unusedVariables false
set_option linter.unusedSimpArgs false
open Go.RowKit Go.Proofs.YtaopcamaceddnaaW.PrintWords Go.Proofs.Ytaopcamaceddnaa.PK
/-- An order of m numbers below m. -/
structure Ord (m : Nat) (o : List Int) : Prop where
  len : o.length = m
  nd : o.Nodup
  rng : ∀ y ∈ o, 0 ≤ y ∧ y < (m : Int)
theorem ord_put {m a : Nat} {o : List Int} (h : Ord m o) (ha : a ≤ m) : Ord (m + 1) (o.take a ++ (m : Int) :: o.drop a) := by
  have hp : List.Perm (o.take a ++ (m : Int) :: o.drop a) ((m : Int) :: o) := by
    have := List.perm_middle (a := (m : Int)) (l₁ := o.take a) (l₂ := o.drop a)
    rw [List.take_append_drop] at this
    exact this
  refine ⟨by rw [hp.length_eq, List.length_cons, h.len], ?_, fun y hy => ?_⟩
  · rw [hp.nodup_iff, List.nodup_cons]
    exact ⟨fun hc => by have := (h.rng _ hc).2; omega, h.nd⟩
  · rcases List.mem_cons.1 (hp.mem_iff.1 hy) with rfl | hy
    · exact ⟨by omega, by omega⟩
    · have := h.rng y hy; exact ⟨this.1, by omega⟩
theorem shift_tells (N : Int) (o : List Int) (m a : Nat) (ho : o.length = m) (hm : m ≤ 1000) (ha : a ≤ m) (b : List Int) (i h : Int) (v : List Int × Int × Int)
    (hv : Ev (fun k => spec_l02Order.l0 k N (o.take a ++ (m : Int) :: o.drop a) ((m + 1 : Nat) : Int) b i h) v) :
    ∀ (d q : Nat) (z : Int), q = a + d → q ≤ m → Ev (fun k => spec_l02Order.l1 k N (o.take q ++ z :: o.drop q) (m : Int) (a : Int) (q : Int) b i h) v := by
  intro d
  induction d with
  | zero =>
    intro q z hq hqm
    obtain rfl : q = a := by omega
    have hl : (o.take q ++ z :: o.drop q).length = m + 1 := by simp; omega
    refine Ev.step (fun k => spec_l02Order.l1.eq_2 ..) (Ev.neg (by omega) (Ev.pos (by omega) (Ev.pos (by rw [hl]; omega) ?_)))
    rw [Int.toNat_natCast, w64s (by omega), set_mid _ _ _ _ _ (by rw [List.length_take]; omega), List.append_assoc, List.singleton_append]
    exact hv
  | succ d ih =>
    intro q z hq hqm
    have hl : (o.take q ++ z :: o.drop q).length = m + 1 := by simp; omega
    have hw : wrap64 ((q : Int) - 1) = ((q - 1 : Nat) : Int) := by rw [w64 (by omega) (by omega)]; omega
    refine Ev.step (fun k => spec_l02Order.l1.eq_2 ..) (Ev.pos (by omega) ?_)
    rw [hw]
    refine Ev.pos (by omega) (Ev.pos (by rw [hl]; omega) (Ev.pos (by omega) (Ev.pos (by rw [hl]; omega) ?_)))
    have hx : rd (o.take q ++ z :: o.drop q) ((q - 1 : Nat) : Int) = o[q - 1]'(by omega) := by
      rw [rd_nat (by rw [hl]; omega), List.getElem_append_left (by rw [List.length_take]; omega), List.getElem_take]
    rw [Int.toNat_natCast, hx, set_mid _ _ _ _ _ (by rw [List.length_take]; omega)]
    have e : o.take q = o.take (q - 1) ++ [o[q - 1]'(by omega)] := by
      have := take_snoc o (q - 1) (by omega)
      rw [show q - 1 + 1 = q by omega] at this
      exact this
    have e2 : o.drop (q - 1) = o[q - 1]'(by omega) :: o.drop q := by
      have := List.drop_eq_getElem_cons (l := o) (i := q - 1) (by omega)
      rw [show q - 1 + 1 = q by omega] at this
      exact this
    have hs := ih (q - 1) (o[q - 1]'(by omega)) (by omega) (by omega)
    rw [e2] at hs
    rw [e]
    simp only [List.append_assoc, List.singleton_append]
    exact hs
theorem order_tells (b : List Int) (hb : b.length ≤ 1099511627776) (N : Nat) (hN : N ≤ 200) (i h : Int) (hi : 0 ≤ i) :
    ∃ o j g, Ev (fun k => spec_l02Order.f k b i h (N : Int)) (o, j, g) ∧ Ord N o ∧ 0 ≤ j := by
  have := down (g := fun m => ∀ (o : List Int) (i h : Int), Ord m o → 0 ≤ i → ∃ o' j g, Ev (fun k => spec_l02Order.l0 k (N : Int) o (m : Int) b i h) (o', j, g) ∧ Ord N o' ∧ 0 ≤ j) (n := N) (fun m hm hs o i h ho hi => by
    have hw : wrap64 ((m : Int) + 1) = ((m + 1 : Nat) : Int) := w64s (by omega)
    obtain ⟨x, j, g, e, x0, x1, hj⟩ := below_tells b i h ((m + 1 : Nat) : Int) hi hb (by omega) (by omega)
    obtain ⟨a, rfl⟩ := Int.eq_ofNat_of_zero_le x0
    have hl := ho.len
    obtain ⟨o', j', g', h1, h2, h3⟩ := hs (o.take a ++ (m : Int) :: o.drop a) j g (ord_put ho (by omega)) hj
    refine ⟨o', j', g', Ev.step (fun k => spec_l02Order.l0.eq_2 ..) (Ev.pos (by omega) ?_), h2, h3⟩
    rw [hw]
    refine Ev.bind0 e (Ev.pos (by omega) (Ev.bind0 rfl ?_))
    have hlen : wrap64 (((o ++ [(0 : Int)]).length : Int) - 1) = (m : Int) := by rw [List.length_append, List.length_singleton, hl, w64 (by omega) (by omega)]; omega
    rw [hlen]
    have hsh := shift_tells (N : Int) o m a hl (by omega) (by omega) b j g (o', j', g') h1 (m - a) m 0 (by omega) (Nat.le_refl _)
    rw [List.take_of_length_le (by omega), List.drop_eq_nil_of_le (by omega)] at hsh
    exact hsh) (fun o i h ho hi => ⟨o, i, h, Ev.step (fun k => spec_l02Order.l0.eq_2 ..) (Ev.neg (by omega) (Ev.now _)), ho, hi⟩) N 0 (by omega)
  exact this [] i h ⟨rfl, List.nodup_nil, fun y hy => by cases hy⟩ hi
/-- What a drawn contest at place i of cnt is. -/
structure Good (n : Int) (cnt i : Nat) (y : C1) : Prop where
  len : y.f0.length ≤ 8
  pos : 1 ≤ y.f0.length
  nd : y.f0.Nodup
  rng : ∀ x ∈ y.f0, 0 ≤ x ∧ x < n
  pl : 0 ≤ y.f1 ∧ y.f1 ≤ 3
  nx : y.f2 = -1 ∨ ((i : Int) + 1 ≤ y.f2 ∧ y.f2 ≤ (cnt : Int) - 1)
theorem good_take {n : Int} {cnt i N a : Nat} {o : List Int} {p q : Int} (ho : Ord N o) (hn : n = (N : Int)) (hN : N ≤ 8) (ha : 1 ≤ a) (ha2 : a ≤ N) (hp : 0 ≤ p ∧ p ≤ 3) (hq : q = -1 ∨ ((i : Int) + 1 ≤ q ∧ q ≤ (cnt : Int) - 1)) : Good n cnt i ⟨o.take a, p, q⟩ := by
  subst hn
  have hl := ho.len
  refine ⟨?_, ?_, ?_, ?_, hp, hq⟩
  · show (o.take a).length ≤ 8; rw [List.length_take]; omega
  · show 1 ≤ (o.take a).length; rw [List.length_take]; omega
  · exact List.Sublist.nodup (List.take_sublist _ _) ho.nd
  · intro x hx; exact ho.rng x (List.mem_of_mem_take hx)
theorem good_snoc {n : Int} {cnt : Nat} {l : List C1} {y : C1} (h : ∀ q (hq : q < l.length), Good n cnt q l[q]) (hy : Good n cnt l.length y) : ∀ q (hq : q < (l ++ [y]).length), Good n cnt q (l ++ [y])[q] := by
  intro q hq
  by_cases c : q < l.length
  · rw [List.getElem_append_left c]; exact h q c
  · have e : q = l.length := by
      have h2 := hq
      rw [List.length_append, List.length_singleton] at h2
      omega
    subst e
    rw [List.getElem_append_right (Nat.le_refl _)]
    simpa using hy
/-- What the loop hands back from place m on. -/
def DrawR (n : Int) (cnt m : Nat) (b : List Int) : Prop := ∀ (l : List C1) (i h : Int), l.length = m → 0 ≤ i → (∀ q (hq : q < l.length), Good n cnt q l[q]) → ∃ (l' : List C1) (j g : Int), Ev (fun k => spec_l20Draw.l0 k n l (cnt : Int) (m : Int) b i h) (n, l', j, g) ∧ l'.length = cnt ∧ ∀ q (hq : q < l'.length), Good n cnt q l'[q]
theorem draw_next (N cnt m : Nat) (b : List Int) (hb : b.length ≤ 1099511627776) (hN : 1 ≤ N) (hN8 : N ≤ 8) (hm : m < cnt) (hc : cnt ≤ 10) (hs : DrawR (N : Int) cnt (m + 1) b) (l : List C1) (hl : l.length = m) (hg : ∀ q (hq : q < l.length), Good (N : Int) cnt q l[q]) (o : List Int) (ho : Ord N o) (a : Nat) (ha : 1 ≤ a) (ha2 : a ≤ N) (i2 h2 : Int) (hi2 : 0 ≤ i2) :
    ∃ (l' : List C1) (j g : Int), Ev (fun k => (spec_l01Below.f b i2 h2 4).bind fun bt165 => (if ((m + 1 : Nat) : Int) < (cnt : Int) then ((spec_l01Once.f b bt165.2.1 bt165.2.2 3).bind fun bt169 => (if bt169.1 = true then (if l.length < 3518437208883 then (spec_l20Draw.l0 k (N : Int) (l ++ [(⟨o.take a, bt165.1, (-1)⟩ : C1)]) (cnt : Int) ((m + 1 : Nat) : Int) b bt169.2.1 bt169.2.2) else (none)) else ((spec_l01Below.f b bt169.2.1 bt169.2.2 (wrap64 ((wrap64 ((cnt : Int) - (m : Int))) - 1))).bind fun bt175 => (if l.length < 3518437208883 then (spec_l20Draw.l0 k (N : Int) (l ++ [(⟨o.take a, bt165.1, wrap64 (((m + 1 : Nat) : Int) + bt175.1)⟩ : C1)]) (cnt : Int) ((m + 1 : Nat) : Int) b bt175.2.1 bt175.2.2) else (none))))) else (if l.length < 3518437208883 then (spec_l20Draw.l0 k (N : Int) (l ++ [(⟨o.take a, bt165.1, (-1)⟩ : C1)]) (cnt : Int) ((m + 1 : Nat) : Int) b bt165.2.1 bt165.2.2) else (none)))) ((N : Int), l', j, g) ∧ l'.length = cnt ∧ ∀ q (hq : q < l'.length), Good (N : Int) cnt q l'[q] := by
  obtain ⟨p, i3, h3, ep, p0, p1, hi3⟩ := below_tells b i2 h2 4 hi2 hb (by omega) (by omega)
  have hlen : l.length < 3518437208883 := by omega
  have hlen1 : ∀ y : C1, (l ++ [y]).length = m + 1 := fun y => by rw [List.length_append, List.length_singleton, hl]
  have put : ∀ (q : Int), (q = -1 ∨ ((m : Int) + 1 ≤ q ∧ q ≤ (cnt : Int) - 1)) → Good (N : Int) cnt l.length ⟨o.take a, p, q⟩ := fun q hq => by
    rw [hl]; exact good_take ho rfl hN8 ha ha2 ⟨p0, by omega⟩ hq
  by_cases c : ((m + 1 : Nat) : Int) < (cnt : Int)
  · obtain ⟨u, i4, h4, eu, u0, u1, hi4⟩ := below_tells b i3 h3 3 hi3 hb (by omega) (by omega)
    by_cases c2 : (u == 0) = true
    · obtain ⟨l', j, g, q1, q2, q3⟩ := hs _ i4 h4 (hlen1 ⟨o.take a, p, -1⟩) hi4 (good_snoc hg (put (-1) (.inl rfl)))
      exact ⟨l', j, g, Ev.bind0 ep (Ev.pos c (Ev.bind0 (a := (true, i4, h4)) (by unfold spec_l01Once.f; rw [eu, Option.bind_some, c2]) (Ev.pos rfl (Ev.pos hlen q1)))), q2, q3⟩
    · have hb2 : wrap64 (wrap64 ((cnt : Int) - (m : Int)) - 1) = ((cnt - m - 1 : Nat) : Int) := by rw [w64 (n := (cnt : Int) - (m : Int)) (by omega) (by omega), w64 (by omega) (by omega)]; omega
      obtain ⟨v, i5, h5, ev, v0, v1, hi5⟩ := below_tells b i4 h4 ((cnt - m - 1 : Nat) : Int) hi4 hb (by omega) (by omega)
      have hq : wrap64 (((m + 1 : Nat) : Int) + v) = -1 ∨ ((m : Int) + 1 ≤ wrap64 (((m + 1 : Nat) : Int) + v) ∧ wrap64 (((m + 1 : Nat) : Int) + v) ≤ (cnt : Int) - 1) := by
        rw [w64 (by omega) (by omega)]; right; omega
      obtain ⟨l', j, g, q1, q2, q3⟩ := hs _ i5 h5 (hlen1 ⟨o.take a, p, wrap64 (((m + 1 : Nat) : Int) + v)⟩) hi5 (good_snoc hg (put _ hq))
      refine ⟨l', j, g, Ev.bind0 ep (Ev.pos c (Ev.bind0 (a := (false, i4, h4)) (by unfold spec_l01Once.f; rw [eu, Option.bind_some, Bool.eq_false_iff.2 c2]) (Ev.neg (by simp) ?_))), q2, q3⟩
      rw [hb2]
      exact Ev.bind0 ev (Ev.pos hlen q1)
  · obtain ⟨l', j, g, q1, q2, q3⟩ := hs _ i3 h3 (hlen1 ⟨o.take a, p, -1⟩) hi3 (good_snoc hg (put (-1) (.inl rfl)))
    exact ⟨l', j, g, Ev.bind0 ep (Ev.neg c (Ev.pos hlen q1)), q2, q3⟩
theorem draw_one (N cnt m : Nat) (b : List Int) (hb : b.length ≤ 1099511627776) (hN : 1 ≤ N) (hN8 : N ≤ 8) (hm : m < cnt) (hc : cnt ≤ 10) (hs : DrawR (N : Int) cnt (m + 1) b) : DrawR (N : Int) cnt m b := by
  intro l i h hl hi hg
  obtain ⟨o, i1, h1, eo, ho, hi1⟩ := order_tells b hb N (by omega) i h hi
  obtain ⟨a, i2, h2, ea, a0, a1, hi2⟩ := below_tells b i1 h1 (N : Int) hi1 hb (by omega) (by omega)
  obtain ⟨a, rfl⟩ := Int.eq_ofNat_of_zero_le a0
  have hol := ho.len
  have u1 : 1 ≤ 1 + a := by omega
  have u2 : 1 + a ≤ N := by omega
  have u3 : (0 : Int) ≤ ((1 + a : Nat) : Int) := by omega
  have u4 : ((1 + a : Nat) : Int) ≤ (o.length : Int) := by omega
  have u5 : (m : Int) < (cnt : Int) := by omega
  have hA : wrap64 (1 + (a : Int)) = ((1 + a : Nat) : Int) := by rw [w64 (by omega) (by omega)]; omega
  obtain ⟨l', j, g, q1, q2, q3⟩ := draw_next N cnt m b hb hN hN8 hm hc hs l hl hg o ho (1 + a) u1 u2 i2 h2 hi2
  refine ⟨l', j, g, Ev.step (fun k => spec_l20Draw.l0.eq_2 ..) (Ev.pos u5 (Ev.bind eo (Ev.bind0 ea ?_))), q2, q3⟩
  rw [hA, w64s (i := m) (by clear hA; omega)]
  exact Ev.pos u3 (Ev.pos u4 (Ev.bind0 (a := o.take (1 + a)) (by rw [Int.toNat_natCast]) q1))
theorem draw_tells (b : List Int) (hb : b.length ≤ 1099511627776) (i h : Int) (hi : 0 ≤ i) :
    ∃ (N : Nat) (l : List C1) (j g : Int), Ev (fun k => spec_l20Draw.f k b i h) ((N : Int), l, j, g) ∧ 3 ≤ N ∧ N ≤ 7 ∧ l.length ≤ 4 ∧ ∀ i (h : i < l.length), Good (N : Int) l.length i l[i] := by
  obtain ⟨x, j, g, e, x0, x1, hj⟩ := below_tells b i h 5 hi hb (by omega) (by omega)
  obtain ⟨y, j2, g2, e2, y0, y1, hj2⟩ := below_tells b j g 4 hj hb (by omega) (by omega)
  obtain ⟨x, rfl⟩ := Int.eq_ofNat_of_zero_le x0
  obtain ⟨y, rfl⟩ := Int.eq_ofNat_of_zero_le y0
  have h0 : DrawR ((3 + x : Nat) : Int) (1 + y) (1 + y) b := fun l i h hl hi hg => ⟨l, i, h, Ev.step (fun k => spec_l20Draw.l0.eq_2 ..) (Ev.neg (by omega) (Ev.now _)), hl, hg⟩
  have := down (g := fun m => DrawR ((3 + x : Nat) : Int) (1 + y) m b) (n := 1 + y) (fun m hm hs => draw_one (3 + x) (1 + y) m b hb (by omega) (by omega) hm (by omega) hs) h0 (1 + y) 0 (by omega)
  obtain ⟨l', j', g', q1, q2, q3⟩ := this [] j2 g2 rfl hj2 (fun q hq => by cases hq)
  refine ⟨3 + x, l', j', g', ?_, by omega, by omega, by omega, fun q hq => by rw [q2]; exact q3 q hq⟩
  refine Ev.bind0 e (Ev.bind0 e2 ?_)
  have hN : wrap64 (3 + (x : Int)) = ((3 + x : Nat) : Int) := by rw [w64 (by omega) (by omega)]; omega
  rw [hN]
  clear hN
  have hC : wrap64 (1 + (y : Int)) = ((1 + y : Nat) : Int) := by rw [w64 (by omega) (by omega)]; omega
  rw [hC]
  exact q1
theorem good_conts {N : Nat} {l : List C1} (h3 : 3 ≤ N) (h7 : N ≤ 7) (hl : l.length ≤ 4) (hg : ∀ i (h : i < l.length), Good (N : Int) l.length i l[i]) : contsB (N : Int) l = true := by
  unfold contsB
  simp only [Bool.and_eq_true, decide_eq_true_eq, List.all_eq_true, List.mem_range]
  refine ⟨fun i hi => ?_, by omega, by omega⟩
  have g := hg i hi
  have e : l.getD i zC = l[i] := by simp [List.getD_eq_getElem?_getD, hi]
  unfold contB
  rw [e]
  simp only [Bool.and_eq_true, List.all_eq_true, List.mem_range]
  refine ⟨fun j hj => ?_, ?_⟩
  · unfold teamB
    have ej : l[i].f0.getD j 0 = l[i].f0[j] := by simp [List.getD_eq_getElem?_getD, hj]
    rw [ej]
    have hr := g.rng _ (List.getElem_mem hj)
    rw [w64 (by omega) (by omega)]
    simp only [Bool.and_eq_true, decide_eq_true_eq]
    refine ⟨⟨hr.1, by omega⟩, ?_⟩
    rw [Bool.not_eq_true', ← Bool.not_eq_true]
    intro hc
    unfold hasB at hc
    obtain ⟨m, hm, hmj, hme⟩ := (any_take l[i].f0 _ j (by omega)).1 hc
    exact (List.pairwise_iff_getElem.1 g.nd) m j hm hj hmj (of_decide_eq_true hme)
  · unfold endB
    rw [w64 (by omega) (by omega)]
    simp only [Bool.and_eq_true, Bool.or_eq_true, decide_eq_true_eq]
    refine ⟨⟨g.pl.1, by have := g.pl.2; omega⟩, ?_⟩
    rcases g.nx with h | h
    · exact .inl h
    · exact .inr h
theorem make_tells (b : List Int) (hb : b.length ≤ 1099511627776) : ∃ (N : Nat) (l : List C1), Ev (fun k => spec_MakeContests.f k b) ((N : Int), l) ∧ 3 ≤ N ∧ N ≤ 7 ∧ l.length ≤ 4 ∧ (∀ i (h : i < l.length), Good (N : Int) l.length i l[i]) ∧ contsB (N : Int) l = true := by
  obtain ⟨h, hn⟩ := new_tells b hb
  obtain ⟨N, l, j, g, e, h3, h7, hl, hg⟩ := draw_tells b hb 0 h (by omega)
  exact ⟨N, l, Ev.bind hn (Ev.bind e (Ev.now _)), h3, h7, hl, hg, good_conts h3 h7 hl hg⟩
end Go.Proofs.Ytaopcamaceddnaa.Z
