/- The pure part of the law FnExactRegattaOrder: what program and reference compute is the same. Conditions: those of the row. -/
import Derived.Test.YtipojkfkcelejaaRegD
import Derived.Test.YtipojkfkcelejaaRegM
import Derived.Test.YtipojkfkcelejaaX4
import Derived.Test.YtipojkfkcelejaaX12
import Derived.Test.YtipojkfkcelejaaX36
import Derived.Test.YtipojkfkcelejaaX38
import Derived.Test.YtipojkfkcelejaaX39
namespace Go.Proofs.Ytipojkfkcelejaa.X
set_option linter.unusedVariables false
set_option linter.unusedSimpArgs false
open Go.RowKit Go.Proofs.YtipojkfkcelejaaW.PrintWords Go.Proofs.Ytipojkfkcelejaa.PK
theorem marks_mem {q : Int} {n : Nat} {x : Int} : x ∈ marks q n ↔ q ≤ x ∧ x < q + n := by
  unfold marks
  rw [List.mem_map]
  constructor
  · rintro ⟨i, hi, rfl⟩
    have := List.mem_range.1 hi
    omega
  · rintro ⟨h1, h2⟩
    exact ⟨(x - q).toNat, List.mem_range.2 (by omega), by omega⟩
theorem cmp_boat (b : Int) (l : List (List Int)) (d x y : Int) (hl : l.length ≤ 1048576) (hi : ∀ z ∈ l, z.length ≤ 1048576) (c : regB b l d = true) (x0 : 0 ≤ x ∧ x < b) (y0 : 0 ≤ y ∧ y < b) :
    ∃ t : Int, Ev (fun k => impl_RegattaOrder_1.f k x y b l d) t ∧ decide (t < 0) = beforeB b l d x y := by
  have h := reg_of c
  have hb2 := h.b2
  have hb8 := h.b8
  have h1 := impl_boat b l d x y hl hi
  have h2 := impl_boat b l d y x hl hi
  have e : wrap64 (b - 1) = b - 1 := w64 (by omega) (by omega)
  rw [c, e, decide_eq_true (show 0 ≤ x ∧ x ≤ b - 1 by omega), decide_eq_true (show 0 ≤ y ∧ y ≤ b - 1 by omega), Bool.true_and, Bool.true_and, Bool.true_and] at h1 h2
  unfold impl_RegattaOrder_1.f
  cases c1 : beforeB b l d x y with
  | true =>
    rw [c1] at h1
    exact ⟨-1, Ev.bind h1 (Ev.pos rfl (Ev.now _)), rfl⟩
  | false =>
    rw [c1] at h1
    cases c2 : beforeB b l d y x with
    | true =>
      rw [c2] at h2
      exact ⟨1, Ev.bind h1 (Ev.neg (by simp) (Ev.bind h2 (Ev.pos rfl (Ev.now _)))), rfl⟩
    | false =>
      rw [c2] at h2
      exact ⟨0, Ev.bind h1 (Ev.neg (by simp) (Ev.bind h2 (Ev.neg (by simp) (Ev.now _)))), rfl⟩
theorem sortf_tells (b : Int) (l : List (List Int)) (d : Int) (hl : l.length ≤ 1048576) (hi : ∀ z ∈ l, z.length ≤ 1048576) (c : regB b l d = true) (xs : List Int) (hx : xs.Perm (marks 0 b.toNat)) :
    ∃ r, Ev (fun k => slices_SortFunc_int_int_impl_RegattaOrder_1.f k xs b l d) r ∧ r.Perm xs ∧ r.Pairwise (fun u v => beforeB b l d v u = false) := by
  have h := reg_of c
  have hb2 := h.b2
  have hb8 := h.b8
  have hxl : xs.length = b.toNat := by rw [hx.length_eq, marks_length]
  have hin : ∀ {ys : List Int} {z : Int}, ys.Perm xs → z ∈ ys → 0 ≤ z ∧ z < b := fun hp hz => by
    have := marks_mem.1 (hx.mem_iff.1 (hp.mem_iff.1 hz))
    omega
  obtain ⟨r, h1, h2, h3⟩ := sort_outer (beforeB b l d) xs (fun x i k => slices_insertionSortCmpFunc_int_impl_RegattaOrder_1.l0 k x 0 (xs.length : Int) (i : Int) b l d) (fun x i j k => slices_insertionSortCmpFunc_int_impl_RegattaOrder_1.l1 k x 0 (xs.length : Int) (i : Int) (j : Int) b l d)
    (fun x i r hp h1 hi hr => Ev.step (fun k => slices_insertionSortCmpFunc_int_impl_RegattaOrder_1.l0.eq_2 ..) (Ev.pos (by omega) hr))
    (fun x i hp hi _ => Ev.step (fun k => slices_insertionSortCmpFunc_int_impl_RegattaOrder_1.l0.eq_2 ..) (Ev.neg (by omega) (Ev.now _)))
    (fun i h1 hi x r hp hr => Ev.step (fun k => slices_insertionSortCmpFunc_int_impl_RegattaOrder_1.l1.eq_2 ..) (Ev.neg (by omega) (by rw [w64s (by omega)]; exact hr)))
    (fun i h1 hi' A u v B r hp cc hr => by
      have hlen := hp.length_eq
      rw [len_two] at hlen
      obtain ⟨t, ht1, ht2⟩ := cmp_boat b l d v u hl hi c (hin hp (by simp)) (hin hp (by simp))
      refine Ev.step (fun k => slices_insertionSortCmpFunc_int_impl_RegattaOrder_1.l1.eq_2 ..) (Ev.pos (by omega) (Ev.pos (by omega) (Ev.pos (by rw [len_two]; omega) ?_)))
      rw [show wrap64 (((A.length + 1 : Nat) : Int) - 1) = ((A.length : Nat) : Int) by rw [w64 (by omega) (by omega)]; omega]
      refine Ev.pos (by omega) (Ev.pos (by rw [len_two]; omega) ?_)
      rw [rd_two_v, rd_two_u, Int.toNat_natCast, Int.toNat_natCast, set_two]
      exact Ev.bind ht1 (Ev.pos (of_decide_eq_true (ht2.trans cc)) hr))
    (fun i h1 hi' A u v B r hp cc hr => by
      have hlen := hp.length_eq
      rw [len_two] at hlen
      obtain ⟨t, ht1, ht2⟩ := cmp_boat b l d v u hl hi c (hin hp (by simp)) (hin hp (by simp))
      refine Ev.step (fun k => slices_insertionSortCmpFunc_int_impl_RegattaOrder_1.l1.eq_2 ..) (Ev.pos (by omega) (Ev.pos (by omega) (Ev.pos (by rw [len_two]; omega) ?_)))
      rw [show wrap64 (((A.length + 1 : Nat) : Int) - 1) = ((A.length : Nat) : Int) by rw [w64 (by omega) (by omega)]; omega]
      refine Ev.pos (by omega) (Ev.pos (by rw [len_two]; omega) ?_)
      rw [rd_two_v, rd_two_u, w64s (by omega)]
      exact Ev.bind ht1 (Ev.neg (of_decide_eq_false (ht2.trans cc)) hr))
    (fun x y z h1 h2 => lex_le_trans _ _ _ h1 h2) (fun x y h1 => lex_asym _ _ h1)
  obtain ⟨t, ht⟩ := len_small xs (by omega)
  refine ⟨r, ?_, h2, h3⟩
  unfold slices_SortFunc_int_int_impl_RegattaOrder_1.f
  refine Ev.bind0 ht ?_
  unfold slices_pdqsortCmpFunc_int_impl_RegattaOrder_1.f
  refine Ev.bind (a := r) (Ev.pos (by rw [w64 (by omega) (by omega)]; omega) ?_) (Ev.now _)
  unfold slices_insertionSortCmpFunc_int_impl_RegattaOrder_1.f
  rw [show wrap64 ((0 : Int) + 1) = ((1 : Nat) : Int) by rw [w64 (by omega) (by omega)]; rfl]
  exact h1
-- the reference: put in where it belongs
theorem shift_tells (b : Int) (l : List (List Int)) (d : Int) (i : Nat) (A : List Int) (res : List Int) (hs : A.length ≤ 1000) :
    ∀ (m : Nat) (B1 B2 : List Int) (w : Int), B1.length = m → B1.length + B2.length ≤ 1000 → Ev (fun k => spec_RegattaOrder.l0 k (A ++ (i : Int) :: (B1 ++ B2)) (wrap64 ((i : Int) + 1)) b l d) res →
      Ev (fun k => spec_RegattaOrder.l2 k (A ++ (B1 ++ w :: B2)) (i : Int) (A.length : Int) ((A.length + B1.length : Nat) : Int) b l d) res
  | 0, B1, B2, w, hm, hb, hr => by
    obtain rfl : B1 = [] := List.eq_nil_of_length_eq_zero hm
    refine Ev.step (fun k => spec_RegattaOrder.l2.eq_2 ..) (Ev.neg (by simp) (Ev.pos (by omega) (Ev.pos (by simp; omega) ?_)))
    rw [Int.toNat_natCast, List.nil_append, set_mid A w _ _ _ rfl]
    simpa using hr
  | m + 1, B1, B2, w, hm, hb, hr => by
    obtain ⟨B', u, rfl⟩ : ∃ B' u, B1 = B' ++ [u] := ⟨B1.dropLast, B1.getLast (by intro e; rw [e] at hm; simp at hm), (List.dropLast_concat_getLast _).symm⟩
    have hlen : B'.length = m := by simpa using hm
    have hb' : B'.length + B2.length + 1 ≤ 1000 := by simp at hb; omega
    have e0 : A ++ (B' ++ [u] ++ w :: B2) = (A ++ B') ++ u :: w :: B2 := by simp
    have e1 : ((A.length + (B' ++ [u]).length : Nat) : Int) = (((A ++ B').length + 1 : Nat) : Int) := by simp; omega
    have hAB : (A ++ B').length = A.length + B'.length := by simp
    rw [e0, e1]
    refine Ev.step (fun k => spec_RegattaOrder.l2.eq_2 ..) (Ev.pos (by omega) ?_)
    rw [show wrap64 ((((A ++ B').length + 1 : Nat) : Int) - 1) = (((A ++ B').length : Nat) : Int) by rw [w64 (by omega) (by omega)]; omega]
    refine Ev.pos (by omega) (Ev.pos (by rw [len_two]; omega) (Ev.pos (by omega) (Ev.pos (by rw [len_two]; omega) ?_)))
    rw [rd_two_u, Int.toNat_natCast]
    have e2 : ((A ++ B') ++ u :: w :: B2).set ((A ++ B').length + 1) u = A ++ (B' ++ u :: (u :: B2)) := by
      have e3 : (A ++ B') ++ u :: w :: B2 = (A ++ B' ++ [u]) ++ w :: B2 := by simp
      have e4 : (A ++ B').length + 1 = (A ++ B' ++ [u]).length := by simp; omega
      rw [e3, e4, set_mid _ w u _ _ rfl]
      simp
    rw [e2, hAB]
    exact shift_tells b l d i A res hs m B' (u :: B2) u hlen (by simp; omega) (by simpa using hr)
theorem find_tells (b : Int) (l : List (List Int)) (d : Int) (h : Reg b l d) (i : Nat) (hi : (i : Int) < b) :
    ∀ (B A : List Int), (A ++ B).length ≤ 1000 → (∀ z ∈ B, 0 ≤ z ∧ z < b) → (∀ z ∈ A, beforeB b l d z (i : Int) = true) →
      ∃ A' B', A ++ B = A' ++ B' ∧ (∀ z ∈ A', beforeB b l d z (i : Int) = true) ∧ (∀ z, B'.head? = some z → beforeB b l d z (i : Int) = false) ∧
        ∀ res, Ev (fun k => spec_RegattaOrder.j2 k (A ++ B) (i : Int) (A'.length : Int) b l d) res → Ev (fun k => spec_RegattaOrder.l1 k (A ++ B) (i : Int) (A.length : Int) b l d) res
  | [], A, hl, hB, hA => ⟨A, [], rfl, hA, by simp, fun res hr => Ev.step (fun k => spec_RegattaOrder.l1.eq_2 ..) (Ev.neg (by simp) hr)⟩
  | z :: B, A, hl, hB, hA => by
    have hz := hB z (by simp)
    have hrd : rd (A ++ z :: B) ((A.length : Nat) : Int) = z := by
      rw [rd_nat (by simp)]
      simp [List.getElem_append_right]
    have hbe := spec_before h hz.1 hz.2 (show (0 : Int) ≤ (i : Int) by omega) hi
    cases c : beforeB b l d z (i : Int) with
    | true =>
      rw [c] at hbe
      have e : A ++ z :: B = (A ++ [z]) ++ B := by simp
      obtain ⟨A', B', h1, h2, h3, h4⟩ := find_tells b l d h i hi B (A ++ [z]) (by rw [← e]; exact hl) (fun y hy => hB y (by simp [hy])) (fun y hy => by
        rcases List.mem_append.1 hy with hy | hy
        · exact hA y hy
        · rw [List.mem_singleton.1 hy]; exact c)
      rw [← e] at h1 h4
      refine ⟨A', B', h1, h2, h3, fun res hr => ?_⟩
      have h5 := h4 res hr
      refine Ev.step (fun k => spec_RegattaOrder.l1.eq_2 ..) (Ev.pos (by simp; omega) (Ev.pos (by omega) ?_))
      rw [hrd]
      refine Ev.bind hbe (Ev.pos rfl ?_)
      have hll : A.length ≤ 1000 := by rw [List.length_append] at hl; omega
      rw [w64s (by omega)]
      simpa using h5
    | false =>
      rw [c] at hbe
      refine ⟨A, z :: B, rfl, hA, fun y hy => by simp at hy; rw [← hy]; exact c, fun res hr => ?_⟩
      refine Ev.step (fun k => spec_RegattaOrder.l1.eq_2 ..) (Ev.pos (by simp; omega) (Ev.pos (by omega) ?_))
      rw [hrd]
      exact Ev.bind hbe (Ev.neg (by simp) hr)
theorem spec_order (b : Int) (l : List (List Int)) (d : Int) (h : Reg b l d) : ∃ r, Ev (fun k => spec_RegattaOrder.l0 k ([] : List Int) 0 b l d) r ∧ r.Perm (marks 0 b.toNat) ∧ r.Pairwise (fun u v => beforeB b l d v u = false) := by
  have hb2 := h.b2
  have hb8 := h.b8
  have key := down (g := fun i => ∀ x : List Int, x.Perm (marks 0 i) → x.Pairwise (fun u v => beforeB b l d v u = false) → ∃ r, Ev (fun k => spec_RegattaOrder.l0 k x (i : Int) b l d) r ∧ r.Perm (marks 0 b.toNat) ∧ r.Pairwise (fun u v => beforeB b l d v u = false)) (n := b.toNat) (fun i hi hn x hp hs => by
    have hxl : x.length = i := by rw [hp.length_eq, marks_length]
    obtain ⟨A, B, h1, h2, h3, h4⟩ := find_tells b l d h i (by omega) x [] (by simp; omega) (fun z hz => by
      have := marks_mem.1 (hp.mem_iff.1 hz)
      omega) (by simp)
    rw [List.nil_append] at h1 h4
    have hAB : A.length + B.length = i := by rw [← hxl, h1]; simp
    have hp' : (A ++ (i : Int) :: B).Perm (marks 0 (i + 1)) := by
      rw [marks_succ, Int.zero_add]
      refine List.perm_middle.trans ((List.Perm.cons _ ?_).trans (List.perm_append_comm (l₁ := [(i : Int)])))
      rw [← h1]; exact hp
    have hs' : (A ++ (i : Int) :: B).Pairwise (fun u v => beforeB b l d v u = false) := by
      rw [h1] at hs
      refine pair_ins hs (fun a ha => lex_asym _ _ (h2 a ha)) (fun z hz => ?_)
      cases B with
      | nil => simp at hz
      | cons y B' =>
        have hy := h3 y rfl
        rcases List.mem_cons.1 hz with rfl | hz
        · exact hy
        · have := (List.pairwise_cons.1 (List.pairwise_append.1 hs).2.1).1 z hz
          exact lex_le_trans _ _ _ hy this
    obtain ⟨r, hr1, hr2, hr3⟩ := hn _ hp' hs'
    refine ⟨r, Ev.step (fun k => spec_RegattaOrder.l0.eq_2 ..) (Ev.pos (by omega) (h4 r ?_)), hr2, hr3⟩
    refine Ev.step (fun k => spec_RegattaOrder.j2.eq_2 ..) (Ev.pos (by omega) (Ev.bind0 rfl ?_))
    have hsh := shift_tells b l d i A r (by omega) B.length B [] 0 rfl (by simp; omega) (by rw [w64s (by omega), List.append_nil]; exact hr1)
    rw [h1]
    have e5 : (A ++ (B ++ [(0 : Int)])).length = A.length + B.length + 1 := by simp; omega
    rw [show A ++ B ++ [(0 : Int)] = A ++ (B ++ [(0 : Int)]) by simp, e5, show wrap64 (((A.length + B.length + 1 : Nat) : Int) - 1) = ((A.length + B.length : Nat) : Int) by rw [w64 (by omega) (by omega)]; omega]
    exact hsh) (fun x hp hs => ⟨x, Ev.step (fun k => spec_RegattaOrder.l0.eq_2 ..) (Ev.neg (by omega) (Ev.now _)), hp, hs⟩) b.toNat 0 (by omega)
  exact key [] (by simp [marks]) List.Pairwise.nil
theorem order_same (b : Int) (l : List (List Int)) (d : Int) (hl : l.length ≤ 1048576) (hi : ∀ z ∈ l, z.length ≤ 1048576) :
    ∃ v : List Int, v.length ≤ 10 ∧ Ev (fun k => spec_RegattaOrder.f k b l d) v ∧ Ev (fun k => impl_RegattaOrder.f k b l d) v := by
  unfold spec_RegattaOrder.f impl_RegattaOrder.f
  by_cases c : regB b l d = true
  · have h := reg_of c
    have hb2 := h.b2
    have hb8 := h.b8
    obtain ⟨r, h1, h2, h3⟩ := spec_order b l d h
    obtain ⟨s, h4, h5, h6⟩ := sortf_tells b l d hl hi c (marks 0 b.toNat) (List.Perm.refl _)
    have e : s = r := sorted_same (le := fun u v => beforeB b l d v u = false) (fun u v e1 e2 => before_anti e2 e1) (h5.trans h2.symm) h6 h3
    rw [e] at h4
    have hu := upTo_tells b.toNat (by omega)
    rw [show ((b.toNat : Nat) : Int) = b by omega] at hu
    exact ⟨r, by rw [h2.length_eq, marks_length]; omega, Ev.bind (spec_reg b l d hl hi) (Ev.pos c h1), Ev.bind (impl_reg b l d hl hi) (Ev.pos c (Ev.bind hu (Ev.bind h4 (Ev.now _))))⟩
  · exact ⟨[], by simp, Ev.bind (spec_reg b l d hl hi) (Ev.neg c (Ev.now _)), Ev.bind (impl_reg b l d hl hi) (Ev.neg c (Ev.now _))⟩
theorem FnExactRegattaOrder.pure : ∀ (a0_0 : Int) (l0_1 : List (List Int)) (a0_2 : Int), (Lit.int .i64 a0_0).wf = true → (l0_1.length ≤ maxLen ∧ ∀ y ∈ l0_1, (y.length ≤ maxLen ∧ ∀ yy ∈ y, (Lit.int .i64 yy).wf = true)) → (Lit.int .i64 a0_2).wf = true → ∃ k, laws_FnExactRegattaOrder.f k a0_0 l0_1 a0_2 = some true := by
  intro b l d _ hl _
  refine Ev.rounds (g := fun k => laws_FnExactRegattaOrder.f k b l d) ?_
  obtain ⟨r, hr, hc⟩ := szReg_tells b l d hl.1 (fun y hy => (hl.2 y hy).1)
  by_cases c : r < 0
  · exact Ev.bind hr (Ev.pos c (Ev.now _))
  obtain ⟨hb, hi⟩ := hc.resolve_left c
  have h1 := toReg_same b l d hb hi
  have h2 := eqReg_self b l d hb hi
  obtain ⟨v, hv, h3, h4⟩ := order_same b l d hb hi
  have h5 := markReg_marks b l d hb hi
  have h6 := eqIntS_self v (by omega)
  have h7 := markIntS_marks v 1 (by omega) (by omega)
  have h8 := heldIntS_marks 1 v.length (by omega) (by omega)
  have ht := totL_nonneg l
  unfold laws_FnExactRegattaOrder.f
  repeat (first
    | exact Ev.now _
    | (with_reducible refine Ev.bind hr ?_)
    | (with_reducible refine Ev.bind h1 ?_)
    | (with_reducible refine Ev.bind h2 ?_)
    | (with_reducible refine Ev.bind h3 ?_)
    | (with_reducible refine Ev.bind h4 ?_)
    | (with_reducible refine Ev.bind h5 ?_)
    | (with_reducible refine Ev.bind h6 ?_)
    | (with_reducible refine Ev.bind h7 ?_)
    | (with_reducible refine Ev.bind h8 ?_)
    | refine Ev.neg (by first | assumption | omega | exact bnot_ne_self) ?_
    | refine Ev.pos (by first | assumption | rfl | omega) ?_)
end Go.Proofs.Ytipojkfkcelejaa.X
