/- The pure part of the law FnQuotas: the places given out, the teams of each contest and the places lost hang together. Conditions: those of the row. -/
import Derived.Test.YtaopcamaceddnaaQuotaA
import Derived.Test.YtaopcamaceddnaaZ8
import Derived.Test.YtaopcamaceddnaaZ9
import Derived.Test.YtaopcamaceddnaaZ10
namespace Go.Proofs.Ytaopcamaceddnaa.Z
set_option linter.unusedVariables false
set_option linter.unusedSimpArgs false
open Go.RowKit Go.Proofs.YtaopcamaceddnaaW.PrintWords Go.Proofs.Ytaopcamaceddnaa.PK
theorem q_has (l : List Int) (x : Int) (hl : l.length ≤ 1048576) : Ev (fun k => laws_has.f k l x) (hasB l x) := by
  refine Ev.some_ (fun i k => laws_has.l0 k x l (l.length : Int) (i : Int)) l _ (fun i h e r hr => ?_) (fun i h e => ?_) ?_
  · refine Ev.step (fun k => laws_has.l0.eq_2 ..) (Ev.pos (by omega) (Ev.pos (by omega) (Ev.pos (by omega) (Ev.neg (by rw [rd_nat h]; exact of_decide_eq_false e) ?_))))
    rw [w64s (by omega)]; exact hr
  · exact Ev.step (fun k => laws_has.l0.eq_2 ..) (Ev.pos (by omega) (Ev.pos (by omega) (Ev.pos (by omega) (Ev.pos (by rw [rd_nat h]; exact of_decide_eq_true e) (Ev.now _)))))
  · exact Ev.step (fun k => laws_has.l0.eq_2 ..) (Ev.neg (by omega) (Ev.now _))
theorem q_lost (n : Int) (l : List C1) (hl : l.length ≤ 1048576) (hi : ∀ y ∈ l, y.f0.length ≤ 1048576) : Ev (fun k => impl_LostPlaces.f k n l) (lostC n l) := by
  unfold impl_LostPlaces.f lostC
  refine Ev.bind (impl_conts n l hl hi) ?_
  by_cases c : contsB n l = true
  · rw [if_pos c]
    exact Ev.pos c (Ev.bind (impl_settled l hl hi (conts_ends hl c)) (Ev.now _))
  · rw [if_neg c]
    exact Ev.neg c (Ev.now _)
/-- All that the round of one contest needs. -/
structure Ctx (N : Nat) (l : List C1) (sf : St) : Prop where
  h3 : 3 ≤ N
  h7 : N ≤ 7
  hl : l.length ≤ 4
  hi : ∀ y ∈ l, y.f0.length ≤ 1048576
  h8 : ∀ i, i < l.length → (l.getD i zC).f0.length ≤ 8
  ri : RunI l l.length sf
  fa : ∀ j, j < l.length → Fact l sf j
  oc : outsC (N : Int) l = sf.outs
  pl : ∀ i, 0 ≤ sumI ((l.map fun y => y.f1).take i) ∧ sumI ((l.map fun y => y.f1).take i) ≤ 12
  s0 : 0 ≤ sumI (l.map fun y => y.f1)
  s1 : sumI (l.map fun y => y.f1) ≤ 12
theorem totL_take : ∀ (x : List (List Int)) (i : Nat), 0 ≤ totL (x.take i) ∧ totL (x.take i) ≤ totL x
  | [], i => by simp [totL]
  | y :: r, 0 => ⟨by simp [totL], by rw [List.take_zero]; exact totL_nonneg (y :: r)⟩
  | y :: r, i + 1 => by
    have := totL_take r i
    simp only [List.take_succ_cons, totL]
    omega
theorem flat_len : ∀ (x : List (List Int)), (x.flatten.length : Int) = totL x
  | [] => rfl
  | y :: r => by simp only [List.flatten_cons, List.length_append, totL]; have := flat_len r; omega
theorem take_flat {x : List (List Int)} {i : Nat} (h : i < x.length) : (x.take (i + 1)).flatten = (x.take i).flatten ++ x[i] := by
  rw [take_snoc _ i h, List.flatten_append]; simp
/-- The check that none was passed over. -/
theorem quota_l2 {N : Nat} {l : List C1} {sf : St} (hc : Ctx N l sf) (i : Nat) (h : i < l.length) (x8 x9 : Int) (seen : List Int) (hs : seen = (sf.outs.take (i + 1)).flatten) (hne : sf.outs.getD i [] ≠ [])
    (hn : Ev (fun k => laws_FnQuotas.l0 k (N : Int) l sf.left x8 x9 seen sf.outs (l.length : Int) ((i + 1 : Nat) : Int)) true) :
    Ev (fun k => laws_FnQuotas.l2 k (N : Int) l sf.left x8 x9 seen sf.outs (l.length : Int) (i : Int) (l.getD i zC).f0 ((l.getD i zC).f0.length : Int) 0) true := by
  have hio := hc.ri.io
  have hh8 := hc.h8 i h
  have hl4 := hc.hl
  have hsl : seen.length ≤ 1048576 := by
    have h1 := flat_len (sf.outs.take (i + 1))
    have h2 := totL_take sf.outs (i + 1)
    have h3 := hc.ri.sum
    have h4 := hc.ri.lo
    have h5 := hc.s1
    have h6 := sumI_nonneg (sf.left.drop l.length) (fun y hy => hc.ri.ln y (List.mem_of_mem_drop hy))
    rw [hs]; omega
  obtain ⟨a, x, b, e1, e2, e3⟩ := (hc.fa i h).last.resolve_left hne
  rw [← hs] at e3
  have ho : sf.outs.getD i [] = sf.outs[i]'(by omega) := by rw [List.getD_eq_getElem?_getD, List.getElem?_eq_getElem (by omega)]; rfl
  rw [ho] at e2 hne
  have hr : rd_L1 sf.outs (i : Int) = sf.outs[i]'(by omega) := rdL_nat (by omega)
  have hx : x ∈ seen := by
    rw [hs, take_flat (by omega)]
    exact List.mem_append_right _ (List.mem_of_getLast? e2)
  have hol : (sf.outs[i]'(by omega)).length ≤ 1048576 := by
    have h1 := take_flat (x := sf.outs) (i := i) (by omega)
    rw [← hs] at h1
    have := congrArg List.length h1
    rw [List.length_append] at this
    omega
  generalize sf.outs[i]'(by omega) = own at e2 hne hr hol
  have hpos : 0 < own.length := List.length_pos_iff.2 hne
  have hw : Unit → wrap64 ((own.length : Int) - 1) = ((own.length - 1 : Nat) : Int) := fun _ => by rw [w64 (by omega) (by omega)]; omega
  have hlast : rd own ((own.length - 1 : Nat) : Int) = x := by
    rw [rd_nat (by omega)]
    rw [List.getLast?_eq_getElem?, List.getElem?_eq_getElem (by omega)] at e2
    exact Option.some.inj e2
  have hwi : Unit → wrap64 ((i : Int) + 1) = ((i + 1 : Nat) : Int) := fun _ => w64s (by omega)
  rw [e1] at hh8 ⊢
  have key := down (g := fun q => Ev (fun k => laws_FnQuotas.l2 k (N : Int) l sf.left x8 x9 seen sf.outs (l.length : Int) (i : Int) (a ++ x :: b) ((a ++ x :: b).length : Int) (q : Int)) true) (n := a.length) (fun q hq hr2 => by
    have hql : q < (a ++ x :: b).length := by rw [List.length_append]; omega
    have hg : rd (a ++ x :: b) (q : Int) = a[q] := by rw [rd_nat hql, List.getElem_append_left hq]
    refine Ev.step (fun k => laws_FnQuotas.l2.eq_2 ..) (Ev.pos (by omega) (Ev.pos (by omega) (Ev.pos (by omega) ?_)))
    rw [hg, hr, hw (), hlast, hwi (), w64s (i := q) (by omega)]
    refine Ev.bind (q_has _ _ hsl) (Ev.pos ((hasB_mem _ _).2 (e3 _ (List.getElem_mem hq))) (Ev.pos (by omega) (Ev.pos (by omega) (Ev.pos (by omega) (Ev.pos (by omega) ?_)))))
    by_cases c : a[q] = x
    · exact Ev.pos c hn
    · exact Ev.neg c hr2) (by
    have hql : a.length < (a ++ x :: b).length := by rw [List.length_append, List.length_cons]; omega
    have hg : rd (a ++ x :: b) (a.length : Int) = x := by rw [rd_nat hql, List.getElem_append_right (Nat.le_refl _)]; simp
    refine Ev.step (fun k => laws_FnQuotas.l2.eq_2 ..) (Ev.pos (by omega) (Ev.pos (by omega) (Ev.pos (by omega) ?_)))
    rw [hg, hr, hw (), hlast, hwi ()]
    exact Ev.bind (q_has _ _ hsl) (Ev.pos ((hasB_mem _ _).2 hx) (Ev.pos (by omega) (Ev.pos (by omega) (Ev.pos (by omega) (Ev.pos (by omega) (Ev.pos rfl hn))))))) a.length 0 (by omega)
  exact key
/-- The round over the teams of one contest. -/
theorem quota_l1 {N : Nat} {l : List C1} {sf : St} (hc : Ctx N l sf) (i : Nat) (h : i < l.length) (x8 x9 : Int)
    (hn : Ev (fun k => laws_FnQuotas.l0 k (N : Int) l sf.left x8 x9 (sf.outs.take (i + 1)).flatten sf.outs (l.length : Int) ((i + 1 : Nat) : Int)) true) :
    Ev (fun k => laws_FnQuotas.l1 k (N : Int) l sf.left x8 x9 (sf.outs.take i).flatten (i : Int) sf.outs (l.length : Int) (i : Int) (rd_L1 sf.outs (i : Int)) ((rd_L1 sf.outs (i : Int)).length : Int) 0) true := by
  have hio := hc.ri.io
  have hh8 := hc.h8 i h
  have hl4 := hc.hl
  have hil : i < sf.outs.length := by omega
  have hl2 := quota_l2 hc i h x8 x9 _ rfl
  have hsl : (sf.outs.take (i + 1)).flatten.length ≤ 12 := by
    have h1 := flat_len (sf.outs.take (i + 1))
    have h2 := totL_take sf.outs (i + 1)
    have h3 := hc.ri.sum
    have h4 := hc.ri.lo
    have h5 := hc.s1
    have h6 := sumI_nonneg (sf.left.drop l.length) (fun y hy => hc.ri.ln y (List.mem_of_mem_drop hy))
    omega
  have ho : sf.outs.getD i [] = sf.outs[i] := by rw [List.getD_eq_getElem?_getD, List.getElem?_eq_getElem hil]; rfl
  have hnd : (sf.outs.take (i + 1)).flatten.Nodup := by
    have h1 := hc.ri.nd
    rw [hc.ri.it, ← List.take_append_drop (i + 1) sf.outs, List.flatten_append, List.nodup_append] at h1
    exact h1.1
  have hmem := (hc.fa i h).mem
  have hcon : ∀ t ∈ sf.outs[i], conOf (N : Int) l t = (i : Int) := fun t ht => by
    unfold conOf
    rw [hc.oc, firstI_at t sf.outs 0 i (hc.ri.it ▸ hc.ri.nd) hil ht, Nat.zero_add]
  have hwi : Unit → wrap64 ((i : Int) + 1) = ((i + 1 : Nat) : Int) := fun _ => w64s (by omega)
  have hrr : rd_L1 sf.outs (i : Int) = sf.outs[i] := rdL_nat hil
  have hrl : rd_T38 l (i : Int) = l.getD i zC := rd1_D h
  have htf := take_flat hil
  rw [ho] at hmem hl2
  have hold := congrArg List.length htf
  rw [List.length_append] at hold
  rw [hrr]
  have key := down (g := fun q => Ev (fun k => laws_FnQuotas.l1 k (N : Int) l sf.left x8 x9 ((sf.outs.take i).flatten ++ (sf.outs[i]).take q) (i : Int) sf.outs (l.length : Int) (i : Int) sf.outs[i] ((sf.outs[i]).length : Int) (q : Int)) true) (n := (sf.outs[i]).length) (fun q hq hr => by
    rw [take_snoc _ q hq, ← List.append_assoc] at hr
    have hno : hasB ((sf.outs.take i).flatten ++ (sf.outs[i]).take q) (sf.outs[i][q]) = false := by
      rw [Bool.eq_false_iff]
      intro hx
      have hx := (hasB_mem _ _).1 hx
      rw [htf, ← List.take_append_drop q sf.outs[i], ← List.append_assoc, List.nodup_append] at hnd
      exact hnd.2.2 _ hx _ (by rw [List.drop_eq_getElem_cons hq]; exact List.mem_cons_self) rfl
    have hll : ((sf.outs.take i).flatten ++ (sf.outs[i]).take q).length ≤ 12 := by rw [List.length_append, List.length_take]; omega
    refine Ev.step (fun k => laws_FnQuotas.l1.eq_2 ..) (Ev.pos (by omega) (Ev.pos (by omega) (Ev.pos (by omega) ?_)))
    rw [rd_nat hq, hrl, w64s (i := q) (by omega)]
    refine Ev.bind (q_has _ _ (by omega)) (Ev.neg (by rw [hno]; simp) (Ev.pos (by omega) (Ev.pos (by omega) (Ev.bind (q_has _ _ (by omega)) (Ev.pos ((hasB_mem _ _).2 (hmem _ (List.getElem_mem hq))) (Ev.bind (impl_con (N : Int) l _ (by omega) hc.hi) (Ev.pos (hcon _ (List.getElem_mem hq)) (Ev.pos (by omega) hr))))))))) (by
    refine Ev.step (fun k => laws_FnQuotas.l1.eq_2 ..) (Ev.neg (by omega) (Ev.pos (by omega) (Ev.pos (by omega) ?_)))
    rw [hrr, hrl, hwi (), List.take_of_length_le (Nat.le_refl _), ← htf]
    by_cases c : sf.outs[i] = []
    · exact Ev.neg (by rw [c]; simp) hn
    · have hpos : 0 < (sf.outs[i]).length := List.length_pos_iff.2 c
      exact Ev.pos (by omega) (Ev.pos (by omega) (Ev.pos (by omega) (hl2 c hn)))) (sf.outs[i]).length 0 (by omega)
  rw [List.take_zero, List.append_nil] at key
  exact key
theorem quota_l0 {N : Nat} {l : List C1} {sf : St} (hc : Ctx N l sf) (hlo : lostC (N : Int) l = sf.lost) :
    Ev (fun k => laws_FnQuotas.l0 k (N : Int) l sf.left 0 0 [] sf.outs (sf.outs.length : Int) 0) true := by
  have hio := hc.ri.io
  have hil := hc.ri.il
  have hl4 := hc.hl
  have hs1 := hc.s1
  have hsum := hc.ri.sum
  have hslo := hc.ri.lo
  have h6 := sumI_nonneg (sf.left.drop l.length) (fun y hy => hc.ri.ln y (List.mem_of_mem_drop hy))
  have hd0 : sumI (sf.left.drop l.length) = 0 := by rw [List.drop_eq_nil_of_le (by omega)]; rfl
  have hpl := hc.pl
  have key := down (g := fun i => Ev (fun k => laws_FnQuotas.l0 k (N : Int) l sf.left (totL (sf.outs.take i)) (sumI ((l.map fun y => y.f1).take i)) (sf.outs.take i).flatten sf.outs (l.length : Int) (i : Int)) true) (n := l.length) (fun i h hr => by
    have hir : i < sf.outs.length := by omega
    have hrr : rd_L1 sf.outs (i : Int) = sf.outs[i] := rdL_nat hir
    have hrl : rd_T38 l (i : Int) = l.getD i zC := rd1_D h
    have hrp : rd sf.left (i : Int) = sf.left.getD i 0 := rd_D (by omega)
    have ho : sf.outs.getD i [] = sf.outs[i] := by rw [List.getD_eq_getElem?_getD, List.getElem?_eq_getElem hir]; rfl
    have hfa := hc.fa i h
    have hlen := hfa.len
    have hlp := hfa.lp
    rw [ho] at hlen
    have t1 := totL_snoc (sf.outs.take i) sf.outs[i]
    rw [← take_snoc _ i hir] at t1
    have t2 := totL_take sf.outs (i + 1)
    have t3 := totL_take sf.outs i
    have hml : i < (l.map fun y => y.f1).length := by rw [List.length_map]; exact h
    have s1 := sumI_snoc ((l.map fun y => y.f1).take i) (l.map fun y => y.f1)[i]
    rw [← take_snoc _ i hml] at s1
    have se : (l.map fun y => y.f1)[i] = (l.getD i zC).f1 := by simp [List.getD_eq_getElem?_getD, h]
    rw [se] at s1
    have p1 := hpl i
    have p2 := hpl (i + 1)
    have hl1 := quota_l1 hc i h _ _ hr
    rw [t1, s1] at hl1
    refine Ev.step (fun k => laws_FnQuotas.l0.eq_2 ..) (Ev.pos (by omega) (Ev.pos (by omega) (Ev.pos (by omega) (Ev.pos (by omega) (Ev.pos (by omega) ?_)))))
    rw [hrp, hrl, decide_eq_false (show ¬ sf.left.getD i 0 < (l.getD i zC).f1 by omega)]
    rw [w64 (n := sumI ((l.map fun y => y.f1).take i) + (l.getD i zC).f1) (by omega) (by omega)]
    rw [hrr] at hl1 ⊢
    rw [w64 (n := totL (sf.outs.take i) + ((sf.outs[i]).length : Int)) (by omega) (by omega)]
    refine Ev.neg (by omega) ?_
    refine Ev.step (fun k => laws_FnQuotas.j2.eq_2 ..) (Ev.neg (by simp) (Ev.pos (by omega) (Ev.pos (by omega) ?_)))
    rw [hrr]
    exact hl1) (by
    refine Ev.step (fun k => laws_FnQuotas.l0.eq_2 ..) (Ev.neg (by omega) (Ev.bind (q_lost (N : Int) l (by omega) hc.hi) ?_))
    rw [hlo, List.take_of_length_le (by omega), List.take_of_length_le (by rw [List.length_map]; exact Nat.le_refl _)]
    have t2 := totL_nonneg sf.outs
    rw [w64 (by omega) (by omega), show totL sf.outs + sf.lost = sumI (l.map fun y => y.f1) by omega, beq_self_eq_true]
    exact Ev.now _) l.length 0 (by omega)
  rw [hio]
  exact key
theorem FnQuotas.pure : ∀ (l0 : List Int), (l0.length ≤ maxLen ∧ ∀ y ∈ l0, (Lit.int .u8 y).wf = true) → ∃ k, laws_FnQuotas.f k l0 = some true := by
  intro l0 hl0
  refine Ev.rounds (g := fun k => laws_FnQuotas.f k l0) ?_
  by_cases c0 : (l0.length : Int) > 1048576
  · exact Ev.pos c0 (Ev.now _)
  refine Ev.neg c0 ?_
  obtain ⟨N, l, hm, h3, h7, hl, hg, hc⟩ := make_tells l0 (by omega)
  have hi : ∀ y ∈ l, y.f0.length ≤ 1048576 := by
    intro y hy
    obtain ⟨j, hj, rfl⟩ := List.mem_iff_getElem.1 hy
    have := (hg j hj).len
    omega
  have hg' : ∀ i, i < l.length → Good (N : Int) l.length i (l.getD i zC) := fun i h => by
    rw [List.getD_eq_getElem?_getD, List.getElem?_eq_getElem h]
    exact hg i h
  obtain ⟨r1, r2, rp, r3, r4⟩ := runs0 hl hg'
  have hk := impl_conts (N : Int) l (by omega) hi
  have hq := impl_quali (N : Int) l (by omega) hi
  have hp := impl_places (N : Int) l (by omega) hi
  have eo : outsC (N : Int) l = (runL l).outs := by unfold outsC; rw [if_pos hc]
  have el : leftC (N : Int) l = (runL l).left := by unfold leftC; rw [if_pos hc]
  have es : lostC (N : Int) l = (runL l).lost := by unfold lostC; rw [if_pos hc]
  rw [hc] at hk hq
  rw [eo] at hq
  rw [el] at hp
  have hctx : Ctx N l (runL l) := ⟨h3, h7, hl, hi, fun i h => (hg' i h).len, r1, r2, eo, rp, r3, r4⟩
  have hio := hctx.ri.io
  have hil := hctx.ri.il
  have hq0 := quota_l0 hctx es
  generalize runL l = sf at hq hp hio hil hq0
  have hj : Ev (fun k => laws_FnQuotas.j0 k (N : Int) l sf.outs sf.left ((sf.left.length : Int) != (l.length : Int))) true := by
    refine Ev.step (fun k => laws_FnQuotas.j0.eq_2 ..) (Ev.neg (by rw [hil]; simp) hq0)
  refine Ev.bind hm (Ev.bind hq (Ev.bind hp (Ev.pos rfl (Ev.bind hk (Ev.pos rfl (Ev.pos ?_ hj))))))
  show (sf.outs.length : Int) = (l.length : Int)
  omega
end Go.Proofs.Ytaopcamaceddnaa.Z
