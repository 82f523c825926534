/- The pure part of the law FnExactProtestOk: what program and reference compute is the same. Conditions: those of the row. -/
import Derived.Test.YtgalpgakdcfilaaBookB
import Derived.Test.YtgalpgakdcfilaaP12
import Derived.Test.YtgalpgakdcfilaaP14
import Derived.Test.YtgalpgakdcfilaaP25
import Derived.Test.YtgalpgakdcfilaaP26
import Derived.Test.YtgalpgakdcfilaaP32
namespace Go.Proofs.Ytgalpgakdcfilaa.P
set_option linter.unusedVariables false
set_option linter.unusedSimpArgs false
open Go.RowKit Go.Proofs.YtgalpgakdcfilaaW.PrintWords Go.Proofs.Ytgalpgakdcfilaa.PK
theorem po_same (t : List T1) (a b c : Int) (o : List Int) (d : Bool) (g : List G1) (f q : List Int) (x y : Int) (e : Bool) (z1 : t.length ≤ 1048576) (zs : ∀ y ∈ t, y.f0.size ≤ 1048576) (z2 : o.length ≤ 1048576) (z3 : g.length ≤ 1048576) (z4 : f.length ≤ 1048576) (z5 : q.length ≤ 1048576) :
    ∃ v : Bool, Ev (fun k => spec_ProtestOk.f k t a b c o d g f q x y e) v ∧ Ev (fun k => impl_ProtestOk.f k t a b c o d g f q x y e) v := by
  have hs := spec_book t a b c o d g f q z1 zs z2 z3 z4 z5
  have hi := impl_book t a b c o d g f q z1 zs z2 z3 z4 z5
  unfold spec_ProtestOk.f impl_ProtestOk.f
  cases hb : bookB t a b c o g f q with
  | false =>
    rw [hb] at hs hi
    exact ⟨false, Ev.bind hs (Ev.neg (by simp) (Ev.now _)), Ev.bind hi (Ev.neg (by simp) (Ev.now _))⟩
  | true =>
    rw [hb] at hs hi
    cases hx : decide (0 ≤ y ∧ y ≤ wrap64 ((g.length : Int) - 1)) with
    | false =>
      exact ⟨false, Ev.bind hs (Ev.pos rfl (Ev.bind0 (spec_in _ _ _) (by rw [hx]; exact Ev.neg (by simp) (Ev.now _)))), Ev.bind hi (Ev.pos rfl (Ev.bind0 (impl_in _ _ _) (by rw [hx]; exact Ev.neg (by simp) (Ev.now _))))⟩
    | true =>
      have hy := of_decide_eq_true hx
      rw [w64 (by omega) (by omega)] at hy
      have key : ∀ G : G1, ∃ v : Bool, Ev (fun _ : Nat => if G.f4 = 1 then (if G.f0 = x then (some true) else (some (G.f1 == x))) else (if G.f4 = 2 then (if G.f0 = x then (some true) else (some (G.f1 == x))) else (if G.f4 = 3 then (if G.f0 = x then (some true) else (some (G.f1 == x))) else (some false)))) v ∧ Ev (fun _ : Nat => (impl_within.f G.f4 1 3).bind fun t296 => (if t296 = true then ((impl_plays.f G.f0 G.f1 G.f2 G.f3 G.f4 x).bind fun t298 => (some t298)) else (some false))) v := by
        intro G
        have hp : impl_plays.f G.f0 G.f1 G.f2 G.f3 G.f4 x = some (decide (G.f0 = x) || (G.f1 == x)) := by
          unfold impl_plays.f
          by_cases c1 : G.f0 = x
          · rw [if_pos c1, decide_eq_true c1, Bool.true_or]
          · rw [if_neg c1, decide_eq_false c1, Bool.false_or]
        have hv : (if G.f0 = x then (some true) else (some (G.f1 == x))) = some (decide (G.f0 = x) || (G.f1 == x)) := by
          by_cases c1 : G.f0 = x
          · rw [if_pos c1, decide_eq_true c1, Bool.true_or]
          · rw [if_neg c1, decide_eq_false c1, Bool.false_or]
        rw [hv, impl_in, hp]
        by_cases c : 1 ≤ G.f4 ∧ G.f4 ≤ 3
        · refine ⟨decide (G.f0 = x) || (G.f1 == x), ?_, ?_⟩
          · by_cases c1 : G.f4 = 1
            · exact Ev.pos c1 (Ev.now _)
            · by_cases c2 : G.f4 = 2
              · exact Ev.neg c1 (Ev.pos c2 (Ev.now _))
              · exact Ev.neg c1 (Ev.neg c2 (Ev.pos (by omega) (Ev.now _)))
          · exact Ev.bind0 rfl (Ev.pos (decide_eq_true c) (Ev.bind0 rfl (Ev.now _)))
        · exact ⟨false, Ev.neg (by omega) (Ev.neg (by omega) (Ev.neg (by omega) (Ev.now _))), Ev.bind0 rfl (Ev.neg (by simpa using c) (Ev.now _))⟩
      obtain ⟨v, v1, v2⟩ := key (rd_T71 g y)
      exact ⟨v, Ev.bind hs (Ev.pos rfl (Ev.bind0 (spec_in _ _ _) (by rw [hx]; exact Ev.pos rfl (Ev.pos hy.1 (Ev.pos (by omega) v1))))), Ev.bind hi (Ev.pos rfl (Ev.bind0 (impl_in _ _ _) (by rw [hx]; exact Ev.pos rfl (Ev.pos hy.1 (Ev.pos (by omega) v2)))))⟩
theorem FnExactProtestOk.pure : ∀ (l0_0 : List (S97)) (a0_1 : Int) (a0_2 : Int) (a0_3 : Int) (l0_4 : List Int) (a0_5 : Bool) (l0_6 : List (S104)) (l0_7 : List Int) (l0_8 : List Int) (a1_0 : Int) (a1_1 : Int) (a1_2 : Bool), (l0_0.length ≤ maxLen ∧ ∀ y ∈ l0_0, (y.f0.size ≤ maxLen ∧ (Lit.int .i64 y.f1).wf = true ∧ (Lit.int .i64 y.f2).wf = true)) → (Lit.int .i64 a0_1).wf = true → (Lit.int .i64 a0_2).wf = true → (Lit.int .i64 a0_3).wf = true → (l0_4.length ≤ maxLen ∧ ∀ y ∈ l0_4, (Lit.int .i64 y).wf = true) → (l0_6.length ≤ maxLen ∧ ∀ y ∈ l0_6, ((Lit.int .i64 y.f0).wf = true ∧ (Lit.int .i64 y.f1).wf = true ∧ (Lit.int .i64 y.f2).wf = true ∧ (Lit.int .i64 y.f3).wf = true ∧ (Lit.int .i64 y.f4).wf = true)) → (l0_7.length ≤ maxLen ∧ ∀ y ∈ l0_7, (Lit.int .i64 y).wf = true) → (l0_8.length ≤ maxLen ∧ ∀ y ∈ l0_8, (Lit.int .i64 y).wf = true) → (Lit.int .i64 a1_0).wf = true → (Lit.int .i64 a1_1).wf = true → ∃ k, laws_FnExactProtestOk.f k l0_0 a0_1 a0_2 a0_3 l0_4 a0_5 l0_6 l0_7 l0_8 a1_0 a1_1 a1_2 = some true := by
  intro t a b c o d g f q x y e ht _ _ _ ho hg hf hq _ _
  refine Ev.rounds (g := fun k => laws_FnExactProtestOk.f k t a b c o d g f q x y e) ?_
  obtain ⟨r, hr, hc⟩ := szBook_tells t a b c o d g f q 1048576 (by omega) (by omega) ht.1 (fun y hy => (ht.2 y hy).1) ho.1 hg.1 hf.1 hq.1
  by_cases c0 : r < 0
  · exact Ev.bind hr (Ev.pos c0 (Ev.now _))
  obtain ⟨r0, r1, hs⟩ := hc.resolve_left c0
  have h1 := toBook_same t a b c o d g f q hs
  obtain ⟨z1, z2, z3, z4, z5, z6⟩ := hs
  have l1 : (t.map tv).length ≤ 1048576 := by rw [List.length_map]; omega
  have l2 : (g.map gv).length ≤ 1048576 := by rw [List.length_map]; omega
  have ls : ∀ y ∈ t.map tv, y.f0.size ≤ 1048576 := by
    intro y hy
    obtain ⟨z, hz, rfl⟩ := List.mem_map.1 hy
    have := z2 z hz
    show z.f0.size ≤ 1048576
    omega
  obtain ⟨v, h3, h4⟩ := po_same (t.map tv) a b c o d (g.map gv) f q x y e l1 ls (by omega) l2 (by omega) (by omega)
  have h5 := eqBook_self (t.map tv) a b c o d (g.map gv) f q l1 (by omega) l2 (by omega) (by omega)
  have hp : laws_toProtest.f x y e = some (x, y, e) := rfl
  unfold laws_FnExactProtestOk.f
  repeat (first
    | exact Ev.now _
    | (with_reducible refine Ev.bind hr ?_)
    | (with_reducible refine Ev.bind h1 ?_)
    | (with_reducible refine Ev.bind0 hp ?_)
    | (with_reducible refine Ev.bind h3 ?_)
    | (with_reducible refine Ev.bind h4 ?_)
    | (with_reducible refine Ev.bind h5 ?_)
    | refine Ev.neg (by first | assumption | omega | exact bnot_ne_self) ?_
    | refine Ev.pos (by first | assumption | rfl | omega) ?_)
end Go.Proofs.Ytgalpgakdcfilaa.P
