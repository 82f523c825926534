/- The pure part of the law FnExactTouchedBy: what program and reference compute is the same. Conditions: those of the row. -/
import Derived.Test.YtmpealaejigbfaaLawInt
import Derived.Test.YtmpealaejigbfaaLawSz
import Derived.Test.YtmpealaejigbfaaLawMark
import Derived.Test.YtmpealaejigbfaaDelTouched
import Derived.Test.YtmpealaejigbfaaX12
import Derived.Test.YtmpealaejigbfaaX13
import Derived.Test.YtmpealaejigbfaaX15
import Derived.Test.YtmpealaejigbfaaX16
import Derived.Test.YtmpealaejigbfaaX18
namespace Go.Proofs.Ytmpealaejigbfaa.X
set_option linter.unusedVariables false
set_option linter.unusedSimpArgs false
open Go.RowKit Go.Proofs.YtmpealaejigbfaaW.PrintWords Go.Proofs.Ytmpealaejigbfaa.PK
abbrev E0 := S24
abbrev E1 := S27
def cv (p : E0) : E1 := ⟨p.f0, p.f1⟩
theorem rd0_nat {x : List E0} {i : Nat} (h : i < x.length) : rd_T24 x (i : Int) = x[i] := by simp [rd_T24, List.getD_eq_getElem?_getD, h]
theorem rd1_nat {x : List E1} {i : Nat} (h : i < x.length) : rd_T27 x (i : Int) = x[i] := by simp [rd_T27, List.getD_eq_getElem?_getD, h]
theorem szSent_tells' (a : Int) (l : List Int) (n : Int) (h0 : 0 ≤ n) (h1 : n ≤ 1048576) (hl : l.length ≤ maxLen) : ∃ r, laws_szSent.f a l n = some r ∧ (r < 0 ∨ (0 ≤ r ∧ r ≤ n ∧ (l.length : Int) ≤ n)) := by
  obtain ⟨r, hr⟩ := szIntS_some l n
  unfold laws_szSent.f
  rw [hr, Option.bind_some]
  rcases szIntS_le l n r h0 (by omega) hl hr with h | ⟨h, h'⟩
  · rw [if_pos (by omega)]; exact ⟨_, rfl, by omega⟩
  · rw [if_neg (by omega)]; exact ⟨_, rfl, by omega⟩
theorem szSentS_tells (w : List E0) (hl : w.length ≤ maxLen) (hi : ∀ y ∈ w, y.f1.length ≤ maxLen) : ∃ r, Ev (fun k => laws_szSentS.f k w 1048576) r ∧ (r < 0 ∨ (w.length ≤ 1048576 ∧ ∀ y ∈ w, y.f1.length ≤ 1048576)) := by
  have hm := hl
  unfold maxLen at hm
  simp only [laws_szSentS.f]
  rw [w64 (by omega) (by omega)]
  by_cases c : (1048576 : Int) - (w.length : Int) < 0
  · exact ⟨-1, Ev.pos c (Ev.now _), .inl (by omega)⟩
  have key := down (g := fun i => ∀ a : Int, 0 ≤ a → a ≤ 1048576 → ∃ r, Ev (fun k => laws_szSentS.l0 k w a (i : Int)) r ∧ (r < 0 ∨ ∀ y ∈ w.drop i, y.f1.length ≤ 1048576)) (n := w.length) (fun i hi' h a h0 h1 => by
    obtain ⟨r, hr, hc⟩ := szSent_tells' w[i].f0 w[i].f1 a h0 h1 (hi _ (List.getElem_mem hi'))
    by_cases cr : r < 0
    · refine ⟨-1, Ev.step (fun k => laws_szSentS.l0.eq_2 ..) (Ev.pos (by omega) (Ev.pos (by omega) ?_)), .inl (by omega)⟩
      rw [rd0_nat hi']
      exact Ev.bind0 hr (Ev.pos cr (Ev.now _))
    · obtain ⟨s, hs, hd⟩ := h r (by omega) (by omega)
      refine ⟨s, Ev.step (fun k => laws_szSentS.l0.eq_2 ..) (Ev.pos (by omega) (Ev.pos (by omega) ?_)), ?_⟩
      · rw [rd0_nat hi', w64s (by omega)]
        exact Ev.bind0 hr (Ev.neg cr hs)
      · rcases hd with hd | hd
        · exact .inl hd
        · refine .inr (fun y hy => ?_)
          rw [List.drop_eq_getElem_cons hi'] at hy
          rcases List.mem_cons.1 hy with rfl | hy
          · omega
          · exact hd y hy) (fun a h0 h1 => ⟨a, Ev.step (fun k => laws_szSentS.l0.eq_2 ..) (Ev.neg (by omega) (Ev.now _)), .inr (by simp)⟩) w.length 0 (by omega)
  obtain ⟨r, h1, h2⟩ := key (1048576 - (w.length : Int)) (by omega) (by omega)
  refine ⟨r, Ev.neg c h1, ?_⟩
  rcases h2 with h2 | h2
  · exact .inl h2
  · exact .inr ⟨by omega, by simpa using h2⟩
theorem toSentS_same (l : List E0) (hb : l.length ≤ 1048576) (hi : ∀ y ∈ l, y.f1.length ≤ 1048576) : Ev (fun k => laws_toSentS.f k l) (l.map cv) := by
  have := Ev.iter (fun i k => laws_toSentS.l0 k l ((l.map cv).take i ++ (List.replicate l.length z27).drop i) (i : Int)) l.length (l.map cv) (fun i hi' h => by
    have hm := hi _ (List.getElem_mem hi')
    refine Ev.step (fun k => laws_toSentS.l0.eq_2 ..) (Ev.pos (by omega) (Ev.pos (by omega) ?_))
    rw [rd0_nat hi']
    refine Ev.bind (a := (l[i].f0, l[i].f1)) (Ev.bind (toIntS_same _ (by omega)) (Ev.now _)) (Ev.pos (by simp; omega) ?_)
    rw [w64s (by omega), Int.toNat_natCast, set_step _ _ _ _ (by simp; omega) (by simpa using hi')]
    rw [take_snoc (l.map cv) i (by simpa using hi')] at h
    simpa [cv] using h) (by
    refine Ev.step (fun k => laws_toSentS.l0.eq_2 ..) ?_
    refine Ev.neg (by omega) ?_
    simp only [List.take_of_length_le (show (l.map cv).length ≤ l.length by simp), List.drop_eq_nil_of_le (show (List.replicate l.length z27).length ≤ l.length by simp), List.append_nil]
    exact Ev.now _)
  simp only [laws_toSentS.f]
  refine Ev.pos (by omega) (Ev.pos (by omega) ?_)
  simpa using this
theorem eqSentS_self (x : List E1) (hb : x.length ≤ 1048576) (hi : ∀ y ∈ x, y.f1.length ≤ 1048576) : Ev (fun k => laws_eqSentS.f k x x) true := by
  have := Ev.iter (fun i k => laws_eqSentS.l0 k x x (i : Int)) x.length true (fun i hi' h => by
    have hm := hi _ (List.getElem_mem hi')
    refine Ev.step (fun k => laws_eqSentS.l0.eq_2 ..) (Ev.pos (by omega) (Ev.pos (by omega) (Ev.pos (by omega) ?_)))
    rw [rd1_nat hi']
    refine Ev.bind (a := true) (by unfold laws_eqSent.f; exact Ev.pos rfl (Ev.bind (eqIntS_self _ (by omega)) (Ev.pos rfl (Ev.now _)))) (Ev.pos rfl ?_)
    rw [w64s (by omega)]
    exact h) (Ev.step (fun k => laws_eqSentS.l0.eq_2 ..) (Ev.neg (by omega) (Ev.now _)))
  exact Ev.pos rfl this
theorem markSentS_some (l : List E1) (hl : l.length ≤ 1048576) (hi : ∀ y ∈ l, y.f1.length ≤ 1048576) : ∃ r, Ev (fun k => laws_markSentS.f k l 1) r ∧ 0 ≤ r.1 := by
  have := down (g := fun i => ∀ ys : List E1, ys.length = i → ∀ q : Int, 1 ≤ q → q ≤ 1 + i * 1048577 → ∃ r, Ev (fun k => laws_markSentS.l0 k (ys ++ l.drop i) q (i : Int)) r ∧ 0 ≤ r.1) (n := l.length) (fun i h hn ys hy q h1 h2 => by
    have hm := hi _ (List.getElem_mem h)
    have hg : (ys ++ l.drop i)[i]'(by simp; omega) = l[i] := by
      rw [List.getElem_append_right (by omega)]; simp [hy]
    have hr : rd_T27 (ys ++ l.drop i) (i : Int) = l[i] := by
      rw [rd1_nat (by simp; omega)]; exact hg
    obtain ⟨r, hr1, hr2⟩ := hn (ys ++ [⟨q, marks (q + 1) l[i].f1.length⟩]) (by simp; omega) (q + 1 + l[i].f1.length) (by omega) (by push_cast; omega)
    refine ⟨r, Ev.step (fun k => laws_markSentS.l0.eq_2 ..) (Ev.pos (by simp; omega) (Ev.pos (by omega) ?_)), hr2⟩
    rw [hr, w64 (n := q + 1) (by omega) (by omega)]
    refine Ev.bind (markIntS_marks _ (q + 1) (by omega) (by omega)) ?_
    rw [w64s (by omega), Int.toNat_natCast, set_step _ _ _ _ hy h]
    exact hr1) (fun ys hy q h1 h2 => ⟨_, Ev.step (fun k => laws_markSentS.l0.eq_2 ..) (Ev.neg (by simp; omega) (Ev.now _)), by show (0 : Int) ≤ q; omega⟩) l.length 0 (by omega)
  simpa [laws_markSentS.f] using this [] rfl 1 (by omega) (by omega)
theorem impl_upTo_tells (n : Nat) (hn : n ≤ 1048576) : Ev (fun k => impl_upTo.f k (n : Int)) (marks 0 n) := by
  have := Ev.iter (fun i k => impl_upTo.l0 k (marks 0 i) (n : Int) (i : Int)) n (marks 0 n) (fun i h hr => by
    refine Ev.step (fun k => impl_upTo.l0.eq_2 ..) (Ev.pos (by omega) (Ev.pos (by rw [marks_length]; omega) ?_))
    rw [marks_succ, Int.zero_add] at hr
    rw [w64s (by omega)]
    exact hr) (Ev.step (fun k => impl_upTo.l0.eq_2 ..) (Ev.neg (by omega) (Ev.now _)))
  unfold impl_upTo.f
  rw [show mx (n : Int) 0 = (n : Int) by unfold mx; omega]
  exact this
def before (l : List E1) (x : Int) (i : Int) : Bool := decide ((rd_T27 l i).f0 < x)
def touchB (l : List E1) (x : Int) : List Int := (marks 0 l.length).filter (fun i => !before l x i)
theorem touch_small (l : List E1) (x : Int) (hl : l.length ≤ 1048576) : (touchB l x).length ≤ 1048576 := by
  unfold touchB
  have := List.length_filter_le (fun i => !before l x i) (marks 0 l.length)
  rw [marks_length] at this
  omega
theorem impl_touch (l : List E1) (x b c d e f g : Int) (hl : l.length ≤ 1048576) : Ev (fun k => impl_TouchedBy.f k l x b c d e f g) (touchB l x) := by
  unfold impl_TouchedBy.f
  refine Ev.bind (impl_upTo_tells l.length hl) (Ev.pos (by rw [marks_length]; omega) ?_)
  refine impl_TouchedBy.del_tells _ (before l x) _ (fun y hy => ?_)
  obtain ⟨j, hj, rfl⟩ := List.mem_iff_getElem.1 hy
  rw [marks_length] at hj
  rw [marks_get _ _ _ hj]
  unfold impl_TouchedBy.p before
  exact Ev.pos (by omega) (Ev.pos (by omega) (Ev.now _))
theorem spec_touch (l : List E1) (x b c d e f g : Int) (hl : l.length ≤ 1048576) : Ev (fun k => spec_TouchedBy.f k l x b c d e f g) (touchB l x) := by
  have := Ev.iter (fun i k => spec_TouchedBy.l0 k ((marks 0 i).filter (fun j => !before l x j)) l (l.length : Int) (i : Int) x b c d e f g) l.length (touchB l x) (fun i h hr => by
    refine Ev.step (fun k => spec_TouchedBy.l0.eq_2 ..) (Ev.pos (by omega) (Ev.pos (by omega) (Ev.pos (by omega) ?_)))
    rw [marks_succ, List.filter_append, Int.zero_add] at hr
    rw [w64s (by omega)]
    have hq := List.length_filter_le (fun j => !before l x j) (marks 0 i)
    rw [marks_length] at hq
    by_cases cc : (rd_T27 l (i : Int)).f0 ≥ x
    · rw [show [(i : Int)].filter (fun j => !before l x j) = [(i : Int)] by simp [before]; omega] at hr
      exact Ev.pos cc (Ev.pos (by omega) hr)
    · rw [show [(i : Int)].filter (fun j => !before l x j) = [] by simp [before]; omega, List.append_nil] at hr
      exact Ev.neg cc hr) (Ev.step (fun k => spec_TouchedBy.l0.eq_2 ..) (Ev.neg (by omega) (Ev.now _)))
  exact this
theorem toNote_same (a b c d e f g : Int) : laws_toNote.f a b c d e f g = some (a, b, c, d, e, f, g) := rfl
theorem FnExactTouchedBy.pure : ∀ (l0 : List (S24)) (a1_0 : Int) (a1_1 : Int) (a1_2 : Int) (a1_3 : Int) (a1_4 : Int) (a1_5 : Int) (a1_6 : Int), (l0.length ≤ maxLen ∧ ∀ y ∈ l0, ((Lit.int .i64 y.f0).wf = true ∧ (y.f1.length ≤ maxLen ∧ ∀ yy ∈ y.f1, (Lit.int .i64 yy).wf = true))) → (Lit.int .i64 a1_0).wf = true → (Lit.int .i64 a1_1).wf = true → (Lit.int .i64 a1_2).wf = true → (Lit.int .i64 a1_3).wf = true → (Lit.int .i64 a1_4).wf = true → (Lit.int .i64 a1_5).wf = true → (Lit.int .i64 a1_6).wf = true → ∃ k, laws_FnExactTouchedBy.f k l0 a1_0 a1_1 a1_2 a1_3 a1_4 a1_5 a1_6 = some true := by
  intro l x b c d e f g hl _ _ _ _ _ _ _
  refine Ev.rounds (g := fun k => laws_FnExactTouchedBy.f k l x b c d e f g) ?_
  obtain ⟨r, hr, hc⟩ := szSentS_tells l hl.1 (fun y hy => (hl.2 y hy).2.1)
  by_cases c0 : r < 0
  · exact Ev.bind hr (Ev.pos c0 (Ev.now _))
  obtain ⟨hb, hi⟩ := hc.resolve_left c0
  have hb1 : (l.map cv).length ≤ 1048576 := by simpa using hb
  have hi1 : ∀ y ∈ l.map cv, y.f1.length ≤ 1048576 := by
    intro y hy
    obtain ⟨z, hz, rfl⟩ := List.mem_map.1 hy
    exact hi z hz
  have h1 := toSentS_same l hb hi
  have h2 := eqSentS_self (l.map cv) hb1 hi1
  have h3 := spec_touch (l.map cv) x b c d e f g hb1
  have h4 := impl_touch (l.map cv) x b c d e f g hb1
  have h9 := toNote_same x b c d e f g
  have hs := touch_small (l.map cv) x hb1
  obtain ⟨m, h5, hm⟩ := markSentS_some (l.map cv) hb1 hi1
  have h6 := eqIntS_self (touchB (l.map cv) x) (by omega)
  have h7 := markIntS_marks (touchB (l.map cv) x) 1 (by omega) (by omega)
  have h8 := heldIntS_marks 1 (touchB (l.map cv) x).length (by omega) (by omega)
  unfold laws_FnExactTouchedBy.f
  repeat (first
    | exact Ev.now _
    | (with_reducible refine Ev.bind hr ?_)
    | (with_reducible refine Ev.bind h1 ?_)
    | (with_reducible refine Ev.bind0 h9 ?_)
    | (with_reducible refine Ev.bind h2 ?_)
    | (with_reducible refine Ev.bind h3 ?_)
    | (with_reducible refine Ev.bind h4 ?_)
    | (with_reducible refine Ev.bind h5 ?_)
    | (with_reducible refine Ev.bind h6 ?_)
    | (with_reducible refine Ev.bind h7 ?_)
    | (with_reducible refine Ev.bind h8 ?_)
    | refine Ev.neg (by first | assumption | omega | exact bnot_ne_self) ?_
    | refine Ev.pos (by first | assumption | rfl | omega) ?_)
end Go.Proofs.Ytmpealaejigbfaa.X
