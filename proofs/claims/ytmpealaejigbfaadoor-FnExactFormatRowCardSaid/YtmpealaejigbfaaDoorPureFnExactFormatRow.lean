/- The pure part of the law FnExactFormatRow: what program and reference compute is the same. Conditions: those of the row. -/
import Derived.Test.YtmpealaejigbfaaDoorTxtA
import Derived.Test.YtmpealaejigbfaaDoorR4
namespace Go.Proofs.YtmpealaejigbfaaDoor.R
set_option linter.unusedVariables false
set_option linter.unusedSimpArgs false
open Go.RowKit Go.Proofs.YtmpealaejigbfaaDoorW.PrintWords Go.Proofs.YtmpealaejigbfaaDoorW.PrintLast Go.Proofs.YtmpealaejigbfaaDoor.PK
theorem spec_rw (l : List Int) (hn : l.length < 1000) (hw : ∀ n ∈ l, -9223372036854775808 ≤ n ∧ n ≤ 9223372036854775807) : Ev (fun k => spec_FormatRow.l0 k ([] : List ByteArray) l (l.length : Int) 0) (J (l.map S) (⟨#[32]⟩ : ByteArray)) := by
  have hj : (J (l.map S) (⟨#[32]⟩ : ByteArray)).size ≤ (21 + 1) * (l.map S).length := J_size_le _ _ 21 (fun x hx => by
    obtain ⟨n, hn, rfl⟩ := List.mem_map.1 hx
    exact S_size n (hw n hn).1 (hw n hn).2)
  rw [List.length_map] at hj
  have h := Ev.iter (fun i k => spec_FormatRow.l0 k ((l.take i).map S) l (l.length : Int) (i : Int)) l.length (J (l.map S) (⟨#[32]⟩ : ByteArray)) (fun i hi hr => by
    have hh := hw l[i] (List.getElem_mem hi)
    refine Ev.step (fun k => spec_FormatRow.l0.eq_2 ..) (Ev.pos (by omega) (Ev.pos (by omega) (Ev.pos (by omega) ?_)))
    rw [rd_nat hi, w64s (by omega)]
    refine Ev.bind (spec_fi _ hh.1 hh.2) (Ev.pos (by rw [List.length_map, List.length_take]; omega) ?_)
    rw [take_snoc l i hi, List.map_append] at hr
    exact hr) (by
    rw [List.take_length]
    exact Ev.step (fun k => spec_FormatRow.l0.eq_2 ..) (Ev.neg (by omega) (Ev.bind (spec_join _ _ (by rw [List.length_map]; omega) (by omega)) (Ev.now _))))
  simpa using h
theorem FnExactFormatRow.pure : ∀ (a0_0 : Int) (a0_1 : Int) (a0_2 : Int) (a0_3 : Int) (a0_4 : Int) (a0_5 : Int) (a0_6 : Int), (Lit.int .i64 a0_0).wf = true → (Lit.int .i64 a0_1).wf = true → (Lit.int .i64 a0_2).wf = true → (Lit.int .i64 a0_3).wf = true → (Lit.int .i64 a0_4).wf = true → (Lit.int .i64 a0_5).wf = true → (Lit.int .i64 a0_6).wf = true → ∃ k, laws_FnExactFormatRow.f k a0_0 a0_1 a0_2 a0_3 a0_4 a0_5 a0_6 = some true := by
  intro a0 a1 a2 a3 a4 a5 a6 h0 h1 h2 h3 h4 h5 h6
  have w : ∀ n, (Lit.int .i64 n).wf = true → -9223372036854775808 ≤ n ∧ n ≤ 9223372036854775807 := fun n h => by
    simpa [Lit.wf, IntKind.min, IntKind.max, IntKind.bits, IntKind.signed] using h
  have hw : ∀ n ∈ [a0, a1, a2, a3, a4, a5, a6], -9223372036854775808 ≤ n ∧ n ≤ 9223372036854775807 := by
    intro n hn
    simp only [List.mem_cons, List.not_mem_nil, or_false] at hn
    rcases hn with rfl | rfl | rfl | rfl | rfl | rfl | rfl
    · exact w _ h0
    · exact w _ h1
    · exact w _ h2
    · exact w _ h3
    · exact w _ h4
    · exact w _ h5
    · exact w _ h6
  have hj : (J ([a0, a1, a2, a3, a4, a5, a6].map S) (⟨#[32]⟩ : ByteArray)).size ≤ (21 + 1) * ([a0, a1, a2, a3, a4, a5, a6].map S).length := J_size_le _ _ 21 (fun x hx => by
    obtain ⟨n, hn, rfl⟩ := List.mem_map.1 hx
    exact S_size n (hw n hn).1 (hw n hn).2)
  have hlen : ([a0, a1, a2, a3, a4, a5, a6].map S).length = 7 := rfl
  rw [hlen] at hj
  refine Ev.rounds (g := fun k => laws_FnExactFormatRow.f k a0 a1 a2 a3 a4 a5 a6) ?_
  unfold laws_FnExactFormatRow.f laws_toRow.f
  have e1 : Ev (fun k => spec_FormatRow.f k a0 a1 a2 a3 a4 a5 a6) (J ([a0, a1, a2, a3, a4, a5, a6].map S) (⟨#[32]⟩ : ByteArray)) := by
    unfold spec_FormatRow.f
    exact Ev.bind0 rfl (spec_rw _ (by simp only [List.length_cons, List.length_nil]; omega) hw)
  have e2 : Ev (fun k => impl_FormatRow.f k a0 a1 a2 a3 a4 a5 a6) (J ([a0, a1, a2, a3, a4, a5, a6].map S) (⟨#[32]⟩ : ByteArray)) := by
    unfold impl_FormatRow.f
    exact Ev.bind (impl_tx _ (by simp only [List.length_cons, List.length_nil]; omega) hw) (Ev.bind0 (impl_join _ _ (by omega) (by omega)) (Ev.now _))
  exact Ev.bind0 rfl (Ev.bind e1 (Ev.bind0 rfl (Ev.bind e2 (Ev.pos rfl (Ev.now _)))))
end Go.Proofs.YtmpealaejigbfaaDoor.R
