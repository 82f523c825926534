/- The pure part of the law FnExactSentLine: what program and reference compute is the same. Conditions: those of the row. -/
import Derived.Test.YtmpealaejigbfaaDoorTxtA
import Derived.Test.YtmpealaejigbfaaDoorTeamA
import Derived.Test.YtmpealaejigbfaaDoorR18
namespace Go.Proofs.YtmpealaejigbfaaDoor.R
set_option linter.unusedVariables false
set_option linter.unusedSimpArgs false
open Go.RowKit Go.Proofs.YtmpealaejigbfaaDoorW.PrintWords Go.Proofs.YtmpealaejigbfaaDoorW.PrintLast Go.Proofs.YtmpealaejigbfaaDoor.PK
theorem i64w {n : Int} (h : (Lit.int .i64 n).wf = true) : -9223372036854775808 ≤ n ∧ n ≤ 9223372036854775807 := by
  simpa [Lit.wf, IntKind.min, IntKind.max, IntKind.bits, IntKind.signed] using h
/-- A team of an announcement as text. -/
def wd (l : List T1) (t : Int) : ByteArray := if decide (0 ≤ t ∧ t ≤ (l.length : Int) - 1) = true then (rd_T52 l t).f0 else (⟨#[35]⟩ : ByteArray) ++ S t
def lineB (l : List T1) (x : Int) (o : List Int) : ByteArray := (S x ++ (⟨#[58, 32]⟩ : ByteArray)) ++ J (o.map (wd l)) (⟨#[32]⟩ : ByteArray)
theorem wd_size (l : List T1) (t : Int) (hs : ∀ y ∈ l, y.f0.size ≤ 1048576) (h0 : -9223372036854775808 ≤ t) (h1 : t ≤ 9223372036854775807) : (wd l t).size ≤ 1048576 := by
  unfold wd
  by_cases c : 0 ≤ t ∧ t ≤ (l.length : Int) - 1
  · rw [if_pos (decide_eq_true c)]
    obtain ⟨i, rfl⟩ : ∃ i : Nat, t = (i : Int) := ⟨t.toNat, by omega⟩
    rw [rdT1 (by omega)]
    exact hs _ (List.getElem_mem _)
  · rw [if_neg (by rw [decide_eq_false c]; simp), size_app]
    have := S_size t h0 h1
    have e : (⟨#[35]⟩ : ByteArray).size = 1 := rfl
    omega
theorem line_size (l : List T1) (o : List Int) (hs : ∀ y ∈ l, y.f0.size ≤ 1048576) (ho : o.length ≤ 1048576) (hw : ∀ n ∈ o, -9223372036854775808 ≤ n ∧ n ≤ 9223372036854775807) : (J (o.map (wd l)) (⟨#[32]⟩ : ByteArray)).size ≤ 1099512676352 := by
  have h := J_size_le (o.map (wd l)) (⟨#[32]⟩ : ByteArray) 1048576 (fun x hx => by
    obtain ⟨n, hn, rfl⟩ := List.mem_map.1 hx
    exact wd_size l n hs (hw n hn).1 (hw n hn).2)
  have e : (⟨#[32]⟩ : ByteArray).size = 1 := rfl
  rw [List.length_map, e] at h
  have : (1048576 + 1) * o.length ≤ (1048576 + 1) * 1048576 := Nat.mul_le_mul_left _ ho
  omega
theorem spec_ln (l : List T1) (x : Int) (o : List Int) (hl : l.length ≤ 1048576) (hs : ∀ y ∈ l, y.f0.size ≤ 1048576) (ho : o.length ≤ 1048576) (hx : -9223372036854775808 ≤ x ∧ x ≤ 9223372036854775807) (hw : ∀ n ∈ o, -9223372036854775808 ≤ n ∧ n ≤ 9223372036854775807) :
    Ev (fun k => spec_SentLine.l0 k l ([] : List ByteArray) o (o.length : Int) 0 x o) (lineB l x o) := by
  have hj := line_size l o hs ho hw
  have hS := S_size x hx.1 hx.2
  have e2 : (⟨#[58, 32]⟩ : ByteArray).size = 2 := rfl
  have e1 : (⟨#[35]⟩ : ByteArray).size = 1 := rfl
  have h := Ev.iter (fun i k => spec_SentLine.l0 k l ((o.take i).map (wd l)) o (o.length : Int) (i : Int) x o) o.length (lineB l x o) (fun i hi hr => by
    have hh := hw o[i] (List.getElem_mem hi)
    rw [take_snoc o i hi, List.map_append, List.map_cons, List.map_nil] at hr
    unfold wd at hr
    have hn : ((o.take i).map (wd l)).length < 8796093022208 := by rw [List.length_map, List.length_take]; omega
    refine Ev.step (fun k => spec_SentLine.l0.eq_2 ..) (Ev.pos (by omega) (Ev.pos (by omega) (Ev.pos (by omega) ?_)))
    rw [rd_nat hi, w64s (by omega), w64 (n := (l.length : Int) - 1) (by omega) (by omega)]
    refine Ev.bind0 (spec_in _ _ _) ?_
    by_cases c : 0 ≤ o[i] ∧ o[i] ≤ (l.length : Int) - 1
    · rw [if_pos (decide_eq_true c)] at hr
      exact Ev.pos (decide_eq_true c) (Ev.pos (by omega) (Ev.pos (by omega) (Ev.pos hn hr)))
    · rw [if_neg (by rw [decide_eq_false c]; simp)] at hr
      have hz := S_size o[i] hh.1 hh.2
      exact Ev.neg (by rw [decide_eq_false c]; simp) (Ev.bind (spec_fi _ hh.1 hh.2) (Ev.pos (by omega) (Ev.pos hn hr)))) (by
    rw [List.take_length]
    refine Ev.step (fun k => spec_SentLine.l0.eq_2 ..) (Ev.neg (by omega) (Ev.bind (spec_fi _ hx.1 hx.2) (Ev.pos (by omega) (Ev.bind (spec_join _ _ (by rw [List.length_map]; omega) (by omega)) (Ev.pos (by simp only [size_app]; omega) (Ev.now _))))))
    )
  simpa using h
theorem impl_ln (l : List T1) (x : Int) (o : List Int) (hl : l.length ≤ 1048576) (hs : ∀ y ∈ l, y.f0.size ≤ 1048576) (ho : o.length ≤ 1048576) (hx : -9223372036854775808 ≤ x ∧ x ≤ 9223372036854775807) (hw : ∀ n ∈ o, -9223372036854775808 ≤ n ∧ n ≤ 9223372036854775807) :
    Ev (fun k => impl_SentLine.l0 k l ([] : List ByteArray) o (o.length : Int) 0 x o) (lineB l x o) := by
  have hj := line_size l o hs ho hw
  have hS := S_size x hx.1 hx.2
  have e2 : (⟨#[58, 32]⟩ : ByteArray).size = 2 := rfl
  have e1 : (⟨#[35]⟩ : ByteArray).size = 1 := rfl
  have h := Ev.iter (fun i k => impl_SentLine.l0 k l ((o.take i).map (wd l)) o (o.length : Int) (i : Int) x o) o.length (lineB l x o) (fun i hi hr => by
    have hh := hw o[i] (List.getElem_mem hi)
    rw [take_snoc o i hi, List.map_append, List.map_cons, List.map_nil] at hr
    unfold wd at hr
    have hn : ((o.take i).map (wd l)).length < 8796093022208 := by rw [List.length_map, List.length_take]; omega
    refine Ev.step (fun k => impl_SentLine.l0.eq_2 ..) (Ev.pos (by omega) (Ev.pos (by omega) (Ev.pos (by omega) ?_)))
    rw [rd_nat hi, w64s (by omega), w64 (n := (l.length : Int) - 1) (by omega) (by omega)]
    refine Ev.bind0 (impl_in _ _ _) ?_
    by_cases c : 0 ≤ o[i] ∧ o[i] ≤ (l.length : Int) - 1
    · rw [if_pos (decide_eq_true c)] at hr
      exact Ev.pos (decide_eq_true c) (Ev.pos (by omega) (Ev.pos (by omega) (Ev.pos hn hr)))
    · rw [if_neg (by rw [decide_eq_false c]; simp)] at hr
      have hz := S_size o[i] hh.1 hh.2
      exact Ev.neg (by rw [decide_eq_false c]; simp) (Ev.bind0 (impl_fi _ hh.1 hh.2) (Ev.pos (by omega) (Ev.pos hn hr)))) (by
    rw [List.take_length]
    refine Ev.step (fun k => impl_SentLine.l0.eq_2 ..) (Ev.neg (by omega) (Ev.bind0 (impl_fi _ hx.1 hx.2) (Ev.pos (by omega) (Ev.bind0 (impl_join _ _ (by rw [List.length_map]; omega) (by omega)) (Ev.pos (by simp only [size_app]; omega) (Ev.now _))))))
    )
  simpa using h
noncomputable def sentB (l : List T1) (x : Int) (o : List Int) : ByteArray := if fieldB l = true then lineB l x o else (⟨#[]⟩ : ByteArray)
theorem spec_sent (l : List T1) (x : Int) (o : List Int) (hl : l.length ≤ 1048576) (hs : ∀ y ∈ l, y.f0.size ≤ 1048576) (ho : o.length ≤ 1048576) (hx : -9223372036854775808 ≤ x ∧ x ≤ 9223372036854775807) (hw : ∀ n ∈ o, -9223372036854775808 ≤ n ∧ n ≤ 9223372036854775807) :
    Ev (fun k => spec_SentLine.f k l x o) (sentB l x o) := by
  unfold spec_SentLine.f sentB
  refine Ev.bind (spec_field l hl hs) ?_
  by_cases c : fieldB l = true
  · rw [if_pos c]; exact Ev.pos c (spec_ln l x o hl hs ho hx hw)
  · rw [if_neg c]; exact Ev.neg c (Ev.now _)
theorem impl_sent (l : List T1) (x : Int) (o : List Int) (hl : l.length ≤ 1048576) (hs : ∀ y ∈ l, y.f0.size ≤ 1048576) (ho : o.length ≤ 1048576) (hx : -9223372036854775808 ≤ x ∧ x ≤ 9223372036854775807) (hw : ∀ n ∈ o, -9223372036854775808 ≤ n ∧ n ≤ 9223372036854775807) :
    Ev (fun k => impl_SentLine.f k l x o) (sentB l x o) := by
  unfold impl_SentLine.f sentB
  refine Ev.bind (impl_field l hl hs) ?_
  by_cases c : fieldB l = true
  · rw [if_pos c]; exact Ev.pos c (impl_ln l x o hl hs ho hx hw)
  · rw [if_neg c]; exact Ev.neg c (Ev.now _)
theorem FnExactSentLine.pure : ∀ (l0 : List (S48)) (a1_0 : Int) (l1_1 : List Int), (l0.length ≤ maxLen ∧ ∀ y ∈ l0, (y.f0.size ≤ maxLen ∧ (Lit.int .i64 y.f1).wf = true ∧ (Lit.int .i64 y.f2).wf = true)) → (Lit.int .i64 a1_0).wf = true → (l1_1.length ≤ maxLen ∧ ∀ y ∈ l1_1, (Lit.int .i64 y).wf = true) → ∃ k, laws_FnExactSentLine.f k l0 a1_0 l1_1 = some true := by
  intro l x o hl hx ho
  refine Ev.rounds (g := fun k => laws_FnExactSentLine.f k l x o) ?_
  obtain ⟨r, hr, hc⟩ := szTeamS_tells l 1048576 (by omega) (by omega) hl.1 (fun y hy => (hl.2 y hy).1)
  by_cases c : r < 0
  · exact Ev.bind hr (Ev.pos c (Ev.now _))
  obtain ⟨s, hs, hd⟩ := szSent_tells x o r (by omega) (by omega) ho.1
  by_cases d : s < 0
  · exact Ev.bind hr (Ev.neg c (Ev.bind0 hs (Ev.pos d (Ev.now _))))
  have hz : ∀ y ∈ l, (y.f0.size : Int) ≤ 1048576 := by
    rcases hc with hc | hc
    · exact absurd hc c
    · exact hc.2.2.2
  have hz1 : ∀ y ∈ l.map tv, y.f0.size ≤ 1048576 := fun y hy => by
    obtain ⟨z, hz', rfl⟩ := List.mem_map.1 hy
    have := hz z hz'
    show z.f0.size ≤ 1048576
    omega
  have hll : (l.map tv).length ≤ 1048576 := by rw [List.length_map]; omega
  have hw : ∀ n ∈ o, -9223372036854775808 ≤ n ∧ n ≤ 9223372036854775807 := fun n hn => i64w (ho.2 n hn)
  have h1 := toTeamS_same l (by omega)
  have h2 := toSent_same x o (by omega)
  have h3 := eqTeamS_self (l.map tv) hll
  have h4 := eqSent_self x o (by omega)
  have h5 := spec_sent (l.map tv) x o hll hz1 (by omega) (i64w hx) hw
  have h6 := impl_sent (l.map tv) x o hll hz1 (by omega) (i64w hx) hw
  unfold laws_FnExactSentLine.f
  exact Ev.bind hr (Ev.neg c (Ev.bind0 hs (Ev.neg d (Ev.bind h1 (Ev.bind h2 (Ev.bind h5 (Ev.bind h1 (Ev.bind h2 (Ev.bind h6 (Ev.pos rfl (Ev.bind h1 (Ev.bind h3 (Ev.pos rfl (Ev.bind h2 (Ev.bind h4 (Ev.pos rfl (Ev.now _)))))))))))))))))
end Go.Proofs.YtmpealaejigbfaaDoor.R
