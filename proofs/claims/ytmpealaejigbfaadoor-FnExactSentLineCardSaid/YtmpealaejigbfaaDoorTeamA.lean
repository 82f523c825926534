/- Teams and announcements as the laws hand them over, and fields that are valid. No condition beyond sizes. -/
import Derived.Test.YtmpealaejigbfaaDoorLawInt
import Derived.Test.YtmpealaejigbfaaDoorLawSz
import Derived.Test.YtmpealaejigbfaaDoorPK2
import Derived.Test.YtmpealaejigbfaaDoorLawHas
import Derived.Test.YtmpealaejigbfaaDoorR4
import Derived.Test.YtmpealaejigbfaaDoorR5
import Derived.Test.YtmpealaejigbfaaDoorR6
import Derived.Test.YtmpealaejigbfaaDoorR7
import Derived.Test.YtmpealaejigbfaaDoorR8
import Derived.Test.YtmpealaejigbfaaDoorR10
import Derived.Test.YtmpealaejigbfaaDoorR11
import Derived.Test.YtmpealaejigbfaaDoorR12
import Derived.Test.YtmpealaejigbfaaDoorR13
import Derived.Test.YtmpealaejigbfaaDoorR14
import Derived.Test.YtmpealaejigbfaaDoorR16
import Derived.Test.YtmpealaejigbfaaDoorR17
namespace Go.Proofs.YtmpealaejigbfaaDoor.R
set_option linter.unusedVariables false
set_option linter.unusedSimpArgs false
open Go.RowKit Go.Proofs.YtmpealaejigbfaaDoorW.PrintWords Go.Proofs.YtmpealaejigbfaaDoor.PK
abbrev T0 := S48
abbrev T1 := S52
def tv (p : T0) : T1 := ⟨p.f0, p.f1, p.f2⟩
theorem rdT0 {x : List T0} {i : Nat} (h : i < x.length) : rd_T48 x (i : Int) = x[i] := by simp [rd_T48, List.getD_eq_getElem?_getD, h]
theorem rdT1 {x : List T1} {i : Nat} (h : i < x.length) : rd_T52 x (i : Int) = x[i] := by simp [rd_T52, List.getD_eq_getElem?_getD, h]
theorem toTeamS_same (l : List T0) (hb : l.length ≤ 1048576) : Ev (fun k => laws_toTeamS.f k l) (l.map tv) := by
  have := Ev.iter (fun i k => laws_toTeamS.l0 k l ((l.map tv).take i ++ (List.replicate l.length z52).drop i) (i : Int)) l.length (l.map tv) (fun i hi h => by
    refine Ev.step (fun k => laws_toTeamS.l0.eq_2 ..) (Ev.pos (by omega) (Ev.pos (by omega) (Ev.bind0 rfl (Ev.pos (by simp; omega) ?_))))
    rw [w64s (by omega), Int.toNat_natCast, set_step _ _ _ _ (by simp; omega) (by simpa using hi), rdT0 hi]
    rw [take_snoc (l.map tv) i (by simpa using hi)] at h
    simpa [tv] using h) (by
    refine Ev.step (fun k => laws_toTeamS.l0.eq_2 ..) (Ev.neg (by omega) ?_)
    simp only [List.take_of_length_le (show (l.map tv).length ≤ l.length by simp), List.drop_eq_nil_of_le (show (List.replicate l.length z52).length ≤ l.length by simp), List.append_nil]
    exact Ev.now _)
  simp only [laws_toTeamS.f]
  refine Ev.pos (by omega) (Ev.pos (by omega) ?_)
  simpa using this
theorem eqTeamS_self (x : List T1) (hb : x.length ≤ 1048576) : Ev (fun k => laws_eqTeamS.f k x x) true := by
  have := Ev.iter (fun i k => laws_eqTeamS.l0 k x x (i : Int)) x.length true (fun i hi h => by
    refine Ev.step (fun k => laws_eqTeamS.l0.eq_2 ..) (Ev.pos (by omega) (Ev.pos (by omega) (Ev.pos (by omega) (Ev.bind0 (a := true) (by simp [laws_eqTeam.f]) (Ev.pos rfl ?_)))))
    rw [w64s (by omega)]
    exact h) (Ev.step (fun k => laws_eqTeamS.l0.eq_2 ..) (Ev.neg (by omega) (Ev.now _)))
  exact Ev.pos rfl this
theorem szTeamS_tells (w : List T0) (n : Int) (h0 : 0 ≤ n) (h1 : n ≤ 1048576) (hl : w.length ≤ maxLen) (hs : ∀ y ∈ w, y.f0.size ≤ maxLen) : ∃ r, Ev (fun k => laws_szTeamS.f k w n) r ∧ (r < 0 ∨ (0 ≤ r ∧ r ≤ n ∧ (w.length : Int) ≤ n ∧ ∀ y ∈ w, (y.f0.size : Int) ≤ n)) := by
  have hm := hl
  unfold maxLen at hm
  simp only [laws_szTeamS.f]
  rw [w64 (by omega) (by omega)]
  by_cases c : n - (w.length : Int) < 0
  · exact ⟨-1, Ev.pos c (Ev.now _), .inl (by omega)⟩
  have key := down (g := fun i => ∀ a : Int, 0 ≤ a → a ≤ n → ∃ r, Ev (fun k => laws_szTeamS.l0 k w a (i : Int)) r ∧ (r < 0 ∨ (0 ≤ r ∧ r ≤ n ∧ ∀ y ∈ w.drop i, (y.f0.size : Int) ≤ n))) (n := w.length) (fun i hi' h a h2 h3 => by
    have hz := hs _ (List.getElem_mem hi')
    unfold maxLen at hz
    by_cases cr : a - (w[i].f0.size : Int) < 0
    · refine ⟨-1, Ev.step (fun k => laws_szTeamS.l0.eq_2 ..) (Ev.pos (by omega) (Ev.pos (by omega) ?_)), .inl (by omega)⟩
      rw [rdT0 hi']
      refine Ev.bind0 (a := -1) ?_ (Ev.pos (by omega) (Ev.now _))
      unfold laws_szTeam.f
      rw [w64 (by omega) (by omega), if_pos cr]
    · obtain ⟨s, hs', hd⟩ := h (a - (w[i].f0.size : Int)) (by omega) (by omega)
      refine ⟨s, Ev.step (fun k => laws_szTeamS.l0.eq_2 ..) (Ev.pos (by omega) (Ev.pos (by omega) ?_)), ?_⟩
      · rw [rdT0 hi', w64s (by omega)]
        refine Ev.bind0 (a := a - (w[i].f0.size : Int)) ?_ (Ev.neg (by omega) hs')
        unfold laws_szTeam.f
        rw [w64 (by omega) (by omega), if_neg cr]
      · rcases hd with hd | ⟨hd1, hd2, hd3⟩
        · exact .inl hd
        · refine .inr ⟨hd1, hd2, fun y hy => ?_⟩
          rw [List.drop_eq_getElem_cons hi'] at hy
          rcases List.mem_cons.1 hy with rfl | hy
          · omega
          · exact hd3 y hy) (fun a h2 h3 => ⟨a, Ev.step (fun k => laws_szTeamS.l0.eq_2 ..) (Ev.neg (by omega) (Ev.now _)), .inr ⟨h2, h3, by simp⟩⟩) w.length 0 (by omega)
  obtain ⟨r, h2, h3⟩ := key (n - (w.length : Int)) (by omega) (by omega)
  refine ⟨r, Ev.neg c h2, ?_⟩
  rcases h3 with h3 | ⟨h4, h5, h6⟩
  · exact .inl h3
  · exact .inr ⟨h4, h5, by omega, by simpa using h6⟩
theorem spec_in (a b c : Int) : spec_l01In.f a b c = some (decide (b ≤ a ∧ a ≤ c)) := by
  unfold spec_l01In.f
  by_cases h : b ≤ a
  · rw [if_pos h]; simp [h]
  · rw [if_neg h]; simp [h]
theorem impl_in (a b c : Int) : impl_within.f a b c = some (decide (b ≤ a ∧ a ≤ c)) := by
  unfold impl_within.f
  by_cases h : b ≤ a
  · rw [if_pos h]; simp [h]
  · rw [if_neg h]; simp [h]
theorem szSent_tells (a : Int) (l : List Int) (n : Int) (h0 : 0 ≤ n) (h1 : n ≤ 4611686018427387904) (hl : l.length ≤ maxLen) : ∃ r, laws_szSent.f a l n = some r ∧ (r < 0 ∨ (0 ≤ r ∧ r ≤ n ∧ (l.length : Int) ≤ n)) := by
  obtain ⟨r, hr⟩ := szIntS_some l n
  unfold laws_szSent.f
  rw [hr, Option.bind_some]
  rcases szIntS_le l n r h0 h1 hl hr with h | ⟨h, h'⟩
  · rw [if_pos (by omega)]; exact ⟨_, rfl, by omega⟩
  · rw [if_neg (by omega)]; exact ⟨_, rfl, by omega⟩
theorem toSent_same (a : Int) (l : List Int) (hb : l.length ≤ 35184372088832) : Ev (fun k => laws_toSent.f k a l) (a, l) := Ev.bind (toIntS_same l hb) (Ev.now _)
theorem eqSent_self (a : Int) (l : List Int) (hb : l.length ≤ 35184372088832) : Ev (fun k => laws_eqSent.f k a l a l) true := by
  unfold laws_eqSent.f
  exact Ev.pos rfl (Ev.bind (eqIntS_self l (by omega)) (Ev.pos rfl (Ev.now _)))
theorem name_same (s : ByteArray) (hs : s.size ≤ 1048576) : ∃ v, Ev (fun k => spec_IsName.f k s) v ∧ Ev (fun k => impl_IsName.f k s) v := by
  have := down (g := fun i => ∃ v, Ev (fun k => spec_IsName.l0 k s (i : Int)) v ∧ Ev (fun k => impl_IsName.l0 k s (s.size : Int) (i : Int)) v) (n := s.size) (fun i hi hn => by
    obtain ⟨v, h1, h2⟩ := hn
    have hs1 : ∀ {r}, Ev (fun k => if (bt s i) ≥ 97 then (if ((bt s i) ≤ 122) then (spec_IsName.l0 k s (wrap64 ((i : Int) + 1))) else (if (i : Int) = 0 then (some false) else (if (bt s i) < 48 then (some false) else (if (bt s i) > 57 then (some false) else (spec_IsName.l0 k s (wrap64 ((i : Int) + 1))))))) else (if (i : Int) = 0 then (some false) else (if (bt s i) < 48 then (some false) else (if (bt s i) > 57 then (some false) else (spec_IsName.l0 k s (wrap64 ((i : Int) + 1))))))) r → Ev (fun k => spec_IsName.l0 k s (i : Int)) r :=
      fun h => Ev.step (fun k => spec_IsName.l0.eq_2 ..) (Ev.pos (by omega) (Ev.pos (by omega) h))
    have hs2 : ∀ {r}, Ev (fun k => if (bt s i) ≥ 97 then (if ((bt s i) ≤ 122) then (impl_IsName.l0 k s (s.size : Int) (wrap64 ((i : Int) + 1))) else (if (i : Int) = 0 then (some false) else (if (bt s i) < 48 then (some false) else (if (bt s i) > 57 then (some false) else (impl_IsName.l0 k s (s.size : Int) (wrap64 ((i : Int) + 1))))))) else (if (i : Int) = 0 then (some false) else (if (bt s i) < 48 then (some false) else (if (bt s i) > 57 then (some false) else (impl_IsName.l0 k s (s.size : Int) (wrap64 ((i : Int) + 1))))))) r → Ev (fun k => impl_IsName.l0 k s (s.size : Int) (i : Int)) r :=
      fun h => Ev.step (fun k => impl_IsName.l0.eq_2 ..) (Ev.pos (by omega) (Ev.pos (by omega) (Ev.pos (by omega) h)))
    have hw : wrap64 ((i : Int) + 1) = ((i + 1 : Nat) : Int) := w64s (by omega)
    rw [hw] at hs1 hs2
    by_cases c1 : (bt s i) ≥ 97
    · by_cases c2 : (bt s i) ≤ 122
      · exact ⟨v, hs1 (Ev.pos c1 (Ev.pos c2 h1)), hs2 (Ev.pos c1 (Ev.pos c2 h2))⟩
      · exact ⟨false, hs1 (Ev.pos c1 (Ev.neg c2 (by
          by_cases c3 : (i : Int) = 0
          · exact Ev.pos c3 (Ev.now _)
          · exact Ev.neg c3 (Ev.neg (by omega) (Ev.pos (by omega) (Ev.now _)))))), hs2 (Ev.pos c1 (Ev.neg c2 (by
          by_cases c3 : (i : Int) = 0
          · exact Ev.pos c3 (Ev.now _)
          · exact Ev.neg c3 (Ev.neg (by omega) (Ev.pos (by omega) (Ev.now _))))))⟩
    · by_cases c3 : (i : Int) = 0
      · exact ⟨false, hs1 (Ev.neg c1 (Ev.pos c3 (Ev.now _))), hs2 (Ev.neg c1 (Ev.pos c3 (Ev.now _)))⟩
      · by_cases c4 : (bt s i) < 48
        · exact ⟨false, hs1 (Ev.neg c1 (Ev.neg c3 (Ev.pos c4 (Ev.now _)))), hs2 (Ev.neg c1 (Ev.neg c3 (Ev.pos c4 (Ev.now _))))⟩
        · by_cases c5 : (bt s i) > 57
          · exact ⟨false, hs1 (Ev.neg c1 (Ev.neg c3 (Ev.neg c4 (Ev.pos c5 (Ev.now _))))), hs2 (Ev.neg c1 (Ev.neg c3 (Ev.neg c4 (Ev.pos c5 (Ev.now _)))))⟩
          · exact ⟨v, hs1 (Ev.neg c1 (Ev.neg c3 (Ev.neg c4 (Ev.neg c5 h1)))), hs2 (Ev.neg c1 (Ev.neg c3 (Ev.neg c4 (Ev.neg c5 h2))))⟩) ⟨_, Ev.step (fun k => spec_IsName.l0.eq_2 ..) (Ev.neg (by omega) (Ev.bind0 (spec_in _ _ _) (Ev.now _))), Ev.step (fun k => impl_IsName.l0.eq_2 ..) (Ev.neg (by omega) (Ev.bind0 (impl_in _ _ _) (Ev.now _)))⟩ s.size 0 (by omega)
  exact this
open Classical in
noncomputable def nameB (s : ByteArray) : Bool := if h : s.size ≤ 1048576 then (name_same s h).choose else false
theorem spec_name (s : ByteArray) (h : s.size ≤ 1048576) : Ev (fun k => spec_IsName.f k s) (nameB s) := by
  unfold nameB; rw [dif_pos h]; exact (name_same s h).choose_spec.1
theorem impl_name (s : ByteArray) (h : s.size ≤ 1048576) : Ev (fun k => impl_IsName.f k s) (nameB s) := by
  unfold nameB; rw [dif_pos h]; exact (name_same s h).choose_spec.2
noncomputable def teamB (t : T1) : Bool := nameB t.f0 && (decide (0 ≤ t.f1 ∧ t.f1 ≤ 5) && decide (1 ≤ t.f2 ∧ t.f2 ≤ 8))
theorem spec_team (t : T1) (h : t.f0.size ≤ 1048576) : Ev (fun k => spec_TeamOk.f k t.f0 t.f1 t.f2) (teamB t) := by
  unfold spec_TeamOk.f teamB
  refine Ev.bind (spec_name _ h) ?_
  cases nameB t.f0 with
  | false => exact Ev.neg (by simp) (Ev.now _)
  | true =>
    refine Ev.pos rfl (Ev.bind0 (spec_in _ _ _) ?_)
    cases decide (0 ≤ t.f1 ∧ t.f1 ≤ 5) with
    | false => exact Ev.neg (by simp) (Ev.now _)
    | true => exact Ev.pos rfl (Ev.bind0 (spec_in _ _ _) (Ev.now _))
theorem impl_team (t : T1) (h : t.f0.size ≤ 1048576) : Ev (fun k => impl_TeamOk.f k t.f0 t.f1 t.f2) (teamB t) := by
  unfold impl_TeamOk.f teamB
  refine Ev.bind (impl_name _ h) ?_
  cases nameB t.f0 with
  | false => exact Ev.neg (by simp) (Ev.now _)
  | true =>
    refine Ev.pos rfl (Ev.bind0 (impl_in _ _ _) ?_)
    cases decide (0 ≤ t.f1 ∧ t.f1 ≤ 5) with
    | false => exact Ev.neg (by simp) (Ev.now _)
    | true => exact Ev.pos rfl (Ev.bind0 (impl_in _ _ _) (Ev.now _))
def likeT (t o : T1) : Bool := decide (o.f0.toList = t.f0.toList) || (o.f2 == t.f2)
noncomputable def slotB (l : List T1) (i : Nat) : Bool := teamB (l.getD i z52) && !(l.take i).any (likeT (l.getD i z52))
noncomputable def fieldB (l : List T1) : Bool := decide ((2 : Int) ≤ (l.length : Int) ∧ (l.length : Int) ≤ 8) && (List.range l.length).all (slotB l)
theorem rdT1D {l : List T1} {i : Nat} : rd_T52 l (i : Int) = l.getD i z52 := by simp [rd_T52]
theorem getD_mem {l : List T1} {i : Nat} (h : i < l.length) : l.getD i z52 ∈ l := by
  simp [List.getD_eq_getElem?_getD, h]
theorem impl_like (l : List T1) (t : T1) (hl : l.length ≤ 1048576) : Ev (fun k => slices_ContainsFunc_impl_Team_impl_Team_impl_FieldOk_1.f k l t.f0 t.f1 t.f2) (l.any (likeT t)) := by
  obtain ⟨r, h1, h2⟩ := Ev.place (fun i k => slices_IndexFunc_impl_Team_impl_Team_impl_FieldOk_1.l0 k l (l.length : Int) (i : Int) t.f0 t.f1 t.f2) l (likeT t) (fun i h e r hr => by
    refine Ev.step (fun k => slices_IndexFunc_impl_Team_impl_Team_impl_FieldOk_1.l0.eq_2 ..) (Ev.pos (by omega) (Ev.pos (by omega) (Ev.pos (by omega) (Ev.bind0 (a := false) ?_ (Ev.neg (by simp) ?_)))))
    · unfold likeT at e
      rw [Bool.or_eq_false_iff] at e
      unfold impl_FieldOk_1.f
      rw [rdT1 h, if_neg (of_decide_eq_false e.1), e.2]
    · rw [w64s (by omega)]; exact hr) (fun i h e => by
    refine Ev.step (fun k => slices_IndexFunc_impl_Team_impl_Team_impl_FieldOk_1.l0.eq_2 ..) (Ev.pos (by omega) (Ev.pos (by omega) (Ev.pos (by omega) (Ev.bind0 (a := true) ?_ (Ev.pos rfl (Ev.now _))))))
    unfold likeT at e
    unfold impl_FieldOk_1.f
    rw [rdT1 h]
    by_cases c : l[i].f0.toList = t.f0.toList
    · rw [if_pos c]
    · rw [if_neg c]; rw [decide_eq_false c, Bool.false_or] at e; rw [e])
    (Ev.step (fun k => slices_IndexFunc_impl_Team_impl_Team_impl_FieldOk_1.l0.eq_2 ..) (Ev.neg (by omega) (Ev.now _)))
  rw [← h2]
  exact Ev.bind h1 (Ev.now _)
theorem spec_field (l : List T1) (hl : l.length ≤ 1048576) (hs : ∀ y ∈ l, y.f0.size ≤ 1048576) : Ev (fun k => spec_FieldOk.f k l) (fieldB l) := by
  unfold spec_FieldOk.f fieldB
  refine Ev.bind0 (spec_in _ _ _) ?_
  cases decide ((2 : Int) ≤ (l.length : Int) ∧ (l.length : Int) ≤ 8) with
  | false => exact Ev.neg (by simp) (Ev.now _)
  | true =>
    rw [Bool.true_and]
    refine Ev.pos rfl ?_
    have hin : ∀ (i : Nat) (h : i < l.length) (r : Bool), Ev (fun k => spec_FieldOk.l0 k l l (l.length : Int) ((i + 1 : Nat) : Int)) r → teamB (l.getD i z52) = true → Ev (fun k => spec_FieldOk.l0 k l l (l.length : Int) (i : Int)) (if (l.take i).any (likeT (l.getD i z52)) then false else r) := fun i h r hr ht => by
      refine Ev.step (fun k => spec_FieldOk.l0.eq_2 ..) (Ev.pos (by omega) (Ev.pos (by omega) (Ev.pos (by omega) ?_)))
      rw [rdT1D, Int.toNat_natCast]
      refine Ev.bind (spec_team _ (hs _ (getD_mem h))) (Ev.pos ht (Ev.pos (by omega) (Ev.bind0 rfl ?_)))
      refine Ev.anyK (fun j k => spec_FieldOk.l1 k l l (l.length : Int) (i : Int) (l.take i) ((l.take i).length : Int) (j : Int) (l.getD i z52).f0 (l.getD i z52).f1 (l.getD i z52).f2) (l.take i) (likeT (l.getD i z52)) false r (fun j hj e => ?_) (fun j hj e r2 hr2 => ?_) ?_
      · refine Ev.step (fun k => spec_FieldOk.l1.eq_2 ..) (Ev.pos (by omega) (Ev.pos (by omega) (Ev.pos (by omega) ?_)))
        rw [rdT1 hj]
        unfold likeT at e
        by_cases c : (l.take i)[j].f0.toList = (l.getD i z52).f0.toList
        · exact Ev.pos c (Ev.now _)
        · rw [decide_eq_false c, Bool.false_or] at e
          exact Ev.neg c (Ev.pos (by simpa using e) (Ev.now _))
      · refine Ev.step (fun k => spec_FieldOk.l1.eq_2 ..) (Ev.pos (by omega) (Ev.pos (by omega) (Ev.pos (by omega) ?_)))
        rw [rdT1 hj]
        unfold likeT at e
        rw [Bool.or_eq_false_iff] at e
        have hj2 : (l.take i).length ≤ 1048576 := by rw [List.length_take]; omega
        refine Ev.neg (of_decide_eq_false e.1) (Ev.neg (by simpa using e.2) ?_)
        rw [w64s (by omega)]; exact hr2
      · refine Ev.step (fun k => spec_FieldOk.l1.eq_2 ..) (Ev.neg (by omega) ?_)
        rw [w64s (by omega)]; exact hr
    have := Ev.all (fun i k => spec_FieldOk.l0 k l l (l.length : Int) (i : Int)) (List.range l.length) (slotB l) true (fun i h ht r hr => by
      simp only [List.length_range] at h
      simp only [List.getElem_range] at ht
      unfold slotB at ht
      rw [Bool.and_eq_true] at ht
      have := hin i h r hr ht.1
      rwa [if_neg (by simpa using ht.2)] at this) (fun i h ht => by
      simp only [List.length_range] at h
      simp only [List.getElem_range] at ht
      unfold slotB at ht
      cases hq : teamB (l.getD i z52) with
      | false =>
        refine Ev.step (fun k => spec_FieldOk.l0.eq_2 ..) (Ev.pos (by omega) (Ev.pos (by omega) (Ev.pos (by omega) ?_)))
        rw [rdT1D]
        exact Ev.bind (spec_team _ (hs _ (getD_mem h))) (Ev.neg (by rw [hq]; simp) (Ev.now _))
      | true =>
        rw [hq, Bool.true_and] at ht
        refine Ev.step (fun k => spec_FieldOk.l0.eq_2 ..) (Ev.pos (by omega) (Ev.pos (by omega) (Ev.pos (by omega) ?_)))
        rw [rdT1D, Int.toNat_natCast]
        refine Ev.bind (spec_team _ (hs _ (getD_mem h))) (Ev.pos hq (Ev.pos (by omega) (Ev.bind0 rfl ?_)))
        have ha : (l.take i).any (likeT (l.getD i z52)) = true := by simpa using ht
        obtain ⟨x, hx, hxt⟩ := List.any_eq_true.1 ha
        obtain ⟨m, hm, rfl⟩ := List.mem_iff_getElem.1 hx
        have hj2 : (l.take i).length ≤ 1048576 := by rw [List.length_take]; omega
        have := down (g := fun j => Ev (fun k => spec_FieldOk.l1 k l l (l.length : Int) (i : Int) (l.take i) ((l.take i).length : Int) (j : Int) (l.getD i z52).f0 (l.getD i z52).f1 (l.getD i z52).f2) false) (n := m) (fun j hj hn => by
          have hj' : j < (l.take i).length := by omega
          refine Ev.step (fun k => spec_FieldOk.l1.eq_2 ..) (Ev.pos (by omega) (Ev.pos (by omega) (Ev.pos (by omega) ?_)))
          rw [rdT1 hj']
          by_cases c : (l.take i)[j].f0.toList = (l.getD i z52).f0.toList
          · exact Ev.pos c (Ev.now _)
          · by_cases c2 : (l.take i)[j].f2 = (l.getD i z52).f2
            · exact Ev.neg c (Ev.pos c2 (Ev.now _))
            · refine Ev.neg c (Ev.neg c2 ?_)
              rw [w64s (by omega)]; exact hn) (by
          refine Ev.step (fun k => spec_FieldOk.l1.eq_2 ..) (Ev.pos (by omega) (Ev.pos (by omega) (Ev.pos (by omega) ?_)))
          rw [rdT1 hm]
          unfold likeT at hxt
          by_cases c : (l.take i)[m].f0.toList = (l.getD i z52).f0.toList
          · exact Ev.pos c (Ev.now _)
          · rw [decide_eq_false c, Bool.false_or] at hxt
            exact Ev.neg c (Ev.pos (by simpa using hxt) (Ev.now _))) m 0 (by omega)
        exact this) (by
      rw [List.length_range]
      exact Ev.step (fun k => spec_FieldOk.l0.eq_2 ..) (Ev.neg (by omega) (Ev.now _)))
    simpa using this
theorem impl_field (l : List T1) (hl : l.length ≤ 1048576) (hs : ∀ y ∈ l, y.f0.size ≤ 1048576) : Ev (fun k => impl_FieldOk.f k l) (fieldB l) := by
  unfold impl_FieldOk.f fieldB
  rw [Bool.and_comm]
  have := Ev.all (fun i k => impl_FieldOk.l0 k l l (l.length : Int) (i : Int)) (List.range l.length) (slotB l) (decide ((2 : Int) ≤ (l.length : Int) ∧ (l.length : Int) ≤ 8)) (fun i h ht r hr => by
    simp only [List.length_range] at h
    simp only [List.getElem_range] at ht
    unfold slotB at ht
    rw [Bool.and_eq_true] at ht
    refine Ev.step (fun k => impl_FieldOk.l0.eq_2 ..) (Ev.pos (by omega) (Ev.pos (by omega) (Ev.pos (by omega) ?_)))
    rw [rdT1D, Int.toNat_natCast]
    refine Ev.bind (impl_team _ (hs _ (getD_mem h))) (Ev.pos ht.1 (Ev.pos (by omega) (Ev.bind (impl_like _ _ (by rw [List.length_take]; omega)) (Ev.neg (by simpa using ht.2) ?_))))
    rw [w64s (by omega)]; exact hr) (fun i h ht => by
    simp only [List.length_range] at h
    simp only [List.getElem_range] at ht
    unfold slotB at ht
    refine Ev.step (fun k => impl_FieldOk.l0.eq_2 ..) (Ev.pos (by omega) (Ev.pos (by omega) (Ev.pos (by omega) ?_)))
    rw [rdT1D, Int.toNat_natCast]
    refine Ev.bind (impl_team _ (hs _ (getD_mem h))) ?_
    cases hq : teamB (l.getD i z52) with
    | false => exact Ev.neg (by simp) (Ev.now _)
    | true =>
      rw [hq, Bool.true_and] at ht
      exact Ev.pos rfl (Ev.pos (by omega) (Ev.bind (impl_like _ _ (by rw [List.length_take]; omega)) (Ev.pos (by simpa using ht) (Ev.now _))))) (by
    rw [List.length_range]
    exact Ev.step (fun k => impl_FieldOk.l0.eq_2 ..) (Ev.neg (by omega) (Ev.bind0 (impl_in _ _ _) (Ev.now _))))
  exact this
end Go.Proofs.YtmpealaejigbfaaDoor.R
