/- Valid cups, winning a game, champions, ways to win: program and reference tell the same. Conditions: sizes of rows as the rows' forms allow. -/
import Derived.Test.YtpacmpppiphfjaaCupA
import Derived.Test.YtpacmpppiphfjaaX5
import Derived.Test.YtpacmpppiphfjaaX6
import Derived.Test.YtpacmpppiphfjaaX7
import Derived.Test.YtpacmpppiphfjaaX8
import Derived.Test.YtpacmpppiphfjaaX11
import Derived.Test.YtpacmpppiphfjaaX12
import Derived.Test.YtpacmpppiphfjaaX13
import Derived.Test.YtpacmpppiphfjaaX14
import Derived.Test.YtpacmpppiphfjaaX16
namespace Go.Proofs.Ytpacmpppiphfjaa.X
set_option linter.unusedVariables false
set_option linter.unusedSimpArgs false
open Go.RowKit Go.Proofs.YtpacmpppiphfjaaW.PrintWords Go.Proofs.Ytpacmpppiphfjaa.PK

def okB (n : Int) (w : List Int) (i : Nat) : Bool := (opp n w i).2.2 && (rd w i == (opp n w i).1 || rd w i == (opp n w i).2.1)
def allFrom (n : Int) (w : List Int) (i : Nat) : Bool := (List.range' i (w.length - i)).all (okB n w)
def cupB (n : Int) (w : List Int) : Bool := allFrom n w 0 && sizeB n
theorem allFrom_end (n : Int) (w : List Int) : allFrom n w w.length = true := by simp [allFrom]
theorem allFrom_step (n : Int) (w : List Int) (i : Nat) (h : i < w.length) : allFrom n w i = (okB n w i && allFrom n w (i + 1)) := by
  unfold allFrom
  obtain ⟨d, hd⟩ : ∃ d, w.length - i = d + 1 := ⟨w.length - i - 1, by omega⟩
  rw [hd, show w.length - (i + 1) = d by omega, List.range'_succ, List.all_cons]
theorem allFrom_at (n : Int) (w : List Int) : ∀ d i, i + d = w.length → allFrom n w i = true → ∀ j, i ≤ j → j < w.length → okB n w j = true
  | 0, i, h, _, j, h1, h2 => by omega
  | d + 1, i, h, ha, j, h1, h2 => by
    rw [allFrom_step n w i (by omega), Bool.and_eq_true] at ha
    rcases Nat.eq_or_lt_of_le h1 with rfl | h1
    · exact ha.1
    · exact allFrom_at n w d (i + 1) (by omega) ha.2 j h1 h2
theorem allFrom_mk (n : Int) (w : List Int) : ∀ d i, i + d = w.length → (∀ j, i ≤ j → j < w.length → okB n w j = true) → allFrom n w i = true
  | 0, i, h, _ => by obtain rfl : i = w.length := by omega
                     exact allFrom_end n w
  | d + 1, i, h, ha => by
    rw [allFrom_step n w i (by omega), ha i (Nat.le_refl _) (by omega), allFrom_mk n w d (i + 1) (by omega) (fun j h1 h2 => ha j (by omega) h2)]
    rfl
theorem cupB_iff (n : Int) (w : List Int) : cupB n w = true ↔ sizeB n = true ∧ ∀ j, j < w.length → okB n w j = true := by
  unfold cupB
  rw [Bool.and_eq_true]
  constructor
  · rintro ⟨h1, h2⟩
    exact ⟨h2, fun j hj => allFrom_at n w w.length 0 (by omega) h1 j (by omega) hj⟩
  · rintro ⟨h1, h2⟩
    exact ⟨allFrom_mk n w w.length 0 (by omega) (fun j _ hj => h2 j hj), h1⟩
theorem size_ge {n : Int} (h : sizeB n = true) : 2 ≤ n ∧ n ≤ 8 := by rcases size_cases h with rfl | rfl | rfl <;> omega
theorem cupB_len {n : Int} {w : List Int} (h : cupB n w = true) : (w.length : Int) ≤ n - 1 := by
  obtain ⟨h1, h2⟩ := (cupB_iff n w).1 h
  have hs := size_ge h1
  rcases Int.lt_or_le (n - 1) (w.length : Int) with hl | hl
  · have := h2 (n - 1).toNat (by omega)
    rw [okB, opp_out _ _ _ (by omega)] at this
    simp at this
  · exact hl
theorem half_cases {n : Int} (h : sizeB n = true) : (n = 2 ∧ n / 2 = 1) ∨ (n = 4 ∧ n / 2 = 2) ∨ (n = 8 ∧ n / 2 = 4) := by
  rcases size_cases h with rfl | rfl | rfl <;> simp
theorem rd_take (w : List Int) (i : Nat) (j : Int) (h0 : 0 ≤ j) (h : j < i) : rd (w.take i) j = rd w j := by
  obtain ⟨m, rfl⟩ := Int.eq_ofNat_of_zero_le h0
  simp [rd, List.getD_eq_getElem?_getD, List.getElem?_take, show m < i by omega]
theorem opp_known (n : Int) (w : List Int) (i : Nat) (hs : sizeB n = true) (hi : (i : Int) ≤ n - 2) (hl : i ≤ w.length) :
    opp n w i = (if (i : Int) < n / 2 then (rd (bracket n) (2 * i), rd (bracket n) (2 * i + 1), true) else (rd w (2 * (i - n / 2)), rd w (2 * (i - n / 2) + 1), true)) := by
  unfold opp
  rw [if_pos ⟨hs, by omega, hi⟩]
  by_cases c : (i : Int) < n / 2
  · rw [if_pos c, if_pos c]
  · rw [if_neg c, if_neg c, if_pos (by rcases half_cases hs with ⟨rfl, h⟩ | ⟨rfl, h⟩ | ⟨rfl, h⟩ <;> omega)]
theorem opp_take (n : Int) (w : List Int) (i : Nat) (hs : sizeB n = true) (hi : (i : Int) ≤ n - 2) (hl : i ≤ w.length) : opp n (w.take i) i = opp n w i := by
  rw [opp_known n w i hs hi hl, opp_known n (w.take i) i hs hi (by simp; omega)]
  by_cases c : (i : Int) < n / 2
  · rw [if_pos c, if_pos c]
  · rw [if_neg c, if_neg c]
    have : 2 * ((i : Int) - n / 2) + 1 < i := by rcases half_cases hs with ⟨rfl, h⟩ | ⟨rfl, h⟩ | ⟨rfl, h⟩ <;> omega
    rw [rd_take w i _ (by omega) (by omega), rd_take w i _ (by omega) (by omega)]

theorem impl_cup (n : Int) (w : List Int) (hw : w.length ≤ 1099511627776) : Ev (fun k => impl_CupOk.f k n w) (cupB n w) := by
  have := down (g := fun i => Ev (fun k => impl_CupOk.l0 k w (w.length : Int) (i : Int) n w) (allFrom n w i && sizeB n)) (n := w.length) (fun i hi h => by
    refine Ev.step (f := fun k => (impl_OpponentsOf.f k n w i).bind fun bt264 => (if bt264.2.2 = true then (if (rd w i) = bt264.1 then (impl_CupOk.l0 k w (w.length : Int) ((i + 1 : Nat) : Int) n w) else (if (rd w i) = bt264.2.1 then (impl_CupOk.l0 k w (w.length : Int) ((i + 1 : Nat) : Int) n w) else (some false))) else (some false))) (fun k => by
      simp only [impl_CupOk.l0]
      rw [if_pos (by omega), if_pos (by omega), if_pos (by omega), w64s (by omega)]) (Ev.bind (impl_opp n w i hw) ?_)
    rw [allFrom_step n w i hi]
    by_cases c : (opp n w i).2.2 = true
    · refine Ev.pos c ?_
      by_cases c1 : rd w i = (opp n w i).1
      · refine Ev.pos c1 ?_
        have : okB n w i = true := by simp [okB, c, c1]
        rw [this]; exact h
      · refine Ev.neg c1 ?_
        by_cases c2 : rd w i = (opp n w i).2.1
        · refine Ev.pos c2 ?_
          have : okB n w i = true := by simp [okB, c, c2]
          rw [this]; exact h
        · have : okB n w i = false := by simp [okB, c1, c2]
          rw [this]; exact Ev.neg c2 (Ev.now _)
    · have : okB n w i = false := by simp [okB, c]
      rw [this]; exact Ev.neg c (Ev.now _)) (by
    refine Ev.step (f := fun _ => some (sizeB n)) (fun k => by
      simp only [impl_CupOk.l0]
      rw [if_neg (by omega), impl_size]; rfl) ?_
    rw [allFrom_end]; exact Ev.now _) w.length 0 (by omega)
  simpa [impl_CupOk.f, cupB] using this
theorem minus1 {n : Int} (h : sizeB n = true) : wrap64 (n - 1) = n - 1 := by rcases size_cases h with rfl | rfl | rfl <;> decide +kernel
theorem spec_cup (n : Int) (w : List Int) (hw : w.length ≤ 1099511627776) : Ev (fun k => spec_CupOk.f k n w) (cupB n w) := by
  simp only [spec_CupOk.f, spec_size]
  refine Ev.bind0 rfl ?_
  by_cases hs : sizeB n = true
  · refine Ev.pos hs ?_
    rw [minus1 hs]
    by_cases hl : (w.length : Int) > n - 1
    · have : cupB n w = false := by
        rcases hc : cupB n w with _ | _
        · rfl
        · have := cupB_len hc; omega
      rw [this]
      refine Ev.step (f := fun _ => some false) (fun k => ?_) (Ev.now _)
      simp only [spec_CupOk.j0]
      rw [if_pos (by simpa using hl)]
    · have key := down (g := fun i => Ev (fun k => spec_CupOk.l0 k w (w.length : Int) (i : Int) n w) (allFrom n w i)) (n := w.length) (fun i hi h => by
        have ho := opp_take n w i hs (by omega) (by omega)
        refine Ev.step (f := fun k => (spec_l14Teams.f k n (w.take i) i).bind fun bt259 => (if bt259.2.2 = true then (if (rd w i) = bt259.1 then (spec_CupOk.l0 k w (w.length : Int) ((i + 1 : Nat) : Int) n w) else (if (rd w i) = bt259.2.1 then (spec_CupOk.l0 k w (w.length : Int) ((i + 1 : Nat) : Int) n w) else (some false))) else (some false))) (fun k => by
          simp only [spec_CupOk.l0]
          rw [if_pos (by omega), if_pos (by omega), if_pos (by omega), if_pos (by omega), w64s (by omega), Int.toNat_natCast]) (Ev.bind (spec_teams n (w.take i) i hs (by omega) (by omega) (by simp; omega)) ?_)
        rw [ho, allFrom_step n w i hi]
        by_cases c : (opp n w i).2.2 = true
        · refine Ev.pos c ?_
          by_cases c1 : rd w i = (opp n w i).1
          · refine Ev.pos c1 ?_
            have : okB n w i = true := by simp [okB, c, c1]
            rw [this]; exact h
          · refine Ev.neg c1 ?_
            by_cases c2 : rd w i = (opp n w i).2.1
            · refine Ev.pos c2 ?_
              have : okB n w i = true := by simp [okB, c, c2]
              rw [this]; exact h
            · have : okB n w i = false := by simp [okB, c1, c2]
              rw [this]; exact Ev.neg c2 (Ev.now _)
        · have : okB n w i = false := by simp [okB, c]
          rw [this]; exact Ev.neg c (Ev.now _)) (by
        refine Ev.step (f := fun _ => some true) (fun k => by
          simp only [spec_CupOk.l0]
          rw [if_neg (by omega)]) ?_
        rw [allFrom_end]; exact Ev.now _) w.length 0 (by omega)
      refine Ev.step (f := fun k => spec_CupOk.l0 k w (w.length : Int) 0 n w) (fun k => by
        simp only [spec_CupOk.j0]
        rw [if_neg (by simpa using hl)]) ?_
      rw [cupB, hs, Bool.and_true]
      exact key
  · have : cupB n w = false := by simp [cupB, hs]
    rw [this]
    refine Ev.neg hs (Ev.step (f := fun _ => some false) (fun k => ?_) (Ev.now _))
    simp only [spec_CupOk.j0]
    rw [if_pos trivial]
theorem clone_f (w : List Int) (h : w.length < 17592186044416) : slices_Clone_int_int.f w = some w := by simp [slices_Clone_int_int.f, h]
theorem copy_f (n : Int) (w : List Int) (h : w.length < 17592186044416) : spec_l14Copy.f n w = some (n, w) := by simp [spec_l14Copy.f, h]
def champ (n : Int) (w : List Int) : Int := if cupB n w = true then (if (w.length : Int) = n - 1 then rd w (n - 2) else 0) else 0
theorem impl_champ (n : Int) (w : List Int) (hw : w.length ≤ 1099511627776) : Ev (fun k => impl_ChampionOf.f k n w) (champ n w) := by
  refine Ev.bind (impl_cup n w hw) ?_
  unfold champ
  by_cases c : cupB n w = true
  · have hs := ((cupB_iff n w).1 c).1
    have h8 := size_ge hs
    rw [if_pos c, if_pos c, minus1 hs]
    by_cases hl : (w.length : Int) = n - 1
    · rw [if_pos hl, if_pos hl, minus2 hs]
      exact Ev.pos (by omega) (Ev.pos (by omega) (Ev.now _))
    · rw [if_neg hl, if_neg hl]
      exact Ev.now _
  · rw [if_neg c, if_neg c]
    exact Ev.now _
theorem spec_champ (n : Int) (w : List Int) (hw : w.length ≤ 1099511627776) : Ev (fun k => spec_ChampionOf.f k n w) (champ n w) := by
  refine Ev.bind (spec_cup n w hw) ?_
  unfold champ
  by_cases c : cupB n w = true
  · have hs := ((cupB_iff n w).1 c).1
    have h8 := size_ge hs
    rw [if_pos c, if_pos c, minus1 hs]
    by_cases hl : (w.length : Int) = n - 1
    · have e : wrap64 ((w.length : Int) - 1) = n - 2 := by rw [w64 (by omega) (by omega)]; omega
      rw [if_pos hl, if_pos hl, e]
      exact Ev.pos (by omega) (Ev.pos (by omega) (Ev.now _))
    · rw [if_neg hl, if_neg hl]
      exact Ev.now _
  · rw [if_neg c, if_neg c]
    exact Ev.now _
theorem rd_snoc (w : List Int) (a : Int) (j : Int) (h0 : 0 ≤ j) (h : j < w.length) : rd (w ++ [a]) j = rd w j := by
  obtain ⟨m, rfl⟩ := Int.eq_ofNat_of_zero_le h0
  simp [rd, List.getD_eq_getElem?_getD, List.getElem?_append_left (show m < w.length by omega)]
theorem opp_snoc (n : Int) (w : List Int) (a : Int) (i : Nat) (hs : sizeB n = true) (hi : (i : Int) ≤ n - 2) (hl : i ≤ w.length) : opp n (w ++ [a]) i = opp n w i := by
  rw [← opp_take n w i hs hi hl, ← opp_take n (w ++ [a]) i hs hi (by simp; omega), List.take_append_of_le_length hl]
theorem cup_prefix (n : Int) (w : List Int) (a : Int) (h : cupB n (w ++ [a]) = true) : cupB n w = true := by
  have hl := cupB_len h
  obtain ⟨hs, h2⟩ := (cupB_iff _ _).1 h
  refine (cupB_iff _ _).2 ⟨hs, fun j hj => ?_⟩
  have := h2 j (by simp; omega)
  rw [okB, opp_snoc n w a j hs (by simp at hl; omega) (by omega), rd_snoc w a j (by omega) (by omega)] at this
  exact this
theorem cup_snoc (n : Int) (w : List Int) (a : Int) (h : cupB n w = true) (hl : (w.length : Int) ≤ n - 2) (ha : a = (opp n w w.length).1 ∨ a = (opp n w w.length).2.1) : cupB n (w ++ [a]) = true := by
  obtain ⟨hs, h2⟩ := (cupB_iff _ _).1 h
  refine (cupB_iff _ _).2 ⟨hs, fun j hj => ?_⟩
  simp at hj
  rw [okB, opp_snoc n w a j hs (by omega) (by omega)]
  rcases Nat.lt_or_ge j w.length with hj2 | hj2
  · rw [rd_snoc w a j (by omega) (by omega)]
    exact h2 j hj2
  · obtain rfl : j = w.length := by omega
    have e : rd (w ++ [a]) (w.length : Int) = a := by simp [rd, List.getD_eq_getElem?_getD]
    have ht : (opp n w w.length).2.2 = true := by
      rw [opp_known n w _ hs hl (Nat.le_refl _)]; split <;> rfl
    rw [e, ht]
    rcases ha with ha | ha <;> simp [ha]
def won (n : Int) (w : List Int) (a : Int) : Int × List Int × Bool := if cupB n (w ++ [a]) = true then (n, w ++ [a], true) else (n, w, false)
theorem impl_win (n : Int) (w : List Int) (a : Int) (hw : w.length ≤ 1099511627775) : Ev (fun k => impl_WinGame.f k n w a) (won n w a) := by
  simp only [impl_WinGame.f, clone_f w (by omega), Option.bind_some]
  refine Ev.pos (by simp; omega) (Ev.bind (impl_cup n (w ++ [a]) (by simp; omega)) ?_)
  unfold won
  by_cases c : cupB n (w ++ [a]) = true
  · rw [if_pos c, if_pos c]; exact Ev.now _
  · rw [if_neg c, if_neg c]; exact Ev.now _
theorem spec_win (n : Int) (w : List Int) (a : Int) (hw : w.length ≤ 1099511627775) : Ev (fun k => spec_WinGame.f k n w a) (won n w a) := by
  simp only [spec_WinGame.f, copy_f n w (by omega), Option.bind_some]
  refine Ev.pos (by omega) (Ev.bind (spec_cup n w (by omega)) ?_)
  unfold won
  by_cases c0 : cupB n w = true
  · refine Ev.pos c0 (Ev.bind (spec_cup n (w ++ [a]) (by simp; omega)) ?_)
    by_cases c : cupB n (w ++ [a]) = true
    · rw [if_pos c, if_pos c]; exact Ev.now _
    · rw [if_neg c, if_neg c]; exact Ev.now _
  · rw [if_neg (fun h => c0 (cup_prefix n w a h))]
    exact Ev.neg c0 (Ev.now _)
theorem ways (n s : Int) (hs : 1 ≤ s) (hs2 : s ≤ n) : ∀ (d : Nat) (w : List Int), cupB n w = true → (w.length : Int) + d = n - 1 → ∃ v, Ev (fun k => spec_l14Ways.f k n w s) v ∧ Ev (fun k => impl_WaysToWin.f k n w s) v
  | 0, w, hc, hl => by
    have hz := ((cupB_iff n w).1 hc).1
    have h8 := size_ge hz
    refine ⟨if champ n w = s then 1 else 0, ?_, ?_⟩
    · refine Ev.step (f := fun k => (spec_ChampionOf.f k n w).bind fun t507 => (if t507 = s then (some 1) else (some 0))) (fun k => by
        simp only [spec_l14Ways.f]
        rw [minus1 hz, if_pos (by omega)]) (Ev.bind (spec_champ n w (by omega)) ?_)
      by_cases c : champ n w = s
      · rw [if_pos c, if_pos c]; exact Ev.now _
      · rw [if_neg c, if_neg c]; exact Ev.now _
    · refine Ev.step (f := fun k => (impl_CupOk.f k n w).bind fun t534 => (if t534 = true then ((impl_within.f s 1 n).bind fun t535 => (impl_WaysToWin.j0 k s (!t535) n w)) else (impl_WaysToWin.j0 k s true n w))) (fun k => by
        simp only [impl_WaysToWin.f]) (Ev.bind (impl_cup n w (by omega)) (Ev.pos hc (Ev.bind0 (impl_in s 1 n) ?_)))
      have hd : decide (1 ≤ s ∧ s ≤ n) = true := by simp; omega
      rw [hd]
      refine Ev.step (f := fun k => (impl_ChampionOf.f k n w).bind fun t536 => (if t536 = s then (some 1) else (some 0))) (fun k => by
        simp only [impl_WaysToWin.j0]
        rw [if_neg (by simp), minus1 hz, if_pos (by omega)]) (Ev.bind (impl_champ n w (by omega)) ?_)
      by_cases c : champ n w = s
      · rw [if_pos c, if_pos c]; exact Ev.now _
      · rw [if_neg c, if_neg c]; exact Ev.now _
  | d + 1, w, hc, hl => by
    have hz := ((cupB_iff n w).1 hc).1
    have h8 := size_ge hz
    have ca := cup_snoc n w (opp n w w.length).1 hc (by omega) (.inl rfl)
    have cb := cup_snoc n w (opp n w w.length).2.1 hc (by omega) (.inr rfl)
    obtain ⟨v1, s1, i1⟩ := ways n s hs hs2 d _ ca (by simp; omega)
    obtain ⟨v2, s2, i2⟩ := ways n s hs hs2 d _ cb (by simp; omega)
    refine ⟨wrap64 (v1 + v2), ?_, ?_⟩
    · refine Ev.step (f := fun k => (spec_l14Teams.f k n w (w.length : Int)).bind fun bt508 => ((spec_l14Ways.f k n (w ++ [bt508.1]) s).bind fun t527 => ((spec_l14Ways.f k n (w ++ [bt508.2.1]) s).bind fun t528 => (some (wrap64 (t527 + t528)))))) (fun k => by
        simp only [spec_l14Ways.f]
        rw [minus1 hz, if_neg (by omega)]
        simp only [copy_f n w (by omega), Option.bind_some]
        congr 1; funext bt
        rw [if_pos (by omega), if_pos (by omega)]) (Ev.bind (spec_teams n w _ hz (by omega) (by omega) (by omega)) (Ev.bind s1 (Ev.bind s2 (Ev.now _))))
    · refine Ev.step (f := fun k => (impl_CupOk.f k n w).bind fun t534 => (if t534 = true then ((impl_within.f s 1 n).bind fun t535 => (impl_WaysToWin.j0 k s (!t535) n w)) else (impl_WaysToWin.j0 k s true n w))) (fun k => by
        simp only [impl_WaysToWin.f]) (Ev.bind (impl_cup n w (by omega)) (Ev.pos hc (Ev.bind0 (impl_in s 1 n) ?_)))
      have hd : decide (1 ≤ s ∧ s ≤ n) = true := by simp; omega
      rw [hd]
      have ea : won n w (opp n w w.length).1 = (n, w ++ [(opp n w w.length).1], true) := by unfold won; rw [if_pos ca]
      have eb : won n w (opp n w w.length).2.1 = (n, w ++ [(opp n w w.length).2.1], true) := by unfold won; rw [if_pos cb]
      refine Ev.step (f := fun k => (impl_OpponentsOf.f k n w (w.length : Int)).bind fun bt537 => ((impl_WinGame.f k n w bt537.1).bind fun bt540 => ((impl_WinGame.f k n w bt537.2.1).bind fun bt546 => ((impl_WaysToWin.f k bt540.1 bt540.2.1 s).bind fun t552 => ((impl_WaysToWin.f k bt546.1 bt546.2.1 s).bind fun t553 => (some (wrap64 (t552 + t553)))))))) (fun k => by
        simp only [impl_WaysToWin.j0]
        rw [if_neg (by simp), minus1 hz, if_neg (by omega)]) (Ev.bind (impl_opp n w _ (by omega)) ?_)
      refine Ev.bind (ea ▸ impl_win n w (opp n w w.length).1 (by omega)) (Ev.bind (eb ▸ impl_win n w (opp n w w.length).2.1 (by omega)) ?_)
      exact Ev.bind i1 (Ev.bind i2 (Ev.now _))
theorem ways_same (n : Int) (w : List Int) (s : Int) (hw : w.length ≤ 1099511627775) : ∃ v, Ev (fun k => spec_WaysToWin.f k n w s) v ∧ Ev (fun k => impl_WaysToWin.f k n w s) v := by
  by_cases hc : cupB n w = true
  · have hz := ((cupB_iff n w).1 hc).1
    have h8 := size_ge hz
    have hl := cupB_len hc
    by_cases hs : 1 ≤ s ∧ s ≤ n
    · obtain ⟨v, h1, h2⟩ := ways n s hs.1 hs.2 (n - 1 - w.length).toNat w hc (by omega)
      refine ⟨v, ?_, h2⟩
      simp only [spec_WaysToWin.f, spec_in]
      exact Ev.bind (spec_cup n w (by omega)) (Ev.pos hc (Ev.bind0 rfl (Ev.pos (by simpa using hs) (Ev.bind h1 (Ev.now _)))))
    · refine ⟨0, ?_, ?_⟩
      · simp only [spec_WaysToWin.f, spec_in]
        exact Ev.bind (spec_cup n w (by omega)) (Ev.pos hc (Ev.bind0 rfl (Ev.neg (by simpa using hs) (Ev.now _))))
      · refine Ev.step (f := fun k => (impl_CupOk.f k n w).bind fun t534 => (if t534 = true then ((impl_within.f s 1 n).bind fun t535 => (impl_WaysToWin.j0 k s (!t535) n w)) else (impl_WaysToWin.j0 k s true n w))) (fun k => by
          simp only [impl_WaysToWin.f]) (Ev.bind (impl_cup n w (by omega)) (Ev.pos hc (Ev.bind0 (impl_in s 1 n) ?_)))
        have hd : decide (1 ≤ s ∧ s ≤ n) = false := by simpa using hs
        rw [hd]
        refine Ev.step (f := fun _ => some 0) (fun k => ?_) (Ev.now _)
        simp only [impl_WaysToWin.j0]
        rw [if_pos (by simp)]
  · refine ⟨0, ?_, ?_⟩
    · simp only [spec_WaysToWin.f]
      exact Ev.bind (spec_cup n w (by omega)) (Ev.neg hc (Ev.now _))
    · refine Ev.step (f := fun k => (impl_CupOk.f k n w).bind fun t534 => (if t534 = true then ((impl_within.f s 1 n).bind fun t535 => (impl_WaysToWin.j0 k s (!t535) n w)) else (impl_WaysToWin.j0 k s true n w))) (fun k => by
        simp only [impl_WaysToWin.f]) (Ev.bind (impl_cup n w (by omega)) (Ev.neg hc ?_))
      refine Ev.step (f := fun _ => some 0) (fun k => ?_) (Ev.now _)
      simp only [impl_WaysToWin.j0]
      rw [if_pos trivial]
end Go.Proofs.Ytpacmpppiphfjaa.X
