/- Brackets and the two teams of a cup's game: program and reference tell the same. Conditions: sizes of rows as the rows' forms allow. -/
import Derived.Test.YtpacmpppiphfjaaLawInt
import Derived.Test.YtpacmpppiphfjaaX2
import Derived.Test.YtpacmpppiphfjaaX3
import Derived.Test.YtpacmpppiphfjaaX4
import Derived.Test.YtpacmpppiphfjaaX6
import Derived.Test.YtpacmpppiphfjaaX8
import Derived.Test.YtpacmpppiphfjaaX9
import Derived.Test.YtpacmpppiphfjaaX10
import Derived.Test.YtpacmpppiphfjaaX20
namespace Go.Proofs.Ytpacmpppiphfjaa.X
set_option linter.unusedVariables false
set_option linter.unusedSimpArgs false
open Go.RowKit Go.Proofs.YtpacmpppiphfjaaW.PrintWords Go.Proofs.Ytpacmpppiphfjaa.PK

def sizeB (n : Int) : Bool := decide (n = 2 ∨ n = 4 ∨ n = 8)
theorem spec_size (n : Int) : spec_CupSizeOk.f n = some (sizeB n) := by
  simp only [spec_CupSizeOk.f, sizeB]
  by_cases h2 : n = 2
  · simp [h2]
  by_cases h4 : n = 4
  · simp [h4]
  by_cases h8 : n = 8
  · simp [h8]
  simp [h2, h4, h8]
theorem impl_size (n : Int) : impl_CupSizeOk.f n = some (sizeB n) := by
  simp only [impl_CupSizeOk.f, sizeB]
  by_cases h2 : n = 2
  · simp [h2]
  by_cases h4 : n = 4
  · simp [h4]
  by_cases h8 : n = 8
  · simp [h8]
  simp [h2, h4, h8]
theorem size_cases {n : Int} (h : sizeB n = true) : n = 2 ∨ n = 4 ∨ n = 8 := by simpa [sizeB] using h
def bracket (n : Int) : List Int := if n = 2 then [1, 2] else if n = 4 then [1, 4, 3, 2] else if n = 8 then [1, 8, 5, 4, 3, 6, 7, 2] else []
theorem bracket_le (n : Int) : (bracket n).length ≤ 8 := by unfold bracket; split <;> (try split) <;> (try split) <;> simp
theorem spec_bracket (n : Int) : Ev (fun k => spec_BracketOf.f k n) (bracket n) := by
  by_cases h : sizeB n = true
  · rcases size_cases h with rfl | rfl | rfl
    · exact Ev.of (spec_BracketOf.mono 2) (k := 20) (by decide +kernel)
    · exact Ev.of (spec_BracketOf.mono 4) (k := 20) (by decide +kernel)
    · exact Ev.of (spec_BracketOf.mono 8) (k := 20) (by decide +kernel)
  · have hb : bracket n = [] := by
      simp [sizeB] at h
      simp [bracket, h]
    rw [hb]
    simp only [spec_BracketOf.f, spec_size]
    exact Ev.bind0 rfl (Ev.neg h (Ev.now _))
theorem impl_bracket (n : Int) : Ev (fun k => impl_BracketOf.f k n) (bracket n) := by
  by_cases h : sizeB n = true
  · rcases size_cases h with rfl | rfl | rfl
    · exact Ev.of (impl_BracketOf.mono 2) (k := 20) (by decide +kernel)
    · exact Ev.of (impl_BracketOf.mono 4) (k := 20) (by decide +kernel)
    · exact Ev.of (impl_BracketOf.mono 8) (k := 20) (by decide +kernel)
  · have hb : bracket n = [] := by
      simp [sizeB] at h
      simp [bracket, h]
    rw [hb]
    refine Ev.step (f := fun _ => some []) (fun k => ?_) (Ev.now _)
    simp only [impl_BracketOf.f, impl_size, Option.bind_some]
    rw [if_neg h]

/-- The two teams of game g. -/
def opp (n : Int) (w : List Int) (g : Int) : Int × Int × Bool :=
  if sizeB n = true ∧ 0 ≤ g ∧ g ≤ n - 2 then
    if g < n / 2 then (rd (bracket n) (2 * g), rd (bracket n) (2 * g + 1), true)
    else if 2 * (g - n / 2) + 1 < (w.length : Int) then (rd w (2 * (g - n / 2)), rd w (2 * (g - n / 2) + 1), true) else (0, 0, false)
  else (0, 0, false)

theorem l1_line (w : List Int) (g : Int) (r : Int × Int × Bool) (f c : Nat) (hf : f + c ≤ 100) (hw : w.length ≤ 1099511627776)
    (h : Ev (fun k => spec_l14Teams.l0 k w g ((w.drop f).take c) (wrap64 ((f : Int) + c)) (wrap64 (Int.tdiv c 2))) r) : Ev (fun k => spec_l14Teams.l1 k w g [] (f : Int) (c : Int) (f : Int)) r := by
  have key := Ev.iter (fun i k => spec_l14Teams.l1 k w g ((w.drop f).take i) (f : Int) (c : Int) ((f + i : Nat) : Int)) (min c (w.length - f)) r (fun i hi hk => Ev.step (fun k => by
    simp only [spec_l14Teams.l1]
    rw [if_pos (by rw [w64 (by omega) (by omega)]; omega), if_pos (by omega), if_pos (by omega), if_pos (by simp; omega), w64s (by omega), rd_nat (by omega)]
    rw [show f + (i + 1) = f + i + 1 from rfl, take_snoc (w.drop f) i (by simp; omega)]
    simp) hk) (Ev.step (f := fun k => spec_l14Teams.l0 k w g ((w.drop f).take c) (wrap64 ((f : Int) + c)) (wrap64 (Int.tdiv c 2))) (fun k => by
    simp only [spec_l14Teams.l1]
    by_cases hc : c ≤ w.length - f
    · rw [Nat.min_eq_left hc, if_neg (by rw [w64 (by omega) (by omega)]; omega)]
    · rw [Nat.min_eq_right (by omega)]
      by_cases h0 : f ≤ w.length
      · rw [if_pos (by rw [w64 (by omega) (by omega)]; omega), if_neg (by omega)]
        rw [List.take_of_length_le (by simp), List.take_of_length_le (by simp; omega)]
      · rw [if_pos (by rw [w64 (by omega) (by omega)]; omega), if_neg (by omega)]
        rw [List.drop_eq_nil_of_le (by omega)]
        simp) h)
  simpa using key
theorem l0_found (w : List Int) (g : Int) (line : List Int) (f c : Int) (hf : 0 ≤ f) (hc : 0 < c) (hfc : f + c ≤ 100) (hg : f ≤ g) (hg2 : g < f + c) (hl : line.length ≤ 100) :
    Ev (fun k => spec_l14Teams.l0 k w g line f c) (if 2 * (g - f) + 1 < (line.length : Int) then (rd line (2 * (g - f)), rd line (2 * (g - f) + 1), true) else (0, 0, false)) := by
  refine Ev.step (f := fun _ => some _) (fun k => ?_) (Ev.now _)
  simp only [spec_l14Teams.l0]
  have e1 : wrap64 (f + c) = f + c := w64 (by omega) (by omega)
  have e2 : wrap64 (g - f) = g - f := w64 (by omega) (by omega)
  have e3 : wrap64 (2 * (g - f)) = 2 * (g - f) := w64 (by omega) (by omega)
  have e4 : wrap64 (2 * (g - f) + 1) = 2 * (g - f) + 1 := w64 (by omega) (by omega)
  rw [e1, e2, e3, e4, if_pos hc, if_pos hg2]
  by_cases h : 2 * (g - f) + 1 < (line.length : Int)
  · rw [if_neg (by omega), if_pos (by omega), if_pos (by omega), if_pos (by omega), if_pos h, if_pos h]
  · rw [if_pos (by omega), if_neg h]
theorem l0_next (w : List Int) (g : Int) (line : List Int) (f c : Nat) (r : Int × Int × Bool) (hc : 0 < c) (hfc : f + c ≤ 100) (hg : (f : Int) + c ≤ g) (hw : w.length ≤ 1099511627776)
    (h : Ev (fun k => spec_l14Teams.l0 k w g ((w.drop f).take c) (wrap64 ((f : Int) + c)) (wrap64 (Int.tdiv c 2))) r) : Ev (fun k => spec_l14Teams.l0 k w g line (f : Int) (c : Int)) r := by
  refine Ev.step (f := fun k => spec_l14Teams.l1 k w g [] (f : Int) (c : Int) (f : Int)) (fun k => ?_) (l1_line w g r f c hfc hw h)
  simp only [spec_l14Teams.l0]
  rw [if_pos (by omega), if_neg (by rw [w64 (by omega) (by omega)]; omega)]
theorem rd_line (w : List Int) (f c i : Nat) (h : i < c) (h2 : f + i < w.length) : rd ((w.drop f).take c) (i : Int) = rd w ((f + i : Nat) : Int) := by
  rw [rd_nat (by simp; omega), rd_nat (by omega)]
  simp
theorem rd_line' (w : List Int) (f c : Nat) (i j : Int) (h0 : 0 ≤ i) (h : i < c) (h2 : f + i < w.length) (hj : j = f + i) : rd ((w.drop f).take c) i = rd w j := by
  obtain ⟨n, rfl⟩ := Int.eq_ofNat_of_zero_le h0
  subst hj
  exact rd_line w f c n (by omega) (by omega)

theorem spec_teams (n : Int) (w : List Int) (g : Int) (hn : sizeB n = true) (h0 : 0 ≤ g) (h1 : g ≤ n - 2) (hw : w.length ≤ 1099511627776) : Ev (fun k => spec_l14Teams.f k n w g) (opp n w g) := by
  simp only [spec_l14Teams.f]
  refine Ev.bind (spec_bracket n) ?_
  have ho : opp n w g = (if g < n / 2 then (rd (bracket n) (2 * g), rd (bracket n) (2 * g + 1), true)
    else if 2 * (g - n / 2) + 1 < (w.length : Int) then (rd w (2 * (g - n / 2)), rd w (2 * (g - n / 2) + 1), true) else (0, 0, false)) := by
    simp only [opp]; rw [if_pos ⟨hn, h0, h1⟩]
  rw [ho]
  have hk : ∃ h : Nat, n = 2 * h ∧ (h = 1 ∨ h = 2 ∨ h = 4) ∧ (bracket n).length = 2 * h ∧ wrap64 (Int.tdiv n 2) = h ∧ n / 2 = h := by
    rcases size_cases hn with rfl | rfl | rfl
    · exact ⟨1, by decide, by omega, by decide, by decide +kernel, by decide⟩
    · exact ⟨2, by decide, by omega, by decide, by decide +kernel, by decide⟩
    · exact ⟨4, by decide, by omega, by decide, by decide +kernel, by decide⟩
  obtain ⟨h, hh, hh2, hbl, hwr, hdiv⟩ := hk
  rw [hwr, hdiv]
  by_cases c1 : g < (h : Int)
  · rw [if_pos c1]
    have := l0_found w g (bracket n) 0 h (by omega) (by omega) (by omega) h0 (by omega) (by omega)
    rw [if_pos (by omega)] at this
    simpa using this
  · rw [if_neg c1]
    refine l0_next w g (bracket n) 0 h _ (by omega) (by omega) (by omega) hw ?_
    rcases hh2 with rfl | rfl | rfl
    · omega
    · -- size 4
      have e1 : wrap64 (((0 : Nat) : Int) + ((2 : Nat) : Int)) = 2 := by decide +kernel
      have e2 : wrap64 (Int.tdiv ((2 : Nat) : Int) 2) = 1 := by decide +kernel
      rw [e1, e2]
      have := l0_found w g ((w.drop 0).take 2) 2 1 (by omega) (by omega) (by omega) (by omega) (by omega) (by simp; omega)
      by_cases c2 : 2 * (g - ((2 : Nat) : Int)) + 1 < (w.length : Int)
      · rw [if_pos c2]
        rw [if_pos (by simp; omega), rd_line' w 0 2 _ (2 * (g - ((2 : Nat) : Int))) (by omega) (by omega) (by omega) (by simp), rd_line' w 0 2 _ (2 * (g - ((2 : Nat) : Int)) + 1) (by omega) (by omega) (by omega) (by simp)] at this
        exact this
      · rw [if_neg c2]
        rw [if_neg (by simp; omega)] at this
        exact this
    · -- size 8
      have e1 : wrap64 (((0 : Nat) : Int) + ((4 : Nat) : Int)) = ((4 : Nat) : Int) := by decide +kernel
      have e2 : wrap64 (Int.tdiv ((4 : Nat) : Int) 2) = ((2 : Nat) : Int) := by decide +kernel
      rw [e1, e2]
      by_cases c3 : g < 6
      · have := l0_found w g ((w.drop 0).take 4) 4 2 (by omega) (by omega) (by omega) (by omega) (by omega) (by simp; omega)
        by_cases c2 : 2 * (g - ((4 : Nat) : Int)) + 1 < (w.length : Int)
        · rw [if_pos c2]
          rw [if_pos (by simp; omega), rd_line' w 0 4 _ (2 * (g - ((4 : Nat) : Int))) (by omega) (by omega) (by omega) (by simp), rd_line' w 0 4 _ (2 * (g - ((4 : Nat) : Int)) + 1) (by omega) (by omega) (by omega) (by simp)] at this
          exact this
        · rw [if_neg c2]
          rw [if_neg (by simp; omega)] at this
          exact this
      · refine l0_next w g _ 4 2 _ (by omega) (by omega) (by omega) hw ?_
        have e3 : wrap64 (((4 : Nat) : Int) + ((2 : Nat) : Int)) = 6 := by decide +kernel
        have e4 : wrap64 (Int.tdiv ((2 : Nat) : Int) 2) = 1 := by decide +kernel
        rw [e3, e4]
        have := l0_found w g ((w.drop 4).take 2) 6 1 (by omega) (by omega) (by omega) (by omega) (by omega) (by simp; omega)
        by_cases c2 : 2 * (g - ((4 : Nat) : Int)) + 1 < (w.length : Int)
        · rw [if_pos c2]
          rw [if_pos (by simp; omega), rd_line' w 4 2 _ (2 * (g - ((4 : Nat) : Int))) (by omega) (by omega) (by omega) (by simp; omega), rd_line' w 4 2 _ (2 * (g - ((4 : Nat) : Int)) + 1) (by omega) (by omega) (by omega) (by simp; omega)] at this
          exact this
        · rw [if_neg c2]
          rw [if_neg (by simp; omega)] at this
          exact this
theorem opp_out (n : Int) (w : List Int) (g : Int) (h : ¬ (sizeB n = true ∧ 0 ≤ g ∧ g ≤ n - 2)) : opp n w g = (0, 0, false) := by simp only [opp]; rw [if_neg h]
theorem minus2 {n : Int} (h : sizeB n = true) : wrap64 (n - 2) = n - 2 := by rcases size_cases h with rfl | rfl | rfl <;> decide +kernel
theorem spec_in (a b c : Int) : spec_l01In.f a b c = some (decide (b ≤ a ∧ a ≤ c)) := by
  simp only [spec_l01In.f]
  by_cases h : a ≥ b
  · rw [if_pos h]; simp [show b ≤ a from h]
  · rw [if_neg h]; simp [show ¬ b ≤ a from h]
theorem impl_in (a b c : Int) : impl_within.f a b c = some (decide (b ≤ a ∧ a ≤ c)) := by
  simp only [impl_within.f]
  by_cases h : b ≤ a
  · rw [if_pos h]; simp [h]
  · rw [if_neg h]; simp [h]
theorem spec_opp (n : Int) (w : List Int) (g : Int) (hw : w.length ≤ 1099511627776) : Ev (fun k => spec_OpponentsOf.f k n w g) (opp n w g) := by
  simp only [spec_OpponentsOf.f, spec_size, spec_in]
  refine Ev.bind0 rfl ?_
  by_cases hn : sizeB n = true
  · refine Ev.pos hn (Ev.bind0 rfl ?_)
    rw [minus2 hn]
    by_cases hg : 0 ≤ g ∧ g ≤ n - 2
    · refine Ev.pos (by simpa using hg) ?_
      exact Ev.bind (spec_teams n w g hn hg.1 hg.2 hw) (Ev.now _)
    · rw [opp_out n w g (by simp [hn] at hg ⊢; exact hg)]
      exact Ev.neg (by simpa using hg) (Ev.now _)
  · rw [opp_out n w g (by simp [hn])]
    exact Ev.neg hn (Ev.now _)
theorem impl_opp (n : Int) (w : List Int) (g : Int) (hw : w.length ≤ 1099511627776) : Ev (fun k => impl_OpponentsOf.f k n w g) (opp n w g) := by
  simp only [impl_OpponentsOf.f, impl_size, impl_in]
  refine Ev.bind0 rfl ?_
  by_cases hn : sizeB n = true
  · refine Ev.pos hn (Ev.bind0 rfl ?_)
    rw [minus2 hn]
    by_cases hg : 0 ≤ g ∧ g ≤ n - 2
    · have hd : decide (0 ≤ g ∧ g ≤ n - 2) = true := by simpa using hg
      rw [hd]
      have ho : opp n w g = (if g < n / 2 then (rd (bracket n) (2 * g), rd (bracket n) (2 * g + 1), true)
        else if 2 * (g - n / 2) + 1 < (w.length : Int) then (rd w (2 * (g - n / 2)), rd w (2 * (g - n / 2) + 1), true) else (0, 0, false)) := by
        simp only [opp]; rw [if_pos ⟨hn, hg⟩]
      rw [ho]
      have hk : ∃ h : Int, n = 2 * h ∧ (h = 1 ∨ h = 2 ∨ h = 4) ∧ ((bracket n).length : Int) = 2 * h ∧ wrap64 (Int.tdiv n 2) = h ∧ n / 2 = h := by
        rcases size_cases hn with rfl | rfl | rfl
        · exact ⟨1, by decide, by omega, by decide, by decide +kernel, by decide⟩
        · exact ⟨2, by decide, by omega, by decide, by decide +kernel, by decide⟩
        · exact ⟨4, by decide, by omega, by decide, by decide +kernel, by decide⟩
      obtain ⟨h, hh, hh2, hbl, hwr, hdiv⟩ := hk
      have hl0 : ∀ (b s z : Int), 0 ≤ b → b ≤ g → 0 ≤ s → s ≤ g → 0 ≤ z → z ≤ 4 → g < s + wrap64 (Int.tdiv z 2) → g ≤ 6 → wrap64 (Int.tdiv z 2) ≤ 2 → wrap64 (Int.tdiv z 2) ≥ 0 →
          Ev (fun k => impl_OpponentsOf.l0 k g b s z n w) (if b + 2 * (g - s) + 1 < (w.length : Int) then (rd w (b + 2 * (g - s)), rd w (b + 2 * (g - s) + 1), true) else (0, 0, false)) := by
        intro b s z hb hbg hs hsg hz hz4 hgz hg6 hz2 hz3
        refine Ev.step (f := fun _ => some _) (fun k => ?_) (Ev.now _)
        simp only [impl_OpponentsOf.l0]
        have e1 : wrap64 (s + wrap64 (Int.tdiv z 2)) = s + wrap64 (Int.tdiv z 2) := w64 (by omega) (by omega)
        have e2 : wrap64 (g - s) = g - s := w64 (by omega) (by omega)
        have e3 : wrap64 (2 * (g - s)) = 2 * (g - s) := w64 (by omega) (by omega)
        have e4 : wrap64 (b + 2 * (g - s)) = b + 2 * (g - s) := w64 (by omega) (by omega)
        have e5 : wrap64 (b + 2 * (g - s) + 1) = b + 2 * (g - s) + 1 := w64 (by omega) (by omega)
        rw [e1, e2, e3, e4, e5, if_neg (by omega)]
        by_cases c : b + 2 * (g - s) + 1 < (w.length : Int)
        · rw [if_neg (by omega), if_pos (by omega), if_pos (by omega), if_pos (by omega), if_pos c, if_pos c]
        · rw [if_pos (by omega), if_neg c]
      refine Ev.step (f := fun k => (if g < h then ((impl_BracketOf.f k n).bind fun t223 => (if 0 ≤ (wrap64 (2 * g)) then (if (wrap64 (2 * g)) < (t223.length : Int) then (if 0 ≤ (wrap64 ((wrap64 (2 * g)) + 1)) then (if (wrap64 ((wrap64 (2 * g)) + 1)) < (t223.length : Int) then (some (rd t223 (wrap64 (2 * g)), rd t223 (wrap64 ((wrap64 (2 * g)) + 1)), true)) else (none)) else (none)) else (none)) else (none))) else (impl_OpponentsOf.l0 k g 0 h h n w))) (fun k => by
        simp only [impl_OpponentsOf.j0]
        rw [if_neg (by simp), hwr]) ?_
      rw [hdiv]
      by_cases c1 : g < h
      · rw [if_pos c1]
        refine Ev.pos c1 (Ev.bind (impl_bracket n) ?_)
        have e3 : wrap64 (2 * g) = 2 * g := w64 (by omega) (by omega)
        have e5 : wrap64 (2 * g + 1) = 2 * g + 1 := w64 (by omega) (by omega)
        rw [e3, e5]
        exact Ev.pos (by omega) (Ev.pos (by omega) (Ev.pos (by omega) (Ev.pos (by omega) (Ev.now _))))
      · rw [if_neg c1]
        refine Ev.neg c1 ?_
        rcases hh2 with rfl | rfl | rfl
        · omega
        · have e : wrap64 (Int.tdiv 2 2) = 1 := by decide +kernel
          have := hl0 0 2 2 (by omega) (by omega) (by omega) (by omega) (by omega) (by omega) (by omega) (by omega) (by omega) (by omega)
          simpa using this
        · have e : wrap64 (Int.tdiv 4 2) = 2 := by decide +kernel
          have e2 : wrap64 (Int.tdiv 2 2) = 1 := by decide +kernel
          by_cases c3 : g < 6
          · have := hl0 0 4 4 (by omega) (by omega) (by omega) (by omega) (by omega) (by omega) (by omega) (by omega) (by omega) (by omega)
            simpa using this
          · refine Ev.step (f := fun k => impl_OpponentsOf.l0 k g 4 6 2 n w) (fun k => ?_) ?_
            · simp only [impl_OpponentsOf.l0]
              rw [e, show wrap64 (4 + 2) = 6 by decide +kernel, if_pos (by omega)]
            · have := hl0 4 6 2 (by omega) (by omega) (by omega) (by omega) (by omega) (by omega) (by omega) (by omega) (by omega) (by omega)
              have e6 : g = 6 := by omega
              subst e6
              simpa using this
    · have hd : decide (0 ≤ g ∧ g ≤ n - 2) = false := by simpa using hg
      rw [hd, opp_out n w g (by simp [hn] at hg ⊢; exact hg)]
      refine Ev.step (f := fun _ => some _) (fun k => ?_) (Ev.now _)
      simp only [impl_OpponentsOf.j0]
      rw [if_pos (by simp)]
  · rw [opp_out n w g (by simp [hn])]
    refine Ev.neg hn (Ev.step (f := fun _ => some _) (fun k => ?_) (Ev.now _))
    simp only [impl_OpponentsOf.j0]
    rw [if_pos trivial]
end Go.Proofs.Ytpacmpppiphfjaa.X
