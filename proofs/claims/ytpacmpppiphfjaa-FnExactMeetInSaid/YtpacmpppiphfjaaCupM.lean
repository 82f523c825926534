/- When two seeds meet: program and reference tell the same. No condition. -/
import Derived.Test.YtpacmpppiphfjaaCupA
import Derived.Test.YtpacmpppiphfjaaX8
import Derived.Test.YtpacmpppiphfjaaX10
namespace Go.Proofs.Ytpacmpppiphfjaa.X
set_option linter.unusedVariables false
set_option linter.unusedSimpArgs false
open Go.RowKit Go.Proofs.YtpacmpppiphfjaaW.PrintWords Go.Proofs.Ytpacmpppiphfjaa.PK
theorem meet2 : ∀ a b : Fin 3, (spec_MeetIn.f 30 2 a.val b.val).isSome = true ∧ impl_MeetIn.f 30 2 a.val b.val = spec_MeetIn.f 30 2 a.val b.val := by decide +kernel
theorem meet4 : ∀ a b : Fin 5, (spec_MeetIn.f 30 4 a.val b.val).isSome = true ∧ impl_MeetIn.f 30 4 a.val b.val = spec_MeetIn.f 30 4 a.val b.val := by decide +kernel
theorem meet8 : ∀ a b : Fin 9, (spec_MeetIn.f 30 8 a.val b.val).isSome = true ∧ impl_MeetIn.f 30 8 a.val b.val = spec_MeetIn.f 30 8 a.val b.val := by decide +kernel
theorem meet_of {n a b : Int} (h : (spec_MeetIn.f 30 n a b).isSome = true ∧ impl_MeetIn.f 30 n a b = spec_MeetIn.f 30 n a b) : ∃ v, Ev (fun k => spec_MeetIn.f k n a b) v ∧ Ev (fun k => impl_MeetIn.f k n a b) v := by
  obtain ⟨h1, h2⟩ := h
  obtain ⟨v, hv⟩ := Option.isSome_iff_exists.1 h1
  exact ⟨v, Ev.of (spec_MeetIn.mono n a b) hv, Ev.of (impl_MeetIn.mono n a b) (h2.trans hv)⟩
theorem meet_same (n a b : Int) : ∃ v, Ev (fun k => spec_MeetIn.f k n a b) v ∧ Ev (fun k => impl_MeetIn.f k n a b) v := by
  have hs0 : Ev (fun k => spec_MeetIn.j0 k n a b true) 0 := Ev.step (f := fun _ => some 0) (fun k => by simp only [spec_MeetIn.j0]; rw [if_pos trivial]) (Ev.now _)
  have hi0 : Ev (fun k => impl_MeetIn.j0 k n a b true) 0 := Ev.step (f := fun _ => some 0) (fun k => by simp only [impl_MeetIn.j0]; rw [if_pos trivial]) (Ev.now _)
  by_cases hn : sizeB n = true
  · by_cases ha : 1 ≤ a ∧ a ≤ n
    · by_cases hb : 1 ≤ b ∧ b ≤ n
      · obtain ⟨x, rfl⟩ := Int.eq_ofNat_of_zero_le (show 0 ≤ a by omega)
        obtain ⟨y, rfl⟩ := Int.eq_ofNat_of_zero_le (show 0 ≤ b by omega)
        rcases size_cases hn with rfl | rfl | rfl
        · exact meet_of (meet2 ⟨x, by omega⟩ ⟨y, by omega⟩)
        · exact meet_of (meet4 ⟨x, by omega⟩ ⟨y, by omega⟩)
        · exact meet_of (meet8 ⟨x, by omega⟩ ⟨y, by omega⟩)
      · refine ⟨0, ?_, ?_⟩
        · simp only [spec_MeetIn.f, spec_size, spec_in]
          exact Ev.bind0 rfl (Ev.pos hn (Ev.bind0 rfl (Ev.pos (by simpa using ha) (Ev.bind0 rfl (Ev.neg (by simpa using hb) hs0)))))
        · simp only [impl_MeetIn.f, impl_size, impl_in]
          exact Ev.bind0 rfl (Ev.pos hn (Ev.bind0 rfl (Ev.pos (by simpa using ha) (Ev.bind0 rfl (Ev.neg (by simpa using hb) hi0)))))
    · refine ⟨0, ?_, ?_⟩
      · simp only [spec_MeetIn.f, spec_size, spec_in]
        exact Ev.bind0 rfl (Ev.pos hn (Ev.bind0 rfl (Ev.neg (by simpa using ha) hs0)))
      · simp only [impl_MeetIn.f, impl_size, impl_in]
        exact Ev.bind0 rfl (Ev.pos hn (Ev.bind0 rfl (Ev.neg (by simpa using ha) hi0)))
  · refine ⟨0, ?_, ?_⟩
    · simp only [spec_MeetIn.f, spec_size]
      exact Ev.bind0 rfl (Ev.neg hn hs0)
    · simp only [impl_MeetIn.f, impl_size]
      exact Ev.bind0 rfl (Ev.neg hn hi0)
end Go.Proofs.Ytpacmpppiphfjaa.X
