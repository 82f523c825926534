/- The pure part of the law FnBrackets: a cup goes on with one of the two teams of the next game, until there is a champion. Conditions: those of the row. -/
import Derived.Test.YtpacmpppiphfjaaCupD
import Derived.Test.YtpacmpppiphfjaaDrawN
import Derived.Test.YtpacmpppiphfjaaX21
import Derived.Test.YtpacmpppiphfjaaX22
import Derived.Test.YtpacmpppiphfjaaX23
namespace Go.Proofs.Ytpacmpppiphfjaa.X
set_option linter.unusedVariables false
set_option linter.unusedSimpArgs false
open Go.RowKit Go.Proofs.YtpacmpppiphfjaaW.PrintWords Go.Proofs.Ytpacmpppiphfjaa.PK
theorem once_tells (b : List Int) (i h n : Int) (hi : 0 ≤ i) (hb : b.length ≤ 1099511627776) (hn : 1 ≤ n) (hn2 : n ≤ 256) : ∃ t j g, spec_l01Once.f b i h n = some (t, j, g) ∧ 0 ≤ j := by
  obtain ⟨x, j, g, e, _, _, hj⟩ := below_tells b i h n hi hb hn hn2
  unfold spec_l01Once.f
  rw [e, Option.bind_some]
  exact ⟨_, _, _, rfl, hj⟩
theorem draw_loop (b : List Int) (hb : b.length ≤ 1099511627776) (n : Int) : ∀ (d : Nat) (w : List Int) (i h : Int), cupB n w = true → (w.length : Int) + d ≤ n - 1 → 0 ≤ i → ∃ v j g, Ev (fun k => spec_l14Draw.l0 k (d : Int) b i h n w) (n, v, j, g) ∧ cupB n v = true
  | 0, w, i, h, hc, _, _ => ⟨w, i, h, Ev.step (fun k => spec_l14Draw.l0.eq_2 ..) (Ev.neg (by omega) (Ev.now _)), hc⟩
  | d + 1, w, i, h, hc, hl, hi => by
    have h8 := size_ge ((cupB_iff _ _).1 hc).1
    obtain ⟨t, j, g, e, hj⟩ := once_tells b i h 2 hi hb (by omega) (by omega)
    have ho := spec_opp n w (w.length : Int) (by omega)
    cases t with
    | true =>
      obtain ⟨v, j', g', hv, hcv⟩ := draw_loop b hb n d (w ++ [(opp n w w.length).2.1]) j g (cup_snoc n w _ hc (by omega) (.inr rfl)) (by simp; omega) hj
      refine ⟨v, j', g', Ev.step (fun k => spec_l14Draw.l0.eq_2 ..) (Ev.pos (by omega) (Ev.bind ho (Ev.bind0 e (Ev.pos rfl (Ev.pos (by omega) ?_))))), hcv⟩
      rw [show wrap64 (((d + 1 : Nat) : Int) - 1) = (d : Int) by rw [w64 (by omega) (by omega)]; omega]
      exact hv
    | false =>
      obtain ⟨v, j', g', hv, hcv⟩ := draw_loop b hb n d (w ++ [(opp n w w.length).1]) j g (cup_snoc n w _ hc (by omega) (.inl rfl)) (by simp; omega) hj
      refine ⟨v, j', g', Ev.step (fun k => spec_l14Draw.l0.eq_2 ..) (Ev.pos (by omega) (Ev.bind ho (Ev.bind0 e (Ev.neg (by simp) (Ev.pos (by omega) ?_))))), hcv⟩
      rw [show wrap64 (((d + 1 : Nat) : Int) - 1) = (d : Int) by rw [w64 (by omega) (by omega)]; omega]
      exact hv
theorem draw_tells (l : List Int) (hb : l.length ≤ 1099511627776) : ∃ n w, Ev (fun k => spec_MakeCup.f k l) (n, w) ∧ cupB n w = true := by
  obtain ⟨h0, e0⟩ := new_tells l hb
  obtain ⟨x, j, g, e, hx0, hx1, hj⟩ := below_tells l 0 h0 3 (by omega) hb (by omega) (by omega)
  have hp : spec_l01Pick.f l 0 h0 [2, 4, 8] = some (rd [2, 4, 8] x, j, g) := by
    unfold spec_l01Pick.f
    rw [show (([2, 4, 8] : List Int).length : Int) = 3 from rfl, e, Option.bind_some, if_pos hx0, if_pos hx1]
  have hn : sizeB (rd [2, 4, 8] x) = true := by
    have : x = 0 ∨ x = 1 ∨ x = 2 := by omega
    rcases this with rfl | rfl | rfl <;> decide +kernel
  have h8 := size_ge hn
  obtain ⟨y, j2, g2, e2, hy0, hy1, hj2⟩ := below_tells l j g (rd [2, 4, 8] x) hj hb (by omega) (by omega)
  obtain ⟨q, rfl⟩ := Int.eq_ofNat_of_zero_le hy0
  obtain ⟨v, j3, g3, hv, hc⟩ := draw_loop l hb (rd [2, 4, 8] x) q [] j2 g2 (cup_nil hn) (by simp; omega) hj2
  exact ⟨_, v, Ev.bind e0 (Ev.bind (a := (rd [2, 4, 8] x, v, j3, g3)) (Ev.bind0 hp (Ev.bind0 e2 hv)) (Ev.now _)), hc⟩
theorem play (l : List Int) (hb : l.length ≤ 1099511627776) (n : Int) : ∀ (d k0 : Nat) (w : List Int), k0 + d = 8 → cupB n w = true → k0 ≤ w.length → Ev (fun k => laws_FnBrackets.l0 k l (k0 : Int) n w) true
  | 0, k0, w, hk, hc, hl => by
    have := cupB_len hc
    have := size_ge ((cupB_iff _ _).1 hc).1
    omega
  | d + 1, k0, w, hk, hc, hl => by
    have hs := ((cupB_iff _ _).1 hc).1
    have h8 := size_ge hs
    have hlen := cupB_len hc
    refine Ev.step (fun k => laws_FnBrackets.l0.eq_2 ..) (Ev.pos (by omega) (Ev.bind (impl_opp n w (w.length : Int) (by omega)) ?_))
    by_cases c : (w.length : Int) ≤ n - 2
    · obtain ⟨g1, g2, g3, g4⟩ := good_teams hc c
      obtain ⟨w1, c1⟩ := won_of (opp n w w.length).1 hc c (.inl rfl)
      obtain ⟨w2, c2⟩ := won_of (opp n w w.length).2.1 hc c (.inr rfl)
      have i1 := impl_win n w (opp n w w.length).1 (by omega)
      have i2 := impl_win n w (opp n w w.length).2.1 (by omega)
      have i3 := impl_win n w 9 (by omega)
      rw [w1] at i1
      rw [w2] at i2
      rw [lost9 hc c] at i3
      obtain ⟨v, hv⟩ := makeNum_tells l (60 + k0) (by omega) hb
      have r1 := play l hb n d (k0 + 1) (w ++ [(opp n w w.length).1]) (by omega) c1 (by simp; omega)
      have r2 := play l hb n d (k0 + 1) (w ++ [(opp n w w.length).2.1]) (by omega) c2 (by simp; omega)
      have hw : wrap64 (60 + (k0 : Int)) = ((60 + k0 : Nat) : Int) := by rw [w64 (by omega) (by omega)]; omega
      refine Ev.pos g1 (Ev.bind i1 (Ev.bind i2 (Ev.bind i3 (Ev.neg g2 (Ev.pos rfl (Ev.pos rfl (Ev.neg (by simp) (Ev.pos ?_ ?_)))))))) 
      · rw [w64 (by omega) (by omega)]; simp
      · refine Ev.step (fun k => laws_FnBrackets.j1.eq_2 ..) (Ev.neg (by simp) ?_)
        rw [hw]
        refine Ev.bind hv ?_
        by_cases cv : Int.tmod v 2 = 0
        · refine Ev.pos cv ?_
          rw [w64s (by omega)]; exact r2
        · refine Ev.neg cv ?_
          rw [w64s (by omega)]; exact r1
    · rw [opp_out n w _ (by omega)]
      have he : (w.length : Int) = n - 1 := by omega
      have hp := good_end hc he
      refine Ev.neg (by decide) (Ev.pos (by rw [minus1 hs]; exact he) (Ev.bind (impl_champ n w (by omega)) ?_))
      rw [show decide (champ n w > 0) = true by simpa using hp]
      exact Ev.now _
theorem FnBrackets.pure : ∀ (l0 : List Int), (l0.length ≤ maxLen ∧ ∀ y ∈ l0, (Lit.int .u8 y).wf = true) → ∃ k, laws_FnBrackets.f k l0 = some true := by
  intro l hl
  refine Ev.rounds (g := fun k => laws_FnBrackets.f k l) ?_
  unfold laws_FnBrackets.f
  by_cases c : (l.length : Int) > 1048576
  · exact Ev.pos c (Ev.now _)
  · obtain ⟨n, w, e, hc⟩ := draw_tells l (by omega)
    exact Ev.neg c (Ev.bind e (play l (by omega) n 8 0 w (by omega) hc (by omega)))
end Go.Proofs.Ytpacmpppiphfjaa.X
