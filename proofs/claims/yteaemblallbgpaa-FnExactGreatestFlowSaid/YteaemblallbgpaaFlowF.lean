/- The greatest flow of both is the same. Conditions: a valid net. -/
import Derived.Test.YteaemblallbgpaaFlowF0
import Derived.Test.YteaemblallbgpaaFlowD
import Derived.Test.YteaemblallbgpaaX34
namespace Go.Proofs.Yteaemblallbgpaa.X
set_option linter.unusedVariables false
set_option linter.unusedSimpArgs false
open Go.RowKit Go.Proofs.YteaemblallbgpaaW.PrintWords Go.Proofs.Yteaemblallbgpaa.PK Go.Proofs.YteaemblallbgpaaW.PrintMore
theorem spec_stops {n : Nat} {w : List P1} (he : Ends n w) {a b : Nat} (ha : a < n) (hb : b < n) : Stops n w a b (fun f k => spec_GreatestFlow.l0 k (a : Int) (b : Int) f (n : Int) w) := fun f hf c => by
  have hl : (reachR n w f a).length = n := by obtain ⟨_, _, T⟩ := reachR_tree he f a ha; exact T.1
  refine Ev.step (fun k => spec_GreatestFlow.l0.eq_2 ..) (Ev.bind (spec_reach_tells he f hf.1.1 a ha) (Ev.pos (by omega) (Ev.pos (by simp; omega) (Ev.neg ?_ (Ev.now _)))))
  rw [rd_seen _ _ (by omega)]; exact c
theorem spec_steps {n : Nat} {w : List P1} (he : Ends n w) {a b : Nat} (ha : a < n) (hb : b < n) : Steps n w a b (fun f k => spec_GreatestFlow.l0 k (a : Int) (b : Int) f (n : Int) w) := fun f rk cc r hf T c g3 => by
  have hl := T.1
  refine Ev.step (fun k => spec_GreatestFlow.l0.eq_2 ..) (Ev.bind (spec_reach_tells he f hf.1.1 a ha) (Ev.pos (by omega) (Ev.pos (by simp; omega) (Ev.pos (by rw [rd_seen _ _ (by omega)]; exact c) ?_))))
  exact spec_room he T hf.1.1 _ _ _ (rk b) b 1000 hb c (Nat.le_refl _) (spec_chg he T _ _ _ _ (rk b) b f hf.1.1 hb c (Nat.le_refl _) g3)
/-- The greatest flow of both. -/
theorem gf_same (n : Int) (w : List P1) (a b : Int) (hw : w.length ≤ 1099511627776) :
    ∃ v : List Int × Bool, v.1.length ≤ 120 ∧ Ev (fun k => spec_GreatestFlow.f k n w a b) v ∧ Ev (fun k => impl_GreatestFlow.f k n w a b) v := by
  by_cases c : endsB n w a b = true
  · obtain ⟨v, hG, h⟩ := great_is c
    refine ⟨v, great_small hG, ?_, impl_great c hG h⟩
    obtain ⟨m, s, t, rfl, rfl, rfl, h1, h2, h3, he, _⟩ := hG
    refine Ev.bind (spec_ends _ w _ _ hw) (Ev.pos c (Ev.pos (by omega) (Ev.pos (by omega) ?_)))
    rw [Int.toNat_natCast]
    exact h m s t rfl rfl rfl _ (spec_stops he h1 h2) (spec_steps he h1 h2)
  · exact ⟨([], false), by simp, Ev.bind (spec_ends _ w _ _ hw) (Ev.neg c (Ev.now _)), Ev.bind (impl_ends _ w _ _ hw) (Ev.neg c (Ev.now _))⟩
end Go.Proofs.Yteaemblallbgpaa.X
