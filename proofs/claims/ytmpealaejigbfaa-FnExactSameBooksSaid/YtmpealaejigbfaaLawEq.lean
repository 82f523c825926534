/- Rows of numbers compared by the library and by the reference. No condition beyond sizes. -/
import Derived.Test.YtmpealaejigbfaaLawHas
import Derived.Test.YtmpealaejigbfaaX6
import Derived.Test.YtmpealaejigbfaaX11
namespace Go.Proofs.Ytmpealaejigbfaa.X
set_option linter.unusedVariables false
set_option linter.unusedSimpArgs false
open Go.RowKit Go.Proofs.YtmpealaejigbfaaW.PrintWords Go.Proofs.Ytmpealaejigbfaa.PK
theorem l21_tells (a b : List Int) (ha : a.length ≤ 35184372088832) (hb : b.length ≤ 35184372088832) : Ev (fun k => spec_l21List.f k a b) (decide (a = b)) := by
  unfold spec_l21List.f
  by_cases c : a.length = b.length
  · refine Ev.pos (by omega) ?_
    refine Ev.rows (fun i k => spec_l21List.l0 k b a (a.length : Int) (i : Int)) a b c (fun i h h' e r hr => ?_) (fun i h h' e => ?_) ?_
    · refine Ev.step (fun k => spec_l21List.l0.eq_2 ..) (Ev.pos (by omega) (Ev.pos (by omega) (Ev.pos (by omega) (Ev.pos (by omega) (Ev.pos (by rw [rd_nat h, rd_nat h']; exact e) ?_)))))
      rw [w64s (by omega)]; exact hr
    · exact Ev.step (fun k => spec_l21List.l0.eq_2 ..) (Ev.pos (by omega) (Ev.pos (by omega) (Ev.pos (by omega) (Ev.pos (by omega) (Ev.neg (by rw [rd_nat h, rd_nat h']; exact e) (Ev.now _))))))
    · exact Ev.step (fun k => spec_l21List.l0.eq_2 ..) (Ev.neg (by omega) (Ev.now _))
  · rw [decide_eq_false (fun e => c (by rw [e]))]
    exact Ev.neg (by omega) (Ev.now _)
theorem equal_tells (a b : List Int) (ha : a.length ≤ 35184372088832) (hb : b.length ≤ 35184372088832) : Ev (fun k => slices_Equal_int_int.f k a b) (decide (a = b)) := by
  unfold slices_Equal_int_int.f
  by_cases c : a.length = b.length
  · refine Ev.pos (by omega) ?_
    refine Ev.rows (fun i k => slices_Equal_int_int.l0 k a b (a.length : Int) (i : Int)) a b c (fun i h h' e r hr => ?_) (fun i h h' e => ?_) ?_
    · refine Ev.step (fun k => slices_Equal_int_int.l0.eq_2 ..) (Ev.pos (by omega) (Ev.pos (by omega) (Ev.pos (by omega) (Ev.pos (by omega) (Ev.pos (by rw [rd_nat h, rd_nat h']; exact e) ?_)))))
      rw [w64s (by omega)]; exact hr
    · exact Ev.step (fun k => slices_Equal_int_int.l0.eq_2 ..) (Ev.pos (by omega) (Ev.pos (by omega) (Ev.pos (by omega) (Ev.pos (by omega) (Ev.neg (by rw [rd_nat h, rd_nat h']; exact e) (Ev.now _))))))
    · exact Ev.step (fun k => slices_Equal_int_int.l0.eq_2 ..) (Ev.neg (by omega) (Ev.now _))
  · rw [decide_eq_false (fun e => c (by rw [e]))]
    exact Ev.neg (by omega) (Ev.now _)
end Go.Proofs.Ytmpealaejigbfaa.X
