/- The ends of a net: program and reference tell the same. No condition beyond sizes. -/
import Derived.Test.YtgalpgakdcfilaaGreatNetK
import Derived.Test.YtgalpgakdcfilaaGreatL27
import Derived.Test.YtgalpgakdcfilaaGreatL54
namespace Go.Proofs.YtgalpgakdcfilaaGreat.L
set_option linter.unusedVariables false
set_option linter.unusedSimpArgs false
open Go.RowKit Go.Proofs.YtgalpgakdcfilaaGreatW.PrintWords Go.Proofs.YtgalpgakdcfilaaGreat.PK
def endsB(n:Int)(w:List P1)(a b:Int):Bool:=netB n w&&(decide (0≤a∧a≤n-1)&&(decide (0≤b∧b≤n-1)&&(a != b)))
theorem spec_ends(n:Int)(w:List P1)(a b:Int)(hw:w.length≤1099511627776):Ev (fun k=>spec_l17Ends.f k n w a b) (endsB n w a b):=by
  refine Ev.bind (spec_net n w hw) ?_
  unfold endsB
  by_cases hn:netB n w=true
  · obtain⟨hn2,hl,e1,hp⟩:=net_facts hn
    rw[hn,e1,Bool.true_and]
    refine Ev.pos rfl (Ev.bind0 (spec_in _ _ _) ?_)
    by_cases ha:0≤a∧a≤n-1
    · rw[decide_eq_true ha,Bool.true_and]
      refine Ev.pos rfl (Ev.bind0 (spec_in _ _ _) ?_)
      by_cases hb:0≤b∧b≤n-1
      · rw[decide_eq_true hb,Bool.true_and]
        exact Ev.pos rfl (Ev.now _)
      · rw[decide_eq_false hb]
        exact Ev.neg (by simp) (Ev.now _)
    · rw[decide_eq_false ha]
      exact Ev.neg (by simp) (Ev.now _)
  · rw[Bool.eq_false_iff.2 hn]
    exact Ev.neg (by simp) (Ev.now _)
theorem impl_ends(n:Int)(w:List P1)(a b:Int)(hw:w.length≤1099511627776):Ev (fun k=>impl_areEnds.f k n w a b) (endsB n w a b):=by
  refine Ev.bind (impl_net n w hw) ?_
  unfold endsB
  by_cases hn:netB n w=true
  · obtain⟨hn2,hl,e1,hp⟩:=net_facts hn
    rw[hn,e1,Bool.true_and]
    refine Ev.pos rfl (Ev.bind0 (impl_in _ _ _) ?_)
    by_cases ha:0≤a∧a≤n-1
    · rw[decide_eq_true ha,Bool.true_and]
      refine Ev.pos rfl (Ev.bind0 (impl_in _ _ _) ?_)
      by_cases hb:0≤b∧b≤n-1
      · rw[decide_eq_true hb,Bool.true_and]
        exact Ev.pos rfl (Ev.now _)
      · rw[decide_eq_false hb]
        exact Ev.neg (by simp) (Ev.now _)
    · rw[decide_eq_false ha]
      exact Ev.neg (by simp) (Ev.now _)
  · rw[Bool.eq_false_iff.2 hn]
    exact Ev.neg (by simp) (Ev.now _)
theorem ends_facts{n:Int}{w:List P1}{a b:Int}(h:endsB n w a b=true):netB n w=true∧(0≤a∧a≤n-1)∧(0≤b∧b≤n-1)∧a≠b:=by
  simpa [endsB] using h
end Go.Proofs.YtgalpgakdcfilaaGreat.L
