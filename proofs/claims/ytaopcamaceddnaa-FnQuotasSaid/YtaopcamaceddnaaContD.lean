/- Marks over contests, and places and lists of those who qualify: what the laws' helpers tell of them. Conditions: sizes. -/
import Derived.Test.YtaopcamaceddnaaContC
import Derived.Test.YtaopcamaceddnaaContM
import Derived.Test.YtaopcamaceddnaaLawMark
import Derived.Test.YtaopcamaceddnaaZ8
import Derived.Test.YtaopcamaceddnaaZ16
import Derived.Test.YtaopcamaceddnaaZ20
import Derived.Test.YtaopcamaceddnaaZ21
import Derived.Test.YtaopcamaceddnaaZ22
import Derived.Test.YtaopcamaceddnaaZ24
namespace Go.Proofs.Ytaopcamaceddnaa.Z
set_option linter.unusedVariables false
set_option linter.unusedSimpArgs false
open Go.RowKit Go.Proofs.YtaopcamaceddnaaW.PrintWords Go.Proofs.Ytaopcamaceddnaa.PK
def totL : List (List Int) → Int
  | [] => 0
  | x :: r => x.length + totL r
theorem totL_nonneg : ∀ l : List (List Int), 0 ≤ totL l
  | [] => by simp [totL]
  | x :: r => by have := totL_nonneg r; simp only [totL]; omega
def leftC (n : Int) (l : List C1) : List Int := if contsB n l = true then (runL l).left else []
theorem impl_places (n : Int) (l : List C1) (hl : l.length ≤ 1048576) (hi : ∀ y ∈ l, y.f0.length ≤ 1048576) : Ev (fun k => impl_PlacesOf.f k n l) (leftC n l) := by
  unfold impl_PlacesOf.f leftC
  refine Ev.bind (impl_conts n l hl hi) ?_
  by_cases c : contsB n l = true
  · rw [if_pos c]
    exact Ev.pos c (Ev.bind (impl_settled l hl hi (conts_ends hl c)) (Ev.now _))
  · rw [if_neg c]
    exact Ev.neg c (Ev.now _)
end Go.Proofs.Ytaopcamaceddnaa.Z
