/- How the laws' struct types read (printed by wip/lawrow.py). No condition. -/
import Derived.Test.YtipojkfkcelejaaOpens
import Derived.Test.YtipojkfkcelejaaX0
namespace Go.Proofs.Ytipojkfkcelejaa.X
open Go.RowKit Go.Proofs.YtipojkfkcelejaaW.PrintWords
set_option linter.unusedVariables false
set_option maxRecDepth 100000
def q28 : (Int × List (List Int) × Int) → Prop := (fun x : (Int × List (List Int) × Int) => (Lit.int .i64 x.1).wf = true ∧ (x.2.1.length ≤ maxLen ∧ ∀ y ∈ x.2.1, (y.length ≤ maxLen ∧ ∀ yy ∈ y, (Lit.int .i64 yy).wf = true)) ∧ (Lit.int .i64 x.2.2).wf = true)
theorem o28 : Opens.Opens Try.prog 28 (Kd.iso (Kd.pair (Kd.int .i64) (Kd.pair (Kd.slice 22 (Kd.slice 3 (Kd.int .i64))) (Kd.int .i64))) (fun x => x)) q28 := (Opens.struct_ (fun x => x) (fun x => x) (fun _ => rfl) Try.underlying28 (by kernel_rfl) (Opens.more_ rfl (by kernel_rfl) (Opens.int_ Try.underlying3) (Opens.more_ rfl (by kernel_rfl) (Opens.slice_ Try.underlying26 (by kernel_rfl) (Opens.slice_ Try.underlying22 (by kernel_rfl) (Opens.int_ Try.underlying3))) (Opens.last_ rfl (by kernel_rfl) (Opens.int_ Try.underlying3)))) : Opens.Opens Try.prog 28 (Kd.iso (Kd.pair (Kd.int .i64) (Kd.pair (Kd.slice 22 (Kd.slice 3 (Kd.int .i64))) (Kd.int .i64))) (fun x => x)) (fun x : (Int × List (List Int) × Int) => (Lit.int .i64 x.1).wf = true ∧ (x.2.1.length ≤ maxLen ∧ ∀ y ∈ x.2.1, (y.length ≤ maxLen ∧ ∀ yy ∈ y, (Lit.int .i64 yy).wf = true)) ∧ (Lit.int .i64 x.2.2).wf = true))
end Go.Proofs.Ytipojkfkcelejaa.X
