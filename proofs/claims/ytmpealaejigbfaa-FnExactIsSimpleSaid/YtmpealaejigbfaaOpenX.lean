/- How the laws' struct types read (printed by wip/lawrow.py). No condition. -/
import Derived.Test.YtmpealaejigbfaaOpens
import Derived.Test.YtmpealaejigbfaaX0
namespace Go.Proofs.Ytmpealaejigbfaa.X
open Go.RowKit Go.Proofs.YtmpealaejigbfaaW.PrintWords
set_option linter.unusedVariables false
set_option maxRecDepth 100000
theorem o24 : Opens.Opens Try.prog 24 (Kd.iso (Kd.pair (Kd.int .i64) (Kd.slice 3 (Kd.int .i64))) (fun x => x)) (fun x : (Int × List Int) => (Lit.int .i64 x.1).wf = true ∧ (x.2.length ≤ maxLen ∧ ∀ y ∈ x.2, (Lit.int .i64 y).wf = true)) := Opens.struct_ (fun x => x) (fun x => x) (fun _ => rfl) Try.underlying24 (by kernel_rfl) (Opens.more_ rfl (by kernel_rfl) (Opens.int_ Try.underlying3) (Opens.last_ rfl (by kernel_rfl) (Opens.slice_ Try.underlying22 (by kernel_rfl) (Opens.int_ Try.underlying3))))
theorem o31 : Opens.Opens Try.prog 31 (Kd.iso (Kd.pair (Kd.int .i64) (Kd.pair (Kd.int .i64) (Kd.pair (Kd.int .i64) (Kd.pair (Kd.slice 3 (Kd.int .i64)) Kd.bool)))) (fun x => x)) (fun x : (Int × Int × Int × List Int × Bool) => (Lit.int .i64 x.1).wf = true ∧ (Lit.int .i64 x.2.1).wf = true ∧ (Lit.int .i64 x.2.2.1).wf = true ∧ (x.2.2.2.1.length ≤ maxLen ∧ ∀ y ∈ x.2.2.2.1, (Lit.int .i64 y).wf = true) ∧ True) := Opens.struct_ (fun x => x) (fun x => x) (fun _ => rfl) Try.underlying31 (by kernel_rfl) (Opens.more_ rfl (by kernel_rfl) (Opens.int_ Try.underlying3) (Opens.more_ rfl (by kernel_rfl) (Opens.int_ Try.underlying3) (Opens.more_ rfl (by kernel_rfl) (Opens.int_ Try.underlying3) (Opens.more_ rfl (by kernel_rfl) (Opens.slice_ Try.underlying22 (by kernel_rfl) (Opens.int_ Try.underlying3)) (Opens.last_ rfl (by kernel_rfl) (Opens.bool_ Try.underlying4))))))
end Go.Proofs.Ytmpealaejigbfaa.X
