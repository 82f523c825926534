/- How the laws' struct types read (printed by wip/lawrow.py). No condition. -/
import Derived.Test.YtaopcamaceddnaaOpens
import Derived.Test.YtaopcamaceddnaaY0
namespace Go.Proofs.Ytaopcamaceddnaa.Y
open Go.RowKit Go.Proofs.YtaopcamaceddnaaW.PrintWords
set_option linter.unusedVariables false
set_option maxRecDepth 100000
theorem o52 : Opens.Opens Try.prog 52 k52 (fun x => ((x.f0.length ≤ maxLen ∧ ∀ y ∈ x.f0, (Lit.int .i64 y).wf = true) ∧ (Lit.int .i64 x.f1).wf = true ∧ (Lit.int .i64 x.f2).wf = true)) := Opens.struct_ _ (fun p => (⟨p.1, p.2.1, p.2.2⟩ : S52)) (fun _ => rfl) Try.underlying52 (by kernel_rfl) (Opens.more_ rfl (by kernel_rfl) (Opens.slice_ Try.underlying35 (by kernel_rfl) (Opens.int_ Try.underlying3)) (Opens.more_ rfl (by kernel_rfl) (Opens.int_ Try.underlying3) (Opens.last_ rfl (by kernel_rfl) (Opens.int_ Try.underlying3))))
end Go.Proofs.Ytaopcamaceddnaa.Y
