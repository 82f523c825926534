/- How the laws' struct types read (printed by wip/lawrow.py). No condition. -/
import Derived.Test.YtpacmpppiphfjaaOpens
import Derived.Test.YtpacmpppiphfjaaX0
namespace Go.Proofs.Ytpacmpppiphfjaa.X
open Go.RowKit Go.Proofs.YtpacmpppiphfjaaW.PrintWords
set_option linter.unusedVariables false
set_option maxRecDepth 100000
def q32 : (Int × List Int) → Prop := (fun x : (Int × List Int) => (Lit.int .i64 x.1).wf = true ∧ (x.2.length ≤ maxLen ∧ ∀ y ∈ x.2, (Lit.int .i64 y).wf = true))
theorem o32 : Opens.Opens Try.prog 32 (Kd.iso (Kd.pair (Kd.int .i64) (Kd.slice 3 (Kd.int .i64))) (fun x => x)) q32 := (Opens.struct_ (fun x => x) (fun x => x) (fun _ => rfl) Try.underlying32 (by kernel_rfl) (Opens.more_ rfl (by kernel_rfl) (Opens.int_ Try.underlying3) (Opens.last_ rfl (by kernel_rfl) (Opens.slice_ Try.underlying25 (by kernel_rfl) (Opens.int_ Try.underlying3)))) : Opens.Opens Try.prog 32 (Kd.iso (Kd.pair (Kd.int .i64) (Kd.slice 3 (Kd.int .i64))) (fun x => x)) (fun x : (Int × List Int) => (Lit.int .i64 x.1).wf = true ∧ (x.2.length ≤ maxLen ∧ ∀ y ∈ x.2, (Lit.int .i64 y).wf = true)))
end Go.Proofs.Ytpacmpppiphfjaa.X
