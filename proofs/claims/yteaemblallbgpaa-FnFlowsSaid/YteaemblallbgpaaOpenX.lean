/- How the laws' struct types read (printed by wip/lawrow.py). No condition. -/
import Derived.Test.YteaemblallbgpaaOpens
import Derived.Test.YteaemblallbgpaaX0
namespace Go.Proofs.Yteaemblallbgpaa.X
open Go.RowKit Go.Proofs.YteaemblallbgpaaW.PrintWords
set_option linter.unusedVariables false
set_option maxRecDepth 100000
theorem o77 : Opens.Opens Try.prog 77 k77 (fun x => ((Lit.int .i64 x.f0).wf = true ∧ (Lit.int .i64 x.f1).wf = true ∧ (Lit.int .i64 x.f2).wf = true)) := Opens.struct_ _ (fun p => (⟨p.1, p.2.1, p.2.2⟩ : S77)) (fun _ => rfl) Try.underlying77 (by kernel_rfl) (Opens.more_ rfl (by kernel_rfl) (Opens.int_ Try.underlying3) (Opens.more_ rfl (by kernel_rfl) (Opens.int_ Try.underlying3) (Opens.last_ rfl (by kernel_rfl) (Opens.int_ Try.underlying3))))
def q24 : (Int × List (S77)) → Prop := (fun x : (Int × List (S77)) => (Lit.int .i64 x.1).wf = true ∧ (x.2.length ≤ maxLen ∧ ∀ y ∈ x.2, ((Lit.int .i64 y.f0).wf = true ∧ (Lit.int .i64 y.f1).wf = true ∧ (Lit.int .i64 y.f2).wf = true)))
theorem o24 : Opens.Opens Try.prog 24 (Kd.iso (Kd.pair (Kd.int .i64) (Kd.slice 77 k77)) (fun x => x)) q24 := (Opens.struct_ (fun x => x) (fun x => x) (fun _ => rfl) Try.underlying24 (by kernel_rfl) (Opens.more_ rfl (by kernel_rfl) (Opens.int_ Try.underlying3) (Opens.last_ rfl (by kernel_rfl) (Opens.slice_ Try.underlying22 (by kernel_rfl) o77))) : Opens.Opens Try.prog 24 (Kd.iso (Kd.pair (Kd.int .i64) (Kd.slice 77 k77)) (fun x => x)) (fun x : (Int × List (S77)) => (Lit.int .i64 x.1).wf = true ∧ (x.2.length ≤ maxLen ∧ ∀ y ∈ x.2, ((Lit.int .i64 y.f0).wf = true ∧ (Lit.int .i64 y.f1).wf = true ∧ (Lit.int .i64 y.f2).wf = true))))
end Go.Proofs.Yteaemblallbgpaa.X
