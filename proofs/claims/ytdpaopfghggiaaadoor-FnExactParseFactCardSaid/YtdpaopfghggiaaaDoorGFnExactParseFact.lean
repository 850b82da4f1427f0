/- The readings of the law FnExactParseFact's parameters, and what is to be proved of its printed function. -/
import Derived.Test.YtdpaopfghggiaaaDoorPFnExactParseFactx5
import Derived.Test.YtdpaopfghggiaaaDoorOpens
import Derived.KernelRfl
namespace Go.Proofs.YtdpaopfghggiaaaDoor.PFnExactParseFact
open Go.RowKit Go.ChangeShapes Go.WideShapes Go.Proofs.YtdpaopfghggiaaaDoorW.PrintWords Go.Proofs.YtdpaopfghggiaaaDoorW.PrintLast Go.Proofs.YtdpaopfghggiaaaDoorW.PrintMore Go.Proofs.YtdpaopfghggiaaaDoor
set_option linter.unusedVariables false
def g25 (x : S25) : Prop := x.f0.size ≤ maxLen ∧ (Lit.int .i64 x.f1).wf = true ∧ (Lit.int .i64 x.f2).wf = true
theorem op25 : Opens.OpensAs Tryd.prog 25 k25 g25 :=
  Opens.opens_iso (fun x : S25 => (x.f0, x.f1, x.f2)) (fun a => ⟨a.1, a.2.1, a.2.2⟩) (fun _ => rfl) (Opens.opens_three Tryd.underlying25 (by kernel_rfl) (by kernel_rfl) (by kernel_rfl) (by kernel_rfl) (by kernel_rfl) (by kernel_rfl) (by kernel_rfl) (Opens.opens_string Tryd.underlying9) (Opens.opens_int Tryd.underlying3) (Opens.opens_int Tryd.underlying3))
theorem op44 : Opens.OpensAs Tryd.prog 44 (Kd.slice 25 k25) (fun x : List (S25) => (x.length ≤ maxLen ∧ ∀ y ∈ x, g25 y)) := Opens.opens_slice Tryd.underlying44 (by kernel_rfl) op25
def FnExactParseFactPure : Prop := ∀ (x0 : List (S25)) (x1 : ByteArray), (x0.length ≤ maxLen ∧ ∀ y ∈ x0, g25 y) → x1.size ≤ 140737488351232 → ∃ k, laws_FnExactParseFact.f k x0 x1 = some true
end Go.Proofs.YtdpaopfghggiaaaDoor.PFnExactParseFact
