/- The readings of the law FnExactAreValidEdges's parameters, and what is to be proved of its printed function. -/
import Derived.Test.YtkdkibdigfglhaaPFnExactAreValidEdgesx1
import Derived.Test.YtkdkibdigfglhaaOpens
import Derived.KernelRfl
namespace Go.Proofs.Ytkdkibdigfglhaa.PFnExactAreValidEdges
open Go.RowKit Go.ChangeShapes Go.WideShapes Go.Proofs.YtkdkibdigfglhaaW.PrintWords Go.Proofs.YtkdkibdigfglhaaW.PrintLast Go.Proofs.YtkdkibdigfglhaaW.PrintMore Go.Proofs.Ytkdkibdigfglhaa
set_option linter.unusedVariables false
def g72 (x : S72) : Prop := (Lit.int .i64 x.f0).wf = true ∧ (Lit.int .i64 x.f1).wf = true
theorem op72 : Opens.OpensAs Try.prog 72 k72 g72 :=
  Opens.opens_iso (fun x : S72 => (x.f0, x.f1)) (fun a => ⟨a.1, a.2⟩) (fun _ => rfl) (Opens.opens_two Try.underlying72 (by kernel_rfl) (by kernel_rfl) (by kernel_rfl) (by kernel_rfl) (by kernel_rfl) (Opens.opens_int Try.underlying3) (Opens.opens_int Try.underlying3))
theorem op43 : Opens.OpensAs Try.prog 43 (Kd.slice 72 k72) (fun x : List (S72) => (x.length ≤ maxLen ∧ ∀ y ∈ x, g72 y)) := Opens.opens_slice Try.underlying43 (by kernel_rfl) op72
def FnExactAreValidEdgesPure : Prop := ∀ (x0 : Int) (x1 : List (S72)), (Lit.int .i64 x0).wf = true → (x1.length ≤ maxLen ∧ ∀ y ∈ x1, g72 y) → ∃ k, laws_FnExactAreValidEdges.f k x0 x1 = some true
end Go.Proofs.Ytkdkibdigfglhaa.PFnExactAreValidEdges
