/- The readings of the law FnExactIsIndependent's parameters, and what is to be proved of its printed function. -/
import Derived.Test.YtkdkibdigfglhaaPFnExactIsIndependentx2
import Derived.Test.YtkdkibdigfglhaaOpens
import Derived.KernelRfl
namespace Go.Proofs.Ytkdkibdigfglhaa.PFnExactIsIndependent
open Go.RowKit Go.ChangeShapes Go.WideShapes Go.Proofs.YtkdkibdigfglhaaW.PrintWords Go.Proofs.YtkdkibdigfglhaaW.PrintLast Go.Proofs.YtkdkibdigfglhaaW.PrintMore Go.Proofs.Ytkdkibdigfglhaa
set_option linter.unusedVariables false
def g72 (x : S72) : Prop := (Lit.int .i64 x.f0).wf = true ∧ (Lit.int .i64 x.f1).wf = true
theorem op72 : Opens.OpensAs Try.prog 72 k72 g72 :=
  Opens.opens_iso (fun x : S72 => (x.f0, x.f1)) (fun a => ⟨a.1, a.2⟩) (fun _ => rfl) (Opens.opens_two Try.underlying72 (by kernel_rfl) (by kernel_rfl) (by kernel_rfl) (by kernel_rfl) (by kernel_rfl) (Opens.opens_int Try.underlying3) (Opens.opens_int Try.underlying3))
theorem op43 : Opens.OpensAs Try.prog 43 (Kd.slice 72 k72) (fun x : List (S72) => (x.length ≤ maxLen ∧ ∀ y ∈ x, g72 y)) := Opens.opens_slice Try.underlying43 (by kernel_rfl) op72
theorem op59 : Opens.OpensAs Try.prog 59 (Kd.slice 3 (Kd.int .i64)) (fun x : List (Int) => (x.length ≤ maxLen ∧ ∀ y ∈ x, (Lit.int .i64 y).wf = true)) := Opens.opens_slice Try.underlying59 (by kernel_rfl) (Opens.opens_int Try.underlying3)
def FnExactIsIndependentPure : Prop := ∀ (x0 : List (S72)) (x1 : List (Int)), (x0.length ≤ maxLen ∧ ∀ y ∈ x0, g72 y) → (x1.length ≤ maxLen ∧ ∀ y ∈ x1, (Lit.int .i64 y).wf = true) → ∃ k, laws_FnExactIsIndependent.f k x0 x1 = some true
end Go.Proofs.Ytkdkibdigfglhaa.PFnExactIsIndependent
