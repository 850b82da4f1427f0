/- The readings of the law FnExactRelationIndex's parameters, and what is to be proved of its printed function. -/
import Derived.Test.YtkdkibdigfglhaaPFnExactRelationIndexx2
import Derived.Test.YtkdkibdigfglhaaOpens
import Derived.KernelRfl
namespace Go.Proofs.Ytkdkibdigfglhaa.PFnExactRelationIndex
open Go.RowKit Go.ChangeShapes Go.WideShapes Go.Proofs.YtkdkibdigfglhaaW.PrintWords Go.Proofs.YtkdkibdigfglhaaW.PrintLast Go.Proofs.YtkdkibdigfglhaaW.PrintMore Go.Proofs.Ytkdkibdigfglhaa
set_option linter.unusedVariables false
def g29 (x : S29) : Prop := x.f0.size ≤ maxLen ∧ (Lit.int .i64 x.f1).wf = true ∧ (Lit.int .i64 x.f2).wf = true
theorem op29 : Opens.OpensAs Try.prog 29 k29 g29 :=
  Opens.opens_iso (fun x : S29 => (x.f0, x.f1, x.f2)) (fun a => ⟨a.1, a.2.1, a.2.2⟩) (fun _ => rfl) (Opens.opens_three Try.underlying29 (by kernel_rfl) (by kernel_rfl) (by kernel_rfl) (by kernel_rfl) (by kernel_rfl) (by kernel_rfl) (by kernel_rfl) (Opens.opens_string Try.underlying9) (Opens.opens_int Try.underlying3) (Opens.opens_int Try.underlying3))
theorem op50 : Opens.OpensAs Try.prog 50 (Kd.slice 29 k29) (fun x : List (S29) => (x.length ≤ maxLen ∧ ∀ y ∈ x, g29 y)) := Opens.opens_slice Try.underlying50 (by kernel_rfl) op29
def FnExactRelationIndexPure : Prop := ∀ (x0 : List (S29)) (x1 : ByteArray), (x0.length ≤ maxLen ∧ ∀ y ∈ x0, g29 y) → x1.size ≤ 140737488351232 → ∃ k, laws_FnExactRelationIndex.f k x0 x1 = some true
end Go.Proofs.Ytkdkibdigfglhaa.PFnExactRelationIndex
