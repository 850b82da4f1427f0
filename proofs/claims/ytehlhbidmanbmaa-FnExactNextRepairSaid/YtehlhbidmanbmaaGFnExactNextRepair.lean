/- The readings of the law FnExactNextRepair's parameters, and what is to be proved of its printed function. -/
import Derived.Test.YtehlhbidmanbmaaPFnExactNextRepairx20
import Derived.Test.YtehlhbidmanbmaaOpens
import Derived.KernelRfl
namespace Go.Proofs.Ytehlhbidmanbmaa.PFnExactNextRepair
open Go.RowKit Go.ChangeShapes Go.WideShapes Go.Proofs.YtehlhbidmanbmaaW.PrintWords Go.Proofs.YtehlhbidmanbmaaW.PrintLast Go.Proofs.YtehlhbidmanbmaaW.PrintMore Go.Proofs.Ytehlhbidmanbmaa
set_option linter.unusedVariables false
def g85 (x : S85) : Prop := x.f0.size ≤ maxLen ∧ (Lit.int .i64 x.f1).wf = true ∧ (Lit.int .i64 x.f2).wf = true
theorem op85 : Opens.OpensAs Try.prog 85 k85 g85 :=
  Opens.opens_iso (fun x : S85 => (x.f0, x.f1, x.f2)) (fun a => ⟨a.1, a.2.1, a.2.2⟩) (fun _ => rfl) (Opens.opens_three Try.underlying85 (by kernel_rfl) (by kernel_rfl) (by kernel_rfl) (by kernel_rfl) (by kernel_rfl) (by kernel_rfl) (by kernel_rfl) (Opens.opens_string Try.underlying9) (Opens.opens_int Try.underlying3) (Opens.opens_int Try.underlying3))
theorem op22 : Opens.OpensAs Try.prog 22 (Kd.slice 85 k85) (fun x : List (S85) => (x.length ≤ maxLen ∧ ∀ y ∈ x, g85 y)) := Opens.opens_slice Try.underlying22 (by kernel_rfl) op85
theorem op26 : Opens.OpensAs Try.prog 26 (Kd.slice 3 (Kd.int .i64)) (fun x : List (Int) => (x.length ≤ maxLen ∧ ∀ y ∈ x, (Lit.int .i64 y).wf = true)) := Opens.opens_slice Try.underlying26 (by kernel_rfl) (Opens.opens_int Try.underlying3)
def g47 (x : S47) : Prop := (Lit.int .i64 x.f0).wf = true ∧ (x.f1.length ≤ maxLen ∧ ∀ y ∈ x.f1, (Lit.int .i64 y).wf = true)
theorem op47 : Opens.OpensAs Try.prog 47 k47 g47 :=
  Opens.opens_iso (fun x : S47 => (x.f0, x.f1)) (fun a => ⟨a.1, a.2⟩) (fun _ => rfl) (Opens.opens_two Try.underlying47 (by kernel_rfl) (by kernel_rfl) (by kernel_rfl) (by kernel_rfl) (by kernel_rfl) (Opens.opens_int Try.underlying3) op26)
theorem op23 : Opens.OpensAs Try.prog 23 (Kd.slice 47 k47) (fun x : List (S47) => (x.length ≤ maxLen ∧ ∀ y ∈ x, g47 y)) := Opens.opens_slice Try.underlying23 (by kernel_rfl) op47
def g25 (x : S25) : Prop := (x.f0.length ≤ maxLen ∧ ∀ y ∈ x.f0, g85 y) ∧ (x.f1.length ≤ maxLen ∧ ∀ y ∈ x.f1, g47 y)
theorem op25 : Opens.OpensAs Try.prog 25 k25 g25 :=
  Opens.opens_iso (fun x : S25 => (x.f0, x.f1)) (fun a => ⟨a.1, a.2⟩) (fun _ => rfl) (Opens.opens_two Try.underlying25 (by kernel_rfl) (by kernel_rfl) (by kernel_rfl) (by kernel_rfl) (by kernel_rfl) op22 op23)
def FnExactNextRepairPure : Prop := ∀ (x0 : S25) (x1 : List (Int)), g25 x0 → (x1.length ≤ maxLen ∧ ∀ y ∈ x1, (Lit.int .i64 y).wf = true) → ∃ k, laws_FnExactNextRepair.f k x0.f0 x0.f1 x1 = some true
end Go.Proofs.Ytehlhbidmanbmaa.PFnExactNextRepair
