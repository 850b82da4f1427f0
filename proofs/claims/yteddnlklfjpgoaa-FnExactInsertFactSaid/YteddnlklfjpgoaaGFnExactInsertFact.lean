/- The readings of the law FnExactInsertFact's parameters, and what is to be proved of its printed function. -/
import Derived.Test.YteddnlklfjpgoaaPFnExactInsertFactx13
import Derived.Test.YteddnlklfjpgoaaOpens
import Derived.KernelRfl
namespace Go.Proofs.Yteddnlklfjpgoaa.PFnExactInsertFact
open Go.RowKit Go.ChangeShapes Go.WideShapes Go.Proofs.YteddnlklfjpgoaaW.PrintWords Go.Proofs.YteddnlklfjpgoaaW.PrintLast Go.Proofs.YteddnlklfjpgoaaW.PrintMore Go.Proofs.Yteddnlklfjpgoaa
set_option linter.unusedVariables false
def g78 (x : S78) : Prop := x.f0.size ≤ maxLen ∧ (Lit.int .i64 x.f1).wf = true ∧ (Lit.int .i64 x.f2).wf = true
theorem op78 : Opens.OpensAs Try.prog 78 k78 g78 :=
  Opens.opens_iso (fun x : S78 => (x.f0, x.f1, x.f2)) (fun a => ⟨a.1, a.2.1, a.2.2⟩) (fun _ => rfl) (Opens.opens_three Try.underlying78 (by kernel_rfl) (by kernel_rfl) (by kernel_rfl) (by kernel_rfl) (by kernel_rfl) (by kernel_rfl) (by kernel_rfl) (Opens.opens_string Try.underlying9) (Opens.opens_int Try.underlying3) (Opens.opens_int Try.underlying3))
theorem op22 : Opens.OpensAs Try.prog 22 (Kd.slice 78 k78) (fun x : List (S78) => (x.length ≤ maxLen ∧ ∀ y ∈ x, g78 y)) := Opens.opens_slice Try.underlying22 (by kernel_rfl) op78
theorem op26 : Opens.OpensAs Try.prog 26 (Kd.slice 3 (Kd.int .i64)) (fun x : List (Int) => (x.length ≤ maxLen ∧ ∀ y ∈ x, (Lit.int .i64 y).wf = true)) := Opens.opens_slice Try.underlying26 (by kernel_rfl) (Opens.opens_int Try.underlying3)
def g42 (x : S42) : Prop := (Lit.int .i64 x.f0).wf = true ∧ (x.f1.length ≤ maxLen ∧ ∀ y ∈ x.f1, (Lit.int .i64 y).wf = true)
theorem op42 : Opens.OpensAs Try.prog 42 k42 g42 :=
  Opens.opens_iso (fun x : S42 => (x.f0, x.f1)) (fun a => ⟨a.1, a.2⟩) (fun _ => rfl) (Opens.opens_two Try.underlying42 (by kernel_rfl) (by kernel_rfl) (by kernel_rfl) (by kernel_rfl) (by kernel_rfl) (Opens.opens_int Try.underlying3) op26)
theorem op23 : Opens.OpensAs Try.prog 23 (Kd.slice 42 k42) (fun x : List (S42) => (x.length ≤ maxLen ∧ ∀ y ∈ x, g42 y)) := Opens.opens_slice Try.underlying23 (by kernel_rfl) op42
def g25 (x : S25) : Prop := (x.f0.length ≤ maxLen ∧ ∀ y ∈ x.f0, g78 y) ∧ (x.f1.length ≤ maxLen ∧ ∀ y ∈ x.f1, g42 y)
theorem op25 : Opens.OpensAs Try.prog 25 k25 g25 :=
  Opens.opens_iso (fun x : S25 => (x.f0, x.f1)) (fun a => ⟨a.1, a.2⟩) (fun _ => rfl) (Opens.opens_two Try.underlying25 (by kernel_rfl) (by kernel_rfl) (by kernel_rfl) (by kernel_rfl) (by kernel_rfl) op22 op23)
def FnExactInsertFactPure : Prop := ∀ (x0 : S25) (x1 : S42), g25 x0 → g42 x1 → ∃ k, laws_FnExactInsertFact.f k x0.f0 x0.f1 x1.f0 x1.f1 = some true
end Go.Proofs.Yteddnlklfjpgoaa.PFnExactInsertFact
