/- The readings of the law FnExactBlocks's parameters, and what is to be proved of its printed function. -/
import Derived.Test.YtddeflhambegiaaPFnExactBlocksx8
import Derived.Test.YtddeflhambegiaaOpens
import Derived.KernelRfl
namespace Go.Proofs.Ytddeflhambegiaa.PFnExactBlocks
open Go.RowKit Go.ChangeShapes Go.WideShapes Go.Proofs.YtddeflhambegiaaW.PrintWords Go.Proofs.YtddeflhambegiaaW.PrintLast Go.Proofs.YtddeflhambegiaaW.PrintMore Go.Proofs.Ytddeflhambegiaa
set_option linter.unusedVariables false
def g78 (x : S78) : Prop := x.f0.size ≤ maxLen ∧ (Lit.int .i64 x.f1).wf = true ∧ (Lit.int .i64 x.f2).wf = true
theorem op78 : Opens.OpensAs Try.prog 78 k78 g78 :=
  Opens.opens_iso (fun x : S78 => (x.f0, x.f1, x.f2)) (fun a => ⟨a.1, a.2.1, a.2.2⟩) (fun _ => rfl) (Opens.opens_three Try.underlying78 (by kernel_rfl) (by kernel_rfl) (by kernel_rfl) (by kernel_rfl) (by kernel_rfl) (by kernel_rfl) (by kernel_rfl) (Opens.opens_string Try.underlying9) (Opens.opens_int Try.underlying3) (Opens.opens_int Try.underlying3))
theorem op31 : Opens.OpensAs Try.prog 31 (Kd.slice 78 k78) (fun x : List (S78) => (x.length ≤ maxLen ∧ ∀ y ∈ x, g78 y)) := Opens.opens_slice Try.underlying31 (by kernel_rfl) op78
theorem op22 : Opens.OpensAs Try.prog 22 (Kd.slice 3 (Kd.int .i64)) (fun x : List (Int) => (x.length ≤ maxLen ∧ ∀ y ∈ x, (Lit.int .i64 y).wf = true)) := Opens.opens_slice Try.underlying22 (by kernel_rfl) (Opens.opens_int Try.underlying3)
def g24 (x : S24) : Prop := (Lit.int .i64 x.f0).wf = true ∧ (x.f1.length ≤ maxLen ∧ ∀ y ∈ x.f1, (Lit.int .i64 y).wf = true)
theorem op24 : Opens.OpensAs Try.prog 24 k24 g24 :=
  Opens.opens_iso (fun x : S24 => (x.f0, x.f1)) (fun a => ⟨a.1, a.2⟩) (fun _ => rfl) (Opens.opens_two Try.underlying24 (by kernel_rfl) (by kernel_rfl) (by kernel_rfl) (by kernel_rfl) (by kernel_rfl) (Opens.opens_int Try.underlying3) op22)
theorem op53 : Opens.OpensAs Try.prog 53 (Kd.slice 24 k24) (fun x : List (S24) => (x.length ≤ maxLen ∧ ∀ y ∈ x, g24 y)) := Opens.opens_slice Try.underlying53 (by kernel_rfl) op24
def g55 (x : S55) : Prop := (x.f0.length ≤ maxLen ∧ ∀ y ∈ x.f0, g78 y) ∧ (x.f1.length ≤ maxLen ∧ ∀ y ∈ x.f1, g24 y)
theorem op55 : Opens.OpensAs Try.prog 55 k55 g55 :=
  Opens.opens_iso (fun x : S55 => (x.f0, x.f1)) (fun a => ⟨a.1, a.2⟩) (fun _ => rfl) (Opens.opens_two Try.underlying55 (by kernel_rfl) (by kernel_rfl) (by kernel_rfl) (by kernel_rfl) (by kernel_rfl) op31 op53)
def FnExactBlocksPure : Prop := ∀ (x0 : S55), g55 x0 → ∃ k, laws_FnExactBlocks.f k x0.f0 x0.f1 = some true
end Go.Proofs.Ytddeflhambegiaa.PFnExactBlocks
