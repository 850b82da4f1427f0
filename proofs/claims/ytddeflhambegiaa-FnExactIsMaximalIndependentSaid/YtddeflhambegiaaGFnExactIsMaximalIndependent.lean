/- The readings of the law FnExactIsMaximalIndependent's parameters, and what is to be proved of its printed function. -/
import Derived.Test.YtddeflhambegiaaPFnExactIsMaximalIndependentx3
import Derived.Test.YtddeflhambegiaaOpens
import Derived.KernelRfl
namespace Go.Proofs.Ytddeflhambegiaa.PFnExactIsMaximalIndependent
open Go.RowKit Go.ChangeShapes Go.WideShapes Go.Proofs.YtddeflhambegiaaW.PrintWords Go.Proofs.YtddeflhambegiaaW.PrintLast Go.Proofs.YtddeflhambegiaaW.PrintMore Go.Proofs.Ytddeflhambegiaa
set_option linter.unusedVariables false
def g91 (x : S91) : Prop := (Lit.int .i64 x.f0).wf = true ∧ (Lit.int .i64 x.f1).wf = true
theorem op91 : Opens.OpensAs Try.prog 91 k91 g91 :=
  Opens.opens_iso (fun x : S91 => (x.f0, x.f1)) (fun a => ⟨a.1, a.2⟩) (fun _ => rfl) (Opens.opens_two Try.underlying91 (by kernel_rfl) (by kernel_rfl) (by kernel_rfl) (by kernel_rfl) (by kernel_rfl) (Opens.opens_int Try.underlying3) (Opens.opens_int Try.underlying3))
theorem op38 : Opens.OpensAs Try.prog 38 (Kd.slice 91 k91) (fun x : List (S91) => (x.length ≤ maxLen ∧ ∀ y ∈ x, g91 y)) := Opens.opens_slice Try.underlying38 (by kernel_rfl) op91
theorem op22 : Opens.OpensAs Try.prog 22 (Kd.slice 3 (Kd.int .i64)) (fun x : List (Int) => (x.length ≤ maxLen ∧ ∀ y ∈ x, (Lit.int .i64 y).wf = true)) := Opens.opens_slice Try.underlying22 (by kernel_rfl) (Opens.opens_int Try.underlying3)
def FnExactIsMaximalIndependentPure : Prop := ∀ (x0 : Int) (x1 : List (S91)) (x2 : List (Int)), (Lit.int .i64 x0).wf = true → (x1.length ≤ maxLen ∧ ∀ y ∈ x1, g91 y) → (x2.length ≤ maxLen ∧ ∀ y ∈ x2, (Lit.int .i64 y).wf = true) → ∃ k, laws_FnExactIsMaximalIndependent.f k x0 x1 x2 = some true
end Go.Proofs.Ytddeflhambegiaa.PFnExactIsMaximalIndependent
