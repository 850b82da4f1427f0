/- The readings of the law FnExactIsValidRelation's parameters, and what is to be proved of its printed function. -/
import Derived.Test.YtkdkibdigfglhaaPFnExactIsValidRelationx1
import Derived.Test.YtkdkibdigfglhaaOpens
import Derived.KernelRfl
namespace Go.Proofs.Ytkdkibdigfglhaa.PFnExactIsValidRelation
open Go.RowKit Go.ChangeShapes Go.WideShapes Go.Proofs.YtkdkibdigfglhaaW.PrintWords Go.Proofs.YtkdkibdigfglhaaW.PrintLast Go.Proofs.YtkdkibdigfglhaaW.PrintMore Go.Proofs.Ytkdkibdigfglhaa
set_option linter.unusedVariables false
structure S29 where
  f0 : ByteArray
  f1 : Int
  f2 : Int
def k29 : Kd S29 := Kd.iso (Kd.pair Kd.string (Kd.pair (Kd.int .i64) (Kd.int .i64))) (fun x : S29 => (x.f0, x.f1, x.f2))
theorem k29_open {w : World} {x : S29} {cs : List Value} (h : k29.K w x cs) : cs = [.string x.f0, .int .i64 x.f1, .int .i64 x.f2] := by
  obtain ⟨_, _, rfl, rfl, ⟨_, _, rfl, rfl, rfl⟩⟩ := h
  exact rfl
def g29 (x : S29) : Prop := x.f0.size ≤ maxLen ∧ (Lit.int .i64 x.f1).wf = true ∧ (Lit.int .i64 x.f2).wf = true
theorem op29 : Opens.OpensAs Try.prog 29 k29 g29 :=
  Opens.opens_iso (fun x : S29 => (x.f0, x.f1, x.f2)) (fun a => ⟨a.1, a.2.1, a.2.2⟩) (fun _ => rfl) (Opens.opens_three Try.underlying29 (by kernel_rfl) (by kernel_rfl) (by kernel_rfl) (by kernel_rfl) (by kernel_rfl) (by kernel_rfl) (by kernel_rfl) (Opens.opens_string Try.underlying9) (Opens.opens_int Try.underlying3) (Opens.opens_int Try.underlying3))
def FnExactIsValidRelationPure : Prop := ∀ (x0 : S29), g29 x0 → laws_FnExactIsValidRelation.f x0.f0 x0.f1 x0.f2 = some true
end Go.Proofs.Ytkdkibdigfglhaa.PFnExactIsValidRelation
