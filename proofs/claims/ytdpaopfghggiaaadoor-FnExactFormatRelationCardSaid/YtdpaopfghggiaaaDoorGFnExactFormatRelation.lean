/- The readings of the law FnExactFormatRelation's parameters, and what is to be proved of its printed function. -/
import Derived.Test.YtdpaopfghggiaaaDoorPFnExactFormatRelationx1
import Derived.Test.YtdpaopfghggiaaaDoorOpens
import Derived.KernelRfl
namespace Go.Proofs.YtdpaopfghggiaaaDoor.PFnExactFormatRelation
open Go.RowKit Go.ChangeShapes Go.WideShapes Go.Proofs.YtdpaopfghggiaaaDoorW.PrintWords Go.Proofs.YtdpaopfghggiaaaDoorW.PrintLast Go.Proofs.YtdpaopfghggiaaaDoorW.PrintMore Go.Proofs.YtdpaopfghggiaaaDoor
set_option linter.unusedVariables false
structure S25 where
  f0 : ByteArray
  f1 : Int
  f2 : Int
def k25 : Kd S25 := Kd.iso (Kd.pair Kd.string (Kd.pair (Kd.int .i64) (Kd.int .i64))) (fun x : S25 => (x.f0, x.f1, x.f2))
theorem k25_open {w : World} {x : S25} {cs : List Value} (h : k25.K w x cs) : cs = [.string x.f0, .int .i64 x.f1, .int .i64 x.f2] := by
  obtain ⟨_, _, rfl, rfl, ⟨_, _, rfl, rfl, rfl⟩⟩ := h
  exact rfl
def g25 (x : S25) : Prop := x.f0.size ≤ maxLen ∧ (Lit.int .i64 x.f1).wf = true ∧ (Lit.int .i64 x.f2).wf = true
theorem op25 : Opens.OpensAs Tryd.prog 25 k25 g25 :=
  Opens.opens_iso (fun x : S25 => (x.f0, x.f1, x.f2)) (fun a => ⟨a.1, a.2.1, a.2.2⟩) (fun _ => rfl) (Opens.opens_three Tryd.underlying25 (by kernel_rfl) (by kernel_rfl) (by kernel_rfl) (by kernel_rfl) (by kernel_rfl) (by kernel_rfl) (by kernel_rfl) (Opens.opens_string Tryd.underlying9) (Opens.opens_int Tryd.underlying3) (Opens.opens_int Tryd.underlying3))
def FnExactFormatRelationPure : Prop := ∀ (x0 : S25), g25 x0 → ∃ k, laws_FnExactFormatRelation.f k x0.f0 x0.f1 x0.f2 = some true
end Go.Proofs.YtdpaopfghggiaaaDoor.PFnExactFormatRelation
