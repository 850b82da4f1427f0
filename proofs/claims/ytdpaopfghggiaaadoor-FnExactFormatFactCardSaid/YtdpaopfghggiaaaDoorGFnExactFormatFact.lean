/- The readings of the law FnExactFormatFact's parameters, and what is to be proved of its printed function. -/
import Derived.Test.YtdpaopfghggiaaaDoorPFnExactFormatFactx4
import Derived.Test.YtdpaopfghggiaaaDoorOpens
import Derived.KernelRfl
namespace Go.Proofs.YtdpaopfghggiaaaDoor.PFnExactFormatFact
open Go.RowKit Go.ChangeShapes Go.WideShapes Go.Proofs.YtdpaopfghggiaaaDoorW.PrintWords Go.Proofs.YtdpaopfghggiaaaDoorW.PrintLast Go.Proofs.YtdpaopfghggiaaaDoorW.PrintMore Go.Proofs.YtdpaopfghggiaaaDoor
set_option linter.unusedVariables false
def g25 (x : S25) : Prop := x.f0.size ≤ maxLen ∧ (Lit.int .i64 x.f1).wf = true ∧ (Lit.int .i64 x.f2).wf = true
theorem op25 : Opens.OpensAs Tryd.prog 25 k25 g25 :=
  Opens.opens_iso (fun x : S25 => (x.f0, x.f1, x.f2)) (fun a => ⟨a.1, a.2.1, a.2.2⟩) (fun _ => rfl) (Opens.opens_three Tryd.underlying25 (by kernel_rfl) (by kernel_rfl) (by kernel_rfl) (by kernel_rfl) (by kernel_rfl) (by kernel_rfl) (by kernel_rfl) (Opens.opens_string Tryd.underlying9) (Opens.opens_int Tryd.underlying3) (Opens.opens_int Tryd.underlying3))
theorem op44 : Opens.OpensAs Tryd.prog 44 (Kd.slice 25 k25) (fun x : List (S25) => (x.length ≤ maxLen ∧ ∀ y ∈ x, g25 y)) := Opens.opens_slice Tryd.underlying44 (by kernel_rfl) op25
theorem op45 : Opens.OpensAs Tryd.prog 45 (Kd.slice 3 (Kd.int .i64)) (fun x : List (Int) => (x.length ≤ maxLen ∧ ∀ y ∈ x, (Lit.int .i64 y).wf = true)) := Opens.opens_slice Tryd.underlying45 (by kernel_rfl) (Opens.opens_int Tryd.underlying3)
structure S47 where
  f0 : Int
  f1 : List (Int)
def k47 : Kd S47 := Kd.iso (Kd.pair (Kd.int .i64) (Kd.slice 3 (Kd.int .i64))) (fun x : S47 => (x.f0, x.f1))
theorem k47_open {w : World} {x : S47} {cs : List Value} (h : k47.K w x cs) : ∃ A1 c1, cs = [.int .i64 x.f0, .slice A1 x.f1.length c1] ∧ x.f1.length ≤ c1 ∧ Kd.C (Kd.int .i64) w A1 x.f1.length x.f1 := by
  obtain ⟨_, _, rfl, rfl, ⟨A1, c1, rfl, l1, g1⟩⟩ := h
  exact ⟨A1, c1, rfl, l1, g1⟩
def g47 (x : S47) : Prop := (Lit.int .i64 x.f0).wf = true ∧ (x.f1.length ≤ maxLen ∧ ∀ y ∈ x.f1, (Lit.int .i64 y).wf = true)
theorem op47 : Opens.OpensAs Tryd.prog 47 k47 g47 :=
  Opens.opens_iso (fun x : S47 => (x.f0, x.f1)) (fun a => ⟨a.1, a.2⟩) (fun _ => rfl) (Opens.opens_two Tryd.underlying47 (by kernel_rfl) (by kernel_rfl) (by kernel_rfl) (by kernel_rfl) (by kernel_rfl) (Opens.opens_int Tryd.underlying3) op45)
def FnExactFormatFactPure : Prop := ∀ (x0 : List (S25)) (x1 : S47), (x0.length ≤ maxLen ∧ ∀ y ∈ x0, g25 y) → g47 x1 → ∃ k, laws_FnExactFormatFact.f k x0 x1.f0 x1.f1 = some true
end Go.Proofs.YtdpaopfghggiaaaDoor.PFnExactFormatFact
