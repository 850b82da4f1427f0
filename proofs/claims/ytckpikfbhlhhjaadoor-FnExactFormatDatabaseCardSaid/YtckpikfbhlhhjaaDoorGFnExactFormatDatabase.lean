/- The readings of the law FnExactFormatDatabase's parameters, and what is to be proved of its printed function. -/
import Derived.Test.YtckpikfbhlhhjaaDoorPFnExactFormatDatabasex6
import Derived.Test.YtckpikfbhlhhjaaDoorOpens
import Derived.KernelRfl
namespace Go.Proofs.YtckpikfbhlhhjaaDoor.PFnExactFormatDatabase
open Go.RowKit Go.ChangeShapes Go.WideShapes Go.Proofs.YtckpikfbhlhhjaaDoorW.PrintWords Go.Proofs.YtckpikfbhlhhjaaDoorW.PrintLast Go.Proofs.YtckpikfbhlhhjaaDoorW.PrintMore Go.Proofs.YtckpikfbhlhhjaaDoor
set_option linter.unusedVariables false
def g98 (x : S98) : Prop := x.f0.size ≤ maxLen ∧ (Lit.int .i64 x.f1).wf = true ∧ (Lit.int .i64 x.f2).wf = true
theorem op98 : Opens.OpensAs Tryd.prog 98 k98 g98 :=
  Opens.opens_iso (fun x : S98 => (x.f0, x.f1, x.f2)) (fun a => ⟨a.1, a.2.1, a.2.2⟩) (fun _ => rfl) (Opens.opens_three Tryd.underlying98 (by kernel_rfl) (by kernel_rfl) (by kernel_rfl) (by kernel_rfl) (by kernel_rfl) (by kernel_rfl) (by kernel_rfl) (Opens.opens_string Tryd.underlying9) (Opens.opens_int Tryd.underlying3) (Opens.opens_int Tryd.underlying3))
theorem op22 : Opens.OpensAs Tryd.prog 22 (Kd.slice 98 k98) (fun x : List (S98) => (x.length ≤ maxLen ∧ ∀ y ∈ x, g98 y)) := Opens.opens_slice Tryd.underlying22 (by kernel_rfl) op98
theorem op37 : Opens.OpensAs Tryd.prog 37 (Kd.slice 3 (Kd.int .i64)) (fun x : List (Int) => (x.length ≤ maxLen ∧ ∀ y ∈ x, (Lit.int .i64 y).wf = true)) := Opens.opens_slice Tryd.underlying37 (by kernel_rfl) (Opens.opens_int Tryd.underlying3)
def g100 (x : S100) : Prop := (Lit.int .i64 x.f0).wf = true ∧ (x.f1.length ≤ maxLen ∧ ∀ y ∈ x.f1, (Lit.int .i64 y).wf = true)
theorem op100 : Opens.OpensAs Tryd.prog 100 k100 g100 :=
  Opens.opens_iso (fun x : S100 => (x.f0, x.f1)) (fun a => ⟨a.1, a.2⟩) (fun _ => rfl) (Opens.opens_two Tryd.underlying100 (by kernel_rfl) (by kernel_rfl) (by kernel_rfl) (by kernel_rfl) (by kernel_rfl) (Opens.opens_int Tryd.underlying3) op37)
theorem op23 : Opens.OpensAs Tryd.prog 23 (Kd.slice 100 k100) (fun x : List (S100) => (x.length ≤ maxLen ∧ ∀ y ∈ x, g100 y)) := Opens.opens_slice Tryd.underlying23 (by kernel_rfl) op100
structure S25 where
  f0 : List (S98)
  f1 : List (S100)
def k25 : Kd S25 := Kd.iso (Kd.pair (Kd.slice 98 k98) (Kd.slice 100 k100)) (fun x : S25 => (x.f0, x.f1))
theorem k25_open {w : World} {x : S25} {cs : List Value} (h : k25.K w x cs) : ∃ A0 c0 A1 c1, cs = [.slice A0 x.f0.length c0, .slice A1 x.f1.length c1] ∧ x.f0.length ≤ c0 ∧ Kd.C k98 w A0 x.f0.length x.f0 ∧ x.f1.length ≤ c1 ∧ Kd.C k100 w A1 x.f1.length x.f1 := by
  obtain ⟨_, _, rfl, ⟨A0, c0, rfl, l0, g0⟩, ⟨A1, c1, rfl, l1, g1⟩⟩ := h
  exact ⟨A0, c0, A1, c1, rfl, l0, g0, l1, g1⟩
def g25 (x : S25) : Prop := (x.f0.length ≤ maxLen ∧ ∀ y ∈ x.f0, g98 y) ∧ (x.f1.length ≤ maxLen ∧ ∀ y ∈ x.f1, g100 y)
theorem op25 : Opens.OpensAs Tryd.prog 25 k25 g25 :=
  Opens.opens_iso (fun x : S25 => (x.f0, x.f1)) (fun a => ⟨a.1, a.2⟩) (fun _ => rfl) (Opens.opens_two Tryd.underlying25 (by kernel_rfl) (by kernel_rfl) (by kernel_rfl) (by kernel_rfl) (by kernel_rfl) op22 op23)
def FnExactFormatDatabasePure : Prop := ∀ (x0 : S25), g25 x0 → ∃ k, laws_FnExactFormatDatabase.f k x0.f0 x0.f1 = some true
end Go.Proofs.YtckpikfbhlhhjaaDoor.PFnExactFormatDatabase
