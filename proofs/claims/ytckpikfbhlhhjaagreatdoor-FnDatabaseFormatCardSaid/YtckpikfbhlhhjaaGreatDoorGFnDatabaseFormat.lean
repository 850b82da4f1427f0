/- The readings of the law FnDatabaseFormat's parameters, and what is to be proved of its printed function. -/
import Derived.Test.YtckpikfbhlhhjaaGreatDoorPFnDatabaseFormatx27
import Derived.Test.YtckpikfbhlhhjaaGreatDoorOpens
import Derived.KernelRfl
namespace Go.Proofs.YtckpikfbhlhhjaaGreatDoor.PFnDatabaseFormat
open Go.RowKit Go.ChangeShapes Go.WideShapes Go.Proofs.YtckpikfbhlhhjaaGreatDoorW.PrintWords Go.Proofs.YtckpikfbhlhhjaaGreatDoorW.PrintLast Go.Proofs.YtckpikfbhlhhjaaGreatDoorW.PrintMore Go.Proofs.YtckpikfbhlhhjaaGreatDoor
set_option linter.unusedVariables false
theorem op31 : Opens.OpensAs Tryz.prog 31 (Kd.slice 5 (Kd.int .u8)) (fun x : List (Int) => (x.length ≤ maxLen ∧ ∀ y ∈ x, (Lit.int .u8 y).wf = true)) := Opens.opens_slice Tryz.underlying31 (by kernel_rfl) (Opens.opens_int Tryz.underlying5)
def FnDatabaseFormatPure : Prop := ∀ (x0 : List (Int)), (x0.length ≤ maxLen ∧ ∀ y ∈ x0, (Lit.int .u8 y).wf = true) → ∃ k, laws_FnDatabaseFormat.f k x0 = some true
end Go.Proofs.YtckpikfbhlhhjaaGreatDoor.PFnDatabaseFormat
