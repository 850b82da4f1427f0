/- The readings of the law FnFactFormat's parameters, and what is to be proved of its printed function. -/
import Derived.Test.YtckpikfbhlhhjaaDoorPFnFactFormatx11
import Derived.Test.YtckpikfbhlhhjaaDoorOpens
import Derived.KernelRfl
namespace Go.Proofs.YtckpikfbhlhhjaaDoor.PFnFactFormat
open Go.RowKit Go.ChangeShapes Go.WideShapes Go.Proofs.YtckpikfbhlhhjaaDoorW.PrintWords Go.Proofs.YtckpikfbhlhhjaaDoorW.PrintLast Go.Proofs.YtckpikfbhlhhjaaDoorW.PrintMore Go.Proofs.YtckpikfbhlhhjaaDoor
set_option linter.unusedVariables false
theorem op35 : Opens.OpensAs Tryd.prog 35 (Kd.slice 5 (Kd.int .u8)) (fun x : List (Int) => (x.length ≤ maxLen ∧ ∀ y ∈ x, (Lit.int .u8 y).wf = true)) := Opens.opens_slice Tryd.underlying35 (by kernel_rfl) (Opens.opens_int Tryd.underlying5)
def FnFactFormatPure : Prop := ∀ (x0 : List (Int)), (x0.length ≤ maxLen ∧ ∀ y ∈ x0, (Lit.int .u8 y).wf = true) → ∃ k, laws_FnFactFormat.f k x0 = some true
end Go.Proofs.YtckpikfbhlhhjaaDoor.PFnFactFormat
