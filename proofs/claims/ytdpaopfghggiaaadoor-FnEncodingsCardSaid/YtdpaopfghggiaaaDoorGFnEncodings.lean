/- The readings of the law FnEncodings's parameters, and what is to be proved of its printed function. -/
import Derived.Test.YtdpaopfghggiaaaDoorPFnEncodingsx5
import Derived.Test.YtdpaopfghggiaaaDoorOpens
import Derived.KernelRfl
namespace Go.Proofs.YtdpaopfghggiaaaDoor.PFnEncodings
open Go.RowKit Go.ChangeShapes Go.WideShapes Go.Proofs.YtdpaopfghggiaaaDoorW.PrintWords Go.Proofs.YtdpaopfghggiaaaDoorW.PrintLast Go.Proofs.YtdpaopfghggiaaaDoorW.PrintMore Go.Proofs.YtdpaopfghggiaaaDoor
set_option linter.unusedVariables false
theorem op35 : Opens.OpensAs Tryd.prog 35 (Kd.slice 5 (Kd.int .u8)) (fun x : List (Int) => (x.length ≤ maxLen ∧ ∀ y ∈ x, (Lit.int .u8 y).wf = true)) := Opens.opens_slice Tryd.underlying35 (by kernel_rfl) (Opens.opens_int Tryd.underlying5)
def FnEncodingsPure : Prop := ∀ (x0 : List (Int)), (x0.length ≤ maxLen ∧ ∀ y ∈ x0, (Lit.int .u8 y).wf = true) → ∃ k, laws_FnEncodings.f k x0 = some true
end Go.Proofs.YtdpaopfghggiaaaDoor.PFnEncodings
