/- The readings of the law FnExactParseInt's parameters, and what is to be proved of its printed function. -/
import Derived.Test.YtdpaopfghggiaaaDoorPFnExactParseIntx1
import Derived.Test.YtdpaopfghggiaaaDoorOpens
import Derived.KernelRfl
namespace Go.Proofs.YtdpaopfghggiaaaDoor.PFnExactParseInt
open Go.RowKit Go.ChangeShapes Go.WideShapes Go.Proofs.YtdpaopfghggiaaaDoorW.PrintWords Go.Proofs.YtdpaopfghggiaaaDoorW.PrintLast Go.Proofs.YtdpaopfghggiaaaDoorW.PrintMore Go.Proofs.YtdpaopfghggiaaaDoor
set_option linter.unusedVariables false
def FnExactParseIntPure : Prop := ∀ (x0 : ByteArray), x0.size ≤ 140737488351232 → ∃ k, laws_FnExactParseInt.f k x0 = some true
end Go.Proofs.YtdpaopfghggiaaaDoor.PFnExactParseInt
