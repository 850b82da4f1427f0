/- The readings of the law FnExactParseDatabase's parameters, and what is to be proved of its printed function. -/
import Derived.Test.YtckpikfbhlhhjaaGreatDoorPFnExactParseDatabasex9
import Derived.Test.YtckpikfbhlhhjaaGreatDoorOpens
import Derived.KernelRfl
namespace Go.Proofs.YtckpikfbhlhhjaaGreatDoor.PFnExactParseDatabase
open Go.RowKit Go.ChangeShapes Go.WideShapes Go.Proofs.YtckpikfbhlhhjaaGreatDoorW.PrintWords Go.Proofs.YtckpikfbhlhhjaaGreatDoorW.PrintLast Go.Proofs.YtckpikfbhlhhjaaGreatDoorW.PrintMore Go.Proofs.YtckpikfbhlhhjaaGreatDoor
set_option linter.unusedVariables false
def FnExactParseDatabasePure : Prop := ∀ (x0 : ByteArray), x0.size ≤ 140737488351232 → ∃ k, laws_FnExactParseDatabase.f k x0 = some true
end Go.Proofs.YtckpikfbhlhhjaaGreatDoor.PFnExactParseDatabase
