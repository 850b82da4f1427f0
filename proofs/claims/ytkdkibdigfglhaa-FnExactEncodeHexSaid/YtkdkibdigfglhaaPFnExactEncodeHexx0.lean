-- Laid by a program of this claim: what the functions come to, some of them proved by hand.
import Derived.Test.YtkdkibdigfglhaaProg
import Derived.Below
import Derived.Deep.Draws
import Derived.Deep.AppendLies
import Derived.Maps.AppendAt
import Derived.OwnWalk
import Derived.Laws.BytesArg
import Derived.Laws.MakeOwn
import Derived.Laws.OwnMore
import Derived.Deep.OwnRows
import Derived.Tactics
import Derived.Lib.ConvBytes
import Derived.Laws.Slices
import Derived.WalkKit
import Derived.KernelRfl
import Derived.RowKit3
import Derived.Deep.LoopGhost
import Derived.Deep.QuietTactic
import Derived.BigQuiet
import Derived.WideLaws
import Derived.Deep.DeepCutAuto
import Derived.Deep.CutBlock
import Derived.Deep.RegionHeld3
import Derived.Laws.Rows
import Derived.Lib.AppendStr
import Derived.ArgAppend
import Derived.Laws.IdiomCopy
import Derived.OrdersHeld
import Derived.Laws.BitsLemmas
import Derived.RowKit
import Derived.Laws.Cover1
import Derived.Lib.QuietBelow
import Derived.Outline
import Derived.Test.YtkdkibdigfglhaaWWords
import Derived.Test.YtkdkibdigfglhaaWLast
import Derived.Test.YtkdkibdigfglhaaWTab
import Derived.Test.YtkdkibdigfglhaaWFour
import Derived.Test.YtkdkibdigfglhaaWQPut
import Derived.Test.YtkdkibdigfglhaaWApart
import Derived.Test.YtkdkibdigfglhaaWArr
import Derived.Test.YtkdkibdigfglhaaWZeros
import Derived.Test.YtkdkibdigfglhaaWFoot
import Derived.Test.YtkdkibdigfglhaaWKept
import Derived.Test.YtkdkibdigfglhaaWShare
import Derived.Test.YtkdkibdigfglhaaWN
import Derived.Test.YtkdkibdigfglhaaWFootNe
import Derived.Test.YtkdkibdigfglhaaWAt
import Derived.Test.YtkdkibdigfglhaaWEqStruct
import Derived.Test.YtkdkibdigfglhaaWRepsOne
import Derived.Test.YtkdkibdigfglhaaWInv
import Derived.Test.YtkdkibdigfglhaaWInvWords
import Derived.Test.YtkdkibdigfglhaaWGuard
import Derived.Test.YtkdkibdigfglhaaWNEv
import Derived.Test.YtkdkibdigfglhaaWMore
namespace Go.Proofs.Ytkdkibdigfglhaa.PFnExactEncodeHex
open Go.RowKit Go.Proofs.YtkdkibdigfglhaaW.PrintWords Go.Proofs.YtkdkibdigfglhaaW.PrintLast Go.Proofs.YtkdkibdigfglhaaW.PrintMore
attribute [local go_sem] max2_int min2_int max_two min_two max_three min_three max_four min_four   -- for this text's walks alone
set_option linter.unusedVariables false
set_option linter.unusedSimpArgs false



def errW : Option Int → Value
  | none => .nilIface
  | some c => .iface 0 (.int .i64 c)
theorem errW_none : errW none = .nilIface := rfl
theorem errW_some (c : Int) : errW (some c) = .iface 0 (.int .i64 c) := rfl

theorem info5 : (Try.prog.info? 5).map (fun i => (i.zero, i.size, i.bytes)) = some (some (.int .u8 0), 1, 1) := by kernel_rfl
-- the values' own types

end Go.Proofs.Ytkdkibdigfglhaa.PFnExactEncodeHex
