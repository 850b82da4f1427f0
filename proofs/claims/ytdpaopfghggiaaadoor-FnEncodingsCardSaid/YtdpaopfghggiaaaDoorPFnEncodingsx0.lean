-- Laid by a program of this claim: what the functions come to, some of them proved by hand.
import Derived.Test.YtdpaopfghggiaaaDoorProg
import Derived.Below
import Derived.Deep.Draws
import Derived.Deep.AppendLies
import Derived.Maps.AppendAt
import Derived.OwnWalk
import Derived.Laws.BytesArg
import Derived.Laws.MakeOwn
import Derived.Laws.OwnMore
import Derived.Deep.OwnRows
import Derived.Tactics
import Derived.Lib.ConvBytes
import Derived.Laws.Slices
import Derived.WalkKit
import Derived.KernelRfl
import Derived.RowKit3
import Derived.Deep.LoopGhost
import Derived.Deep.QuietTactic
import Derived.BigQuiet
import Derived.WideLaws
import Derived.Deep.DeepCutAuto
import Derived.Deep.CutBlock
import Derived.Deep.RegionHeld3
import Derived.Laws.Rows
import Derived.Lib.AppendStr
import Derived.ArgAppend
import Derived.Laws.IdiomCopy
import Derived.OrdersHeld
import Derived.Laws.BitsLemmas
import Derived.RowKit
import Derived.Laws.Cover1
import Derived.Laws.Cover3
import Derived.Lib.QuietBelow
import Derived.Test.YtdpaopfghggiaaaDoorCompact
import Derived.Test.YtdpaopfghggiaaaDoorQ
import Derived.Test.YtdpaopfghggiaaaDoorTxt
import Derived.Test.YtdpaopfghggiaaaDoorBase
import Derived.Test.YtdpaopfghggiaaaDoorShelf
import Derived.Test.YtdpaopfghggiaaaDoorShelfA
import Derived.Test.YtdpaopfghggiaaaDoorWWords
import Derived.Test.YtdpaopfghggiaaaDoorWLast
import Derived.Test.YtdpaopfghggiaaaDoorWTab
import Derived.Test.YtdpaopfghggiaaaDoorWFour
import Derived.Test.YtdpaopfghggiaaaDoorWQPut
import Derived.Test.YtdpaopfghggiaaaDoorWApart
import Derived.Test.YtdpaopfghggiaaaDoorWArr
import Derived.Test.YtdpaopfghggiaaaDoorWZeros
import Derived.Test.YtdpaopfghggiaaaDoorWFoot
import Derived.Test.YtdpaopfghggiaaaDoorWKept
import Derived.Test.YtdpaopfghggiaaaDoorWShare
import Derived.Test.YtdpaopfghggiaaaDoorWN
import Derived.Test.YtdpaopfghggiaaaDoorWFootNe
import Derived.Test.YtdpaopfghggiaaaDoorWAt
import Derived.Test.YtdpaopfghggiaaaDoorWEqStruct
import Derived.Test.YtdpaopfghggiaaaDoorWRepsOne
import Derived.Test.YtdpaopfghggiaaaDoorWInv
import Derived.Test.YtdpaopfghggiaaaDoorWInvWords
import Derived.Test.YtdpaopfghggiaaaDoorWGuard
import Derived.Test.YtdpaopfghggiaaaDoorWNEv
import Derived.Test.YtdpaopfghggiaaaDoorWMore
namespace Go.Proofs.YtdpaopfghggiaaaDoor.PFnEncodings
open Go.RowKit Go.Proofs.YtdpaopfghggiaaaDoorW.PrintWords Go.Proofs.YtdpaopfghggiaaaDoorW.PrintLast Go.Proofs.YtdpaopfghggiaaaDoorW.PrintMore
attribute [local go_sem] max2_int min2_int max_two min_two max_three min_three max_four min_four   -- for this text's walks alone
set_option linter.unusedVariables false
set_option linter.unusedSimpArgs false



def errW : Option Int → Value
 | none => .nilIface
 | some c => .iface 108 (.int .i64 c)
theorem errW_none : errW none = .nilIface := rfl
theorem errW_some (c : Int) : errW (some c) = .iface 108 (.int .i64 c) := rfl

theorem info3 : (Tryd.prog.info? 3).map (fun i => (i.zero, i.size, i.bytes)) = some (some (.int .i64 0), 1, 8) := by kernel_rfl
theorem info5 : (Tryd.prog.info? 5).map (fun i => (i.zero, i.size, i.bytes)) = some (some (.int .u8 0), 1, 1) := by kernel_rfl
-- the values' own types

end Go.Proofs.YtdpaopfghggiaaaDoor.PFnEncodings
