/- strconv.Itoa's contract at this program, out of the library's own, and the table that it reads, out of the row's list. -/
import Derived.Test.YtckpikfbhlhhjaaGreatDoorProg
import Derived.Shelf.LaysM
import Derived.Shelf.Strconv.Itoa3
import Derived.Test.YtckpikfbhlhhjaaGreatDoorRows
import Derived.Stop.LaidErr
import Derived.Lib.QuietBelow
import Derived.Lib.LaidTab
import Derived.Lib.AppendIntMem
import Derived.Test.YtckpikfbhlhhjaaGreatDoorQ
import Derived.Test.YtckpikfbhlhhjaaGreatDoorBase
namespace Go.Proofs.YtckpikfbhlhhjaaGreatDoor.Shelf
open Go.Sort Go.Shelf Go.RowKit Go.Proofs.YtckpikfbhlhhjaaGreatDoorW.PrintWords Go.Proofs.YtckpikfbhlhhjaaGreatDoorW.PrintLast Go.Proofs.YtckpikfbhlhhjaaGreatDoorW.PrintMore Go.Proofs.YtckpikfbhlhhjaaGreatDoor.Base
set_option maxRecDepth 100000
set_option linter.unusedVariables false
def laysItoa_ren:Go.Shelf.Ren where
  f:=fun x=>match x with|171=>96|243=>110|246=>121|283=>123|284=>124|285=>125|286=>126|129=>128|317=>127|318=>129|319=>130|320=>131|337=>132|338=>133|n=>n
  t:=fun x=>match x with|3=>3|9=>9|2=>2|4=>4|171=>130|0=>0|53=>131|37=>31|5=>5|173=>134|212=>141|51=>122|20=>20|213=>142|46=>112|232=>145|233=>146|n=>n
  g:=fun x=>match x with|17=>3|18=>4|19=>5|n=>n
theorem laysItoa:LaysM.n171 Tryz.prog laysItoa_ren where
  mixed:=by kernel_rfl
  f129:=Eq.trans Tryz.func128 (congrArg some (by kernel_rfl))
  f171:=Eq.trans Tryz.func96 (congrArg some (by kernel_rfl))
  f243:=Eq.trans Tryz.func110 (congrArg some (by kernel_rfl))
  f246:=Eq.trans Tryz.func121 (congrArg some (by kernel_rfl))
  f283:=Eq.trans Tryz.func123 (congrArg some (by kernel_rfl))
  f284:=Eq.trans Tryz.func124 (congrArg some (by kernel_rfl))
  f285:=Eq.trans Tryz.func125 (congrArg some (by kernel_rfl))
  f286:=Eq.trans Tryz.func126 (congrArg some (by kernel_rfl))
  f317:=Eq.trans Tryz.func127 (congrArg some (by kernel_rfl))
  f318:=Eq.trans Tryz.func129 (congrArg some (by kernel_rfl))
  f319:=Eq.trans Tryz.func130 (congrArg some (by kernel_rfl))
  f320:=Eq.trans Tryz.func131 (congrArg some (by kernel_rfl))
  f337:=Eq.trans Tryz.func132 (congrArg some (by kernel_rfl))
  f338:=Eq.trans Tryz.func133 (congrArg some (by kernel_rfl))
  t0:=Tryz.underlying0
  a0:=Tryz.isAgg0
  z0:=Tryz.sizeOf0
  v0:=Tryz.zeroValue0
  t2:=Tryz.underlying2
  a2:=Tryz.isAgg2
  z2:=Tryz.sizeOf2
  v2:=Tryz.zeroValue2
  t3:=Tryz.underlying3
  a3:=Tryz.isAgg3
  z3:=Tryz.sizeOf3
  v3:=Tryz.zeroValue3
  t4:=Tryz.underlying4
  a4:=Tryz.isAgg4
  z4:=Tryz.sizeOf4
  v4:=Tryz.zeroValue4
  t5:=Tryz.underlying5
  a5:=Tryz.isAgg5
  z5:=Tryz.sizeOf5
  v5:=Tryz.zeroValue5
  t9:=Tryz.underlying9
  a9:=Tryz.isAgg9
  z9:=Tryz.sizeOf9
  v9:=Tryz.zeroValue9
  t20:=Tryz.underlying20
  a20:=Tryz.isAgg20
  z20:=Tryz.sizeOf20
  v20:=Tryz.zeroValue20
  t37:=Tryz.underlying31
  a37:=Tryz.isAgg31
  z37:=Tryz.sizeOf31
  v37:=Tryz.zeroValue31
  t46:=Tryz.underlying112
  a46:=Tryz.isAgg112
  z46:=Tryz.sizeOf112
  v46:=Tryz.zeroValue112
  t51:=Tryz.underlying122
  a51:=Tryz.isAgg122
  z51:=Tryz.sizeOf122
  v51:=Tryz.zeroValue122
  t53:=Tryz.underlying131
  a53:=Tryz.isAgg131
  z53:=Tryz.sizeOf131
  v53:=Tryz.zeroValue131
  t171:=Tryz.underlying130
  a171:=Tryz.isAgg130
  z171:=Tryz.sizeOf130
  v171:=Tryz.zeroValue130
  t173:=Tryz.underlying134
  a173:=Tryz.isAgg134
  z173:=Tryz.sizeOf134
  v173:=Tryz.zeroValue134
  t212:=Tryz.underlying141
  a212:=Tryz.isAgg141
  z212:=Tryz.sizeOf141
  v212:=Tryz.zeroValue141
  t213:=Tryz.underlying142
  a213:=Tryz.isAgg142
  z213:=Tryz.sizeOf142
  t232:=Tryz.underlying145
  a232:=Tryz.isAgg145
  z232:=Tryz.sizeOf145
  v232:=Tryz.zeroValue145
  t233:=Tryz.underlying146
  a233:=Tryz.isAgg146
  z233:=Tryz.sizeOf146
  v233:=Tryz.zeroValue146
  g17:=by kernel_rfl
  g18:=by kernel_rfl
  g19:=by kernel_rfl
  i0:=by kernel_rfl
  i2:=by kernel_rfl
  i3:=by kernel_rfl
  i4:=by kernel_rfl
  i5:=by kernel_rfl
  i9:=by kernel_rfl
  i20:=by kernel_rfl
  i37:=by kernel_rfl
  i46:=by kernel_rfl
  i51:=by kernel_rfl
  i53:=by kernel_rfl
  i171:=by kernel_rfl
  i173:=by kernel_rfl
  i212:=by kernel_rfl
  i232:=by kernel_rfl
  i233:=by kernel_rfl
  m17:=by kernel_rfl
  m18:=by kernel_rfl
  m19:=by kernel_rfl
theorem itoa_calls (n:Int) (h0: -9223372036854775808≤n) (h1:n≤9223372036854775807) (w:World) (htab:Lib.TabIs Tryz.prog w "internal/strconv.uint64pow10" .u64 Lib.pow10Tab):
    Calls Tryz.prog 96 #[.int .i64 n] w fun e w'=>e= .returned (.string ⟨(Lib.itoa n).toArray⟩)∧ ∃k os,w'=Sort.grow (w.drewN k) os:=Any.strconv_Itoa laysItoa n h0 h1 w htab
abbrev Pow (w:World):Prop:=Lib.TabBelow Tryz.prog w.heap.size w "internal/strconv.uint64pow10" .u64 Lib.pow10Tab
theorem Pow.on {w w':World} (h:Pow w) (hb:Below w.heap.size w w'):Pow w':=fun W hB=>h W (below_then hb hb.size hB)
theorem below_itoa (w:World) (k:Nat) (os:Array Obj):Below w.heap.size w (Sort.grow (w.drewN k) os):=by
  have h1:Below w.heap.size w (w.drewN k):=pw_below_drewN (Below.refl _ _) k
  exact below_then h1 h1.size (below_regrown (w.drewN k) (w.drewN k).drawn os)
theorem Itoa (n:Int) (h0: -9223372036854775808≤n) (h1:n≤9223372036854775807) (w:World) (hp:Pow w):Calls Tryz.prog 96 #[.int .i64 n] w fun e w'=>e= .returned (.string ⟨(Lib.itoa n).toArray⟩)∧Below w.heap.size w w':=
  (itoa_calls n h0 h1 w hp.here).mono fun e w' ⟨he,k,os,hw⟩=>⟨he,hw▸below_itoa w k os⟩
theorem pow_of {W:World} (h:laidMet Tryz.prog [("math/bits.deBruijn32tab",Rows.laid_math_bits_deBruijn32tab),("math/bits.deBruijn64tab",Rows.laid_math_bits_deBruijn64tab),("internal/strconv.uint64pow10",Rows.laid_internal_strconv_uint64pow10)] W):Pow W:=by
  have h2:=laidMet.tail (laidMet.tail h)
  exact Lib.tabBelow_of_tabIs (Lib.tabIs_of_head (g:=3) (t:=141) (e:=131) (n:=20) (by kernel_rfl) (by kernel_rfl) Tryz.underlying141 (by kernel_rfl) (by kernel_rfl) (by kernel_rfl) (zs:=Lib.pow10Tab) h2)
end Go.Proofs.YtckpikfbhlhhjaaGreatDoor.Shelf
