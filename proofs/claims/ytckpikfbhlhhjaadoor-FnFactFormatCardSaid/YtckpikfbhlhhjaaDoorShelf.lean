/- strconv.Itoa's contract at this program, out of the library's own, and the table that it reads, out of the row's list. -/
import Derived.Test.YtckpikfbhlhhjaaDoorProg
import Derived.Shelf.LaysM
import Derived.Shelf.Strconv.Itoa3
import Derived.Test.YtckpikfbhlhhjaaDoorRows
import Derived.Stop.LaidErr
import Derived.Lib.QuietBelow
import Derived.Lib.LaidTab
import Derived.Lib.AppendIntMem
import Derived.Test.YtckpikfbhlhhjaaDoorQ
import Derived.Test.YtckpikfbhlhhjaaDoorBase
namespace Go.Proofs.YtckpikfbhlhhjaaDoor.Shelf
open Go.Sort Go.Shelf Go.RowKit Go.Proofs.YtckpikfbhlhhjaaDoorW.PrintWords Go.Proofs.YtckpikfbhlhhjaaDoorW.PrintLast Go.Proofs.YtckpikfbhlhhjaaDoorW.PrintMore Go.Proofs.YtckpikfbhlhhjaaDoor.Base
set_option maxRecDepth 100000
set_option linter.unusedVariables false
def laysItoa_ren : Go.Shelf.Ren where
  f := fun x => match x with | 171 => 92 | 243 => 105 | 246 => 112 | 283 => 116 | 284 => 117 | 285 => 118 | 286 => 119 | 129 => 122 | 317 => 121 | 318 => 123 | 319 => 124 | 320 => 125 | 337 => 126 | 338 => 127 | n => n
  t := fun x => match x with | 3 => 3 | 9 => 9 | 2 => 2 | 4 => 4 | 171 => 135 | 0 => 0 | 53 => 136 | 37 => 35 | 5 => 5 | 173 => 139 | 212 => 144 | 51 => 145 | 20 => 20 | 213 => 146 | 46 => 125 | 232 => 149 | 233 => 150 | n => n
  g := fun x => match x with | 17 => 1 | 18 => 2 | 19 => 3 | n => n
theorem laysItoa : LaysM.n171 Tryd.prog laysItoa_ren where
  mixed := by kernel_rfl
  f129 := Eq.trans Tryd.func122 (congrArg some (by kernel_rfl))
  f171 := Eq.trans Tryd.func92 (congrArg some (by kernel_rfl))
  f243 := Eq.trans Tryd.func105 (congrArg some (by kernel_rfl))
  f246 := Eq.trans Tryd.func112 (congrArg some (by kernel_rfl))
  f283 := Eq.trans Tryd.func116 (congrArg some (by kernel_rfl))
  f284 := Eq.trans Tryd.func117 (congrArg some (by kernel_rfl))
  f285 := Eq.trans Tryd.func118 (congrArg some (by kernel_rfl))
  f286 := Eq.trans Tryd.func119 (congrArg some (by kernel_rfl))
  f317 := Eq.trans Tryd.func121 (congrArg some (by kernel_rfl))
  f318 := Eq.trans Tryd.func123 (congrArg some (by kernel_rfl))
  f319 := Eq.trans Tryd.func124 (congrArg some (by kernel_rfl))
  f320 := Eq.trans Tryd.func125 (congrArg some (by kernel_rfl))
  f337 := Eq.trans Tryd.func126 (congrArg some (by kernel_rfl))
  f338 := Eq.trans Tryd.func127 (congrArg some (by kernel_rfl))
  t0 := Tryd.underlying0
  a0 := Tryd.isAgg0
  z0 := Tryd.sizeOf0
  v0 := Tryd.zeroValue0
  t2 := Tryd.underlying2
  a2 := Tryd.isAgg2
  z2 := Tryd.sizeOf2
  v2 := Tryd.zeroValue2
  t3 := Tryd.underlying3
  a3 := Tryd.isAgg3
  z3 := Tryd.sizeOf3
  v3 := Tryd.zeroValue3
  t4 := Tryd.underlying4
  a4 := Tryd.isAgg4
  z4 := Tryd.sizeOf4
  v4 := Tryd.zeroValue4
  t5 := Tryd.underlying5
  a5 := Tryd.isAgg5
  z5 := Tryd.sizeOf5
  v5 := Tryd.zeroValue5
  t9 := Tryd.underlying9
  a9 := Tryd.isAgg9
  z9 := Tryd.sizeOf9
  v9 := Tryd.zeroValue9
  t20 := Tryd.underlying20
  a20 := Tryd.isAgg20
  z20 := Tryd.sizeOf20
  v20 := Tryd.zeroValue20
  t37 := Tryd.underlying35
  a37 := Tryd.isAgg35
  z37 := Tryd.sizeOf35
  v37 := Tryd.zeroValue35
  t46 := Tryd.underlying125
  a46 := Tryd.isAgg125
  z46 := Tryd.sizeOf125
  v46 := Tryd.zeroValue125
  t51 := Tryd.underlying145
  a51 := Tryd.isAgg145
  z51 := Tryd.sizeOf145
  v51 := Tryd.zeroValue145
  t53 := Tryd.underlying136
  a53 := Tryd.isAgg136
  z53 := Tryd.sizeOf136
  v53 := Tryd.zeroValue136
  t171 := Tryd.underlying135
  a171 := Tryd.isAgg135
  z171 := Tryd.sizeOf135
  v171 := Tryd.zeroValue135
  t173 := Tryd.underlying139
  a173 := Tryd.isAgg139
  z173 := Tryd.sizeOf139
  v173 := Tryd.zeroValue139
  t212 := Tryd.underlying144
  a212 := Tryd.isAgg144
  z212 := Tryd.sizeOf144
  v212 := Tryd.zeroValue144
  t213 := Tryd.underlying146
  a213 := Tryd.isAgg146
  z213 := Tryd.sizeOf146
  t232 := Tryd.underlying149
  a232 := Tryd.isAgg149
  z232 := Tryd.sizeOf149
  v232 := Tryd.zeroValue149
  t233 := Tryd.underlying150
  a233 := Tryd.isAgg150
  z233 := Tryd.sizeOf150
  v233 := Tryd.zeroValue150
  g17 := by kernel_rfl
  g18 := by kernel_rfl
  g19 := by kernel_rfl
  i0 := by kernel_rfl
  i2 := by kernel_rfl
  i3 := by kernel_rfl
  i4 := by kernel_rfl
  i5 := by kernel_rfl
  i9 := by kernel_rfl
  i20 := by kernel_rfl
  i37 := by kernel_rfl
  i46 := by kernel_rfl
  i51 := by kernel_rfl
  i53 := by kernel_rfl
  i171 := by kernel_rfl
  i173 := by kernel_rfl
  i212 := by kernel_rfl
  i232 := by kernel_rfl
  i233 := by kernel_rfl
  m17 := by kernel_rfl
  m18 := by kernel_rfl
  m19 := by kernel_rfl
theorem itoa_calls (n : Int) (h0 : -9223372036854775808 ≤ n) (h1 : n ≤ 9223372036854775807) (w : World) (htab : Lib.TabIs Tryd.prog w "internal/strconv.uint64pow10" .u64 Lib.pow10Tab) :
    Calls Tryd.prog 92 #[.int .i64 n] w fun e w' => e = .returned (.string ⟨(Lib.itoa n).toArray⟩) ∧ ∃ k os, w' = Sort.grow (w.drewN k) os := Any.strconv_Itoa laysItoa n h0 h1 w htab
abbrev Pow (w : World) : Prop := Lib.TabBelow Tryd.prog w.heap.size w "internal/strconv.uint64pow10" .u64 Lib.pow10Tab
theorem Pow.on {w w' : World} (h : Pow w) (hb : Below w.heap.size w w') : Pow w' := fun W hB => h W (below_then hb hb.size hB)
theorem below_itoa (w : World) (k : Nat) (os : Array Obj) : Below w.heap.size w (Sort.grow (w.drewN k) os) := by
  have h1 : Below w.heap.size w (w.drewN k) := pw_below_drewN (Below.refl _ _) k
  exact below_then h1 h1.size (below_regrown (w.drewN k) (w.drewN k).drawn os)
theorem Itoa (n : Int) (h0 : -9223372036854775808 ≤ n) (h1 : n ≤ 9223372036854775807) (w : World) (hp : Pow w) : Calls Tryd.prog 92 #[.int .i64 n] w fun e w' => e = .returned (.string ⟨(Lib.itoa n).toArray⟩) ∧ Below w.heap.size w w' :=
  (itoa_calls n h0 h1 w hp.here).mono fun e w' ⟨he, k, os, hw⟩ => ⟨he, hw ▸ below_itoa w k os⟩
theorem pow_of {W : World} (h : laidMet Tryd.prog [("math/bits.deBruijn32tab", Rows.laid_math_bits_deBruijn32tab), ("math/bits.deBruijn64tab", Rows.laid_math_bits_deBruijn64tab), ("internal/strconv.uint64pow10", Rows.laid_internal_strconv_uint64pow10)] W) : Pow W := by
  have h2 := laidMet.tail (laidMet.tail h)
  exact Lib.tabBelow_of_tabIs (Lib.tabIs_of_head (g := 1) (t := 144) (e := 136) (n := 20) (by kernel_rfl) (by kernel_rfl) Tryd.underlying144 (by kernel_rfl) (by kernel_rfl) (by kernel_rfl) (zs := Lib.pow10Tab) h2)
end Go.Proofs.YtckpikfbhlhhjaaDoor.Shelf
