/- What the row's list of variables gives to the walks of the law FnExactParseInt. -/
import Derived.Test.YtdpaopfghggiaaaDoorShelfA
import Derived.Stop.LaidErr
import Derived.ChangeBears2
namespace Go.Proofs.YtdpaopfghggiaaaDoor.Shelf
open Go.RowKit
set_option maxRecDepth 100000
theorem star : "*" ++ "errors.errorString" = "*errors.errorString" := by decide
theorem row138 (u : TypeId) (h : Tryd.prog.typeName? 3 u = some "*errors.errorString") : u = 138 :=
  typeName_ptr_named (nm := "errors.errorString") (by rw [star]; kernel_rfl) (by kernel_rfl) (by decide) u (by rw [star]; exact h)
abbrev tabs5 : List (String × DataW Unit) := [("math/bits.deBruijn32tab", Rows.laid_math_bits_deBruijn32tab), ("math/bits.deBruijn64tab", Rows.laid_math_bits_deBruijn64tab), ("internal/strconv.uint64pow10", Rows.laid_internal_strconv_uint64pow10), ("strconv.ErrRange", Rows.laid_strconv_ErrRange), ("strconv.ErrSyntax", Rows.laid_strconv_ErrSyntax)]
theorem powE_of {W : World} (h : laidMet Tryd.prog tabs5 W) : PowE W := by
  have h2 := laidMet.tail (laidMet.tail h)
  have h4 := laidMet.tail (laidMet.tail h2)
  refine ⟨Lib.tabBelow_of_tabIs (Lib.tabIs_of_head (g := 2) (t := 129) (e := 115) (n := 20) (by kernel_rfl) (by kernel_rfl) Tryd.underlying129 (by kernel_rfl) (by kernel_rfl) (by kernel_rfl) (zs := Lib.pow10Tab) h2), ?_⟩
  obtain ⟨a, s, hv, -, -, -⟩ := laid_sentinel h4 (g := 0) (ti := 89) (tp := 138) (te := 140) (ts := 9) (by kernel_rfl) (by kernel_rfl) Tryd.underlying89 row138 Tryd.underlying138 Tryd.underlying140 rfl rfl Tryd.underlying9 (by kernel_rfl) (by kernel_rfl)
  have hg : Tryd.prog.globalNamed "strconv.ErrSyntax" = some 0 := by kernel_rfl
  exact ⟨138, .pointer (some a), World.var?_cell hg hv 0⟩
end Go.Proofs.YtdpaopfghggiaaaDoor.Shelf
