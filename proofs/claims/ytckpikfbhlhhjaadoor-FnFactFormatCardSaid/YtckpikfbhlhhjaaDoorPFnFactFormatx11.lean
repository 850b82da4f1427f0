import Derived.Test.YtckpikfbhlhhjaaDoorPFnFactFormatx0
import Derived.Test.YtckpikfbhlhhjaaDoorPFnFactFormatx1
import Derived.Test.YtckpikfbhlhhjaaDoorPFnFactFormatx2
import Derived.Test.YtckpikfbhlhhjaaDoorPFnFactFormatx4
import Derived.Test.YtckpikfbhlhhjaaDoorPFnFactFormatx5
import Derived.Test.YtckpikfbhlhhjaaDoorPFnFactFormatx6
import Derived.Test.YtckpikfbhlhhjaaDoorPFnFactFormatx7
import Derived.Test.YtckpikfbhlhhjaaDoorPFnFactFormatx8
import Derived.Test.YtckpikfbhlhhjaaDoorPFnFactFormatx9
import Derived.Test.YtckpikfbhlhhjaaDoorPFnFactFormatx10
namespace Go.Proofs.YtckpikfbhlhhjaaDoor.PFnFactFormat
open Go.RowKit Go.Proofs.YtckpikfbhlhhjaaDoorW.PrintWords Go.Proofs.YtckpikfbhlhhjaaDoorW.PrintLast Go.Proofs.YtckpikfbhlhhjaaDoorW.PrintMore
attribute [local go_sem] max2_int min2_int max_two min_two max_three min_three max_four min_four
set_option linter.unusedVariables false
set_option linter.unusedSimpArgs false

/-! ### laws_FnFactFormat: function 4 -/
mutual
def laws_FnFactFormat.j0 : Nat → List (S68) → Bool → Int → List Int → Int → List Int → Int → List Int → Int → List Int → Option (Bool)
 | 0, _, _, _, _, _, _, _, _, _, _ => none
 | k + 1, x15, x90, x520000, x520001, x521000, x521001, x533000, x533001, x534000, x534001 => if x90 = true then (some false) else ((impl_CompareFacts.f k x520000 x520001 x521000 x521001).bind fun t538 => ((spec_CompareFacts.f k x520000 x520001 x521000 x521001).bind fun t539 => (if t538 = t539 then ((impl_CompareFacts.f k x520000 x520001 x521000 x521001).bind fun t540 => ((impl_CompareFacts.f k x521000 x521001 x520000 x520001).bind fun t541 => (laws_FnFactFormat.j1 k x15 (t540 != (wrap64 (-t541))) x533000 x533001 x534000 x534001))) else (laws_FnFactFormat.j1 k x15 true x533000 x533001 x534000 x534001))))
def laws_FnFactFormat.j1 : Nat → List (S68) → Bool → Int → List Int → Int → List Int → Option (Bool)
 | 0, _, _, _, _, _, _ => none
 | k + 1, x15, x107, x533000, x533001, x534000, x534001 => if x107 = true then (some false) else ((impl_HaveSameKey.f x15 x533000 x533001 x534000 x534001).bind fun t542 => ((spec_HaveSameKey.f k x15 x533000 x533001 x534000 x534001).bind fun t543 => (if (t542 == t543) = true then ((impl_HaveSameKey.f x15 x534000 x534001 x533000 x533001).bind fun t544 => (if (t542 == t544) = true then (if t542 = true then (if x533000 = x534000 then ((impl_KeyOf.f x15 x533000 x533001).bind fun t545 => ((impl_KeyOf.f x15 x534000 x534001).bind fun t548 => ((laws_sameInts.f k t545 t548).bind fun t551 => (some t551)))) else (some false)) else (some true)) else (some false))) else (some false))))
end
def laws_FnFactFormat.f (k : Nat) (l0 : List Int) : Option (Bool) := (laws_big.f l0).bind fun t479 => (if t479 = true then (some true) else ((spec_DrawFormatFact.f k l0).bind fun bt480 => ((impl_FormatFact.f k bt480.1 bt480.2.1 bt480.2.2).bind fun t488 => ((impl_ParseFact.f k bt480.1 t488).bind fun bt489 => ((spec_DrawParseFact.f k l0).bind fun bt495 => ((impl_ParseFact.f k bt495.1 bt495.2).bind fun bt499 => ((spec_ParseFact.f k bt495.1 bt495.2).bind fun bt505 => ((spec_DrawCompareFacts.f k l0).bind fun bt511 => ((spec_DrawHaveSameKey.f k l0).bind fun bt521 => ((spec_IsValidFact.f k bt480.1 bt480.2.1 bt480.2.2).bind fun t534 => (if (bt489.2.2 != t534) = true then (laws_FnFactFormat.j0 k bt521.1 true bt511.1 bt511.2.1 bt511.2.2.1 bt511.2.2.2 bt521.2.1 bt521.2.2.1 bt521.2.2.2.1 bt521.2.2.2.2) else (if bt489.2.2 = true then ((impl_CompareFacts.f k bt489.1 bt489.2.1 bt480.2.1 bt480.2.2).bind fun t535 => (if t535 = 0 then (if (bt499.2.2 != bt505.2.2) = true then (laws_FnFactFormat.j0 k bt521.1 true bt511.1 bt511.2.1 bt511.2.2.1 bt511.2.2.2 bt521.2.1 bt521.2.2.1 bt521.2.2.2.1 bt521.2.2.2.2) else (if bt499.2.2 = true then ((impl_FormatFact.f k bt495.1 bt499.1 bt499.2.1).bind fun t536 => (laws_FnFactFormat.j0 k bt521.1 (t536.toList != bt495.2.toList) bt511.1 bt511.2.1 bt511.2.2.1 bt511.2.2.2 bt521.2.1 bt521.2.2.1 bt521.2.2.2.1 bt521.2.2.2.2)) else (laws_FnFactFormat.j0 k bt521.1 false bt511.1 bt511.2.1 bt511.2.2.1 bt511.2.2.2 bt521.2.1 bt521.2.2.1 bt521.2.2.2.1 bt521.2.2.2.2))) else (laws_FnFactFormat.j0 k bt521.1 true bt511.1 bt511.2.1 bt511.2.2.1 bt511.2.2.2 bt521.2.1 bt521.2.2.1 bt521.2.2.2.1 bt521.2.2.2.2))) else (if (bt499.2.2 != bt505.2.2) = true then (laws_FnFactFormat.j0 k bt521.1 true bt511.1 bt511.2.1 bt511.2.2.1 bt511.2.2.2 bt521.2.1 bt521.2.2.1 bt521.2.2.2.1 bt521.2.2.2.2) else (if bt499.2.2 = true then ((impl_FormatFact.f k bt495.1 bt499.1 bt499.2.1).bind fun t537 => (laws_FnFactFormat.j0 k bt521.1 (t537.toList != bt495.2.toList) bt511.1 bt511.2.1 bt511.2.2.1 bt511.2.2.2 bt521.2.1 bt521.2.2.1 bt521.2.2.2.1 bt521.2.2.2.2)) else (laws_FnFactFormat.j0 k bt521.1 false bt511.1 bt511.2.1 bt511.2.2.1 bt511.2.2.2 bt521.2.1 bt521.2.2.1 bt521.2.2.2.1 bt521.2.2.2.2)))))))))))))))
def laws_FnFactFormat.T12 : Bool × List (List Nat × List Nat) := (true, [([], []), ([], []), ([0, 1], [0, 1]), ([], []), ([], []), ([3, 4, 2], [3, 4]), ([2, 5], [2, 5]), ([6, 5], [6]), ([7], [7]), ([7], [7]), ([8, 9, 7, 7], [7, 8, 9]), ([7], [7]), ([7], [7]), ([11, 12, 10, 7], [7, 11, 12]), ([13, 7], [7, 13]), ([10, 14, 7], [7, 10, 14]), ([7, 15], [7, 15])])
def laws_FnFactFormat.B12 : List Nat := [0, 0, 3, 0, 0, 31, 63, 127, 255, 255, 1023, 255, 255, 8191, 16383, 32767, 65535]
theorem laws_FnFactFormat.tab12 : rtab .any (opsOf Tryd.f4 12) = laws_FnFactFormat.T12 := by kernel_rfl
theorem laws_FnFactFormat.bits12 : waitsOk laws_FnFactFormat.T12.2 laws_FnFactFormat.B12 = true := by kernel_rfl
def laws_FnFactFormat.T15 : Bool × List (List Nat × List Nat) := (true, [([], []), ([], []), ([], []), ([], []), ([1, 2, 3], [1, 2, 3]), ([0, 4], [0, 4]), ([5, 4], [5]), ([6], [6]), ([6], [6]), ([6], [6]), ([6], [6]), ([8, 9, 10, 6, 6], [6, 8, 9, 10]), ([7, 11, 6], [6, 7, 11]), ([6, 12], [6, 12]), ([13, 11], [13]), ([14], [14]), ([15, 14], [14, 15]), ([16, 14, 14], [14, 16]), ([17], [17]), ([18, 17], [17, 18]), ([17], [17]), ([20, 17], [17, 20]), ([19, 21, 17], [17, 19, 21]), ([22, 17, 17], [17, 22]), ([23], [23]), ([23], [23]), ([24, 25, 23, 23], [23, 24, 25]), ([23], [23]), ([23], [23]), ([27, 28, 26, 23], [23, 27, 28]), ([26, 29, 29, 23], [23, 26, 29]), ([23, 30, 17], [17, 23, 30]), ([17, 31, 14], [14, 17, 31]), ([14, 32], [14, 32]), ([33, 30, 0, 1, 2, 3, 4, 5, 6, 7, 8, 9, 10, 11, 12, 13, 14, 15, 16, 17, 18, 19, 20, 21, 22, 23, 24, 25, 26, 27, 28, 29, 30, 31, 32, 33], [33])])
def laws_FnFactFormat.B15 : List Nat := [0, 0, 0, 0, 14, 31, 63, 127, 127, 127, 127, 1919, 4095, 8191, 16383, 32767, 65535, 131071, 262143, 524287, 262143, 1310719, 4194303, 8388607, 16777215, 16777215, 67108863, 16777215, 16777215, 536870911, 1073741823, 2147483647, 4294967295, 8589934591, 17179869183]
theorem laws_FnFactFormat.tab15 : rtab .any (opsOf Tryd.f4 15) = laws_FnFactFormat.T15 := by kernel_rfl
theorem laws_FnFactFormat.bits15 : waitsOk laws_FnFactFormat.T15.2 laws_FnFactFormat.B15 = true := by kernel_rfl
set_option maxHeartbeats 8000000 in
set_option maxRecDepth 100000 in
theorem laws_FnFactFormat.calls (k : Nat) (A0 : Option Addr) (c0 : Nat) (l0 : List Int) (r : Bool) (w : World) (hr0 : Kd.C (Kd.int .u8) w A0 l0.length l0) (hc0 : l0.length ≤ c0) (h : laws_FnFactFormat.f k l0 = some r) (hr_ : r = true) (hp_ : Go.Proofs.YtckpikfbhlhhjaaDoor.Shelf.Pow w) :
  Calls Tryd.prog 4 #[.slice A0 l0.length c0] w fun e w' => e = .returned (.bool r) ∧ Below w.heap.size w w' := by
 have HRT_ := aM hr_
 clear hr_
 have hu39 := Tryd.underlying39
 have HR0 := aM hr0
 have HC0 := aM hc0
 clear hr0 hc0
 have HB := aM (Below.refl w.heap.size w)
 have H : ((laws_big.f l0).bind fun t479 => (if t479 = true then (some true) else ((spec_DrawFormatFact.f k l0).bind fun bt480 => ((impl_FormatFact.f k bt480.1 bt480.2.1 bt480.2.2).bind fun t488 => ((impl_ParseFact.f k bt480.1 t488).bind fun bt489 => ((spec_DrawParseFact.f k l0).bind fun bt495 => ((impl_ParseFact.f k bt495.1 bt495.2).bind fun bt499 => ((spec_ParseFact.f k bt495.1 bt495.2).bind fun bt505 => ((spec_DrawCompareFacts.f k l0).bind fun bt511 => ((spec_DrawHaveSameKey.f k l0).bind fun bt521 => ((spec_IsValidFact.f k bt480.1 bt480.2.1 bt480.2.2).bind fun t534 => (if (bt489.2.2 != t534) = true then (laws_FnFactFormat.j0 k bt521.1 true bt511.1 bt511.2.1 bt511.2.2.1 bt511.2.2.2 bt521.2.1 bt521.2.2.1 bt521.2.2.2.1 bt521.2.2.2.2) else (if bt489.2.2 = true then ((impl_CompareFacts.f k bt489.1 bt489.2.1 bt480.2.1 bt480.2.2).bind fun t535 => (if t535 = 0 then (if (bt499.2.2 != bt505.2.2) = true then (laws_FnFactFormat.j0 k bt521.1 true bt511.1 bt511.2.1 bt511.2.2.1 bt511.2.2.2 bt521.2.1 bt521.2.2.1 bt521.2.2.2.1 bt521.2.2.2.2) else (if bt499.2.2 = true then ((impl_FormatFact.f k bt495.1 bt499.1 bt499.2.1).bind fun t536 => (laws_FnFactFormat.j0 k bt521.1 (t536.toList != bt495.2.toList) bt511.1 bt511.2.1 bt511.2.2.1 bt511.2.2.2 bt521.2.1 bt521.2.2.1 bt521.2.2.2.1 bt521.2.2.2.2)) else (laws_FnFactFormat.j0 k bt521.1 false bt511.1 bt511.2.1 bt511.2.2.1 bt511.2.2.2 bt521.2.1 bt521.2.2.1 bt521.2.2.2.1 bt521.2.2.2.2))) else (laws_FnFactFormat.j0 k bt521.1 true bt511.1 bt511.2.1 bt511.2.2.1 bt511.2.2.2 bt521.2.1 bt521.2.2.1 bt521.2.2.2.1 bt521.2.2.2.2))) else (if (bt499.2.2 != bt505.2.2) = true then (laws_FnFactFormat.j0 k bt521.1 true bt511.1 bt511.2.1 bt511.2.2.1 bt511.2.2.2 bt521.2.1 bt521.2.2.1 bt521.2.2.2.1 bt521.2.2.2.2) else (if bt499.2.2 = true then ((impl_FormatFact.f k bt495.1 bt499.1 bt499.2.1).bind fun t537 => (laws_FnFactFormat.j0 k bt521.1 (t537.toList != bt495.2.toList) bt511.1 bt511.2.1 bt511.2.2.1 bt511.2.2.2 bt521.2.1 bt521.2.2.1 bt521.2.2.2.1 bt521.2.2.2.2)) else (laws_FnFactFormat.j0 k bt521.1 false bt511.1 bt511.2.1 bt511.2.2.1 bt511.2.2.2 bt521.2.1 bt521.2.2.1 bt521.2.2.2.1 bt521.2.2.2.2)))))))))))))))) = some r := h
 clear h
 replace H := bM H
 obtain ⟨t479, A20, H⟩ := H
 have A2 := aM A20
 clear A20
 by_cases c3 : t479 = true
 ·subst c3
  replace H := iT H
  obtain rfl := Option.some.inj H
  go_enter Tryd.func4, Tryd.ntmps4
  go_wp2_with (first | ((with_reducible refine gate_callee (f := 12) rfl ?_); refine goesL_ (some 20) rfl rfl Tryd.func12 (by kernel_rfl) rfl #[.slice A0 l0.length c0] rfl aA ?_; (with_reducible refine (laws_big.calls _ _ l0 true _ ?side1 ?side2 A2.out).mono ?_); (case side1 => repeat (first | exact HR0.out | (with_reducible refine pC ?_))); (case side2 => exact HC0.out); rintro e w' ⟨rfl, ⟨nd, rfl⟩⟩; refine ⟨_, rfl, ?_⟩))
  go_ret
  exact ⟨aE, aB⟩
 ·replace c3 := Bool.eq_false_iff.mpr c3
  subst c3
  have H1 : ((spec_DrawFormatFact.f k l0).bind fun bt480 => ((impl_FormatFact.f k bt480.1 bt480.2.1 bt480.2.2).bind fun t488 => ((impl_ParseFact.f k bt480.1 t488).bind fun bt489 => ((spec_DrawParseFact.f k l0).bind fun bt495 => ((impl_ParseFact.f k bt495.1 bt495.2).bind fun bt499 => ((spec_ParseFact.f k bt495.1 bt495.2).bind fun bt505 => ((spec_DrawCompareFacts.f k l0).bind fun bt511 => ((spec_DrawHaveSameKey.f k l0).bind fun bt521 => ((spec_IsValidFact.f k bt480.1 bt480.2.1 bt480.2.2).bind fun t534 => (if (bt489.2.2 != t534) = true then (laws_FnFactFormat.j0 k bt521.1 true bt511.1 bt511.2.1 bt511.2.2.1 bt511.2.2.2 bt521.2.1 bt521.2.2.1 bt521.2.2.2.1 bt521.2.2.2.2) else (if bt489.2.2 = true then ((impl_CompareFacts.f k bt489.1 bt489.2.1 bt480.2.1 bt480.2.2).bind fun t535 => (if t535 = 0 then (if (bt499.2.2 != bt505.2.2) = true then (laws_FnFactFormat.j0 k bt521.1 true bt511.1 bt511.2.1 bt511.2.2.1 bt511.2.2.2 bt521.2.1 bt521.2.2.1 bt521.2.2.2.1 bt521.2.2.2.2) else (if bt499.2.2 = true then ((impl_FormatFact.f k bt495.1 bt499.1 bt499.2.1).bind fun t536 => (laws_FnFactFormat.j0 k bt521.1 (t536.toList != bt495.2.toList) bt511.1 bt511.2.1 bt511.2.2.1 bt511.2.2.2 bt521.2.1 bt521.2.2.1 bt521.2.2.2.1 bt521.2.2.2.2)) else (laws_FnFactFormat.j0 k bt521.1 false bt511.1 bt511.2.1 bt511.2.2.1 bt511.2.2.2 bt521.2.1 bt521.2.2.1 bt521.2.2.2.1 bt521.2.2.2.2))) else (laws_FnFactFormat.j0 k bt521.1 true bt511.1 bt511.2.1 bt511.2.2.1 bt511.2.2.2 bt521.2.1 bt521.2.2.1 bt521.2.2.2.1 bt521.2.2.2.2))) else (if (bt499.2.2 != bt505.2.2) = true then (laws_FnFactFormat.j0 k bt521.1 true bt511.1 bt511.2.1 bt511.2.2.1 bt511.2.2.2 bt521.2.1 bt521.2.2.1 bt521.2.2.2.1 bt521.2.2.2.2) else (if bt499.2.2 = true then ((impl_FormatFact.f k bt495.1 bt499.1 bt499.2.1).bind fun t537 => (laws_FnFactFormat.j0 k bt521.1 (t537.toList != bt495.2.toList) bt511.1 bt511.2.1 bt511.2.2.1 bt511.2.2.2 bt521.2.1 bt521.2.2.1 bt521.2.2.2.1 bt521.2.2.2.2)) else (laws_FnFactFormat.j0 k bt521.1 false bt511.1 bt511.2.1 bt511.2.2.1 bt511.2.2.2 bt521.2.1 bt521.2.2.1 bt521.2.2.2.1 bt521.2.2.2.2)))))))))))))) = some r := by rw [if_neg (show ¬ (false = true) by decide)] at H; exact H
  clear H
  have H := H1
  clear H1
  replace H := bM H
  obtain ⟨⟨t480, t483, t484⟩, A40, H⟩ := H
  dsimp only at H
  have A4 := aM A40
  clear A40
  replace H := bM H
  obtain ⟨t488, A50, H⟩ := H
  have A5 := aM A50
  clear A50
  replace H := bM H
  obtain ⟨⟨t489, t490, t493⟩, A60, H⟩ := H
  dsimp only at H
  have A6 := aM A60
  clear A60
  replace H := bM H
  obtain ⟨⟨t495, t496⟩, A70, H⟩ := H
  dsimp only at H
  have A7 := aM A70
  clear A70
  replace H := bM H
  obtain ⟨⟨t499, t500, t503⟩, A80, H⟩ := H
  dsimp only at H
  have A8 := aM A80
  clear A80
  replace H := bM H
  obtain ⟨⟨t505, t506, t509⟩, A90, H⟩ := H
  dsimp only at H
  have A9 := aM A90
  clear A90
  replace H := bM H
  obtain ⟨⟨t511, t512, t515, t516⟩, A100, H⟩ := H
  dsimp only at H
  have A10 := aM A100
  clear A100
  replace H := bM H
  obtain ⟨⟨t521, t524, t525, t528, t529⟩, A110, H⟩ := H
  dsimp only at H
  have A11 := aM A110
  clear A110
  have HC12 := aM H
  clear H
  go_enter Tryd.func4, Tryd.ntmps4
  go_upto_region 10 with (first | ((with_reducible refine gate_callee (f := 12) rfl ?_); refine goesL_ (some 20) rfl rfl Tryd.func12 (by kernel_rfl) rfl #[.slice A0 l0.length c0] rfl aA ?_; (with_reducible refine (laws_big.calls _ _ l0 false _ ?side1 ?side2 A2.out).mono ?_); (case side1 => repeat (first | exact HR0.out | (with_reducible refine pC ?_))); (case side2 => exact HC0.out); rintro e w' ⟨rfl, ⟨nd, rfl⟩⟩; refine ⟨_, rfl, ?_⟩) | ((with_reducible refine gate_callee (f := 13) rfl ?_); refine goesL_ (some 23) rfl rfl Tryd.func13 (by kernel_rfl) rfl #[.slice A0 l0.length c0] rfl aA ?_; (with_reducible refine (spec_DrawFormatFact.calls k _ _ l0 t480 t483 t484 _ ?side1 ?side2 A4.out).mono ?_); (case side1 => repeat (first | exact HR0.out | (with_reducible refine pC ?_))); (case side2 => exact HC0.out); rintro e w13 ⟨v481, v485, rfl, ho0, ho1, hb⟩; refine ⟨_, rfl, ?_⟩; have HO482 := aM (Kd.R_lower ho0 (below_size aB)); have HO486 := aM (Kd.R_lower ho1 (below_size aB)); replace HB := aM (below_step aB hb); (try clear hb); (try clear hb2); (try clear hk); (try clear hi); (try clear ho0); (try clear ho1)) | ((with_reducible refine gate_dst (N := 4) rfl ?_); refine bE 4 (cs := #[.int .i64 0, .slice none 0 0]) (t := 39) ?_; intro gb487 hg w14 hbox hb; have BK487 := aM (hbox); have GW487 := aM ((by rw [hg]; exact (below_size aB) : w.heap.size ≤ gb487)); have GE487 := aM ((by rw [hg]; exact (below_size aB) : w.heap.size ≤ gb487)); replace HO482 := aM (Kd.R_below (aR HO482) hb); replace HO486 := aM (Kd.R_below (aR HO486) hb); replace HB := aM (below_step aB hb); clear hb hbox hg; have hcz15_0 : w14.cell? ⟨gb487, 0, none⟩ = some (.int .i64 0) := (blk_cell BK487.out 0).trans rfl; have hcz15_1 : w14.cell? ⟨gb487, 1, none⟩ = some (.slice none 0 0) := (blk_cell BK487.out 1).trans rfl; have hfz15_0 := blk_frozen BK487.out 0; have hfz15_1 := blk_frozen BK487.out 1; obtain ⟨Ao16, co16, eo16⟩ := Kd.R_slice HO486.out; subst eo16; obtain ⟨Ao17, co17, eo17⟩ := Kd.R_slice HO482.out; subst eo17) | ((with_reducible refine gate_callee (f := 15) rfl ?_); refine goesL_ (some 30) rfl rfl Tryd.func15 (by kernel_rfl) rfl #[.slice Ao17 t480.length co17, .agg #[.int .i64 t483, .slice Ao16 t484.length co16]] rfl aA ?_; (with_reducible refine (impl_FormatFact.calls k _ _ t480 t483 _ _ t484 t488 _ ?side1 ?side2 ?side3 ?side4 A5.out (hp_.on aG)).mono ?_); (case side1 => refine (Kd.R_reads' (e := 68) (base := w.heap.size) (ok := fun k_ => True) (n := t480.length) (c := co17) ?_).2.2; exact (by (with_reducible repeat apply pR); exact (Kd.R_mono (Kd.R_far (p := ⟨gb487, 1, none⟩) (Kd.R_far (p := ⟨gb487, 0, none⟩) (Kd.R_types HO482.out BK487.out (by decide)) (fun _ hk => hk.2) (.int .i64 t483)) (fun _ hk => hk.2) (.slice Ao16 t484.length co16)) (fun _ h_ => h_.1)))); (case side2 => exact (Kd.R_reads' HO482.out).2.1); (case side3 => refine (Kd.R_reads' (e := 3) (base := w.heap.size) (ok := fun k_ => True) (n := t484.length) (c := co16) ?_).2.2; exact (by (with_reducible repeat apply pR); exact (Kd.R_mono (Kd.R_far (p := ⟨gb487, 1, none⟩) (Kd.R_far (p := ⟨gb487, 0, none⟩) (Kd.R_types HO486.out BK487.out (by decide)) (fun _ hk => hk.2) (.int .i64 t483)) (fun _ hk => hk.2) (.slice Ao16 t484.length co16)) (fun _ h_ => h_.1)))); (case side4 => exact (Kd.R_reads' HO486.out).2.1); rintro e w18 ⟨rfl, hb⟩; refine ⟨_, rfl, ?_⟩; replace HO482 := aM (Kd.R_below (by (with_reducible repeat apply pR); exact (Kd.R_mono (Kd.R_far (p := ⟨gb487, 1, none⟩) (Kd.R_far (p := ⟨gb487, 0, none⟩) (Kd.R_types HO482.out BK487.out (by decide)) (fun _ hk => hk.2) (.int .i64 t483)) (fun _ hk => hk.2) (.slice Ao16 t484.length co16)) (fun _ h_ => h_.1))) hb); replace HO486 := aM (Kd.R_below (by (with_reducible repeat apply pR); exact (Kd.R_mono (Kd.R_far (p := ⟨gb487, 1, none⟩) (Kd.R_far (p := ⟨gb487, 0, none⟩) (Kd.R_types HO486.out BK487.out (by decide)) (fun _ hk => hk.2) (.int .i64 t483)) (fun _ hk => hk.2) (.slice Ao16 t484.length co16)) (fun _ h_ => h_.1))) hb); replace BK487 := aM (blk_below (g := gb487) (o := .cells #[.int .i64 t483, .slice Ao16 t484.length co16] 39 (0, 0)) (by (with_reducible repeat refine pB ?_); refine blk_put (cs := #[.int .i64 t483, .slice none 0 0]) ?_ 1 _ rfl; (with_reducible repeat refine pB ?_); refine blk_put (cs := #[.int .i64 0, .slice none 0 0]) ?_ 0 _ rfl; (with_reducible repeat refine pB ?_); exact BK487.out) hb); replace HB := aM (below_step aG hb); (try clear hb); (try clear hb2); (try clear hk); (try clear hi)) | ((with_reducible refine gate_callee (f := 14) rfl ?_); refine goesL_ (some 31) rfl rfl Tryd.func14 (by kernel_rfl) rfl #[.slice Ao17 t480.length co17, .string t488] rfl aA ?_; (with_reducible refine (impl_ParseFact.calls k _ _ t480 t488 t489 t490 t493 _ ?side1 ?side2 A6.out (hp_.on aG)).mono ?_); (case side1 => repeat (first | exact (Kd.R_reads' HO482.out).2.2 | (with_reducible refine pC ?_))); (case side2 => exact (Kd.R_reads' HO482.out).2.1); rintro e w19 ⟨v491, rfl, ho0, hb⟩; refine ⟨_, rfl, ?_⟩; have HO492 := aM (Kd.R_lower (Kd.R_new' ho0 (Kd.R_lt (aR HO486))) (below_size aG)); replace HO482 := aM (Kd.R_below (aR HO482) hb); replace HO486 := aM (Kd.R_elder' (aR HO486) (Kd.R_base ho0) hb); replace BK487 := aM (kB gb487 #[.int .i64 t483, .slice Ao16 t484.length co16] 39 hb); replace HB := aM (below_step aG hb); (try clear hb); (try clear hb2); (try clear hk); (try clear hi); (try clear ho0)) | ((with_reducible refine gate_dst (N := 5) rfl ?_); refine bE 5 (cs := #[.int .i64 0, .slice none 0 0]) (t := 39) ?_; intro gb494 hg w20 hbox hb; have BK494 := aM (hbox); have GW494 := aM ((by rw [hg]; exact (below_size aG) : w.heap.size ≤ gb494)); have GE494 := aM ((by rw [hg]; exact (below_size aG) : w.heap.size ≤ gb494)); have NB487_494 := aM ((by rw [hg]; exact Nat.ne_of_lt (blk_lt (g := gb487) (o := .cells #[.int .i64 t483, .slice Ao16 t484.length co16] 39 (0, 0)) aK) : gb487 ≠ gb494)); have NB494_487 := aM ((by rw [hg]; exact Nat.ne_of_gt (blk_lt (g := gb487) (o := .cells #[.int .i64 t483, .slice Ao16 t484.length co16] 39 (0, 0)) aK) : gb494 ≠ gb487)); replace HO482 := aM (Kd.R_below (aR HO482) hb); replace HO486 := aM (Kd.R_below (aR HO486) hb); replace HO492 := aM (Kd.R_below (aR HO492) hb); replace BK487 := aM (kB gb487 #[.int .i64 t483, .slice Ao16 t484.length co16] 39 hb); replace HB := aM (below_step aG hb); clear hb hbox hg; have hnb21 := NB494_487.out; have hnc21 := NB487_494.out; have hcz22_0 : w20.cell? ⟨gb494, 0, none⟩ = some (.int .i64 0) := (blk_cell BK494.out 0).trans rfl; have hcz22_1 : w20.cell? ⟨gb494, 1, none⟩ = some (.slice none 0 0) := (blk_cell BK494.out 1).trans rfl; have hfz22_0 := blk_frozen BK494.out 0; have hfz22_1 := blk_frozen BK494.out 1; obtain ⟨Ao23, co23, eo23⟩ := Kd.R_slice HO492.out; subst eo23) | ((with_reducible refine gate_callee (f := 16) rfl ?_); refine goesL_ (some 36) rfl rfl Tryd.func16 (by kernel_rfl) rfl #[.slice A0 l0.length c0] rfl aA ?_; (with_reducible refine (spec_DrawParseFact.calls k _ _ l0 t495 t496 _ ?side1 ?side2 A7.out).mono ?_); (case side1 => exact Kd.C_below HR0.out aG); (case side2 => exact HC0.out); rintro e w24 ⟨v497, rfl, ho0, hb⟩; refine ⟨_, rfl, ?_⟩; have HO498 := aM (Kd.R_lower (Kd.R_new' ho0 (Kd.R_lt (by (with_reducible repeat apply pR); exact (Kd.R_mono (Kd.R_far (p := ⟨gb494, 1, none⟩) (Kd.R_far (p := ⟨gb494, 0, none⟩) (Kd.R_types HO482.out BK494.out (by decide)) (fun _ hk => hk.2) (.int .i64 t489)) (fun _ hk => hk.2) (.slice Ao23 t490.length co23)) (fun _ h_ => h_.1))))) (below_size aG)); replace HO482 := aM (Kd.R_elder' (by (with_reducible repeat apply pR); exact (Kd.R_mono (Kd.R_far (p := ⟨gb494, 1, none⟩) (Kd.R_far (p := ⟨gb494, 0, none⟩) (Kd.R_types HO482.out BK494.out (by decide)) (fun _ hk => hk.2) (.int .i64 t489)) (fun _ hk => hk.2) (.slice Ao23 t490.length co23)) (fun _ h_ => h_.1))) (Kd.R_base ho0) hb); replace HO486 := aM (Kd.R_below (by (with_reducible repeat apply pR); exact (Kd.R_mono (Kd.R_far (p := ⟨gb494, 1, none⟩) (Kd.R_far (p := ⟨gb494, 0, none⟩) (Kd.R_types HO486.out BK494.out (by decide)) (fun _ hk => hk.2) (.int .i64 t489)) (fun _ hk => hk.2) (.slice Ao23 t490.length co23)) (fun _ h_ => h_.1))) hb); replace HO492 := aM (Kd.R_below (by (with_reducible repeat apply pR); exact (Kd.R_mono (Kd.R_far (p := ⟨gb494, 1, none⟩) (Kd.R_far (p := ⟨gb494, 0, none⟩) (Kd.R_types HO492.out BK494.out (by decide)) (fun _ hk => hk.2) (.int .i64 t489)) (fun _ hk => hk.2) (.slice Ao23 t490.length co23)) (fun _ h_ => h_.1))) hb); replace BK487 := aM (blk_below (g := gb487) (o := .cells #[.int .i64 t483, .slice Ao16 t484.length co16] 39 (0, 0)) (by (with_reducible repeat refine pB ?_); refine blk_far ?_ NB487_494.out _; (with_reducible repeat refine pB ?_); refine blk_far ?_ NB487_494.out _; (with_reducible repeat refine pB ?_); exact BK487.out) hb); replace BK494 := aM (blk_below (g := gb494) (o := .cells #[.int .i64 t489, .slice Ao23 t490.length co23] 39 (0, 0)) (by (with_reducible repeat refine pB ?_); refine blk_put (cs := #[.int .i64 t489, .slice none 0 0]) ?_ 1 _ rfl; (with_reducible repeat refine pB ?_); refine blk_put (cs := #[.int .i64 0, .slice none 0 0]) ?_ 0 _ rfl; (with_reducible repeat refine pB ?_); exact BK494.out) hb); replace HB := aM (below_step aG hb); (try clear hb); (try clear hb2); (try clear hk); (try clear hi); (try clear ho0); obtain ⟨Ao25, co25, eo25⟩ := Kd.R_slice HO498.out; subst eo25) | ((with_reducible refine gate_callee (f := 14) rfl ?_); refine goesL_ (some 42) rfl rfl Tryd.func14 (by kernel_rfl) rfl #[.slice Ao25 t495.length co25, .string t496] rfl aA ?_; (with_reducible refine (impl_ParseFact.calls k _ _ t495 t496 t499 t500 t503 _ ?side1 ?side2 A8.out (hp_.on aG)).mono ?_); (case side1 => repeat (first | exact (Kd.R_reads' HO498.out).2.2 | (with_reducible refine pC ?_))); (case side2 => exact (Kd.R_reads' HO498.out).2.1); rintro e w26 ⟨v501, rfl, ho0, hb⟩; refine ⟨_, rfl, ?_⟩; have n0_ := aM (Kd.R_below (aR HO482) hb); have n1_ := aM (Kd.R_elder' (aR HO486) (Kd.R_base ho0) hb); have n2_ := aM (Kd.R_elder' (aR HO492) (Kd.R_base ho0) hb); have n3_ := aM (Kd.R_below (aR HO498) hb); have n4_ := aM (Kd.R_lower (Kd.R_new' (Kd.R_new' ho0 (Kd.R_lt (aR HO486))) (Kd.R_lt (aR HO492))) (below_size aG)); have n5_ := aM (kB gb487 #[.int .i64 t483, .slice Ao16 t484.length co16] 39 hb); have n6_ := aM (kB gb494 #[.int .i64 t489, .slice Ao23 t490.length co23] 39 hb); have n7_ := aM (below_step aG hb); clear HO482; clear HO486; clear HO492; clear HO498; clear BK487; clear BK494; clear HB; have HO482 := n0_; have HO486 := n1_; have HO492 := n2_; have HO498 := n3_; have HO502 := n4_; have BK487 := n5_; have BK494 := n6_; have HB := n7_; clear n0_ n1_ n2_ n3_ n4_ n5_ n6_ n7_; (try clear hb); (try clear hb2); (try clear hk); (try clear hi); (try clear ho0)) | ((with_reducible refine gate_dst (N := 9) rfl ?_); refine bE 9 (cs := #[.int .i64 0, .slice none 0 0]) (t := 39) ?_; intro gb504 hg w27 hbox hb; have n0_ := aM (Kd.R_below (aR HO482) hb); have n1_ := aM (Kd.R_below (aR HO486) hb); have n2_ := aM (Kd.R_below (aR HO492) hb); have n3_ := aM (Kd.R_below (aR HO498) hb); have n4_ := aM (Kd.R_below (aR HO502) hb); have n5_ := aM (kB gb487 #[.int .i64 t483, .slice Ao16 t484.length co16] 39 hb); have n6_ := aM (kB gb494 #[.int .i64 t489, .slice Ao23 t490.length co23] 39 hb); have n7_ := aM (below_step aG hb); have n8_ := aM (hbox); have n9_ := aM ((by rw [hg]; exact (below_size aG) : w.heap.size ≤ gb504)); have n10_ := aM ((by rw [hg]; exact (below_size aG) : w.heap.size ≤ gb504)); have n11_ := aM ((by rw [hg]; exact Nat.ne_of_lt (blk_lt (g := gb487) (o := .cells #[.int .i64 t483, .slice Ao16 t484.length co16] 39 (0, 0)) aK) : gb487 ≠ gb504)); have n12_ := aM ((by rw [hg]; exact Nat.ne_of_gt (blk_lt (g := gb487) (o := .cells #[.int .i64 t483, .slice Ao16 t484.length co16] 39 (0, 0)) aK) : gb504 ≠ gb487)); have n13_ := aM ((by rw [hg]; exact Nat.ne_of_lt (blk_lt (g := gb494) (o := .cells #[.int .i64 t489, .slice Ao23 t490.length co23] 39 (0, 0)) aK) : gb494 ≠ gb504)); have n14_ := aM ((by rw [hg]; exact Nat.ne_of_gt (blk_lt (g := gb494) (o := .cells #[.int .i64 t489, .slice Ao23 t490.length co23] 39 (0, 0)) aK) : gb504 ≠ gb494)); clear HO482; clear HO486; clear HO492; clear HO498; clear HO502; clear BK487; clear BK494; clear HB; have HO482 := n0_; have HO486 := n1_; have HO492 := n2_; have HO498 := n3_; have HO502 := n4_; have BK487 := n5_; have BK494 := n6_; have HB := n7_; have BK504 := n8_; have GW504 := n9_; have GE504 := n10_; have NB487_504 := n11_; have NB504_487 := n12_; have NB494_504 := n13_; have NB504_494 := n14_; clear n0_ n1_ n2_ n3_ n4_ n5_ n6_ n7_ n8_ n9_ n10_ n11_ n12_ n13_ n14_; clear hb hbox hg; have hnb28 := NB504_487.out; have hnc28 := NB487_504.out; have hnb29 := NB504_494.out; have hnc29 := NB494_504.out; have hcz30_0 : w27.cell? ⟨gb504, 0, none⟩ = some (.int .i64 0) := (blk_cell BK504.out 0).trans rfl; have hcz30_1 : w27.cell? ⟨gb504, 1, none⟩ = some (.slice none 0 0) := (blk_cell BK504.out 1).trans rfl; have hfz30_0 := blk_frozen BK504.out 0; have hfz30_1 := blk_frozen BK504.out 1; obtain ⟨Ao31, co31, eo31⟩ := Kd.R_slice HO502.out; subst eo31) | ((with_reducible refine gate_callee (f := 17) rfl ?_); refine goesL_ (some 48) rfl rfl Tryd.func17 (by kernel_rfl) rfl #[.slice Ao25 t495.length co25, .string t496] rfl aA ?_; (with_reducible refine (spec_ParseFact.calls k _ _ t495 t496 t505 t506 t509 _ ?side1 ?side2 A9.out).mono ?_); (case side1 => refine (Kd.R_reads' (e := 68) (base := w.heap.size) (ok := fun k_ => (True ∧ some k_ ≠ (.slice Ao17 t480.length co17 : Value).ownBlock)) (n := t495.length) (c := co25) ?_).2.2; exact (by (with_reducible repeat apply pR); exact (Kd.R_mono (Kd.R_far (p := ⟨gb504, 1, none⟩) (Kd.R_far (p := ⟨gb504, 0, none⟩) (Kd.R_types HO498.out BK504.out (by decide)) (fun _ hk => hk.2) (.int .i64 t499)) (fun _ hk => hk.2) (.slice Ao31 t500.length co31)) (fun _ h_ => h_.1)))); (case side2 => exact (Kd.R_reads' HO498.out).2.1); rintro e w32 ⟨v507, rfl, ho0, hb⟩; refine ⟨_, rfl, ?_⟩; have HO508 := aM (Kd.R_lower (Kd.R_new' (Kd.R_new' (Kd.R_new' ho0 (Kd.R_lt (by (with_reducible repeat apply pR); exact (Kd.R_mono (Kd.R_far (p := ⟨gb504, 1, none⟩) (Kd.R_far (p := ⟨gb504, 0, none⟩) (Kd.R_types HO486.out BK504.out (by decide)) (fun _ hk => hk.2) (.int .i64 t499)) (fun _ hk => hk.2) (.slice Ao31 t500.length co31)) (fun _ h_ => h_.1))))) (Kd.R_lt (by (with_reducible repeat apply pR); exact (Kd.R_mono (Kd.R_far (p := ⟨gb504, 1, none⟩) (Kd.R_far (p := ⟨gb504, 0, none⟩) (Kd.R_types HO492.out BK504.out (by decide)) (fun _ hk => hk.2) (.int .i64 t499)) (fun _ hk => hk.2) (.slice Ao31 t500.length co31)) (fun _ h_ => h_.1))))) (Kd.R_lt (by (with_reducible repeat apply pR); exact (Kd.R_mono (Kd.R_far (p := ⟨gb504, 1, none⟩) (Kd.R_far (p := ⟨gb504, 0, none⟩) (Kd.R_types HO502.out BK504.out (by decide)) (fun _ hk => hk.2) (.int .i64 t499)) (fun _ hk => hk.2) (.slice Ao31 t500.length co31)) (fun _ h_ => h_.1))))) (below_size aG)); replace HO482 := aM (Kd.R_below (by (with_reducible repeat apply pR); exact (Kd.R_mono (Kd.R_far (p := ⟨gb504, 1, none⟩) (Kd.R_far (p := ⟨gb504, 0, none⟩) (Kd.R_types HO482.out BK504.out (by decide)) (fun _ hk => hk.2) (.int .i64 t499)) (fun _ hk => hk.2) (.slice Ao31 t500.length co31)) (fun _ h_ => h_.1))) hb); replace HO486 := aM (Kd.R_elder' (by (with_reducible repeat apply pR); exact (Kd.R_mono (Kd.R_far (p := ⟨gb504, 1, none⟩) (Kd.R_far (p := ⟨gb504, 0, none⟩) (Kd.R_types HO486.out BK504.out (by decide)) (fun _ hk => hk.2) (.int .i64 t499)) (fun _ hk => hk.2) (.slice Ao31 t500.length co31)) (fun _ h_ => h_.1))) (Kd.R_base ho0) hb); replace HO492 := aM (Kd.R_elder' (by (with_reducible repeat apply pR); exact (Kd.R_mono (Kd.R_far (p := ⟨gb504, 1, none⟩) (Kd.R_far (p := ⟨gb504, 0, none⟩) (Kd.R_types HO492.out BK504.out (by decide)) (fun _ hk => hk.2) (.int .i64 t499)) (fun _ hk => hk.2) (.slice Ao31 t500.length co31)) (fun _ h_ => h_.1))) (Kd.R_base ho0) hb); replace HO498 := aM (Kd.R_below (by (with_reducible repeat apply pR); exact (Kd.R_mono (Kd.R_far (p := ⟨gb504, 1, none⟩) (Kd.R_far (p := ⟨gb504, 0, none⟩) (Kd.R_types HO498.out BK504.out (by decide)) (fun _ hk => hk.2) (.int .i64 t499)) (fun _ hk => hk.2) (.slice Ao31 t500.length co31)) (fun _ h_ => h_.1))) hb); replace HO502 := aM (Kd.R_elder' (by (with_reducible repeat apply pR); exact (Kd.R_mono (Kd.R_far (p := ⟨gb504, 1, none⟩) (Kd.R_far (p := ⟨gb504, 0, none⟩) (Kd.R_types HO502.out BK504.out (by decide)) (fun _ hk => hk.2) (.int .i64 t499)) (fun _ hk => hk.2) (.slice Ao31 t500.length co31)) (fun _ h_ => h_.1))) (Kd.R_base ho0) hb); replace BK487 := aM (blk_below (g := gb487) (o := .cells #[.int .i64 t483, .slice Ao16 t484.length co16] 39 (0, 0)) (by (with_reducible repeat refine pB ?_); refine blk_far ?_ NB487_504.out _; (with_reducible repeat refine pB ?_); refine blk_far ?_ NB487_504.out _; (with_reducible repeat refine pB ?_); exact BK487.out) hb); replace BK494 := aM (blk_below (g := gb494) (o := .cells #[.int .i64 t489, .slice Ao23 t490.length co23] 39 (0, 0)) (by (with_reducible repeat refine pB ?_); refine blk_far ?_ NB494_504.out _; (with_reducible repeat refine pB ?_); refine blk_far ?_ NB494_504.out _; (with_reducible repeat refine pB ?_); exact BK494.out) hb); replace BK504 := aM (blk_below (g := gb504) (o := .cells #[.int .i64 t499, .slice Ao31 t500.length co31] 39 (0, 0)) (by (with_reducible repeat refine pB ?_); refine blk_put (cs := #[.int .i64 t499, .slice none 0 0]) ?_ 1 _ rfl; (with_reducible repeat refine pB ?_); refine blk_put (cs := #[.int .i64 0, .slice none 0 0]) ?_ 0 _ rfl; (with_reducible repeat refine pB ?_); exact BK504.out) hb); replace HB := aM (below_step aG hb); (try clear hb); (try clear hb2); (try clear hk); (try clear hi); (try clear ho0)) | ((with_reducible refine gate_dst (N := 11) rfl ?_); refine bE 11 (cs := #[.int .i64 0, .slice none 0 0]) (t := 39) ?_; intro gb510 hg w33 hbox hb; have n0_ := aM (Kd.R_below (aR HO482) hb); have n1_ := aM (Kd.R_below (aR HO486) hb); have n2_ := aM (Kd.R_below (aR HO492) hb); have n3_ := aM (Kd.R_below (aR HO498) hb); have n4_ := aM (Kd.R_below (aR HO502) hb); have n5_ := aM (Kd.R_below (aR HO508) hb); have n6_ := aM (kB gb487 #[.int .i64 t483, .slice Ao16 t484.length co16] 39 hb); have n7_ := aM (kB gb494 #[.int .i64 t489, .slice Ao23 t490.length co23] 39 hb); have n8_ := aM (kB gb504 #[.int .i64 t499, .slice Ao31 t500.length co31] 39 hb); have n9_ := aM (below_step aG hb); have n10_ := aM (hbox); have n11_ := aM ((by rw [hg]; exact (below_size aG) : w.heap.size ≤ gb510)); have n12_ := aM ((by rw [hg]; exact (below_size aG) : w.heap.size ≤ gb510)); have n13_ := aM ((by rw [hg]; exact Nat.ne_of_lt (blk_lt (g := gb487) (o := .cells #[.int .i64 t483, .slice Ao16 t484.length co16] 39 (0, 0)) aK) : gb487 ≠ gb510)); have n14_ := aM ((by rw [hg]; exact Nat.ne_of_gt (blk_lt (g := gb487) (o := .cells #[.int .i64 t483, .slice Ao16 t484.length co16] 39 (0, 0)) aK) : gb510 ≠ gb487)); have n15_ := aM ((by rw [hg]; exact Nat.ne_of_lt (blk_lt (g := gb494) (o := .cells #[.int .i64 t489, .slice Ao23 t490.length co23] 39 (0, 0)) aK) : gb494 ≠ gb510)); have n16_ := aM ((by rw [hg]; exact Nat.ne_of_gt (blk_lt (g := gb494) (o := .cells #[.int .i64 t489, .slice Ao23 t490.length co23] 39 (0, 0)) aK) : gb510 ≠ gb494)); have n17_ := aM ((by rw [hg]; exact Nat.ne_of_lt (blk_lt (g := gb504) (o := .cells #[.int .i64 t499, .slice Ao31 t500.length co31] 39 (0, 0)) aK) : gb504 ≠ gb510)); have n18_ := aM ((by rw [hg]; exact Nat.ne_of_gt (blk_lt (g := gb504) (o := .cells #[.int .i64 t499, .slice Ao31 t500.length co31] 39 (0, 0)) aK) : gb510 ≠ gb504)); clear HO482; clear HO486; clear HO492; clear HO498; clear HO502; clear HO508; clear BK487; clear BK494; clear BK504; clear HB; have HO482 := n0_; have HO486 := n1_; have HO492 := n2_; have HO498 := n3_; have HO502 := n4_; have HO508 := n5_; have BK487 := n6_; have BK494 := n7_; have BK504 := n8_; have HB := n9_; have BK510 := n10_; have GW510 := n11_; have GE510 := n12_; have NB487_510 := n13_; have NB510_487 := n14_; have NB494_510 := n15_; have NB510_494 := n16_; have NB504_510 := n17_; have NB510_504 := n18_; clear n0_ n1_ n2_ n3_ n4_ n5_ n6_ n7_ n8_ n9_ n10_ n11_ n12_ n13_ n14_ n15_ n16_ n17_ n18_; clear hb hbox hg; have hnb34 := NB510_487.out; have hnc34 := NB487_510.out; have hnb35 := NB510_494.out; have hnc35 := NB494_510.out; have hnb36 := NB510_504.out; have hnc36 := NB504_510.out; have hcz37_0 : w33.cell? ⟨gb510, 0, none⟩ = some (.int .i64 0) := (blk_cell BK510.out 0).trans rfl; have hcz37_1 : w33.cell? ⟨gb510, 1, none⟩ = some (.slice none 0 0) := (blk_cell BK510.out 1).trans rfl; have hfz37_0 := blk_frozen BK510.out 0; have hfz37_1 := blk_frozen BK510.out 1; obtain ⟨Ao38, co38, eo38⟩ := Kd.R_slice HO508.out; subst eo38) | ((with_reducible refine gate_callee (f := 18) rfl ?_); refine goesL_ (some 53) rfl rfl Tryd.func18 (by kernel_rfl) rfl #[.slice A0 l0.length c0] rfl aA ?_; (with_reducible refine (spec_DrawCompareFacts.calls k _ _ l0 t511 t512 t515 t516 _ ?side1 ?side2 A10.out).mono ?_); (case side1 => exact Kd.C_below HR0.out aG); (case side2 => exact HC0.out); rintro e w39 ⟨v513, v517, rfl, ho0, ho1, hb⟩; refine ⟨_, rfl, ?_⟩; have HO514 := aM (Kd.R_lower (Kd.R_new' (Kd.R_new' (Kd.R_new' (Kd.R_new' ho0 (Kd.R_lt (by (with_reducible repeat apply pR); exact (Kd.R_mono (Kd.R_far (p := ⟨gb510, 1, none⟩) (Kd.R_far (p := ⟨gb510, 0, none⟩) (Kd.R_types HO486.out BK510.out (by decide)) (fun _ hk => hk.2) (.int .i64 t505)) (fun _ hk => hk.2) (.slice Ao38 t506.length co38)) (fun _ h_ => h_.1))))) (Kd.R_lt (by (with_reducible repeat apply pR); exact (Kd.R_mono (Kd.R_far (p := ⟨gb510, 1, none⟩) (Kd.R_far (p := ⟨gb510, 0, none⟩) (Kd.R_types HO492.out BK510.out (by decide)) (fun _ hk => hk.2) (.int .i64 t505)) (fun _ hk => hk.2) (.slice Ao38 t506.length co38)) (fun _ h_ => h_.1))))) (Kd.R_lt (by (with_reducible repeat apply pR); exact (Kd.R_mono (Kd.R_far (p := ⟨gb510, 1, none⟩) (Kd.R_far (p := ⟨gb510, 0, none⟩) (Kd.R_types HO502.out BK510.out (by decide)) (fun _ hk => hk.2) (.int .i64 t505)) (fun _ hk => hk.2) (.slice Ao38 t506.length co38)) (fun _ h_ => h_.1))))) (Kd.R_lt (by (with_reducible repeat apply pR); exact (Kd.R_mono (Kd.R_far (p := ⟨gb510, 1, none⟩) (Kd.R_far (p := ⟨gb510, 0, none⟩) (Kd.R_types HO508.out BK510.out (by decide)) (fun _ hk => hk.2) (.int .i64 t505)) (fun _ hk => hk.2) (.slice Ao38 t506.length co38)) (fun _ h_ => h_.1))))) (below_size aG)); have HO518 := aM (Kd.R_lower (Kd.R_new' (Kd.R_new' (Kd.R_new' (Kd.R_new' ho1 (Kd.R_lt (by (with_reducible repeat apply pR); exact (Kd.R_mono (Kd.R_far (p := ⟨gb510, 1, none⟩) (Kd.R_far (p := ⟨gb510, 0, none⟩) (Kd.R_types HO486.out BK510.out (by decide)) (fun _ hk => hk.2) (.int .i64 t505)) (fun _ hk => hk.2) (.slice Ao38 t506.length co38)) (fun _ h_ => h_.1))))) (Kd.R_lt (by (with_reducible repeat apply pR); exact (Kd.R_mono (Kd.R_far (p := ⟨gb510, 1, none⟩) (Kd.R_far (p := ⟨gb510, 0, none⟩) (Kd.R_types HO492.out BK510.out (by decide)) (fun _ hk => hk.2) (.int .i64 t505)) (fun _ hk => hk.2) (.slice Ao38 t506.length co38)) (fun _ h_ => h_.1))))) (Kd.R_lt (by (with_reducible repeat apply pR); exact (Kd.R_mono (Kd.R_far (p := ⟨gb510, 1, none⟩) (Kd.R_far (p := ⟨gb510, 0, none⟩) (Kd.R_types HO502.out BK510.out (by decide)) (fun _ hk => hk.2) (.int .i64 t505)) (fun _ hk => hk.2) (.slice Ao38 t506.length co38)) (fun _ h_ => h_.1))))) (Kd.R_lt (by (with_reducible repeat apply pR); exact (Kd.R_mono (Kd.R_far (p := ⟨gb510, 1, none⟩) (Kd.R_far (p := ⟨gb510, 0, none⟩) (Kd.R_types HO508.out BK510.out (by decide)) (fun _ hk => hk.2) (.int .i64 t505)) (fun _ hk => hk.2) (.slice Ao38 t506.length co38)) (fun _ h_ => h_.1))))) (below_size aG)); replace HO482 := aM (Kd.R_below (by (with_reducible repeat apply pR); exact (Kd.R_mono (Kd.R_far (p := ⟨gb510, 1, none⟩) (Kd.R_far (p := ⟨gb510, 0, none⟩) (Kd.R_types HO482.out BK510.out (by decide)) (fun _ hk => hk.2) (.int .i64 t505)) (fun _ hk => hk.2) (.slice Ao38 t506.length co38)) (fun _ h_ => h_.1))) hb); replace HO486 := aM (Kd.R_mono (Kd.R_told (Kd.R_told (Kd.R_old (by (with_reducible repeat apply pR); exact (Kd.R_mono (Kd.R_far (p := ⟨gb510, 1, none⟩) (Kd.R_far (p := ⟨gb510, 0, none⟩) (Kd.R_types HO486.out BK510.out (by decide)) (fun _ hk => hk.2) (.int .i64 t505)) (fun _ hk => hk.2) (.slice Ao38 t506.length co38)) (fun _ h_ => h_.1))) hb) (Kd.R_base ho0)) (Kd.R_base ho1)) (fun _ h_ => h_.1)); replace HO492 := aM (Kd.R_mono (Kd.R_told (Kd.R_told (Kd.R_old (by (with_reducible repeat apply pR); exact (Kd.R_mono (Kd.R_far (p := ⟨gb510, 1, none⟩) (Kd.R_far (p := ⟨gb510, 0, none⟩) (Kd.R_types HO492.out BK510.out (by decide)) (fun _ hk => hk.2) (.int .i64 t505)) (fun _ hk => hk.2) (.slice Ao38 t506.length co38)) (fun _ h_ => h_.1))) hb) (Kd.R_base ho0)) (Kd.R_base ho1)) (fun _ h_ => h_.1)); replace HO498 := aM (Kd.R_below (by (with_reducible repeat apply pR); exact (Kd.R_mono (Kd.R_far (p := ⟨gb510, 1, none⟩) (Kd.R_far (p := ⟨gb510, 0, none⟩) (Kd.R_types HO498.out BK510.out (by decide)) (fun _ hk => hk.2) (.int .i64 t505)) (fun _ hk => hk.2) (.slice Ao38 t506.length co38)) (fun _ h_ => h_.1))) hb); replace HO502 := aM (Kd.R_mono (Kd.R_told (Kd.R_told (Kd.R_old (by (with_reducible repeat apply pR); exact (Kd.R_mono (Kd.R_far (p := ⟨gb510, 1, none⟩) (Kd.R_far (p := ⟨gb510, 0, none⟩) (Kd.R_types HO502.out BK510.out (by decide)) (fun _ hk => hk.2) (.int .i64 t505)) (fun _ hk => hk.2) (.slice Ao38 t506.length co38)) (fun _ h_ => h_.1))) hb) (Kd.R_base ho0)) (Kd.R_base ho1)) (fun _ h_ => h_.1)); replace HO508 := aM (Kd.R_mono (Kd.R_told (Kd.R_told (Kd.R_old (by (with_reducible repeat apply pR); exact (Kd.R_mono (Kd.R_far (p := ⟨gb510, 1, none⟩) (Kd.R_far (p := ⟨gb510, 0, none⟩) (Kd.R_types HO508.out BK510.out (by decide)) (fun _ hk => hk.2) (.int .i64 t505)) (fun _ hk => hk.2) (.slice Ao38 t506.length co38)) (fun _ h_ => h_.1))) hb) (Kd.R_base ho0)) (Kd.R_base ho1)) (fun _ h_ => h_.1)); replace BK487 := aM (blk_below (g := gb487) (o := .cells #[.int .i64 t483, .slice Ao16 t484.length co16] 39 (0, 0)) (by (with_reducible repeat refine pB ?_); refine blk_far ?_ NB487_510.out _; (with_reducible repeat refine pB ?_); refine blk_far ?_ NB487_510.out _; (with_reducible repeat refine pB ?_); exact BK487.out) hb); replace BK494 := aM (blk_below (g := gb494) (o := .cells #[.int .i64 t489, .slice Ao23 t490.length co23] 39 (0, 0)) (by (with_reducible repeat refine pB ?_); refine blk_far ?_ NB494_510.out _; (with_reducible repeat refine pB ?_); refine blk_far ?_ NB494_510.out _; (with_reducible repeat refine pB ?_); exact BK494.out) hb); replace BK504 := aM (blk_below (g := gb504) (o := .cells #[.int .i64 t499, .slice Ao31 t500.length co31] 39 (0, 0)) (by (with_reducible repeat refine pB ?_); refine blk_far ?_ NB504_510.out _; (with_reducible repeat refine pB ?_); refine blk_far ?_ NB504_510.out _; (with_reducible repeat refine pB ?_); exact BK504.out) hb); replace BK510 := aM (blk_below (g := gb510) (o := .cells #[.int .i64 t505, .slice Ao38 t506.length co38] 39 (0, 0)) (by (with_reducible repeat refine pB ?_); refine blk_put (cs := #[.int .i64 t505, .slice none 0 0]) ?_ 1 _ rfl; (with_reducible repeat refine pB ?_); refine blk_put (cs := #[.int .i64 0, .slice none 0 0]) ?_ 0 _ rfl; (with_reducible repeat refine pB ?_); exact BK510.out) hb); replace HB := aM (below_step aG hb); (try clear hb); (try clear hb2); (try clear hk); (try clear hi); (try clear ho0); (try clear ho1)) | ((with_reducible refine gate_dst (N := 13) rfl ?_); refine bE 13 (cs := #[.int .i64 0, .slice none 0 0]) (t := 39) ?_; intro gb519 hg w40 hbox hb; have n0_ := aM (Kd.R_below (aR HO482) hb); have n1_ := aM (Kd.R_below (aR HO486) hb); have n2_ := aM (Kd.R_below (aR HO492) hb); have n3_ := aM (Kd.R_below (aR HO498) hb); have n4_ := aM (Kd.R_below (aR HO502) hb); have n5_ := aM (Kd.R_below (aR HO508) hb); have n6_ := aM (Kd.R_below (aR HO514) hb); have n7_ := aM (Kd.R_below (aR HO518) hb); have n8_ := aM (kB gb487 #[.int .i64 t483, .slice Ao16 t484.length co16] 39 hb); have n9_ := aM (kB gb494 #[.int .i64 t489, .slice Ao23 t490.length co23] 39 hb); have n10_ := aM (kB gb504 #[.int .i64 t499, .slice Ao31 t500.length co31] 39 hb); have n11_ := aM (kB gb510 #[.int .i64 t505, .slice Ao38 t506.length co38] 39 hb); have n12_ := aM (below_step aG hb); have n13_ := aM (hbox); have n14_ := aM ((by rw [hg]; exact (below_size aG) : w.heap.size ≤ gb519)); have n15_ := aM ((by rw [hg]; exact (below_size aG) : w.heap.size ≤ gb519)); have n16_ := aM ((by rw [hg]; exact Nat.ne_of_lt (blk_lt (g := gb487) (o := .cells #[.int .i64 t483, .slice Ao16 t484.length co16] 39 (0, 0)) aK) : gb487 ≠ gb519)); have n17_ := aM ((by rw [hg]; exact Nat.ne_of_gt (blk_lt (g := gb487) (o := .cells #[.int .i64 t483, .slice Ao16 t484.length co16] 39 (0, 0)) aK) : gb519 ≠ gb487)); have n18_ := aM ((by rw [hg]; exact Nat.ne_of_lt (blk_lt (g := gb494) (o := .cells #[.int .i64 t489, .slice Ao23 t490.length co23] 39 (0, 0)) aK) : gb494 ≠ gb519)); have n19_ := aM ((by rw [hg]; exact Nat.ne_of_gt (blk_lt (g := gb494) (o := .cells #[.int .i64 t489, .slice Ao23 t490.length co23] 39 (0, 0)) aK) : gb519 ≠ gb494)); have n20_ := aM ((by rw [hg]; exact Nat.ne_of_lt (blk_lt (g := gb504) (o := .cells #[.int .i64 t499, .slice Ao31 t500.length co31] 39 (0, 0)) aK) : gb504 ≠ gb519)); have n21_ := aM ((by rw [hg]; exact Nat.ne_of_gt (blk_lt (g := gb504) (o := .cells #[.int .i64 t499, .slice Ao31 t500.length co31] 39 (0, 0)) aK) : gb519 ≠ gb504)); have n22_ := aM ((by rw [hg]; exact Nat.ne_of_lt (blk_lt (g := gb510) (o := .cells #[.int .i64 t505, .slice Ao38 t506.length co38] 39 (0, 0)) aK) : gb510 ≠ gb519)); have n23_ := aM ((by rw [hg]; exact Nat.ne_of_gt (blk_lt (g := gb510) (o := .cells #[.int .i64 t505, .slice Ao38 t506.length co38] 39 (0, 0)) aK) : gb519 ≠ gb510)); clear HO482; clear HO486; clear HO492; clear HO498; clear HO502; clear HO508; clear HO514; clear HO518; clear BK487; clear BK494; clear BK504; clear BK510; clear HB; have HO482 := n0_; have HO486 := n1_; have HO492 := n2_; have HO498 := n3_; have HO502 := n4_; have HO508 := n5_; have HO514 := n6_; have HO518 := n7_; have BK487 := n8_; have BK494 := n9_; have BK504 := n10_; have BK510 := n11_; have HB := n12_; have BK519 := n13_; have GW519 := n14_; have GE519 := n15_; have NB487_519 := n16_; have NB519_487 := n17_; have NB494_519 := n18_; have NB519_494 := n19_; have NB504_519 := n20_; have NB519_504 := n21_; have NB510_519 := n22_; have NB519_510 := n23_; clear n0_ n1_ n2_ n3_ n4_ n5_ n6_ n7_ n8_ n9_ n10_ n11_ n12_ n13_ n14_ n15_ n16_ n17_ n18_ n19_ n20_ n21_ n22_ n23_; clear hb hbox hg) | ((with_reducible refine gate_dst (N := 14) rfl ?_); refine bE 14 (cs := #[.int .i64 0, .slice none 0 0]) (t := 39) ?_; intro gb520 hg w41 hbox hb; have n0_ := aM (Kd.R_below (aR HO482) hb); have n1_ := aM (Kd.R_below (aR HO486) hb); have n2_ := aM (Kd.R_below (aR HO492) hb); have n3_ := aM (Kd.R_below (aR HO498) hb); have n4_ := aM (Kd.R_below (aR HO502) hb); have n5_ := aM (Kd.R_below (aR HO508) hb); have n6_ := aM (Kd.R_below (aR HO514) hb); have n7_ := aM (Kd.R_below (aR HO518) hb); have n8_ := aM (kB gb487 #[.int .i64 t483, .slice Ao16 t484.length co16] 39 hb); have n9_ := aM (kB gb494 #[.int .i64 t489, .slice Ao23 t490.length co23] 39 hb); have n10_ := aM (kB gb504 #[.int .i64 t499, .slice Ao31 t500.length co31] 39 hb); have n11_ := aM (kB gb510 #[.int .i64 t505, .slice Ao38 t506.length co38] 39 hb); have n12_ := aM (kB gb519 #[.int .i64 0, .slice none 0 0] 39 hb); have n13_ := aM (below_step aG hb); have n14_ := aM (hbox); have n15_ := aM ((by rw [hg]; exact (below_size aG) : w.heap.size ≤ gb520)); have n16_ := aM ((by rw [hg]; exact (below_size aG) : w.heap.size ≤ gb520)); have n17_ := aM ((by rw [hg]; exact Nat.ne_of_lt (blk_lt (g := gb487) (o := .cells #[.int .i64 t483, .slice Ao16 t484.length co16] 39 (0, 0)) aK) : gb487 ≠ gb520)); have n18_ := aM ((by rw [hg]; exact Nat.ne_of_gt (blk_lt (g := gb487) (o := .cells #[.int .i64 t483, .slice Ao16 t484.length co16] 39 (0, 0)) aK) : gb520 ≠ gb487)); have n19_ := aM ((by rw [hg]; exact Nat.ne_of_lt (blk_lt (g := gb494) (o := .cells #[.int .i64 t489, .slice Ao23 t490.length co23] 39 (0, 0)) aK) : gb494 ≠ gb520)); have n20_ := aM ((by rw [hg]; exact Nat.ne_of_gt (blk_lt (g := gb494) (o := .cells #[.int .i64 t489, .slice Ao23 t490.length co23] 39 (0, 0)) aK) : gb520 ≠ gb494)); have n21_ := aM ((by rw [hg]; exact Nat.ne_of_lt (blk_lt (g := gb504) (o := .cells #[.int .i64 t499, .slice Ao31 t500.length co31] 39 (0, 0)) aK) : gb504 ≠ gb520)); have n22_ := aM ((by rw [hg]; exact Nat.ne_of_gt (blk_lt (g := gb504) (o := .cells #[.int .i64 t499, .slice Ao31 t500.length co31] 39 (0, 0)) aK) : gb520 ≠ gb504)); have n23_ := aM ((by rw [hg]; exact Nat.ne_of_lt (blk_lt (g := gb510) (o := .cells #[.int .i64 t505, .slice Ao38 t506.length co38] 39 (0, 0)) aK) : gb510 ≠ gb520)); have n24_ := aM ((by rw [hg]; exact Nat.ne_of_gt (blk_lt (g := gb510) (o := .cells #[.int .i64 t505, .slice Ao38 t506.length co38] 39 (0, 0)) aK) : gb520 ≠ gb510)); have n25_ := aM ((by rw [hg]; exact Nat.ne_of_lt (blk_lt (g := gb519) (o := .cells #[.int .i64 0, .slice none 0 0] 39 (0, 0)) aK) : gb519 ≠ gb520)); have n26_ := aM ((by rw [hg]; exact Nat.ne_of_gt (blk_lt (g := gb519) (o := .cells #[.int .i64 0, .slice none 0 0] 39 (0, 0)) aK) : gb520 ≠ gb519)); clear HO482; clear HO486; clear HO492; clear HO498; clear HO502; clear HO508; clear HO514; clear HO518; clear BK487; clear BK494; clear BK504; clear BK510; clear BK519; clear HB; have HO482 := n0_; have HO486 := n1_; have HO492 := n2_; have HO498 := n3_; have HO502 := n4_; have HO508 := n5_; have HO514 := n6_; have HO518 := n7_; have BK487 := n8_; have BK494 := n9_; have BK504 := n10_; have BK510 := n11_; have BK519 := n12_; have HB := n13_; have BK520 := n14_; have GW520 := n15_; have GE520 := n16_; have NB487_520 := n17_; have NB520_487 := n18_; have NB494_520 := n19_; have NB520_494 := n20_; have NB504_520 := n21_; have NB520_504 := n22_; have NB510_520 := n23_; have NB520_510 := n24_; have NB519_520 := n25_; have NB520_519 := n26_; clear n0_ n1_ n2_ n3_ n4_ n5_ n6_ n7_ n8_ n9_ n10_ n11_ n12_ n13_ n14_ n15_ n16_ n17_ n18_ n19_ n20_ n21_ n22_ n23_ n24_ n25_ n26_; clear hb hbox hg; have hnb42 := NB519_487.out; have hnc42 := NB487_519.out; have hnb43 := NB519_494.out; have hnc43 := NB494_519.out; have hnb44 := NB519_504.out; have hnc44 := NB504_519.out; have hnb45 := NB519_510.out; have hnc45 := NB510_519.out; have hnb46 := NB519_520.out; have hnc46 := NB520_519.out; have hcz47_0 : w41.cell? ⟨gb519, 0, none⟩ = some (.int .i64 0) := (blk_cell BK519.out 0).trans rfl; have hcz47_1 : w41.cell? ⟨gb519, 1, none⟩ = some (.slice none 0 0) := (blk_cell BK519.out 1).trans rfl; have hfz47_0 := blk_frozen BK519.out 0; have hfz47_1 := blk_frozen BK519.out 1; obtain ⟨Ao48, co48, eo48⟩ := Kd.R_slice HO514.out; subst eo48; have hnb49 := NB520_487.out; have hnc49 := NB487_520.out; have hnb50 := NB520_494.out; have hnc50 := NB494_520.out; have hnb51 := NB520_504.out; have hnc51 := NB504_520.out; have hnb52 := NB520_510.out; have hnc52 := NB510_520.out; have hcz53_0 : w41.cell? ⟨gb520, 0, none⟩ = some (.int .i64 0) := (blk_cell BK520.out 0).trans rfl; have hcz53_1 : w41.cell? ⟨gb520, 1, none⟩ = some (.slice none 0 0) := (blk_cell BK520.out 1).trans rfl; have hfz53_0 := blk_frozen BK520.out 0; have hfz53_1 := blk_frozen BK520.out 1; obtain ⟨Ao54, co54, eo54⟩ := Kd.R_slice HO518.out; subst eo54) | ((with_reducible refine gate_callee (f := 19) rfl ?_); refine goesL_ (some 58) rfl rfl Tryd.func19 (by kernel_rfl) rfl #[.slice A0 l0.length c0] rfl aA ?_; (with_reducible refine (spec_DrawHaveSameKey.calls k _ _ l0 t521 t524 t525 t528 t529 _ ?side1 ?side2 A11.out).mono ?_); (case side1 => exact Kd.C_below HR0.out aG); (case side2 => exact HC0.out); rintro e w55 ⟨v522, v526, v530, rfl, ho0, ho1, ho2, hb⟩; refine ⟨_, rfl, ?_⟩; have HO523 := aM (Kd.R_lower (Kd.R_new' (Kd.R_new' ho0 (Kd.R_lt (by (with_reducible repeat apply pR); exact (rF2 HO482.out BK519.out BK520.out (.int .i64 t511) (.slice Ao48 t512.length co48) (.int .i64 t515) (.slice Ao54 t516.length co54))))) (Kd.R_lt (by (with_reducible repeat apply pR); exact (rF2 HO498.out BK519.out BK520.out (.int .i64 t511) (.slice Ao48 t512.length co48) (.int .i64 t515) (.slice Ao54 t516.length co54))))) (below_size aG)); have HO527 := aM (Kd.R_lower (Kd.R_new' (Kd.R_new' (Kd.R_new' (Kd.R_new' (Kd.R_new' (Kd.R_new' ho1 (Kd.R_lt (by (with_reducible repeat apply pR); exact (rF2 HO486.out BK519.out BK520.out (.int .i64 t511) (.slice Ao48 t512.length co48) (.int .i64 t515) (.slice Ao54 t516.length co54))))) (Kd.R_lt (by (with_reducible repeat apply pR); exact (rF2 HO492.out BK519.out BK520.out (.int .i64 t511) (.slice Ao48 t512.length co48) (.int .i64 t515) (.slice Ao54 t516.length co54))))) (Kd.R_lt (by (with_reducible repeat apply pR); exact (rF2 HO502.out BK519.out BK520.out (.int .i64 t511) (.slice Ao48 t512.length co48) (.int .i64 t515) (.slice Ao54 t516.length co54))))) (Kd.R_lt (by (with_reducible repeat apply pR); exact (rF2 HO508.out BK519.out BK520.out (.int .i64 t511) (.slice Ao48 t512.length co48) (.int .i64 t515) (.slice Ao54 t516.length co54))))) (Kd.R_lt (by (with_reducible repeat apply pR); exact (rF2 HO514.out BK519.out BK520.out (.int .i64 t511) (.slice Ao48 t512.length co48) (.int .i64 t515) (.slice Ao54 t516.length co54))))) (Kd.R_lt (by (with_reducible repeat apply pR); exact (rF2 HO518.out BK519.out BK520.out (.int .i64 t511) (.slice Ao48 t512.length co48) (.int .i64 t515) (.slice Ao54 t516.length co54))))) (below_size aG)); have HO531 := aM (Kd.R_lower (Kd.R_new' (Kd.R_new' (Kd.R_new' (Kd.R_new' (Kd.R_new' (Kd.R_new' ho2 (Kd.R_lt (by (with_reducible repeat apply pR); exact (rF2 HO486.out BK519.out BK520.out (.int .i64 t511) (.slice Ao48 t512.length co48) (.int .i64 t515) (.slice Ao54 t516.length co54))))) (Kd.R_lt (by (with_reducible repeat apply pR); exact (rF2 HO492.out BK519.out BK520.out (.int .i64 t511) (.slice Ao48 t512.length co48) (.int .i64 t515) (.slice Ao54 t516.length co54))))) (Kd.R_lt (by (with_reducible repeat apply pR); exact (rF2 HO502.out BK519.out BK520.out (.int .i64 t511) (.slice Ao48 t512.length co48) (.int .i64 t515) (.slice Ao54 t516.length co54))))) (Kd.R_lt (by (with_reducible repeat apply pR); exact (rF2 HO508.out BK519.out BK520.out (.int .i64 t511) (.slice Ao48 t512.length co48) (.int .i64 t515) (.slice Ao54 t516.length co54))))) (Kd.R_lt (by (with_reducible repeat apply pR); exact (rF2 HO514.out BK519.out BK520.out (.int .i64 t511) (.slice Ao48 t512.length co48) (.int .i64 t515) (.slice Ao54 t516.length co54))))) (Kd.R_lt (by (with_reducible repeat apply pR); exact (rF2 HO518.out BK519.out BK520.out (.int .i64 t511) (.slice Ao48 t512.length co48) (.int .i64 t515) (.slice Ao54 t516.length co54))))) (below_size aG)); replace HO482 := aM (Kd.R_elder' (by (with_reducible repeat apply pR); exact (rF2 HO482.out BK519.out BK520.out (.int .i64 t511) (.slice Ao48 t512.length co48) (.int .i64 t515) (.slice Ao54 t516.length co54))) (Kd.R_base ho0) hb); replace HO486 := aM (Kd.R_mono (Kd.R_told (Kd.R_told (Kd.R_old (by (with_reducible repeat apply pR); exact (rF2 HO486.out BK519.out BK520.out (.int .i64 t511) (.slice Ao48 t512.length co48) (.int .i64 t515) (.slice Ao54 t516.length co54))) hb) (Kd.R_base ho1)) (Kd.R_base ho2)) (fun _ h_ => h_.1)); replace HO492 := aM (Kd.R_mono (Kd.R_told (Kd.R_told (Kd.R_old (by (with_reducible repeat apply pR); exact (rF2 HO492.out BK519.out BK520.out (.int .i64 t511) (.slice Ao48 t512.length co48) (.int .i64 t515) (.slice Ao54 t516.length co54))) hb) (Kd.R_base ho1)) (Kd.R_base ho2)) (fun _ h_ => h_.1)); replace HO498 := aM (Kd.R_elder' (by (with_reducible repeat apply pR); exact (rF2 HO498.out BK519.out BK520.out (.int .i64 t511) (.slice Ao48 t512.length co48) (.int .i64 t515) (.slice Ao54 t516.length co54))) (Kd.R_base ho0) hb); replace HO502 := aM (Kd.R_mono (Kd.R_told (Kd.R_told (Kd.R_old (by (with_reducible repeat apply pR); exact (rF2 HO502.out BK519.out BK520.out (.int .i64 t511) (.slice Ao48 t512.length co48) (.int .i64 t515) (.slice Ao54 t516.length co54))) hb) (Kd.R_base ho1)) (Kd.R_base ho2)) (fun _ h_ => h_.1)); replace HO508 := aM (Kd.R_mono (Kd.R_told (Kd.R_told (Kd.R_old (by (with_reducible repeat apply pR); exact (rF2 HO508.out BK519.out BK520.out (.int .i64 t511) (.slice Ao48 t512.length co48) (.int .i64 t515) (.slice Ao54 t516.length co54))) hb) (Kd.R_base ho1)) (Kd.R_base ho2)) (fun _ h_ => h_.1)); replace HO514 := aM (Kd.R_mono (Kd.R_told (Kd.R_told (Kd.R_old (by (with_reducible repeat apply pR); exact (rF2 HO514.out BK519.out BK520.out (.int .i64 t511) (.slice Ao48 t512.length co48) (.int .i64 t515) (.slice Ao54 t516.length co54))) hb) (Kd.R_base ho1)) (Kd.R_base ho2)) (fun _ h_ => h_.1)); replace HO518 := aM (Kd.R_mono (Kd.R_told (Kd.R_told (Kd.R_old (by (with_reducible repeat apply pR); exact (rF2 HO518.out BK519.out BK520.out (.int .i64 t511) (.slice Ao48 t512.length co48) (.int .i64 t515) (.slice Ao54 t516.length co54))) hb) (Kd.R_base ho1)) (Kd.R_base ho2)) (fun _ h_ => h_.1)); replace BK487 := aM (blk_below (g := gb487) (o := .cells #[.int .i64 t483, .slice Ao16 t484.length co16] 39 (0, 0)) (by (with_reducible repeat refine pB ?_); refine blk_far ?_ NB487_520.out _; (with_reducible repeat refine pB ?_); refine blk_far ?_ NB487_520.out _; (with_reducible repeat refine pB ?_); refine blk_far ?_ NB487_519.out _; (with_reducible repeat refine pB ?_); refine blk_far ?_ NB487_519.out _; (with_reducible repeat refine pB ?_); exact BK487.out) hb); replace BK494 := aM (blk_below (g := gb494) (o := .cells #[.int .i64 t489, .slice Ao23 t490.length co23] 39 (0, 0)) (by (with_reducible repeat refine pB ?_); refine blk_far ?_ NB494_520.out _; (with_reducible repeat refine pB ?_); refine blk_far ?_ NB494_520.out _; (with_reducible repeat refine pB ?_); refine blk_far ?_ NB494_519.out _; (with_reducible repeat refine pB ?_); refine blk_far ?_ NB494_519.out _; (with_reducible repeat refine pB ?_); exact BK494.out) hb); replace BK504 := aM (blk_below (g := gb504) (o := .cells #[.int .i64 t499, .slice Ao31 t500.length co31] 39 (0, 0)) (by (with_reducible repeat refine pB ?_); refine blk_far ?_ NB504_520.out _; (with_reducible repeat refine pB ?_); refine blk_far ?_ NB504_520.out _; (with_reducible repeat refine pB ?_); refine blk_far ?_ NB504_519.out _; (with_reducible repeat refine pB ?_); refine blk_far ?_ NB504_519.out _; (with_reducible repeat refine pB ?_); exact BK504.out) hb); replace BK510 := aM (blk_below (g := gb510) (o := .cells #[.int .i64 t505, .slice Ao38 t506.length co38] 39 (0, 0)) (by (with_reducible repeat refine pB ?_); refine blk_far ?_ NB510_520.out _; (with_reducible repeat refine pB ?_); refine blk_far ?_ NB510_520.out _; (with_reducible repeat refine pB ?_); refine blk_far ?_ NB510_519.out _; (with_reducible repeat refine pB ?_); refine blk_far ?_ NB510_519.out _; (with_reducible repeat refine pB ?_); exact BK510.out) hb); replace BK519 := aM (blk_below (g := gb519) (o := .cells #[.int .i64 t511, .slice Ao48 t512.length co48] 39 (0, 0)) (by (with_reducible repeat refine pB ?_); refine blk_far ?_ NB519_520.out _; (with_reducible repeat refine pB ?_); refine blk_far ?_ NB519_520.out _; (with_reducible repeat refine pB ?_); refine blk_put (cs := #[.int .i64 t511, .slice none 0 0]) ?_ 1 _ rfl; (with_reducible repeat refine pB ?_); refine blk_put (cs := #[.int .i64 0, .slice none 0 0]) ?_ 0 _ rfl; (with_reducible repeat refine pB ?_); exact BK519.out) hb); replace BK520 := aM (blk_below (g := gb520) (o := .cells #[.int .i64 t515, .slice Ao54 t516.length co54] 39 (0, 0)) (by (with_reducible repeat refine pB ?_); refine blk_put (cs := #[.int .i64 t515, .slice none 0 0]) ?_ 1 _ rfl; (with_reducible repeat refine pB ?_); refine blk_put (cs := #[.int .i64 0, .slice none 0 0]) ?_ 0 _ rfl; (with_reducible repeat refine pB ?_); refine blk_far ?_ NB520_519.out _; (with_reducible repeat refine pB ?_); refine blk_far ?_ NB520_519.out _; (with_reducible repeat refine pB ?_); exact BK520.out) hb); replace HB := aM (below_step aG hb); (try clear hb); (try clear hb2); (try clear hk); (try clear hi); (try clear ho0); (try clear ho1); (try clear ho2)) | ((with_reducible refine gate_dst (N := 16) rfl ?_); refine bE 16 (cs := #[.int .i64 0, .slice none 0 0]) (t := 39) ?_; intro gb532 hg w56 hbox hb; have n0_ := aM (Kd.R_below (aR HO482) hb); have n1_ := aM (Kd.R_below (aR HO486) hb); have n2_ := aM (Kd.R_below (aR HO492) hb); have n3_ := aM (Kd.R_below (aR HO498) hb); have n4_ := aM (Kd.R_below (aR HO502) hb); have n5_ := aM (Kd.R_below (aR HO508) hb); have n6_ := aM (Kd.R_below (aR HO514) hb); have n7_ := aM (Kd.R_below (aR HO518) hb); have n8_ := aM (Kd.R_below (aR HO523) hb); have n9_ := aM (Kd.R_below (aR HO527) hb); have n10_ := aM (Kd.R_below (aR HO531) hb); have n11_ := aM (kB gb487 #[.int .i64 t483, .slice Ao16 t484.length co16] 39 hb); have n12_ := aM (kB gb494 #[.int .i64 t489, .slice Ao23 t490.length co23] 39 hb); have n13_ := aM (kB gb504 #[.int .i64 t499, .slice Ao31 t500.length co31] 39 hb); have n14_ := aM (kB gb510 #[.int .i64 t505, .slice Ao38 t506.length co38] 39 hb); have n15_ := aM (kB gb519 #[.int .i64 t511, .slice Ao48 t512.length co48] 39 hb); have n16_ := aM (kB gb520 #[.int .i64 t515, .slice Ao54 t516.length co54] 39 hb); have n17_ := aM (below_step aG hb); have n18_ := aM (hbox); have n19_ := aM ((by rw [hg]; exact (below_size aG) : w.heap.size ≤ gb532)); have n20_ := aM ((by rw [hg]; exact (below_size aG) : w.heap.size ≤ gb532)); have n21_ := aM ((by rw [hg]; exact Nat.ne_of_lt (blk_lt (g := gb487) (o := .cells #[.int .i64 t483, .slice Ao16 t484.length co16] 39 (0, 0)) aK) : gb487 ≠ gb532)); have n22_ := aM ((by rw [hg]; exact Nat.ne_of_gt (blk_lt (g := gb487) (o := .cells #[.int .i64 t483, .slice Ao16 t484.length co16] 39 (0, 0)) aK) : gb532 ≠ gb487)); have n23_ := aM ((by rw [hg]; exact Nat.ne_of_lt (blk_lt (g := gb494) (o := .cells #[.int .i64 t489, .slice Ao23 t490.length co23] 39 (0, 0)) aK) : gb494 ≠ gb532)); have n24_ := aM ((by rw [hg]; exact Nat.ne_of_gt (blk_lt (g := gb494) (o := .cells #[.int .i64 t489, .slice Ao23 t490.length co23] 39 (0, 0)) aK) : gb532 ≠ gb494)); have n25_ := aM ((by rw [hg]; exact Nat.ne_of_lt (blk_lt (g := gb504) (o := .cells #[.int .i64 t499, .slice Ao31 t500.length co31] 39 (0, 0)) aK) : gb504 ≠ gb532)); have n26_ := aM ((by rw [hg]; exact Nat.ne_of_gt (blk_lt (g := gb504) (o := .cells #[.int .i64 t499, .slice Ao31 t500.length co31] 39 (0, 0)) aK) : gb532 ≠ gb504)); have n27_ := aM ((by rw [hg]; exact Nat.ne_of_lt (blk_lt (g := gb510) (o := .cells #[.int .i64 t505, .slice Ao38 t506.length co38] 39 (0, 0)) aK) : gb510 ≠ gb532)); have n28_ := aM ((by rw [hg]; exact Nat.ne_of_gt (blk_lt (g := gb510) (o := .cells #[.int .i64 t505, .slice Ao38 t506.length co38] 39 (0, 0)) aK) : gb532 ≠ gb510)); have n29_ := aM ((by rw [hg]; exact Nat.ne_of_lt (blk_lt (g := gb519) (o := .cells #[.int .i64 t511, .slice Ao48 t512.length co48] 39 (0, 0)) aK) : gb519 ≠ gb532)); have n30_ := aM ((by rw [hg]; exact Nat.ne_of_gt (blk_lt (g := gb519) (o := .cells #[.int .i64 t511, .slice Ao48 t512.length co48] 39 (0, 0)) aK) : gb532 ≠ gb519)); have n31_ := aM ((by rw [hg]; exact Nat.ne_of_lt (blk_lt (g := gb520) (o := .cells #[.int .i64 t515, .slice Ao54 t516.length co54] 39 (0, 0)) aK) : gb520 ≠ gb532)); have n32_ := aM ((by rw [hg]; exact Nat.ne_of_gt (blk_lt (g := gb520) (o := .cells #[.int .i64 t515, .slice Ao54 t516.length co54] 39 (0, 0)) aK) : gb532 ≠ gb520)); clear HO482; clear HO486; clear HO492; clear HO498; clear HO502; clear HO508; clear HO514; clear HO518; clear HO523; clear HO527; clear HO531; clear BK487; clear BK494; clear BK504; clear BK510; clear BK519; clear BK520; clear HB; have HO482 := n0_; have HO486 := n1_; have HO492 := n2_; have HO498 := n3_; have HO502 := n4_; have HO508 := n5_; have HO514 := n6_; have HO518 := n7_; have HO523 := n8_; have HO527 := n9_; have HO531 := n10_; have BK487 := n11_; have BK494 := n12_; have BK504 := n13_; have BK510 := n14_; have BK519 := n15_; have BK520 := n16_; have HB := n17_; have BK532 := n18_; have GW532 := n19_; have GE532 := n20_; have NB487_532 := n21_; have NB532_487 := n22_; have NB494_532 := n23_; have NB532_494 := n24_; have NB504_532 := n25_; have NB532_504 := n26_; have NB510_532 := n27_; have NB532_510 := n28_; have NB519_532 := n29_; have NB532_519 := n30_; have NB520_532 := n31_; have NB532_520 := n32_; clear n0_ n1_ n2_ n3_ n4_ n5_ n6_ n7_ n8_ n9_ n10_ n11_ n12_ n13_ n14_ n15_ n16_ n17_ n18_ n19_ n20_ n21_ n22_ n23_ n24_ n25_ n26_ n27_ n28_ n29_ n30_ n31_ n32_; clear hb hbox hg) | ((with_reducible refine gate_dst (N := 17) rfl ?_); refine bE 17 (cs := #[.int .i64 0, .slice none 0 0]) (t := 39) ?_; intro gb533 hg w57 hbox hb; have n0_ := aM (Kd.R_below (aR HO482) hb); have n1_ := aM (Kd.R_below (aR HO486) hb); have n2_ := aM (Kd.R_below (aR HO492) hb); have n3_ := aM (Kd.R_below (aR HO498) hb); have n4_ := aM (Kd.R_below (aR HO502) hb); have n5_ := aM (Kd.R_below (aR HO508) hb); have n6_ := aM (Kd.R_below (aR HO514) hb); have n7_ := aM (Kd.R_below (aR HO518) hb); have n8_ := aM (Kd.R_below (aR HO523) hb); have n9_ := aM (Kd.R_below (aR HO527) hb); have n10_ := aM (Kd.R_below (aR HO531) hb); have n11_ := aM (kB gb487 #[.int .i64 t483, .slice Ao16 t484.length co16] 39 hb); have n12_ := aM (kB gb494 #[.int .i64 t489, .slice Ao23 t490.length co23] 39 hb); have n13_ := aM (kB gb504 #[.int .i64 t499, .slice Ao31 t500.length co31] 39 hb); have n14_ := aM (kB gb510 #[.int .i64 t505, .slice Ao38 t506.length co38] 39 hb); have n15_ := aM (kB gb519 #[.int .i64 t511, .slice Ao48 t512.length co48] 39 hb); have n16_ := aM (kB gb520 #[.int .i64 t515, .slice Ao54 t516.length co54] 39 hb); have n17_ := aM (kB gb532 #[.int .i64 0, .slice none 0 0] 39 hb); have n18_ := aM (below_step aG hb); have n19_ := aM (hbox); have n20_ := aM ((by rw [hg]; exact (below_size aG) : w.heap.size ≤ gb533)); have n21_ := aM ((by rw [hg]; exact (below_size aG) : w.heap.size ≤ gb533)); have n22_ := aM ((by rw [hg]; exact Nat.ne_of_lt (blk_lt (g := gb487) (o := .cells #[.int .i64 t483, .slice Ao16 t484.length co16] 39 (0, 0)) aK) : gb487 ≠ gb533)); have n23_ := aM ((by rw [hg]; exact Nat.ne_of_gt (blk_lt (g := gb487) (o := .cells #[.int .i64 t483, .slice Ao16 t484.length co16] 39 (0, 0)) aK) : gb533 ≠ gb487)); have n24_ := aM ((by rw [hg]; exact Nat.ne_of_lt (blk_lt (g := gb494) (o := .cells #[.int .i64 t489, .slice Ao23 t490.length co23] 39 (0, 0)) aK) : gb494 ≠ gb533)); have n25_ := aM ((by rw [hg]; exact Nat.ne_of_gt (blk_lt (g := gb494) (o := .cells #[.int .i64 t489, .slice Ao23 t490.length co23] 39 (0, 0)) aK) : gb533 ≠ gb494)); have n26_ := aM ((by rw [hg]; exact Nat.ne_of_lt (blk_lt (g := gb504) (o := .cells #[.int .i64 t499, .slice Ao31 t500.length co31] 39 (0, 0)) aK) : gb504 ≠ gb533)); have n27_ := aM ((by rw [hg]; exact Nat.ne_of_gt (blk_lt (g := gb504) (o := .cells #[.int .i64 t499, .slice Ao31 t500.length co31] 39 (0, 0)) aK) : gb533 ≠ gb504)); have n28_ := aM ((by rw [hg]; exact Nat.ne_of_lt (blk_lt (g := gb510) (o := .cells #[.int .i64 t505, .slice Ao38 t506.length co38] 39 (0, 0)) aK) : gb510 ≠ gb533)); have n29_ := aM ((by rw [hg]; exact Nat.ne_of_gt (blk_lt (g := gb510) (o := .cells #[.int .i64 t505, .slice Ao38 t506.length co38] 39 (0, 0)) aK) : gb533 ≠ gb510)); have n30_ := aM ((by rw [hg]; exact Nat.ne_of_lt (blk_lt (g := gb519) (o := .cells #[.int .i64 t511, .slice Ao48 t512.length co48] 39 (0, 0)) aK) : gb519 ≠ gb533)); have n31_ := aM ((by rw [hg]; exact Nat.ne_of_gt (blk_lt (g := gb519) (o := .cells #[.int .i64 t511, .slice Ao48 t512.length co48] 39 (0, 0)) aK) : gb533 ≠ gb519)); have n32_ := aM ((by rw [hg]; exact Nat.ne_of_lt (blk_lt (g := gb520) (o := .cells #[.int .i64 t515, .slice Ao54 t516.length co54] 39 (0, 0)) aK) : gb520 ≠ gb533)); have n33_ := aM ((by rw [hg]; exact Nat.ne_of_gt (blk_lt (g := gb520) (o := .cells #[.int .i64 t515, .slice Ao54 t516.length co54] 39 (0, 0)) aK) : gb533 ≠ gb520)); have n34_ := aM ((by rw [hg]; exact Nat.ne_of_lt (blk_lt (g := gb532) (o := .cells #[.int .i64 0, .slice none 0 0] 39 (0, 0)) aK) : gb532 ≠ gb533)); have n35_ := aM ((by rw [hg]; exact Nat.ne_of_gt (blk_lt (g := gb532) (o := .cells #[.int .i64 0, .slice none 0 0] 39 (0, 0)) aK) : gb533 ≠ gb532)); clear HO482; clear HO486; clear HO492; clear HO498; clear HO502; clear HO508; clear HO514; clear HO518; clear HO523; clear HO527; clear HO531; clear BK487; clear BK494; clear BK504; clear BK510; clear BK519; clear BK520; clear BK532; clear HB; have HO482 := n0_; have HO486 := n1_; have HO492 := n2_; have HO498 := n3_; have HO502 := n4_; have HO508 := n5_; have HO514 := n6_; have HO518 := n7_; have HO523 := n8_; have HO527 := n9_; have HO531 := n10_; have BK487 := n11_; have BK494 := n12_; have BK504 := n13_; have BK510 := n14_; have BK519 := n15_; have BK520 := n16_; have BK532 := n17_; have HB := n18_; have BK533 := n19_; have GW533 := n20_; have GE533 := n21_; have NB487_533 := n22_; have NB533_487 := n23_; have NB494_533 := n24_; have NB533_494 := n25_; have NB504_533 := n26_; have NB533_504 := n27_; have NB510_533 := n28_; have NB533_510 := n29_; have NB519_533 := n30_; have NB533_519 := n31_; have NB520_533 := n32_; have NB533_520 := n33_; have NB532_533 := n34_; have NB533_532 := n35_; clear n0_ n1_ n2_ n3_ n4_ n5_ n6_ n7_ n8_ n9_ n10_ n11_ n12_ n13_ n14_ n15_ n16_ n17_ n18_ n19_ n20_ n21_ n22_ n23_ n24_ n25_ n26_ n27_ n28_ n29_ n30_ n31_ n32_ n33_ n34_ n35_; clear hb hbox hg; have hnb58 := NB532_487.out; have hnc58 := NB487_532.out; have hnb59 := NB532_494.out; have hnc59 := NB494_532.out; have hnb60 := NB532_504.out; have hnc60 := NB504_532.out; have hnb61 := NB532_510.out; have hnc61 := NB510_532.out; have hnb62 := NB532_519.out; have hnc62 := NB519_532.out; have hnb63 := NB532_520.out; have hnc63 := NB520_532.out; have hnb64 := NB532_533.out; have hnc64 := NB533_532.out; have hcz65_0 : w57.cell? ⟨gb532, 0, none⟩ = some (.int .i64 0) := (blk_cell BK532.out 0).trans rfl; have hcz65_1 : w57.cell? ⟨gb532, 1, none⟩ = some (.slice none 0 0) := (blk_cell BK532.out 1).trans rfl; have hfz65_0 := blk_frozen BK532.out 0; have hfz65_1 := blk_frozen BK532.out 1; obtain ⟨Ao66, co66, eo66⟩ := Kd.R_slice HO527.out; subst eo66; have hnb67 := NB533_487.out; have hnc67 := NB487_533.out; have hnb68 := NB533_494.out; have hnc68 := NB494_533.out; have hnb69 := NB533_504.out; have hnc69 := NB504_533.out; have hnb70 := NB533_510.out; have hnc70 := NB510_533.out; have hnb71 := NB533_519.out; have hnc71 := NB519_533.out; have hnb72 := NB533_520.out; have hnc72 := NB520_533.out; have hcz73_0 : w57.cell? ⟨gb533, 0, none⟩ = some (.int .i64 0) := (blk_cell BK533.out 0).trans rfl; have hcz73_1 : w57.cell? ⟨gb533, 1, none⟩ = some (.slice none 0 0) := (blk_cell BK533.out 1).trans rfl; have hfz73_0 := blk_frozen BK533.out 0; have hfz73_1 := blk_frozen BK533.out 1; obtain ⟨Ao74, co74, eo74⟩ := Kd.R_slice HO531.out; subst eo74))
  (try simp only [Act.put, List.setIfInBounds_toArray, List.set_cons_zero, List.set_cons_succ])
  go_cut [90] (fun v90 wc => ∃ (kq : Nat) (x90_11 : Bool), v90 = .bool x90_11 ∧ Aside0 (laws_FnFactFormat.j0 kq t521 x90_11 t511 t512 t515 t516 t524 t525 t528 t529 = some r) ∧ Aside0 (kq ≤ k) ∧ Aside0 (Kd.R k68 68 wc w.heap.size (fun _ => True) v522 t521) ∧ Aside0 (Kd.R (Kd.int .i64) 3 wc w.heap.size (fun k_ => some k_ ≠ ((.slice Ao23 t490.length co23) : Value).ownBlock ∧ some k_ ≠ ((.slice Ao31 t500.length co31) : Value).ownBlock ∧ some k_ ≠ ((.slice Ao38 t506.length co38) : Value).ownBlock ∧ some k_ ≠ ((.slice Ao48 t512.length co48) : Value).ownBlock ∧ some k_ ≠ ((.slice Ao54 t516.length co54) : Value).ownBlock ∧ some k_ ≠ ((.slice Ao66 t525.length co66) : Value).ownBlock ∧ some k_ ≠ ((.slice Ao74 t529.length co74) : Value).ownBlock) (.slice Ao16 t484.length co16) t484) ∧ Aside0 (Kd.R (Kd.int .i64) 3 wc w.heap.size (fun k_ => some k_ ≠ ((.slice Ao16 t484.length co16) : Value).ownBlock ∧ some k_ ≠ ((.slice Ao31 t500.length co31) : Value).ownBlock ∧ some k_ ≠ ((.slice Ao38 t506.length co38) : Value).ownBlock ∧ some k_ ≠ ((.slice Ao48 t512.length co48) : Value).ownBlock ∧ some k_ ≠ ((.slice Ao54 t516.length co54) : Value).ownBlock ∧ some k_ ≠ ((.slice Ao66 t525.length co66) : Value).ownBlock ∧ some k_ ≠ ((.slice Ao74 t529.length co74) : Value).ownBlock) (.slice Ao23 t490.length co23) t490) ∧ Aside0 (Kd.R (Kd.int .i64) 3 wc w.heap.size (fun k_ => some k_ ≠ ((.slice Ao16 t484.length co16) : Value).ownBlock ∧ some k_ ≠ ((.slice Ao23 t490.length co23) : Value).ownBlock ∧ some k_ ≠ ((.slice Ao38 t506.length co38) : Value).ownBlock ∧ some k_ ≠ ((.slice Ao48 t512.length co48) : Value).ownBlock ∧ some k_ ≠ ((.slice Ao54 t516.length co54) : Value).ownBlock ∧ some k_ ≠ ((.slice Ao66 t525.length co66) : Value).ownBlock ∧ some k_ ≠ ((.slice Ao74 t529.length co74) : Value).ownBlock) (.slice Ao31 t500.length co31) t500) ∧ Aside0 (Kd.R (Kd.int .i64) 3 wc w.heap.size (fun k_ => some k_ ≠ ((.slice Ao16 t484.length co16) : Value).ownBlock ∧ some k_ ≠ ((.slice Ao23 t490.length co23) : Value).ownBlock ∧ some k_ ≠ ((.slice Ao31 t500.length co31) : Value).ownBlock ∧ some k_ ≠ ((.slice Ao48 t512.length co48) : Value).ownBlock ∧ some k_ ≠ ((.slice Ao54 t516.length co54) : Value).ownBlock ∧ some k_ ≠ ((.slice Ao66 t525.length co66) : Value).ownBlock ∧ some k_ ≠ ((.slice Ao74 t529.length co74) : Value).ownBlock) (.slice Ao38 t506.length co38) t506) ∧ Aside0 (Kd.R (Kd.int .i64) 3 wc w.heap.size (fun k_ => some k_ ≠ ((.slice Ao16 t484.length co16) : Value).ownBlock ∧ some k_ ≠ ((.slice Ao23 t490.length co23) : Value).ownBlock ∧ some k_ ≠ ((.slice Ao31 t500.length co31) : Value).ownBlock ∧ some k_ ≠ ((.slice Ao38 t506.length co38) : Value).ownBlock ∧ some k_ ≠ ((.slice Ao54 t516.length co54) : Value).ownBlock ∧ some k_ ≠ ((.slice Ao66 t525.length co66) : Value).ownBlock ∧ some k_ ≠ ((.slice Ao74 t529.length co74) : Value).ownBlock) (.slice Ao48 t512.length co48) t512) ∧ Aside0 (Kd.R (Kd.int .i64) 3 wc w.heap.size (fun k_ => some k_ ≠ ((.slice Ao16 t484.length co16) : Value).ownBlock ∧ some k_ ≠ ((.slice Ao23 t490.length co23) : Value).ownBlock ∧ some k_ ≠ ((.slice Ao31 t500.length co31) : Value).ownBlock ∧ some k_ ≠ ((.slice Ao38 t506.length co38) : Value).ownBlock ∧ some k_ ≠ ((.slice Ao48 t512.length co48) : Value).ownBlock ∧ some k_ ≠ ((.slice Ao66 t525.length co66) : Value).ownBlock ∧ some k_ ≠ ((.slice Ao74 t529.length co74) : Value).ownBlock) (.slice Ao54 t516.length co54) t516) ∧ Aside0 (Kd.R (Kd.int .i64) 3 wc w.heap.size (fun k_ => some k_ ≠ ((.slice Ao16 t484.length co16) : Value).ownBlock ∧ some k_ ≠ ((.slice Ao23 t490.length co23) : Value).ownBlock ∧ some k_ ≠ ((.slice Ao31 t500.length co31) : Value).ownBlock ∧ some k_ ≠ ((.slice Ao38 t506.length co38) : Value).ownBlock ∧ some k_ ≠ ((.slice Ao48 t512.length co48) : Value).ownBlock ∧ some k_ ≠ ((.slice Ao54 t516.length co54) : Value).ownBlock ∧ some k_ ≠ ((.slice Ao74 t529.length co74) : Value).ownBlock) (.slice Ao66 t525.length co66) t525) ∧ Aside0 (Kd.R (Kd.int .i64) 3 wc w.heap.size (fun k_ => some k_ ≠ ((.slice Ao16 t484.length co16) : Value).ownBlock ∧ some k_ ≠ ((.slice Ao23 t490.length co23) : Value).ownBlock ∧ some k_ ≠ ((.slice Ao31 t500.length co31) : Value).ownBlock ∧ some k_ ≠ ((.slice Ao38 t506.length co38) : Value).ownBlock ∧ some k_ ≠ ((.slice Ao48 t512.length co48) : Value).ownBlock ∧ some k_ ≠ ((.slice Ao54 t516.length co54) : Value).ownBlock ∧ some k_ ≠ ((.slice Ao66 t525.length co66) : Value).ownBlock) (.slice Ao74 t529.length co74) t529) ∧ Aside0 (wc.heap[gb487]? = some (.cells #[.int .i64 t483, (.slice Ao16 t484.length co16)] 39 (0, 0))) ∧ Aside0 (wc.heap[gb494]? = some (.cells #[.int .i64 t489, (.slice Ao23 t490.length co23)] 39 (0, 0))) ∧ Aside0 (wc.heap[gb504]? = some (.cells #[.int .i64 t499, (.slice Ao31 t500.length co31)] 39 (0, 0))) ∧ Aside0 (wc.heap[gb510]? = some (.cells #[.int .i64 t505, (.slice Ao38 t506.length co38)] 39 (0, 0))) ∧ Aside0 (wc.heap[gb519]? = some (.cells #[.int .i64 t511, (.slice Ao48 t512.length co48)] 39 (0, 0))) ∧ Aside0 (wc.heap[gb520]? = some (.cells #[.int .i64 t515, (.slice Ao54 t516.length co54)] 39 (0, 0))) ∧ Aside0 (wc.heap[gb532]? = some (.cells #[.int .i64 t524, (.slice Ao66 t525.length co66)] 39 (0, 0))) ∧ Aside0 (wc.heap[gb533]? = some (.cells #[.int .i64 t528, (.slice Ao74 t529.length co74)] 39 (0, 0))) ∧ Aside0 (Below w.heap.size w wc))
  case first =>
   have H := HC12.out
   clear HC12
   replace H := bM H
   obtain ⟨t534, A750, H⟩ := H
   have A75 := aM A750
   clear A750
   by_cases c76 : (t493 != t534) = true
   ·rw [if_pos c76] at H
    have c76b0 : (t493 != t534) = true := c76
    (try (have c76b1 : decide (t493 = t534) = false := by simpa using c76))
    (try (have c76b2 : (t493 == t534) = false := by simpa using c76))
    (try (have c76b3 : ¬ (t493 = t534) := by simpa using c76))
    clear c76
    (first | rw [c76b0] | (simp only [i64_w, i32_w]; rw [c76b0]) | skip)
    have H' := aM H
    clear H
    have hnb77 := NB487_494.out
    have hnc77 := NB494_487.out
    have hnb78 := NB487_504.out
    have hnc78 := NB504_487.out
    have hnb79 := NB487_510.out
    have hnc79 := NB510_487.out
    have hnb80 := NB487_519.out
    have hnc80 := NB519_487.out
    have hnb81 := NB487_520.out
    have hnc81 := NB520_487.out
    have hnb82 := NB487_532.out
    have hnc82 := NB532_487.out
    have hnb83 := NB487_533.out
    have hnc83 := NB533_487.out
    have hcz84_0 : w57.cell? ⟨gb487, 0, none⟩ = some (.int .i64 t483) := (blk_cell BK487.out 0).trans rfl
    have hcz84_1 : w57.cell? ⟨gb487, 1, none⟩ = some (.slice Ao16 t484.length co16) := (blk_cell BK487.out 1).trans rfl
    have hfz84_0 := blk_frozen BK487.out 0
    have hfz84_1 := blk_frozen BK487.out 1
    go_wp2_with (first | ((with_reducible refine gate_callee (f := 20) rfl ?_); refine goesL_ (some 65) rfl rfl Tryd.func20 (by kernel_rfl) rfl #[.slice Ao17 t480.length co17, .agg #[.int .i64 t483, .slice Ao16 t484.length co16]] rfl aA ?_; (with_reducible refine (spec_IsValidFact.calls k _ _ t480 t483 _ _ t484 t534 _ ?side1 ?side2 ?side3 ?side4 A75.out).mono ?_); (case side1 => refine (Kd.R_reads' (e := 68) (base := w.heap.size) (ok := fun k_ => ((True ∧ some k_ ≠ (.slice Ao25 t495.length co25 : Value).ownBlock) ∧ some k_ ≠ (v522 : Value).ownBlock)) (n := t480.length) (c := co17) ?_).2.2; exact (by (with_reducible repeat apply pR); exact (rF2 HO482.out BK532.out BK533.out (.int .i64 t524) (.slice Ao66 t525.length co66) (.int .i64 t528) (.slice Ao74 t529.length co74)))); (case side2 => exact (Kd.R_reads' HO482.out).2.1); (case side3 => refine (Kd.R_reads' (e := 3) (base := w.heap.size) (ok := fun k_ => (((((((True ∧ some k_ ≠ (.slice Ao23 t490.length co23 : Value).ownBlock) ∧ some k_ ≠ (.slice Ao31 t500.length co31 : Value).ownBlock) ∧ some k_ ≠ (.slice Ao38 t506.length co38 : Value).ownBlock) ∧ some k_ ≠ (.slice Ao48 t512.length co48 : Value).ownBlock) ∧ some k_ ≠ (.slice Ao54 t516.length co54 : Value).ownBlock) ∧ some k_ ≠ (.slice Ao66 t525.length co66 : Value).ownBlock) ∧ some k_ ≠ (.slice Ao74 t529.length co74 : Value).ownBlock)) (n := t484.length) (c := co16) ?_).2.2; exact (by (with_reducible repeat apply pR); exact (rF2 HO486.out BK532.out BK533.out (.int .i64 t524) (.slice Ao66 t525.length co66) (.int .i64 t528) (.slice Ao74 t529.length co74)))); (case side4 => exact (Kd.R_reads' HO486.out).2.1); rintro e w85 ⟨rfl, hb⟩; refine ⟨_, rfl, ?_⟩; replace HO482 := aM (Kd.R_below (by (with_reducible repeat apply pR); exact (rF2 HO482.out BK532.out BK533.out (.int .i64 t524) (.slice Ao66 t525.length co66) (.int .i64 t528) (.slice Ao74 t529.length co74))) hb); replace HO486 := aM (Kd.R_below (by (with_reducible repeat apply pR); exact (rF2 HO486.out BK532.out BK533.out (.int .i64 t524) (.slice Ao66 t525.length co66) (.int .i64 t528) (.slice Ao74 t529.length co74))) hb); replace HO492 := aM (Kd.R_below (by (with_reducible repeat apply pR); exact (rF2 HO492.out BK532.out BK533.out (.int .i64 t524) (.slice Ao66 t525.length co66) (.int .i64 t528) (.slice Ao74 t529.length co74))) hb); replace HO498 := aM (Kd.R_below (by (with_reducible repeat apply pR); exact (rF2 HO498.out BK532.out BK533.out (.int .i64 t524) (.slice Ao66 t525.length co66) (.int .i64 t528) (.slice Ao74 t529.length co74))) hb); replace HO502 := aM (Kd.R_below (by (with_reducible repeat apply pR); exact (rF2 HO502.out BK532.out BK533.out (.int .i64 t524) (.slice Ao66 t525.length co66) (.int .i64 t528) (.slice Ao74 t529.length co74))) hb); replace HO508 := aM (Kd.R_below (by (with_reducible repeat apply pR); exact (rF2 HO508.out BK532.out BK533.out (.int .i64 t524) (.slice Ao66 t525.length co66) (.int .i64 t528) (.slice Ao74 t529.length co74))) hb); replace HO514 := aM (Kd.R_below (by (with_reducible repeat apply pR); exact (rF2 HO514.out BK532.out BK533.out (.int .i64 t524) (.slice Ao66 t525.length co66) (.int .i64 t528) (.slice Ao74 t529.length co74))) hb); replace HO518 := aM (Kd.R_below (by (with_reducible repeat apply pR); exact (rF2 HO518.out BK532.out BK533.out (.int .i64 t524) (.slice Ao66 t525.length co66) (.int .i64 t528) (.slice Ao74 t529.length co74))) hb); replace HO523 := aM (Kd.R_below (by (with_reducible repeat apply pR); exact (rF2 HO523.out BK532.out BK533.out (.int .i64 t524) (.slice Ao66 t525.length co66) (.int .i64 t528) (.slice Ao74 t529.length co74))) hb); replace HO527 := aM (Kd.R_below (by (with_reducible repeat apply pR); exact (rF2 HO527.out BK532.out BK533.out (.int .i64 t524) (.slice Ao66 t525.length co66) (.int .i64 t528) (.slice Ao74 t529.length co74))) hb); replace HO531 := aM (Kd.R_below (by (with_reducible repeat apply pR); exact (rF2 HO531.out BK532.out BK533.out (.int .i64 t524) (.slice Ao66 t525.length co66) (.int .i64 t528) (.slice Ao74 t529.length co74))) hb); replace BK487 := aM (blk_below (g := gb487) (o := .cells #[.int .i64 t483, .slice Ao16 t484.length co16] 39 (0, 0)) (by (with_reducible repeat refine pB ?_); refine blk_far ?_ NB487_533.out _; (with_reducible repeat refine pB ?_); refine blk_far ?_ NB487_533.out _; (with_reducible repeat refine pB ?_); refine blk_far ?_ NB487_532.out _; (with_reducible repeat refine pB ?_); refine blk_far ?_ NB487_532.out _; (with_reducible repeat refine pB ?_); exact BK487.out) hb); replace BK494 := aM (blk_below (g := gb494) (o := .cells #[.int .i64 t489, .slice Ao23 t490.length co23] 39 (0, 0)) (by (with_reducible repeat refine pB ?_); refine blk_far ?_ NB494_533.out _; (with_reducible repeat refine pB ?_); refine blk_far ?_ NB494_533.out _; (with_reducible repeat refine pB ?_); refine blk_far ?_ NB494_532.out _; (with_reducible repeat refine pB ?_); refine blk_far ?_ NB494_532.out _; (with_reducible repeat refine pB ?_); exact BK494.out) hb); replace BK504 := aM (blk_below (g := gb504) (o := .cells #[.int .i64 t499, .slice Ao31 t500.length co31] 39 (0, 0)) (by (with_reducible repeat refine pB ?_); refine blk_far ?_ NB504_533.out _; (with_reducible repeat refine pB ?_); refine blk_far ?_ NB504_533.out _; (with_reducible repeat refine pB ?_); refine blk_far ?_ NB504_532.out _; (with_reducible repeat refine pB ?_); refine blk_far ?_ NB504_532.out _; (with_reducible repeat refine pB ?_); exact BK504.out) hb); replace BK510 := aM (blk_below (g := gb510) (o := .cells #[.int .i64 t505, .slice Ao38 t506.length co38] 39 (0, 0)) (by (with_reducible repeat refine pB ?_); refine blk_far ?_ NB510_533.out _; (with_reducible repeat refine pB ?_); refine blk_far ?_ NB510_533.out _; (with_reducible repeat refine pB ?_); refine blk_far ?_ NB510_532.out _; (with_reducible repeat refine pB ?_); refine blk_far ?_ NB510_532.out _; (with_reducible repeat refine pB ?_); exact BK510.out) hb); replace BK519 := aM (blk_below (g := gb519) (o := .cells #[.int .i64 t511, .slice Ao48 t512.length co48] 39 (0, 0)) (by (with_reducible repeat refine pB ?_); refine blk_far ?_ NB519_533.out _; (with_reducible repeat refine pB ?_); refine blk_far ?_ NB519_533.out _; (with_reducible repeat refine pB ?_); refine blk_far ?_ NB519_532.out _; (with_reducible repeat refine pB ?_); refine blk_far ?_ NB519_532.out _; (with_reducible repeat refine pB ?_); exact BK519.out) hb); replace BK520 := aM (blk_below (g := gb520) (o := .cells #[.int .i64 t515, .slice Ao54 t516.length co54] 39 (0, 0)) (by (with_reducible repeat refine pB ?_); refine blk_far ?_ NB520_533.out _; (with_reducible repeat refine pB ?_); refine blk_far ?_ NB520_533.out _; (with_reducible repeat refine pB ?_); refine blk_far ?_ NB520_532.out _; (with_reducible repeat refine pB ?_); refine blk_far ?_ NB520_532.out _; (with_reducible repeat refine pB ?_); exact BK520.out) hb); replace BK532 := aM (blk_below (g := gb532) (o := .cells #[.int .i64 t524, .slice Ao66 t525.length co66] 39 (0, 0)) (by (with_reducible repeat refine pB ?_); refine blk_far ?_ NB532_533.out _; (with_reducible repeat refine pB ?_); refine blk_far ?_ NB532_533.out _; (with_reducible repeat refine pB ?_); refine blk_put (cs := #[.int .i64 t524, .slice none 0 0]) ?_ 1 _ rfl; (with_reducible repeat refine pB ?_); refine blk_put (cs := #[.int .i64 0, .slice none 0 0]) ?_ 0 _ rfl; (with_reducible repeat refine pB ?_); exact BK532.out) hb); replace BK533 := aM (blk_below (g := gb533) (o := .cells #[.int .i64 t528, .slice Ao74 t529.length co74] 39 (0, 0)) (by (with_reducible repeat refine pB ?_); refine blk_put (cs := #[.int .i64 t528, .slice none 0 0]) ?_ 1 _ rfl; (with_reducible repeat refine pB ?_); refine blk_put (cs := #[.int .i64 0, .slice none 0 0]) ?_ 0 _ rfl; (with_reducible repeat refine pB ?_); refine blk_far ?_ NB533_532.out _; (with_reducible repeat refine pB ?_); refine blk_far ?_ NB533_532.out _; (with_reducible repeat refine pB ?_); exact BK533.out) hb); replace HB := aM (below_step aG hb); (try clear hb); (try clear hb2); (try clear hk); (try clear hi)))
    go_meet
    case rel => exact ⟨_, (true), aX, H', ⟨by first | omega | exact Nat.le_refl _⟩, ⟨by (with_reducible repeat apply pR); exact Kd.R_mono HO523.out (fun _ hk => trivial)⟩, ⟨by (with_reducible repeat apply pR); exact Kd.R_mono HO486.out (fun _ hk => ⟨hk.1.1.1.1.1.1.2, ⟨hk.1.1.1.1.1.2, ⟨hk.1.1.1.1.2, ⟨hk.1.1.1.2, ⟨hk.1.1.2, ⟨hk.1.2, hk.2⟩⟩⟩⟩⟩⟩)⟩, ⟨by (with_reducible repeat apply pR); exact Kd.R_mono HO492.out (fun _ hk => ⟨hk.1.1.1.1.1.1.2, ⟨hk.1.1.1.1.1.2, ⟨hk.1.1.1.1.2, ⟨hk.1.1.1.2, ⟨hk.1.1.2, ⟨hk.1.2, hk.2⟩⟩⟩⟩⟩⟩)⟩, ⟨by (with_reducible repeat apply pR); exact Kd.R_mono HO502.out (fun _ hk => ⟨hk.1.1.1.1.1.1.2, ⟨hk.1.1.1.1.1.2, ⟨hk.1.1.1.1.2, ⟨hk.1.1.1.2, ⟨hk.1.1.2, ⟨hk.1.2, hk.2⟩⟩⟩⟩⟩⟩)⟩, ⟨by (with_reducible repeat apply pR); exact Kd.R_mono HO508.out (fun _ hk => ⟨hk.1.1.1.1.1.1.2, ⟨hk.1.1.1.1.1.2, ⟨hk.1.1.1.1.2, ⟨hk.1.1.1.2, ⟨hk.1.1.2, ⟨hk.1.2, hk.2⟩⟩⟩⟩⟩⟩)⟩, ⟨by (with_reducible repeat apply pR); exact Kd.R_mono HO514.out (fun _ hk => ⟨hk.1.1.1.1.1.2, ⟨hk.1.1.1.1.2, ⟨hk.1.1.1.2, ⟨hk.1.1.2, ⟨hk.1.1.1.1.1.1, ⟨hk.1.2, hk.2⟩⟩⟩⟩⟩⟩)⟩, ⟨by (with_reducible repeat apply pR); exact Kd.R_mono HO518.out (fun _ hk => ⟨hk.1.1.1.1.1.2, ⟨hk.1.1.1.1.2, ⟨hk.1.1.1.2, ⟨hk.1.1.2, ⟨hk.1.1.1.1.1.1, ⟨hk.1.2, hk.2⟩⟩⟩⟩⟩⟩)⟩, ⟨by (with_reducible repeat apply pR); exact Kd.R_mono HO527.out (fun _ hk => ⟨hk.1.1.1.1.1.2, ⟨hk.1.1.1.1.2, ⟨hk.1.1.1.2, ⟨hk.1.1.2, ⟨hk.1.2, ⟨hk.2, hk.1.1.1.1.1.1⟩⟩⟩⟩⟩⟩)⟩, ⟨by (with_reducible repeat apply pR); exact Kd.R_mono HO531.out (fun _ hk => ⟨hk.1.1.1.1.1.2, ⟨hk.1.1.1.1.2, ⟨hk.1.1.1.2, ⟨hk.1.1.2, ⟨hk.1.2, ⟨hk.2, hk.1.1.1.1.1.1⟩⟩⟩⟩⟩⟩)⟩, ⟨aK⟩, ⟨aK⟩, ⟨aK⟩, ⟨aK⟩, ⟨aK⟩, ⟨aK⟩, ⟨aK⟩, ⟨aK⟩, ⟨aG⟩⟩
   ·rw [if_neg c76] at H
    have c76b0 : (t493 != t534) = false := by simpa using c76
    (try (have c76b1 : decide (t493 = t534) = true := by simpa using c76))
    (try (have c76b2 : (t493 == t534) = true := by simpa using c76))
    clear c76
    (first | rw [c76b0] | (simp only [i64_w, i32_w]; rw [c76b0]) | skip)
    by_cases c86 : t493 = true
    ·subst c86
     replace H := iT H
     replace H := bM H
     obtain ⟨t535, A870, H⟩ := H
     have A87 := aM A870
     clear A870
     by_cases c88 : t535 = 0
     ·rw [if_pos c88] at H
      have c88b0 : (t535 == 0) = true := beq_iff_eq.mpr c88
      have c88b1 : (t535 != 0) = false := bne_eq_false_iff_eq.mpr c88
      clear c88
      by_cases c89 : (t503 != t509) = true
      ·rw [if_pos c89] at H
       have c89b0 : (t503 != t509) = true := c89
       (try (have c89b1 : decide (t503 = t509) = false := by simpa using c89))
       (try (have c89b2 : (t503 == t509) = false := by simpa using c89))
       (try (have c89b3 : ¬ (t503 = t509) := by simpa using c89))
       clear c89
       have H' := aM H
       clear H
       have hnb90 := NB487_494.out
       have hnc90 := NB494_487.out
       have hnb91 := NB487_504.out
       have hnc91 := NB504_487.out
       have hnb92 := NB487_510.out
       have hnc92 := NB510_487.out
       have hnb93 := NB487_519.out
       have hnc93 := NB519_487.out
       have hnb94 := NB487_520.out
       have hnc94 := NB520_487.out
       have hnb95 := NB487_532.out
       have hnc95 := NB532_487.out
       have hnb96 := NB487_533.out
       have hnc96 := NB533_487.out
       have hcz97_0 : w57.cell? ⟨gb487, 0, none⟩ = some (.int .i64 t483) := (blk_cell BK487.out 0).trans rfl
       have hcz97_1 : w57.cell? ⟨gb487, 1, none⟩ = some (.slice Ao16 t484.length co16) := (blk_cell BK487.out 1).trans rfl
       have hfz97_0 := blk_frozen BK487.out 0
       have hfz97_1 := blk_frozen BK487.out 1
       go_wp2_with (first | ((with_reducible refine gate_callee (f := 20) rfl ?_); refine goesL_ (some 65) rfl rfl Tryd.func20 (by kernel_rfl) rfl #[.slice Ao17 t480.length co17, .agg #[.int .i64 t483, .slice Ao16 t484.length co16]] rfl aA ?_; (with_reducible refine (spec_IsValidFact.calls k _ _ t480 t483 _ _ t484 t534 _ ?side1 ?side2 ?side3 ?side4 A75.out).mono ?_); (case side1 => refine (Kd.R_reads' (e := 68) (base := w.heap.size) (ok := fun k_ => ((True ∧ some k_ ≠ (.slice Ao25 t495.length co25 : Value).ownBlock) ∧ some k_ ≠ (v522 : Value).ownBlock)) (n := t480.length) (c := co17) ?_).2.2; exact (by (with_reducible repeat apply pR); exact (rF2 HO482.out BK532.out BK533.out (.int .i64 t524) (.slice Ao66 t525.length co66) (.int .i64 t528) (.slice Ao74 t529.length co74)))); (case side2 => exact (Kd.R_reads' HO482.out).2.1); (case side3 => refine (Kd.R_reads' (e := 3) (base := w.heap.size) (ok := fun k_ => (((((((True ∧ some k_ ≠ (.slice Ao23 t490.length co23 : Value).ownBlock) ∧ some k_ ≠ (.slice Ao31 t500.length co31 : Value).ownBlock) ∧ some k_ ≠ (.slice Ao38 t506.length co38 : Value).ownBlock) ∧ some k_ ≠ (.slice Ao48 t512.length co48 : Value).ownBlock) ∧ some k_ ≠ (.slice Ao54 t516.length co54 : Value).ownBlock) ∧ some k_ ≠ (.slice Ao66 t525.length co66 : Value).ownBlock) ∧ some k_ ≠ (.slice Ao74 t529.length co74 : Value).ownBlock)) (n := t484.length) (c := co16) ?_).2.2; exact (by (with_reducible repeat apply pR); exact (rF2 HO486.out BK532.out BK533.out (.int .i64 t524) (.slice Ao66 t525.length co66) (.int .i64 t528) (.slice Ao74 t529.length co74)))); (case side4 => exact (Kd.R_reads' HO486.out).2.1); rintro e w98 ⟨rfl, hb⟩; refine ⟨_, rfl, ?_⟩; replace HO482 := aM (Kd.R_below (by (with_reducible repeat apply pR); exact (rF2 HO482.out BK532.out BK533.out (.int .i64 t524) (.slice Ao66 t525.length co66) (.int .i64 t528) (.slice Ao74 t529.length co74))) hb); replace HO486 := aM (Kd.R_below (by (with_reducible repeat apply pR); exact (rF2 HO486.out BK532.out BK533.out (.int .i64 t524) (.slice Ao66 t525.length co66) (.int .i64 t528) (.slice Ao74 t529.length co74))) hb); replace HO492 := aM (Kd.R_below (by (with_reducible repeat apply pR); exact (rF2 HO492.out BK532.out BK533.out (.int .i64 t524) (.slice Ao66 t525.length co66) (.int .i64 t528) (.slice Ao74 t529.length co74))) hb); replace HO498 := aM (Kd.R_below (by (with_reducible repeat apply pR); exact (rF2 HO498.out BK532.out BK533.out (.int .i64 t524) (.slice Ao66 t525.length co66) (.int .i64 t528) (.slice Ao74 t529.length co74))) hb); replace HO502 := aM (Kd.R_below (by (with_reducible repeat apply pR); exact (rF2 HO502.out BK532.out BK533.out (.int .i64 t524) (.slice Ao66 t525.length co66) (.int .i64 t528) (.slice Ao74 t529.length co74))) hb); replace HO508 := aM (Kd.R_below (by (with_reducible repeat apply pR); exact (rF2 HO508.out BK532.out BK533.out (.int .i64 t524) (.slice Ao66 t525.length co66) (.int .i64 t528) (.slice Ao74 t529.length co74))) hb); replace HO514 := aM (Kd.R_below (by (with_reducible repeat apply pR); exact (rF2 HO514.out BK532.out BK533.out (.int .i64 t524) (.slice Ao66 t525.length co66) (.int .i64 t528) (.slice Ao74 t529.length co74))) hb); replace HO518 := aM (Kd.R_below (by (with_reducible repeat apply pR); exact (rF2 HO518.out BK532.out BK533.out (.int .i64 t524) (.slice Ao66 t525.length co66) (.int .i64 t528) (.slice Ao74 t529.length co74))) hb); replace HO523 := aM (Kd.R_below (by (with_reducible repeat apply pR); exact (rF2 HO523.out BK532.out BK533.out (.int .i64 t524) (.slice Ao66 t525.length co66) (.int .i64 t528) (.slice Ao74 t529.length co74))) hb); replace HO527 := aM (Kd.R_below (by (with_reducible repeat apply pR); exact (rF2 HO527.out BK532.out BK533.out (.int .i64 t524) (.slice Ao66 t525.length co66) (.int .i64 t528) (.slice Ao74 t529.length co74))) hb); replace HO531 := aM (Kd.R_below (by (with_reducible repeat apply pR); exact (rF2 HO531.out BK532.out BK533.out (.int .i64 t524) (.slice Ao66 t525.length co66) (.int .i64 t528) (.slice Ao74 t529.length co74))) hb); replace BK487 := aM (blk_below (g := gb487) (o := .cells #[.int .i64 t483, .slice Ao16 t484.length co16] 39 (0, 0)) (by (with_reducible repeat refine pB ?_); refine blk_far ?_ NB487_533.out _; (with_reducible repeat refine pB ?_); refine blk_far ?_ NB487_533.out _; (with_reducible repeat refine pB ?_); refine blk_far ?_ NB487_532.out _; (with_reducible repeat refine pB ?_); refine blk_far ?_ NB487_532.out _; (with_reducible repeat refine pB ?_); exact BK487.out) hb); replace BK494 := aM (blk_below (g := gb494) (o := .cells #[.int .i64 t489, .slice Ao23 t490.length co23] 39 (0, 0)) (by (with_reducible repeat refine pB ?_); refine blk_far ?_ NB494_533.out _; (with_reducible repeat refine pB ?_); refine blk_far ?_ NB494_533.out _; (with_reducible repeat refine pB ?_); refine blk_far ?_ NB494_532.out _; (with_reducible repeat refine pB ?_); refine blk_far ?_ NB494_532.out _; (with_reducible repeat refine pB ?_); exact BK494.out) hb); replace BK504 := aM (blk_below (g := gb504) (o := .cells #[.int .i64 t499, .slice Ao31 t500.length co31] 39 (0, 0)) (by (with_reducible repeat refine pB ?_); refine blk_far ?_ NB504_533.out _; (with_reducible repeat refine pB ?_); refine blk_far ?_ NB504_533.out _; (with_reducible repeat refine pB ?_); refine blk_far ?_ NB504_532.out _; (with_reducible repeat refine pB ?_); refine blk_far ?_ NB504_532.out _; (with_reducible repeat refine pB ?_); exact BK504.out) hb); replace BK510 := aM (blk_below (g := gb510) (o := .cells #[.int .i64 t505, .slice Ao38 t506.length co38] 39 (0, 0)) (by (with_reducible repeat refine pB ?_); refine blk_far ?_ NB510_533.out _; (with_reducible repeat refine pB ?_); refine blk_far ?_ NB510_533.out _; (with_reducible repeat refine pB ?_); refine blk_far ?_ NB510_532.out _; (with_reducible repeat refine pB ?_); refine blk_far ?_ NB510_532.out _; (with_reducible repeat refine pB ?_); exact BK510.out) hb); replace BK519 := aM (blk_below (g := gb519) (o := .cells #[.int .i64 t511, .slice Ao48 t512.length co48] 39 (0, 0)) (by (with_reducible repeat refine pB ?_); refine blk_far ?_ NB519_533.out _; (with_reducible repeat refine pB ?_); refine blk_far ?_ NB519_533.out _; (with_reducible repeat refine pB ?_); refine blk_far ?_ NB519_532.out _; (with_reducible repeat refine pB ?_); refine blk_far ?_ NB519_532.out _; (with_reducible repeat refine pB ?_); exact BK519.out) hb); replace BK520 := aM (blk_below (g := gb520) (o := .cells #[.int .i64 t515, .slice Ao54 t516.length co54] 39 (0, 0)) (by (with_reducible repeat refine pB ?_); refine blk_far ?_ NB520_533.out _; (with_reducible repeat refine pB ?_); refine blk_far ?_ NB520_533.out _; (with_reducible repeat refine pB ?_); refine blk_far ?_ NB520_532.out _; (with_reducible repeat refine pB ?_); refine blk_far ?_ NB520_532.out _; (with_reducible repeat refine pB ?_); exact BK520.out) hb); replace BK532 := aM (blk_below (g := gb532) (o := .cells #[.int .i64 t524, .slice Ao66 t525.length co66] 39 (0, 0)) (by (with_reducible repeat refine pB ?_); refine blk_far ?_ NB532_533.out _; (with_reducible repeat refine pB ?_); refine blk_far ?_ NB532_533.out _; (with_reducible repeat refine pB ?_); refine blk_put (cs := #[.int .i64 t524, .slice none 0 0]) ?_ 1 _ rfl; (with_reducible repeat refine pB ?_); refine blk_put (cs := #[.int .i64 0, .slice none 0 0]) ?_ 0 _ rfl; (with_reducible repeat refine pB ?_); exact BK532.out) hb); replace BK533 := aM (blk_below (g := gb533) (o := .cells #[.int .i64 t528, .slice Ao74 t529.length co74] 39 (0, 0)) (by (with_reducible repeat refine pB ?_); refine blk_put (cs := #[.int .i64 t528, .slice none 0 0]) ?_ 1 _ rfl; (with_reducible repeat refine pB ?_); refine blk_put (cs := #[.int .i64 0, .slice none 0 0]) ?_ 0 _ rfl; (with_reducible repeat refine pB ?_); refine blk_far ?_ NB533_532.out _; (with_reducible repeat refine pB ?_); refine blk_far ?_ NB533_532.out _; (with_reducible repeat refine pB ?_); exact BK533.out) hb); replace HB := aM (below_step aG hb); (try clear hb); (try clear hb2); (try clear hk); (try clear hi); have hnb99 := NB494_504.out; have hnc99 := NB504_494.out; have hnb100 := NB494_510.out; have hnc100 := NB510_494.out; have hnb101 := NB494_519.out; have hnc101 := NB519_494.out; have hnb102 := NB494_520.out; have hnc102 := NB520_494.out; have hnb103 := NB494_532.out; have hnc103 := NB532_494.out; have hnb104 := NB494_533.out; have hnc104 := NB533_494.out; have hcz105_0 : w98.cell? ⟨gb494, 0, none⟩ = some (.int .i64 t489) := (blk_cell BK494.out 0).trans rfl; have hcz105_1 : w98.cell? ⟨gb494, 1, none⟩ = some (.slice Ao23 t490.length co23) := (blk_cell BK494.out 1).trans rfl; have hfz105_0 := blk_frozen BK494.out 0; have hfz105_1 := blk_frozen BK494.out 1; have hcz106_0 : w98.cell? ⟨gb487, 0, none⟩ = some (.int .i64 t483) := (blk_cell BK487.out 0).trans rfl; have hcz106_1 : w98.cell? ⟨gb487, 1, none⟩ = some (.slice Ao16 t484.length co16) := (blk_cell BK487.out 1).trans rfl; have hfz106_0 := blk_frozen BK487.out 0; have hfz106_1 := blk_frozen BK487.out 1) | (go_at_call 21; (with_reducible refine (impl_CompareFacts.calls k t489 _ _ t490 t483 _ _ t484 t535 _ ?side1 ?side2 ?side3 ?side4 A87.out).mono ?_); (case side1 => repeat (first | exact (Kd.R_reads' HO492.out).2.2 | (with_reducible refine pC ?_))); (case side2 => exact (Kd.R_reads' HO492.out).2.1); (case side3 => repeat (first | exact (Kd.R_reads' HO486.out).2.2 | (with_reducible refine pC ?_))); (case side4 => exact (Kd.R_reads' HO486.out).2.1); rintro e w107 ⟨rfl, hb⟩; have n0_ := aM (Kd.R_below (aR HO482) hb); have n1_ := aM (Kd.R_below (aR HO486) hb); have n2_ := aM (Kd.R_below (aR HO492) hb); have n3_ := aM (Kd.R_below (aR HO498) hb); have n4_ := aM (Kd.R_below (aR HO502) hb); have n5_ := aM (Kd.R_below (aR HO508) hb); have n6_ := aM (Kd.R_below (aR HO514) hb); have n7_ := aM (Kd.R_below (aR HO518) hb); have n8_ := aM (Kd.R_below (aR HO523) hb); have n9_ := aM (Kd.R_below (aR HO527) hb); have n10_ := aM (Kd.R_below (aR HO531) hb); have n11_ := aM (kB gb487 #[.int .i64 t483, .slice Ao16 t484.length co16] 39 hb); have n12_ := aM (kB gb494 #[.int .i64 t489, .slice Ao23 t490.length co23] 39 hb); have n13_ := aM (kB gb504 #[.int .i64 t499, .slice Ao31 t500.length co31] 39 hb); have n14_ := aM (kB gb510 #[.int .i64 t505, .slice Ao38 t506.length co38] 39 hb); have n15_ := aM (kB gb519 #[.int .i64 t511, .slice Ao48 t512.length co48] 39 hb); have n16_ := aM (kB gb520 #[.int .i64 t515, .slice Ao54 t516.length co54] 39 hb); have n17_ := aM (kB gb532 #[.int .i64 t524, .slice Ao66 t525.length co66] 39 hb); have n18_ := aM (kB gb533 #[.int .i64 t528, .slice Ao74 t529.length co74] 39 hb); have n19_ := aM (below_step aG hb); clear HO482; clear HO486; clear HO492; clear HO498; clear HO502; clear HO508; clear HO514; clear HO518; clear HO523; clear HO527; clear HO531; clear BK487; clear BK494; clear BK504; clear BK510; clear BK519; clear BK520; clear BK532; clear BK533; clear HB; have HO482 := n0_; have HO486 := n1_; have HO492 := n2_; have HO498 := n3_; have HO502 := n4_; have HO508 := n5_; have HO514 := n6_; have HO518 := n7_; have HO523 := n8_; have HO527 := n9_; have HO531 := n10_; have BK487 := n11_; have BK494 := n12_; have BK504 := n13_; have BK510 := n14_; have BK519 := n15_; have BK520 := n16_; have BK532 := n17_; have BK533 := n18_; have HB := n19_; clear n0_ n1_ n2_ n3_ n4_ n5_ n6_ n7_ n8_ n9_ n10_ n11_ n12_ n13_ n14_ n15_ n16_ n17_ n18_ n19_; (try clear hb); (try clear hb2); (try clear hk); (try clear hi)))
       go_meet
       case rel => exact ⟨_, (true), aX, H', ⟨by first | omega | exact Nat.le_refl _⟩, ⟨by (with_reducible repeat apply pR); exact Kd.R_mono HO523.out (fun _ hk => trivial)⟩, ⟨by (with_reducible repeat apply pR); exact Kd.R_mono HO486.out (fun _ hk => ⟨hk.1.1.1.1.1.1.2, ⟨hk.1.1.1.1.1.2, ⟨hk.1.1.1.1.2, ⟨hk.1.1.1.2, ⟨hk.1.1.2, ⟨hk.1.2, hk.2⟩⟩⟩⟩⟩⟩)⟩, ⟨by (with_reducible repeat apply pR); exact Kd.R_mono HO492.out (fun _ hk => ⟨hk.1.1.1.1.1.1.2, ⟨hk.1.1.1.1.1.2, ⟨hk.1.1.1.1.2, ⟨hk.1.1.1.2, ⟨hk.1.1.2, ⟨hk.1.2, hk.2⟩⟩⟩⟩⟩⟩)⟩, ⟨by (with_reducible repeat apply pR); exact Kd.R_mono HO502.out (fun _ hk => ⟨hk.1.1.1.1.1.1.2, ⟨hk.1.1.1.1.1.2, ⟨hk.1.1.1.1.2, ⟨hk.1.1.1.2, ⟨hk.1.1.2, ⟨hk.1.2, hk.2⟩⟩⟩⟩⟩⟩)⟩, ⟨by (with_reducible repeat apply pR); exact Kd.R_mono HO508.out (fun _ hk => ⟨hk.1.1.1.1.1.1.2, ⟨hk.1.1.1.1.1.2, ⟨hk.1.1.1.1.2, ⟨hk.1.1.1.2, ⟨hk.1.1.2, ⟨hk.1.2, hk.2⟩⟩⟩⟩⟩⟩)⟩, ⟨by (with_reducible repeat apply pR); exact Kd.R_mono HO514.out (fun _ hk => ⟨hk.1.1.1.1.1.2, ⟨hk.1.1.1.1.2, ⟨hk.1.1.1.2, ⟨hk.1.1.2, ⟨hk.1.1.1.1.1.1, ⟨hk.1.2, hk.2⟩⟩⟩⟩⟩⟩)⟩, ⟨by (with_reducible repeat apply pR); exact Kd.R_mono HO518.out (fun _ hk => ⟨hk.1.1.1.1.1.2, ⟨hk.1.1.1.1.2, ⟨hk.1.1.1.2, ⟨hk.1.1.2, ⟨hk.1.1.1.1.1.1, ⟨hk.1.2, hk.2⟩⟩⟩⟩⟩⟩)⟩, ⟨by (with_reducible repeat apply pR); exact Kd.R_mono HO527.out (fun _ hk => ⟨hk.1.1.1.1.1.2, ⟨hk.1.1.1.1.2, ⟨hk.1.1.1.2, ⟨hk.1.1.2, ⟨hk.1.2, ⟨hk.2, hk.1.1.1.1.1.1⟩⟩⟩⟩⟩⟩)⟩, ⟨by (with_reducible repeat apply pR); exact Kd.R_mono HO531.out (fun _ hk => ⟨hk.1.1.1.1.1.2, ⟨hk.1.1.1.1.2, ⟨hk.1.1.1.2, ⟨hk.1.1.2, ⟨hk.1.2, ⟨hk.2, hk.1.1.1.1.1.1⟩⟩⟩⟩⟩⟩)⟩, ⟨aK⟩, ⟨aK⟩, ⟨aK⟩, ⟨aK⟩, ⟨aK⟩, ⟨aK⟩, ⟨aK⟩, ⟨aK⟩, ⟨aG⟩⟩
      ·rw [if_neg c89] at H
       have c89b0 : (t503 != t509) = false := by simpa using c89
       (try (have c89b1 : decide (t503 = t509) = true := by simpa using c89))
       (try (have c89b2 : (t503 == t509) = true := by simpa using c89))
       clear c89
       by_cases c108 : t503 = true
       ·subst c108
        replace H := iT H
        replace H := bM H
        obtain ⟨t536, A1090, H⟩ := H
        have A109 := aM A1090
        clear A1090
        have H' := aM H
        clear H
        have hnb110 := NB487_494.out
        have hnc110 := NB494_487.out
        have hnb111 := NB487_504.out
        have hnc111 := NB504_487.out
        have hnb112 := NB487_510.out
        have hnc112 := NB510_487.out
        have hnb113 := NB487_519.out
        have hnc113 := NB519_487.out
        have hnb114 := NB487_520.out
        have hnc114 := NB520_487.out
        have hnb115 := NB487_532.out
        have hnc115 := NB532_487.out
        have hnb116 := NB487_533.out
        have hnc116 := NB533_487.out
        have hcz117_0 : w57.cell? ⟨gb487, 0, none⟩ = some (.int .i64 t483) := (blk_cell BK487.out 0).trans rfl
        have hcz117_1 : w57.cell? ⟨gb487, 1, none⟩ = some (.slice Ao16 t484.length co16) := (blk_cell BK487.out 1).trans rfl
        have hfz117_0 := blk_frozen BK487.out 0
        have hfz117_1 := blk_frozen BK487.out 1
        go_wp2_with (first | ((with_reducible refine gate_callee (f := 20) rfl ?_); refine goesL_ (some 65) rfl rfl Tryd.func20 (by kernel_rfl) rfl #[.slice Ao17 t480.length co17, .agg #[.int .i64 t483, .slice Ao16 t484.length co16]] rfl aA ?_; (with_reducible refine (spec_IsValidFact.calls k _ _ t480 t483 _ _ t484 t534 _ ?side1 ?side2 ?side3 ?side4 A75.out).mono ?_); (case side1 => refine (Kd.R_reads' (e := 68) (base := w.heap.size) (ok := fun k_ => ((True ∧ some k_ ≠ (.slice Ao25 t495.length co25 : Value).ownBlock) ∧ some k_ ≠ (v522 : Value).ownBlock)) (n := t480.length) (c := co17) ?_).2.2; exact (by (with_reducible repeat apply pR); exact (rF2 HO482.out BK532.out BK533.out (.int .i64 t524) (.slice Ao66 t525.length co66) (.int .i64 t528) (.slice Ao74 t529.length co74)))); (case side2 => exact (Kd.R_reads' HO482.out).2.1); (case side3 => refine (Kd.R_reads' (e := 3) (base := w.heap.size) (ok := fun k_ => (((((((True ∧ some k_ ≠ (.slice Ao23 t490.length co23 : Value).ownBlock) ∧ some k_ ≠ (.slice Ao31 t500.length co31 : Value).ownBlock) ∧ some k_ ≠ (.slice Ao38 t506.length co38 : Value).ownBlock) ∧ some k_ ≠ (.slice Ao48 t512.length co48 : Value).ownBlock) ∧ some k_ ≠ (.slice Ao54 t516.length co54 : Value).ownBlock) ∧ some k_ ≠ (.slice Ao66 t525.length co66 : Value).ownBlock) ∧ some k_ ≠ (.slice Ao74 t529.length co74 : Value).ownBlock)) (n := t484.length) (c := co16) ?_).2.2; exact (by (with_reducible repeat apply pR); exact (rF2 HO486.out BK532.out BK533.out (.int .i64 t524) (.slice Ao66 t525.length co66) (.int .i64 t528) (.slice Ao74 t529.length co74)))); (case side4 => exact (Kd.R_reads' HO486.out).2.1); rintro e w118 ⟨rfl, hb⟩; refine ⟨_, rfl, ?_⟩; replace HO482 := aM (Kd.R_below (by (with_reducible repeat apply pR); exact (rF2 HO482.out BK532.out BK533.out (.int .i64 t524) (.slice Ao66 t525.length co66) (.int .i64 t528) (.slice Ao74 t529.length co74))) hb); replace HO486 := aM (Kd.R_below (by (with_reducible repeat apply pR); exact (rF2 HO486.out BK532.out BK533.out (.int .i64 t524) (.slice Ao66 t525.length co66) (.int .i64 t528) (.slice Ao74 t529.length co74))) hb); replace HO492 := aM (Kd.R_below (by (with_reducible repeat apply pR); exact (rF2 HO492.out BK532.out BK533.out (.int .i64 t524) (.slice Ao66 t525.length co66) (.int .i64 t528) (.slice Ao74 t529.length co74))) hb); replace HO498 := aM (Kd.R_below (by (with_reducible repeat apply pR); exact (rF2 HO498.out BK532.out BK533.out (.int .i64 t524) (.slice Ao66 t525.length co66) (.int .i64 t528) (.slice Ao74 t529.length co74))) hb); replace HO502 := aM (Kd.R_below (by (with_reducible repeat apply pR); exact (rF2 HO502.out BK532.out BK533.out (.int .i64 t524) (.slice Ao66 t525.length co66) (.int .i64 t528) (.slice Ao74 t529.length co74))) hb); replace HO508 := aM (Kd.R_below (by (with_reducible repeat apply pR); exact (rF2 HO508.out BK532.out BK533.out (.int .i64 t524) (.slice Ao66 t525.length co66) (.int .i64 t528) (.slice Ao74 t529.length co74))) hb); replace HO514 := aM (Kd.R_below (by (with_reducible repeat apply pR); exact (rF2 HO514.out BK532.out BK533.out (.int .i64 t524) (.slice Ao66 t525.length co66) (.int .i64 t528) (.slice Ao74 t529.length co74))) hb); replace HO518 := aM (Kd.R_below (by (with_reducible repeat apply pR); exact (rF2 HO518.out BK532.out BK533.out (.int .i64 t524) (.slice Ao66 t525.length co66) (.int .i64 t528) (.slice Ao74 t529.length co74))) hb); replace HO523 := aM (Kd.R_below (by (with_reducible repeat apply pR); exact (rF2 HO523.out BK532.out BK533.out (.int .i64 t524) (.slice Ao66 t525.length co66) (.int .i64 t528) (.slice Ao74 t529.length co74))) hb); replace HO527 := aM (Kd.R_below (by (with_reducible repeat apply pR); exact (rF2 HO527.out BK532.out BK533.out (.int .i64 t524) (.slice Ao66 t525.length co66) (.int .i64 t528) (.slice Ao74 t529.length co74))) hb); replace HO531 := aM (Kd.R_below (by (with_reducible repeat apply pR); exact (rF2 HO531.out BK532.out BK533.out (.int .i64 t524) (.slice Ao66 t525.length co66) (.int .i64 t528) (.slice Ao74 t529.length co74))) hb); replace BK487 := aM (blk_below (g := gb487) (o := .cells #[.int .i64 t483, .slice Ao16 t484.length co16] 39 (0, 0)) (by (with_reducible repeat refine pB ?_); refine blk_far ?_ NB487_533.out _; (with_reducible repeat refine pB ?_); refine blk_far ?_ NB487_533.out _; (with_reducible repeat refine pB ?_); refine blk_far ?_ NB487_532.out _; (with_reducible repeat refine pB ?_); refine blk_far ?_ NB487_532.out _; (with_reducible repeat refine pB ?_); exact BK487.out) hb); replace BK494 := aM (blk_below (g := gb494) (o := .cells #[.int .i64 t489, .slice Ao23 t490.length co23] 39 (0, 0)) (by (with_reducible repeat refine pB ?_); refine blk_far ?_ NB494_533.out _; (with_reducible repeat refine pB ?_); refine blk_far ?_ NB494_533.out _; (with_reducible repeat refine pB ?_); refine blk_far ?_ NB494_532.out _; (with_reducible repeat refine pB ?_); refine blk_far ?_ NB494_532.out _; (with_reducible repeat refine pB ?_); exact BK494.out) hb); replace BK504 := aM (blk_below (g := gb504) (o := .cells #[.int .i64 t499, .slice Ao31 t500.length co31] 39 (0, 0)) (by (with_reducible repeat refine pB ?_); refine blk_far ?_ NB504_533.out _; (with_reducible repeat refine pB ?_); refine blk_far ?_ NB504_533.out _; (with_reducible repeat refine pB ?_); refine blk_far ?_ NB504_532.out _; (with_reducible repeat refine pB ?_); refine blk_far ?_ NB504_532.out _; (with_reducible repeat refine pB ?_); exact BK504.out) hb); replace BK510 := aM (blk_below (g := gb510) (o := .cells #[.int .i64 t505, .slice Ao38 t506.length co38] 39 (0, 0)) (by (with_reducible repeat refine pB ?_); refine blk_far ?_ NB510_533.out _; (with_reducible repeat refine pB ?_); refine blk_far ?_ NB510_533.out _; (with_reducible repeat refine pB ?_); refine blk_far ?_ NB510_532.out _; (with_reducible repeat refine pB ?_); refine blk_far ?_ NB510_532.out _; (with_reducible repeat refine pB ?_); exact BK510.out) hb); replace BK519 := aM (blk_below (g := gb519) (o := .cells #[.int .i64 t511, .slice Ao48 t512.length co48] 39 (0, 0)) (by (with_reducible repeat refine pB ?_); refine blk_far ?_ NB519_533.out _; (with_reducible repeat refine pB ?_); refine blk_far ?_ NB519_533.out _; (with_reducible repeat refine pB ?_); refine blk_far ?_ NB519_532.out _; (with_reducible repeat refine pB ?_); refine blk_far ?_ NB519_532.out _; (with_reducible repeat refine pB ?_); exact BK519.out) hb); replace BK520 := aM (blk_below (g := gb520) (o := .cells #[.int .i64 t515, .slice Ao54 t516.length co54] 39 (0, 0)) (by (with_reducible repeat refine pB ?_); refine blk_far ?_ NB520_533.out _; (with_reducible repeat refine pB ?_); refine blk_far ?_ NB520_533.out _; (with_reducible repeat refine pB ?_); refine blk_far ?_ NB520_532.out _; (with_reducible repeat refine pB ?_); refine blk_far ?_ NB520_532.out _; (with_reducible repeat refine pB ?_); exact BK520.out) hb); replace BK532 := aM (blk_below (g := gb532) (o := .cells #[.int .i64 t524, .slice Ao66 t525.length co66] 39 (0, 0)) (by (with_reducible repeat refine pB ?_); refine blk_far ?_ NB532_533.out _; (with_reducible repeat refine pB ?_); refine blk_far ?_ NB532_533.out _; (with_reducible repeat refine pB ?_); refine blk_put (cs := #[.int .i64 t524, .slice none 0 0]) ?_ 1 _ rfl; (with_reducible repeat refine pB ?_); refine blk_put (cs := #[.int .i64 0, .slice none 0 0]) ?_ 0 _ rfl; (with_reducible repeat refine pB ?_); exact BK532.out) hb); replace BK533 := aM (blk_below (g := gb533) (o := .cells #[.int .i64 t528, .slice Ao74 t529.length co74] 39 (0, 0)) (by (with_reducible repeat refine pB ?_); refine blk_put (cs := #[.int .i64 t528, .slice none 0 0]) ?_ 1 _ rfl; (with_reducible repeat refine pB ?_); refine blk_put (cs := #[.int .i64 0, .slice none 0 0]) ?_ 0 _ rfl; (with_reducible repeat refine pB ?_); refine blk_far ?_ NB533_532.out _; (with_reducible repeat refine pB ?_); refine blk_far ?_ NB533_532.out _; (with_reducible repeat refine pB ?_); exact BK533.out) hb); replace HB := aM (below_step aG hb); (try clear hb); (try clear hb2); (try clear hk); (try clear hi); have hnb119 := NB494_504.out; have hnc119 := NB504_494.out; have hnb120 := NB494_510.out; have hnc120 := NB510_494.out; have hnb121 := NB494_519.out; have hnc121 := NB519_494.out; have hnb122 := NB494_520.out; have hnc122 := NB520_494.out; have hnb123 := NB494_532.out; have hnc123 := NB532_494.out; have hnb124 := NB494_533.out; have hnc124 := NB533_494.out; have hcz125_0 : w118.cell? ⟨gb494, 0, none⟩ = some (.int .i64 t489) := (blk_cell BK494.out 0).trans rfl; have hcz125_1 : w118.cell? ⟨gb494, 1, none⟩ = some (.slice Ao23 t490.length co23) := (blk_cell BK494.out 1).trans rfl; have hfz125_0 := blk_frozen BK494.out 0; have hfz125_1 := blk_frozen BK494.out 1; have hcz126_0 : w118.cell? ⟨gb487, 0, none⟩ = some (.int .i64 t483) := (blk_cell BK487.out 0).trans rfl; have hcz126_1 : w118.cell? ⟨gb487, 1, none⟩ = some (.slice Ao16 t484.length co16) := (blk_cell BK487.out 1).trans rfl; have hfz126_0 := blk_frozen BK487.out 0; have hfz126_1 := blk_frozen BK487.out 1) | (go_at_call 21; (with_reducible refine (impl_CompareFacts.calls k t489 _ _ t490 t483 _ _ t484 t535 _ ?side1 ?side2 ?side3 ?side4 A87.out).mono ?_); (case side1 => repeat (first | exact (Kd.R_reads' HO492.out).2.2 | (with_reducible refine pC ?_))); (case side2 => exact (Kd.R_reads' HO492.out).2.1); (case side3 => repeat (first | exact (Kd.R_reads' HO486.out).2.2 | (with_reducible refine pC ?_))); (case side4 => exact (Kd.R_reads' HO486.out).2.1); rintro e w127 ⟨rfl, hb⟩; have n0_ := aM (Kd.R_below (aR HO482) hb); have n1_ := aM (Kd.R_below (aR HO486) hb); have n2_ := aM (Kd.R_below (aR HO492) hb); have n3_ := aM (Kd.R_below (aR HO498) hb); have n4_ := aM (Kd.R_below (aR HO502) hb); have n5_ := aM (Kd.R_below (aR HO508) hb); have n6_ := aM (Kd.R_below (aR HO514) hb); have n7_ := aM (Kd.R_below (aR HO518) hb); have n8_ := aM (Kd.R_below (aR HO523) hb); have n9_ := aM (Kd.R_below (aR HO527) hb); have n10_ := aM (Kd.R_below (aR HO531) hb); have n11_ := aM (kB gb487 #[.int .i64 t483, .slice Ao16 t484.length co16] 39 hb); have n12_ := aM (kB gb494 #[.int .i64 t489, .slice Ao23 t490.length co23] 39 hb); have n13_ := aM (kB gb504 #[.int .i64 t499, .slice Ao31 t500.length co31] 39 hb); have n14_ := aM (kB gb510 #[.int .i64 t505, .slice Ao38 t506.length co38] 39 hb); have n15_ := aM (kB gb519 #[.int .i64 t511, .slice Ao48 t512.length co48] 39 hb); have n16_ := aM (kB gb520 #[.int .i64 t515, .slice Ao54 t516.length co54] 39 hb); have n17_ := aM (kB gb532 #[.int .i64 t524, .slice Ao66 t525.length co66] 39 hb); have n18_ := aM (kB gb533 #[.int .i64 t528, .slice Ao74 t529.length co74] 39 hb); have n19_ := aM (below_step aG hb); clear HO482; clear HO486; clear HO492; clear HO498; clear HO502; clear HO508; clear HO514; clear HO518; clear HO523; clear HO527; clear HO531; clear BK487; clear BK494; clear BK504; clear BK510; clear BK519; clear BK520; clear BK532; clear BK533; clear HB; have HO482 := n0_; have HO486 := n1_; have HO492 := n2_; have HO498 := n3_; have HO502 := n4_; have HO508 := n5_; have HO514 := n6_; have HO518 := n7_; have HO523 := n8_; have HO527 := n9_; have HO531 := n10_; have BK487 := n11_; have BK494 := n12_; have BK504 := n13_; have BK510 := n14_; have BK519 := n15_; have BK520 := n16_; have BK532 := n17_; have BK533 := n18_; have HB := n19_; clear n0_ n1_ n2_ n3_ n4_ n5_ n6_ n7_ n8_ n9_ n10_ n11_ n12_ n13_ n14_ n15_ n16_ n17_ n18_ n19_; (try clear hb); (try clear hb2); (try clear hk); (try clear hi); have hnb128 := NB504_510.out; have hnc128 := NB510_504.out; have hnb129 := NB504_519.out; have hnc129 := NB519_504.out; have hnb130 := NB504_520.out; have hnc130 := NB520_504.out; have hnb131 := NB504_532.out; have hnc131 := NB532_504.out; have hnb132 := NB504_533.out; have hnc132 := NB533_504.out; have hcz133_0 : w127.cell? ⟨gb504, 0, none⟩ = some (.int .i64 t499) := (blk_cell BK504.out 0).trans rfl; have hcz133_1 : w127.cell? ⟨gb504, 1, none⟩ = some (.slice Ao31 t500.length co31) := (blk_cell BK504.out 1).trans rfl; have hfz133_0 := blk_frozen BK504.out 0; have hfz133_1 := blk_frozen BK504.out 1) | (go_at_call 15; (with_reducible refine (impl_FormatFact.calls k _ _ t495 t499 _ _ t500 t536 _ ?side1 ?side2 ?side3 ?side4 A109.out (hp_.on aG)).mono ?_); (case side1 => repeat (first | exact (Kd.R_reads' HO498.out).2.2 | (with_reducible refine pC ?_))); (case side2 => exact (Kd.R_reads' HO498.out).2.1); (case side3 => repeat (first | exact (Kd.R_reads' HO502.out).2.2 | (with_reducible refine pC ?_))); (case side4 => exact (Kd.R_reads' HO502.out).2.1); rintro e w134 ⟨rfl, hb⟩; have n0_ := aM (Kd.R_below (aR HO482) hb); have n1_ := aM (Kd.R_below (aR HO486) hb); have n2_ := aM (Kd.R_below (aR HO492) hb); have n3_ := aM (Kd.R_below (aR HO498) hb); have n4_ := aM (Kd.R_below (aR HO502) hb); have n5_ := aM (Kd.R_below (aR HO508) hb); have n6_ := aM (Kd.R_below (aR HO514) hb); have n7_ := aM (Kd.R_below (aR HO518) hb); have n8_ := aM (Kd.R_below (aR HO523) hb); have n9_ := aM (Kd.R_below (aR HO527) hb); have n10_ := aM (Kd.R_below (aR HO531) hb); have n11_ := aM (kB gb487 #[.int .i64 t483, .slice Ao16 t484.length co16] 39 hb); have n12_ := aM (kB gb494 #[.int .i64 t489, .slice Ao23 t490.length co23] 39 hb); have n13_ := aM (kB gb504 #[.int .i64 t499, .slice Ao31 t500.length co31] 39 hb); have n14_ := aM (kB gb510 #[.int .i64 t505, .slice Ao38 t506.length co38] 39 hb); have n15_ := aM (kB gb519 #[.int .i64 t511, .slice Ao48 t512.length co48] 39 hb); have n16_ := aM (kB gb520 #[.int .i64 t515, .slice Ao54 t516.length co54] 39 hb); have n17_ := aM (kB gb532 #[.int .i64 t524, .slice Ao66 t525.length co66] 39 hb); have n18_ := aM (kB gb533 #[.int .i64 t528, .slice Ao74 t529.length co74] 39 hb); have n19_ := aM (below_step aG hb); clear HO482; clear HO486; clear HO492; clear HO498; clear HO502; clear HO508; clear HO514; clear HO518; clear HO523; clear HO527; clear HO531; clear BK487; clear BK494; clear BK504; clear BK510; clear BK519; clear BK520; clear BK532; clear BK533; clear HB; have HO482 := n0_; have HO486 := n1_; have HO492 := n2_; have HO498 := n3_; have HO502 := n4_; have HO508 := n5_; have HO514 := n6_; have HO518 := n7_; have HO523 := n8_; have HO527 := n9_; have HO531 := n10_; have BK487 := n11_; have BK494 := n12_; have BK504 := n13_; have BK510 := n14_; have BK519 := n15_; have BK520 := n16_; have BK532 := n17_; have BK533 := n18_; have HB := n19_; clear n0_ n1_ n2_ n3_ n4_ n5_ n6_ n7_ n8_ n9_ n10_ n11_ n12_ n13_ n14_ n15_ n16_ n17_ n18_ n19_; (try clear hb); (try clear hb2); (try clear hk); (try clear hi)))
        go_meet
        case rel => exact ⟨_, ((t536.toList != t496.toList)), aX, H', ⟨by first | omega | exact Nat.le_refl _⟩, ⟨by (with_reducible repeat apply pR); exact Kd.R_mono HO523.out (fun _ hk => trivial)⟩, ⟨by (with_reducible repeat apply pR); exact Kd.R_mono HO486.out (fun _ hk => ⟨hk.1.1.1.1.1.1.2, ⟨hk.1.1.1.1.1.2, ⟨hk.1.1.1.1.2, ⟨hk.1.1.1.2, ⟨hk.1.1.2, ⟨hk.1.2, hk.2⟩⟩⟩⟩⟩⟩)⟩, ⟨by (with_reducible repeat apply pR); exact Kd.R_mono HO492.out (fun _ hk => ⟨hk.1.1.1.1.1.1.2, ⟨hk.1.1.1.1.1.2, ⟨hk.1.1.1.1.2, ⟨hk.1.1.1.2, ⟨hk.1.1.2, ⟨hk.1.2, hk.2⟩⟩⟩⟩⟩⟩)⟩, ⟨by (with_reducible repeat apply pR); exact Kd.R_mono HO502.out (fun _ hk => ⟨hk.1.1.1.1.1.1.2, ⟨hk.1.1.1.1.1.2, ⟨hk.1.1.1.1.2, ⟨hk.1.1.1.2, ⟨hk.1.1.2, ⟨hk.1.2, hk.2⟩⟩⟩⟩⟩⟩)⟩, ⟨by (with_reducible repeat apply pR); exact Kd.R_mono HO508.out (fun _ hk => ⟨hk.1.1.1.1.1.1.2, ⟨hk.1.1.1.1.1.2, ⟨hk.1.1.1.1.2, ⟨hk.1.1.1.2, ⟨hk.1.1.2, ⟨hk.1.2, hk.2⟩⟩⟩⟩⟩⟩)⟩, ⟨by (with_reducible repeat apply pR); exact Kd.R_mono HO514.out (fun _ hk => ⟨hk.1.1.1.1.1.2, ⟨hk.1.1.1.1.2, ⟨hk.1.1.1.2, ⟨hk.1.1.2, ⟨hk.1.1.1.1.1.1, ⟨hk.1.2, hk.2⟩⟩⟩⟩⟩⟩)⟩, ⟨by (with_reducible repeat apply pR); exact Kd.R_mono HO518.out (fun _ hk => ⟨hk.1.1.1.1.1.2, ⟨hk.1.1.1.1.2, ⟨hk.1.1.1.2, ⟨hk.1.1.2, ⟨hk.1.1.1.1.1.1, ⟨hk.1.2, hk.2⟩⟩⟩⟩⟩⟩)⟩, ⟨by (with_reducible repeat apply pR); exact Kd.R_mono HO527.out (fun _ hk => ⟨hk.1.1.1.1.1.2, ⟨hk.1.1.1.1.2, ⟨hk.1.1.1.2, ⟨hk.1.1.2, ⟨hk.1.2, ⟨hk.2, hk.1.1.1.1.1.1⟩⟩⟩⟩⟩⟩)⟩, ⟨by (with_reducible repeat apply pR); exact Kd.R_mono HO531.out (fun _ hk => ⟨hk.1.1.1.1.1.2, ⟨hk.1.1.1.1.2, ⟨hk.1.1.1.2, ⟨hk.1.1.2, ⟨hk.1.2, ⟨hk.2, hk.1.1.1.1.1.1⟩⟩⟩⟩⟩⟩)⟩, ⟨aK⟩, ⟨aK⟩, ⟨aK⟩, ⟨aK⟩, ⟨aK⟩, ⟨aK⟩, ⟨aK⟩, ⟨aK⟩, ⟨aG⟩⟩
       ·replace c108 := Bool.eq_false_iff.mpr c108
        subst c108
        have H1 : (laws_FnFactFormat.j0 k t521 false t511 t512 t515 t516 t524 t525 t528 t529) = some r := by rw [if_neg (show ¬ (false = true) by decide)] at H; exact H
        clear H
        have H := H1
        clear H1
        have H' := aM H
        clear H
        have hnb135 := NB487_494.out
        have hnc135 := NB494_487.out
        have hnb136 := NB487_504.out
        have hnc136 := NB504_487.out
        have hnb137 := NB487_510.out
        have hnc137 := NB510_487.out
        have hnb138 := NB487_519.out
        have hnc138 := NB519_487.out
        have hnb139 := NB487_520.out
        have hnc139 := NB520_487.out
        have hnb140 := NB487_532.out
        have hnc140 := NB532_487.out
        have hnb141 := NB487_533.out
        have hnc141 := NB533_487.out
        have hcz142_0 : w57.cell? ⟨gb487, 0, none⟩ = some (.int .i64 t483) := (blk_cell BK487.out 0).trans rfl
        have hcz142_1 : w57.cell? ⟨gb487, 1, none⟩ = some (.slice Ao16 t484.length co16) := (blk_cell BK487.out 1).trans rfl
        have hfz142_0 := blk_frozen BK487.out 0
        have hfz142_1 := blk_frozen BK487.out 1
        go_wp2_with (first | ((with_reducible refine gate_callee (f := 20) rfl ?_); refine goesL_ (some 65) rfl rfl Tryd.func20 (by kernel_rfl) rfl #[.slice Ao17 t480.length co17, .agg #[.int .i64 t483, .slice Ao16 t484.length co16]] rfl aA ?_; (with_reducible refine (spec_IsValidFact.calls k _ _ t480 t483 _ _ t484 t534 _ ?side1 ?side2 ?side3 ?side4 A75.out).mono ?_); (case side1 => refine (Kd.R_reads' (e := 68) (base := w.heap.size) (ok := fun k_ => ((True ∧ some k_ ≠ (.slice Ao25 t495.length co25 : Value).ownBlock) ∧ some k_ ≠ (v522 : Value).ownBlock)) (n := t480.length) (c := co17) ?_).2.2; exact (by (with_reducible repeat apply pR); exact (rF2 HO482.out BK532.out BK533.out (.int .i64 t524) (.slice Ao66 t525.length co66) (.int .i64 t528) (.slice Ao74 t529.length co74)))); (case side2 => exact (Kd.R_reads' HO482.out).2.1); (case side3 => refine (Kd.R_reads' (e := 3) (base := w.heap.size) (ok := fun k_ => (((((((True ∧ some k_ ≠ (.slice Ao23 t490.length co23 : Value).ownBlock) ∧ some k_ ≠ (.slice Ao31 t500.length co31 : Value).ownBlock) ∧ some k_ ≠ (.slice Ao38 t506.length co38 : Value).ownBlock) ∧ some k_ ≠ (.slice Ao48 t512.length co48 : Value).ownBlock) ∧ some k_ ≠ (.slice Ao54 t516.length co54 : Value).ownBlock) ∧ some k_ ≠ (.slice Ao66 t525.length co66 : Value).ownBlock) ∧ some k_ ≠ (.slice Ao74 t529.length co74 : Value).ownBlock)) (n := t484.length) (c := co16) ?_).2.2; exact (by (with_reducible repeat apply pR); exact (rF2 HO486.out BK532.out BK533.out (.int .i64 t524) (.slice Ao66 t525.length co66) (.int .i64 t528) (.slice Ao74 t529.length co74)))); (case side4 => exact (Kd.R_reads' HO486.out).2.1); rintro e w143 ⟨rfl, hb⟩; refine ⟨_, rfl, ?_⟩; replace HO482 := aM (Kd.R_below (by (with_reducible repeat apply pR); exact (rF2 HO482.out BK532.out BK533.out (.int .i64 t524) (.slice Ao66 t525.length co66) (.int .i64 t528) (.slice Ao74 t529.length co74))) hb); replace HO486 := aM (Kd.R_below (by (with_reducible repeat apply pR); exact (rF2 HO486.out BK532.out BK533.out (.int .i64 t524) (.slice Ao66 t525.length co66) (.int .i64 t528) (.slice Ao74 t529.length co74))) hb); replace HO492 := aM (Kd.R_below (by (with_reducible repeat apply pR); exact (rF2 HO492.out BK532.out BK533.out (.int .i64 t524) (.slice Ao66 t525.length co66) (.int .i64 t528) (.slice Ao74 t529.length co74))) hb); replace HO498 := aM (Kd.R_below (by (with_reducible repeat apply pR); exact (rF2 HO498.out BK532.out BK533.out (.int .i64 t524) (.slice Ao66 t525.length co66) (.int .i64 t528) (.slice Ao74 t529.length co74))) hb); replace HO502 := aM (Kd.R_below (by (with_reducible repeat apply pR); exact (rF2 HO502.out BK532.out BK533.out (.int .i64 t524) (.slice Ao66 t525.length co66) (.int .i64 t528) (.slice Ao74 t529.length co74))) hb); replace HO508 := aM (Kd.R_below (by (with_reducible repeat apply pR); exact (rF2 HO508.out BK532.out BK533.out (.int .i64 t524) (.slice Ao66 t525.length co66) (.int .i64 t528) (.slice Ao74 t529.length co74))) hb); replace HO514 := aM (Kd.R_below (by (with_reducible repeat apply pR); exact (rF2 HO514.out BK532.out BK533.out (.int .i64 t524) (.slice Ao66 t525.length co66) (.int .i64 t528) (.slice Ao74 t529.length co74))) hb); replace HO518 := aM (Kd.R_below (by (with_reducible repeat apply pR); exact (rF2 HO518.out BK532.out BK533.out (.int .i64 t524) (.slice Ao66 t525.length co66) (.int .i64 t528) (.slice Ao74 t529.length co74))) hb); replace HO523 := aM (Kd.R_below (by (with_reducible repeat apply pR); exact (rF2 HO523.out BK532.out BK533.out (.int .i64 t524) (.slice Ao66 t525.length co66) (.int .i64 t528) (.slice Ao74 t529.length co74))) hb); replace HO527 := aM (Kd.R_below (by (with_reducible repeat apply pR); exact (rF2 HO527.out BK532.out BK533.out (.int .i64 t524) (.slice Ao66 t525.length co66) (.int .i64 t528) (.slice Ao74 t529.length co74))) hb); replace HO531 := aM (Kd.R_below (by (with_reducible repeat apply pR); exact (rF2 HO531.out BK532.out BK533.out (.int .i64 t524) (.slice Ao66 t525.length co66) (.int .i64 t528) (.slice Ao74 t529.length co74))) hb); replace BK487 := aM (blk_below (g := gb487) (o := .cells #[.int .i64 t483, .slice Ao16 t484.length co16] 39 (0, 0)) (by (with_reducible repeat refine pB ?_); refine blk_far ?_ NB487_533.out _; (with_reducible repeat refine pB ?_); refine blk_far ?_ NB487_533.out _; (with_reducible repeat refine pB ?_); refine blk_far ?_ NB487_532.out _; (with_reducible repeat refine pB ?_); refine blk_far ?_ NB487_532.out _; (with_reducible repeat refine pB ?_); exact BK487.out) hb); replace BK494 := aM (blk_below (g := gb494) (o := .cells #[.int .i64 t489, .slice Ao23 t490.length co23] 39 (0, 0)) (by (with_reducible repeat refine pB ?_); refine blk_far ?_ NB494_533.out _; (with_reducible repeat refine pB ?_); refine blk_far ?_ NB494_533.out _; (with_reducible repeat refine pB ?_); refine blk_far ?_ NB494_532.out _; (with_reducible repeat refine pB ?_); refine blk_far ?_ NB494_532.out _; (with_reducible repeat refine pB ?_); exact BK494.out) hb); replace BK504 := aM (blk_below (g := gb504) (o := .cells #[.int .i64 t499, .slice Ao31 t500.length co31] 39 (0, 0)) (by (with_reducible repeat refine pB ?_); refine blk_far ?_ NB504_533.out _; (with_reducible repeat refine pB ?_); refine blk_far ?_ NB504_533.out _; (with_reducible repeat refine pB ?_); refine blk_far ?_ NB504_532.out _; (with_reducible repeat refine pB ?_); refine blk_far ?_ NB504_532.out _; (with_reducible repeat refine pB ?_); exact BK504.out) hb); replace BK510 := aM (blk_below (g := gb510) (o := .cells #[.int .i64 t505, .slice Ao38 t506.length co38] 39 (0, 0)) (by (with_reducible repeat refine pB ?_); refine blk_far ?_ NB510_533.out _; (with_reducible repeat refine pB ?_); refine blk_far ?_ NB510_533.out _; (with_reducible repeat refine pB ?_); refine blk_far ?_ NB510_532.out _; (with_reducible repeat refine pB ?_); refine blk_far ?_ NB510_532.out _; (with_reducible repeat refine pB ?_); exact BK510.out) hb); replace BK519 := aM (blk_below (g := gb519) (o := .cells #[.int .i64 t511, .slice Ao48 t512.length co48] 39 (0, 0)) (by (with_reducible repeat refine pB ?_); refine blk_far ?_ NB519_533.out _; (with_reducible repeat refine pB ?_); refine blk_far ?_ NB519_533.out _; (with_reducible repeat refine pB ?_); refine blk_far ?_ NB519_532.out _; (with_reducible repeat refine pB ?_); refine blk_far ?_ NB519_532.out _; (with_reducible repeat refine pB ?_); exact BK519.out) hb); replace BK520 := aM (blk_below (g := gb520) (o := .cells #[.int .i64 t515, .slice Ao54 t516.length co54] 39 (0, 0)) (by (with_reducible repeat refine pB ?_); refine blk_far ?_ NB520_533.out _; (with_reducible repeat refine pB ?_); refine blk_far ?_ NB520_533.out _; (with_reducible repeat refine pB ?_); refine blk_far ?_ NB520_532.out _; (with_reducible repeat refine pB ?_); refine blk_far ?_ NB520_532.out _; (with_reducible repeat refine pB ?_); exact BK520.out) hb); replace BK532 := aM (blk_below (g := gb532) (o := .cells #[.int .i64 t524, .slice Ao66 t525.length co66] 39 (0, 0)) (by (with_reducible repeat refine pB ?_); refine blk_far ?_ NB532_533.out _; (with_reducible repeat refine pB ?_); refine blk_far ?_ NB532_533.out _; (with_reducible repeat refine pB ?_); refine blk_put (cs := #[.int .i64 t524, .slice none 0 0]) ?_ 1 _ rfl; (with_reducible repeat refine pB ?_); refine blk_put (cs := #[.int .i64 0, .slice none 0 0]) ?_ 0 _ rfl; (with_reducible repeat refine pB ?_); exact BK532.out) hb); replace BK533 := aM (blk_below (g := gb533) (o := .cells #[.int .i64 t528, .slice Ao74 t529.length co74] 39 (0, 0)) (by (with_reducible repeat refine pB ?_); refine blk_put (cs := #[.int .i64 t528, .slice none 0 0]) ?_ 1 _ rfl; (with_reducible repeat refine pB ?_); refine blk_put (cs := #[.int .i64 0, .slice none 0 0]) ?_ 0 _ rfl; (with_reducible repeat refine pB ?_); refine blk_far ?_ NB533_532.out _; (with_reducible repeat refine pB ?_); refine blk_far ?_ NB533_532.out _; (with_reducible repeat refine pB ?_); exact BK533.out) hb); replace HB := aM (below_step aG hb); (try clear hb); (try clear hb2); (try clear hk); (try clear hi); have hnb144 := NB494_504.out; have hnc144 := NB504_494.out; have hnb145 := NB494_510.out; have hnc145 := NB510_494.out; have hnb146 := NB494_519.out; have hnc146 := NB519_494.out; have hnb147 := NB494_520.out; have hnc147 := NB520_494.out; have hnb148 := NB494_532.out; have hnc148 := NB532_494.out; have hnb149 := NB494_533.out; have hnc149 := NB533_494.out; have hcz150_0 : w143.cell? ⟨gb494, 0, none⟩ = some (.int .i64 t489) := (blk_cell BK494.out 0).trans rfl; have hcz150_1 : w143.cell? ⟨gb494, 1, none⟩ = some (.slice Ao23 t490.length co23) := (blk_cell BK494.out 1).trans rfl; have hfz150_0 := blk_frozen BK494.out 0; have hfz150_1 := blk_frozen BK494.out 1; have hcz151_0 : w143.cell? ⟨gb487, 0, none⟩ = some (.int .i64 t483) := (blk_cell BK487.out 0).trans rfl; have hcz151_1 : w143.cell? ⟨gb487, 1, none⟩ = some (.slice Ao16 t484.length co16) := (blk_cell BK487.out 1).trans rfl; have hfz151_0 := blk_frozen BK487.out 0; have hfz151_1 := blk_frozen BK487.out 1) | (go_at_call 21; (with_reducible refine (impl_CompareFacts.calls k t489 _ _ t490 t483 _ _ t484 t535 _ ?side1 ?side2 ?side3 ?side4 A87.out).mono ?_); (case side1 => repeat (first | exact (Kd.R_reads' HO492.out).2.2 | (with_reducible refine pC ?_))); (case side2 => exact (Kd.R_reads' HO492.out).2.1); (case side3 => repeat (first | exact (Kd.R_reads' HO486.out).2.2 | (with_reducible refine pC ?_))); (case side4 => exact (Kd.R_reads' HO486.out).2.1); rintro e w152 ⟨rfl, hb⟩; have n0_ := aM (Kd.R_below (aR HO482) hb); have n1_ := aM (Kd.R_below (aR HO486) hb); have n2_ := aM (Kd.R_below (aR HO492) hb); have n3_ := aM (Kd.R_below (aR HO498) hb); have n4_ := aM (Kd.R_below (aR HO502) hb); have n5_ := aM (Kd.R_below (aR HO508) hb); have n6_ := aM (Kd.R_below (aR HO514) hb); have n7_ := aM (Kd.R_below (aR HO518) hb); have n8_ := aM (Kd.R_below (aR HO523) hb); have n9_ := aM (Kd.R_below (aR HO527) hb); have n10_ := aM (Kd.R_below (aR HO531) hb); have n11_ := aM (kB gb487 #[.int .i64 t483, .slice Ao16 t484.length co16] 39 hb); have n12_ := aM (kB gb494 #[.int .i64 t489, .slice Ao23 t490.length co23] 39 hb); have n13_ := aM (kB gb504 #[.int .i64 t499, .slice Ao31 t500.length co31] 39 hb); have n14_ := aM (kB gb510 #[.int .i64 t505, .slice Ao38 t506.length co38] 39 hb); have n15_ := aM (kB gb519 #[.int .i64 t511, .slice Ao48 t512.length co48] 39 hb); have n16_ := aM (kB gb520 #[.int .i64 t515, .slice Ao54 t516.length co54] 39 hb); have n17_ := aM (kB gb532 #[.int .i64 t524, .slice Ao66 t525.length co66] 39 hb); have n18_ := aM (kB gb533 #[.int .i64 t528, .slice Ao74 t529.length co74] 39 hb); have n19_ := aM (below_step aG hb); clear HO482; clear HO486; clear HO492; clear HO498; clear HO502; clear HO508; clear HO514; clear HO518; clear HO523; clear HO527; clear HO531; clear BK487; clear BK494; clear BK504; clear BK510; clear BK519; clear BK520; clear BK532; clear BK533; clear HB; have HO482 := n0_; have HO486 := n1_; have HO492 := n2_; have HO498 := n3_; have HO502 := n4_; have HO508 := n5_; have HO514 := n6_; have HO518 := n7_; have HO523 := n8_; have HO527 := n9_; have HO531 := n10_; have BK487 := n11_; have BK494 := n12_; have BK504 := n13_; have BK510 := n14_; have BK519 := n15_; have BK520 := n16_; have BK532 := n17_; have BK533 := n18_; have HB := n19_; clear n0_ n1_ n2_ n3_ n4_ n5_ n6_ n7_ n8_ n9_ n10_ n11_ n12_ n13_ n14_ n15_ n16_ n17_ n18_ n19_; (try clear hb); (try clear hb2); (try clear hk); (try clear hi)))
        go_meet
        case rel => exact ⟨_, (false), aX, H', ⟨by first | omega | exact Nat.le_refl _⟩, ⟨by (with_reducible repeat apply pR); exact Kd.R_mono HO523.out (fun _ hk => trivial)⟩, ⟨by (with_reducible repeat apply pR); exact Kd.R_mono HO486.out (fun _ hk => ⟨hk.1.1.1.1.1.1.2, ⟨hk.1.1.1.1.1.2, ⟨hk.1.1.1.1.2, ⟨hk.1.1.1.2, ⟨hk.1.1.2, ⟨hk.1.2, hk.2⟩⟩⟩⟩⟩⟩)⟩, ⟨by (with_reducible repeat apply pR); exact Kd.R_mono HO492.out (fun _ hk => ⟨hk.1.1.1.1.1.1.2, ⟨hk.1.1.1.1.1.2, ⟨hk.1.1.1.1.2, ⟨hk.1.1.1.2, ⟨hk.1.1.2, ⟨hk.1.2, hk.2⟩⟩⟩⟩⟩⟩)⟩, ⟨by (with_reducible repeat apply pR); exact Kd.R_mono HO502.out (fun _ hk => ⟨hk.1.1.1.1.1.1.2, ⟨hk.1.1.1.1.1.2, ⟨hk.1.1.1.1.2, ⟨hk.1.1.1.2, ⟨hk.1.1.2, ⟨hk.1.2, hk.2⟩⟩⟩⟩⟩⟩)⟩, ⟨by (with_reducible repeat apply pR); exact Kd.R_mono HO508.out (fun _ hk => ⟨hk.1.1.1.1.1.1.2, ⟨hk.1.1.1.1.1.2, ⟨hk.1.1.1.1.2, ⟨hk.1.1.1.2, ⟨hk.1.1.2, ⟨hk.1.2, hk.2⟩⟩⟩⟩⟩⟩)⟩, ⟨by (with_reducible repeat apply pR); exact Kd.R_mono HO514.out (fun _ hk => ⟨hk.1.1.1.1.1.2, ⟨hk.1.1.1.1.2, ⟨hk.1.1.1.2, ⟨hk.1.1.2, ⟨hk.1.1.1.1.1.1, ⟨hk.1.2, hk.2⟩⟩⟩⟩⟩⟩)⟩, ⟨by (with_reducible repeat apply pR); exact Kd.R_mono HO518.out (fun _ hk => ⟨hk.1.1.1.1.1.2, ⟨hk.1.1.1.1.2, ⟨hk.1.1.1.2, ⟨hk.1.1.2, ⟨hk.1.1.1.1.1.1, ⟨hk.1.2, hk.2⟩⟩⟩⟩⟩⟩)⟩, ⟨by (with_reducible repeat apply pR); exact Kd.R_mono HO527.out (fun _ hk => ⟨hk.1.1.1.1.1.2, ⟨hk.1.1.1.1.2, ⟨hk.1.1.1.2, ⟨hk.1.1.2, ⟨hk.1.2, ⟨hk.2, hk.1.1.1.1.1.1⟩⟩⟩⟩⟩⟩)⟩, ⟨by (with_reducible repeat apply pR); exact Kd.R_mono HO531.out (fun _ hk => ⟨hk.1.1.1.1.1.2, ⟨hk.1.1.1.1.2, ⟨hk.1.1.1.2, ⟨hk.1.1.2, ⟨hk.1.2, ⟨hk.2, hk.1.1.1.1.1.1⟩⟩⟩⟩⟩⟩)⟩, ⟨aK⟩, ⟨aK⟩, ⟨aK⟩, ⟨aK⟩, ⟨aK⟩, ⟨aK⟩, ⟨aK⟩, ⟨aK⟩, ⟨aG⟩⟩
     ·rw [if_neg c88] at H
      have c88b0 : (t535 == 0) = false := beq_eq_false_iff_ne.mpr c88
      have c88b1 : (t535 != 0) = true := bne_iff_ne.mpr c88
      have H' := aM H
      clear H
      have hnb153 := NB487_494.out
      have hnc153 := NB494_487.out
      have hnb154 := NB487_504.out
      have hnc154 := NB504_487.out
      have hnb155 := NB487_510.out
      have hnc155 := NB510_487.out
      have hnb156 := NB487_519.out
      have hnc156 := NB519_487.out
      have hnb157 := NB487_520.out
      have hnc157 := NB520_487.out
      have hnb158 := NB487_532.out
      have hnc158 := NB532_487.out
      have hnb159 := NB487_533.out
      have hnc159 := NB533_487.out
      have hcz160_0 : w57.cell? ⟨gb487, 0, none⟩ = some (.int .i64 t483) := (blk_cell BK487.out 0).trans rfl
      have hcz160_1 : w57.cell? ⟨gb487, 1, none⟩ = some (.slice Ao16 t484.length co16) := (blk_cell BK487.out 1).trans rfl
      have hfz160_0 := blk_frozen BK487.out 0
      have hfz160_1 := blk_frozen BK487.out 1
      go_wp2_with (first | ((with_reducible refine gate_callee (f := 20) rfl ?_); refine goesL_ (some 65) rfl rfl Tryd.func20 (by kernel_rfl) rfl #[.slice Ao17 t480.length co17, .agg #[.int .i64 t483, .slice Ao16 t484.length co16]] rfl aA ?_; (with_reducible refine (spec_IsValidFact.calls k _ _ t480 t483 _ _ t484 t534 _ ?side1 ?side2 ?side3 ?side4 A75.out).mono ?_); (case side1 => refine (Kd.R_reads' (e := 68) (base := w.heap.size) (ok := fun k_ => ((True ∧ some k_ ≠ (.slice Ao25 t495.length co25 : Value).ownBlock) ∧ some k_ ≠ (v522 : Value).ownBlock)) (n := t480.length) (c := co17) ?_).2.2; exact (by (with_reducible repeat apply pR); exact (rF2 HO482.out BK532.out BK533.out (.int .i64 t524) (.slice Ao66 t525.length co66) (.int .i64 t528) (.slice Ao74 t529.length co74)))); (case side2 => exact (Kd.R_reads' HO482.out).2.1); (case side3 => refine (Kd.R_reads' (e := 3) (base := w.heap.size) (ok := fun k_ => (((((((True ∧ some k_ ≠ (.slice Ao23 t490.length co23 : Value).ownBlock) ∧ some k_ ≠ (.slice Ao31 t500.length co31 : Value).ownBlock) ∧ some k_ ≠ (.slice Ao38 t506.length co38 : Value).ownBlock) ∧ some k_ ≠ (.slice Ao48 t512.length co48 : Value).ownBlock) ∧ some k_ ≠ (.slice Ao54 t516.length co54 : Value).ownBlock) ∧ some k_ ≠ (.slice Ao66 t525.length co66 : Value).ownBlock) ∧ some k_ ≠ (.slice Ao74 t529.length co74 : Value).ownBlock)) (n := t484.length) (c := co16) ?_).2.2; exact (by (with_reducible repeat apply pR); exact (rF2 HO486.out BK532.out BK533.out (.int .i64 t524) (.slice Ao66 t525.length co66) (.int .i64 t528) (.slice Ao74 t529.length co74)))); (case side4 => exact (Kd.R_reads' HO486.out).2.1); rintro e w161 ⟨rfl, hb⟩; refine ⟨_, rfl, ?_⟩; replace HO482 := aM (Kd.R_below (by (with_reducible repeat apply pR); exact (rF2 HO482.out BK532.out BK533.out (.int .i64 t524) (.slice Ao66 t525.length co66) (.int .i64 t528) (.slice Ao74 t529.length co74))) hb); replace HO486 := aM (Kd.R_below (by (with_reducible repeat apply pR); exact (rF2 HO486.out BK532.out BK533.out (.int .i64 t524) (.slice Ao66 t525.length co66) (.int .i64 t528) (.slice Ao74 t529.length co74))) hb); replace HO492 := aM (Kd.R_below (by (with_reducible repeat apply pR); exact (rF2 HO492.out BK532.out BK533.out (.int .i64 t524) (.slice Ao66 t525.length co66) (.int .i64 t528) (.slice Ao74 t529.length co74))) hb); replace HO498 := aM (Kd.R_below (by (with_reducible repeat apply pR); exact (rF2 HO498.out BK532.out BK533.out (.int .i64 t524) (.slice Ao66 t525.length co66) (.int .i64 t528) (.slice Ao74 t529.length co74))) hb); replace HO502 := aM (Kd.R_below (by (with_reducible repeat apply pR); exact (rF2 HO502.out BK532.out BK533.out (.int .i64 t524) (.slice Ao66 t525.length co66) (.int .i64 t528) (.slice Ao74 t529.length co74))) hb); replace HO508 := aM (Kd.R_below (by (with_reducible repeat apply pR); exact (rF2 HO508.out BK532.out BK533.out (.int .i64 t524) (.slice Ao66 t525.length co66) (.int .i64 t528) (.slice Ao74 t529.length co74))) hb); replace HO514 := aM (Kd.R_below (by (with_reducible repeat apply pR); exact (rF2 HO514.out BK532.out BK533.out (.int .i64 t524) (.slice Ao66 t525.length co66) (.int .i64 t528) (.slice Ao74 t529.length co74))) hb); replace HO518 := aM (Kd.R_below (by (with_reducible repeat apply pR); exact (rF2 HO518.out BK532.out BK533.out (.int .i64 t524) (.slice Ao66 t525.length co66) (.int .i64 t528) (.slice Ao74 t529.length co74))) hb); replace HO523 := aM (Kd.R_below (by (with_reducible repeat apply pR); exact (rF2 HO523.out BK532.out BK533.out (.int .i64 t524) (.slice Ao66 t525.length co66) (.int .i64 t528) (.slice Ao74 t529.length co74))) hb); replace HO527 := aM (Kd.R_below (by (with_reducible repeat apply pR); exact (rF2 HO527.out BK532.out BK533.out (.int .i64 t524) (.slice Ao66 t525.length co66) (.int .i64 t528) (.slice Ao74 t529.length co74))) hb); replace HO531 := aM (Kd.R_below (by (with_reducible repeat apply pR); exact (rF2 HO531.out BK532.out BK533.out (.int .i64 t524) (.slice Ao66 t525.length co66) (.int .i64 t528) (.slice Ao74 t529.length co74))) hb); replace BK487 := aM (blk_below (g := gb487) (o := .cells #[.int .i64 t483, .slice Ao16 t484.length co16] 39 (0, 0)) (by (with_reducible repeat refine pB ?_); refine blk_far ?_ NB487_533.out _; (with_reducible repeat refine pB ?_); refine blk_far ?_ NB487_533.out _; (with_reducible repeat refine pB ?_); refine blk_far ?_ NB487_532.out _; (with_reducible repeat refine pB ?_); refine blk_far ?_ NB487_532.out _; (with_reducible repeat refine pB ?_); exact BK487.out) hb); replace BK494 := aM (blk_below (g := gb494) (o := .cells #[.int .i64 t489, .slice Ao23 t490.length co23] 39 (0, 0)) (by (with_reducible repeat refine pB ?_); refine blk_far ?_ NB494_533.out _; (with_reducible repeat refine pB ?_); refine blk_far ?_ NB494_533.out _; (with_reducible repeat refine pB ?_); refine blk_far ?_ NB494_532.out _; (with_reducible repeat refine pB ?_); refine blk_far ?_ NB494_532.out _; (with_reducible repeat refine pB ?_); exact BK494.out) hb); replace BK504 := aM (blk_below (g := gb504) (o := .cells #[.int .i64 t499, .slice Ao31 t500.length co31] 39 (0, 0)) (by (with_reducible repeat refine pB ?_); refine blk_far ?_ NB504_533.out _; (with_reducible repeat refine pB ?_); refine blk_far ?_ NB504_533.out _; (with_reducible repeat refine pB ?_); refine blk_far ?_ NB504_532.out _; (with_reducible repeat refine pB ?_); refine blk_far ?_ NB504_532.out _; (with_reducible repeat refine pB ?_); exact BK504.out) hb); replace BK510 := aM (blk_below (g := gb510) (o := .cells #[.int .i64 t505, .slice Ao38 t506.length co38] 39 (0, 0)) (by (with_reducible repeat refine pB ?_); refine blk_far ?_ NB510_533.out _; (with_reducible repeat refine pB ?_); refine blk_far ?_ NB510_533.out _; (with_reducible repeat refine pB ?_); refine blk_far ?_ NB510_532.out _; (with_reducible repeat refine pB ?_); refine blk_far ?_ NB510_532.out _; (with_reducible repeat refine pB ?_); exact BK510.out) hb); replace BK519 := aM (blk_below (g := gb519) (o := .cells #[.int .i64 t511, .slice Ao48 t512.length co48] 39 (0, 0)) (by (with_reducible repeat refine pB ?_); refine blk_far ?_ NB519_533.out _; (with_reducible repeat refine pB ?_); refine blk_far ?_ NB519_533.out _; (with_reducible repeat refine pB ?_); refine blk_far ?_ NB519_532.out _; (with_reducible repeat refine pB ?_); refine blk_far ?_ NB519_532.out _; (with_reducible repeat refine pB ?_); exact BK519.out) hb); replace BK520 := aM (blk_below (g := gb520) (o := .cells #[.int .i64 t515, .slice Ao54 t516.length co54] 39 (0, 0)) (by (with_reducible repeat refine pB ?_); refine blk_far ?_ NB520_533.out _; (with_reducible repeat refine pB ?_); refine blk_far ?_ NB520_533.out _; (with_reducible repeat refine pB ?_); refine blk_far ?_ NB520_532.out _; (with_reducible repeat refine pB ?_); refine blk_far ?_ NB520_532.out _; (with_reducible repeat refine pB ?_); exact BK520.out) hb); replace BK532 := aM (blk_below (g := gb532) (o := .cells #[.int .i64 t524, .slice Ao66 t525.length co66] 39 (0, 0)) (by (with_reducible repeat refine pB ?_); refine blk_far ?_ NB532_533.out _; (with_reducible repeat refine pB ?_); refine blk_far ?_ NB532_533.out _; (with_reducible repeat refine pB ?_); refine blk_put (cs := #[.int .i64 t524, .slice none 0 0]) ?_ 1 _ rfl; (with_reducible repeat refine pB ?_); refine blk_put (cs := #[.int .i64 0, .slice none 0 0]) ?_ 0 _ rfl; (with_reducible repeat refine pB ?_); exact BK532.out) hb); replace BK533 := aM (blk_below (g := gb533) (o := .cells #[.int .i64 t528, .slice Ao74 t529.length co74] 39 (0, 0)) (by (with_reducible repeat refine pB ?_); refine blk_put (cs := #[.int .i64 t528, .slice none 0 0]) ?_ 1 _ rfl; (with_reducible repeat refine pB ?_); refine blk_put (cs := #[.int .i64 0, .slice none 0 0]) ?_ 0 _ rfl; (with_reducible repeat refine pB ?_); refine blk_far ?_ NB533_532.out _; (with_reducible repeat refine pB ?_); refine blk_far ?_ NB533_532.out _; (with_reducible repeat refine pB ?_); exact BK533.out) hb); replace HB := aM (below_step aG hb); (try clear hb); (try clear hb2); (try clear hk); (try clear hi); have hnb162 := NB494_504.out; have hnc162 := NB504_494.out; have hnb163 := NB494_510.out; have hnc163 := NB510_494.out; have hnb164 := NB494_519.out; have hnc164 := NB519_494.out; have hnb165 := NB494_520.out; have hnc165 := NB520_494.out; have hnb166 := NB494_532.out; have hnc166 := NB532_494.out; have hnb167 := NB494_533.out; have hnc167 := NB533_494.out; have hcz168_0 : w161.cell? ⟨gb494, 0, none⟩ = some (.int .i64 t489) := (blk_cell BK494.out 0).trans rfl; have hcz168_1 : w161.cell? ⟨gb494, 1, none⟩ = some (.slice Ao23 t490.length co23) := (blk_cell BK494.out 1).trans rfl; have hfz168_0 := blk_frozen BK494.out 0; have hfz168_1 := blk_frozen BK494.out 1; have hcz169_0 : w161.cell? ⟨gb487, 0, none⟩ = some (.int .i64 t483) := (blk_cell BK487.out 0).trans rfl; have hcz169_1 : w161.cell? ⟨gb487, 1, none⟩ = some (.slice Ao16 t484.length co16) := (blk_cell BK487.out 1).trans rfl; have hfz169_0 := blk_frozen BK487.out 0; have hfz169_1 := blk_frozen BK487.out 1) | (go_at_call 21; (with_reducible refine (impl_CompareFacts.calls k t489 _ _ t490 t483 _ _ t484 t535 _ ?side1 ?side2 ?side3 ?side4 A87.out).mono ?_); (case side1 => repeat (first | exact (Kd.R_reads' HO492.out).2.2 | (with_reducible refine pC ?_))); (case side2 => exact (Kd.R_reads' HO492.out).2.1); (case side3 => repeat (first | exact (Kd.R_reads' HO486.out).2.2 | (with_reducible refine pC ?_))); (case side4 => exact (Kd.R_reads' HO486.out).2.1); rintro e w170 ⟨rfl, hb⟩; have n0_ := aM (Kd.R_below (aR HO482) hb); have n1_ := aM (Kd.R_below (aR HO486) hb); have n2_ := aM (Kd.R_below (aR HO492) hb); have n3_ := aM (Kd.R_below (aR HO498) hb); have n4_ := aM (Kd.R_below (aR HO502) hb); have n5_ := aM (Kd.R_below (aR HO508) hb); have n6_ := aM (Kd.R_below (aR HO514) hb); have n7_ := aM (Kd.R_below (aR HO518) hb); have n8_ := aM (Kd.R_below (aR HO523) hb); have n9_ := aM (Kd.R_below (aR HO527) hb); have n10_ := aM (Kd.R_below (aR HO531) hb); have n11_ := aM (kB gb487 #[.int .i64 t483, .slice Ao16 t484.length co16] 39 hb); have n12_ := aM (kB gb494 #[.int .i64 t489, .slice Ao23 t490.length co23] 39 hb); have n13_ := aM (kB gb504 #[.int .i64 t499, .slice Ao31 t500.length co31] 39 hb); have n14_ := aM (kB gb510 #[.int .i64 t505, .slice Ao38 t506.length co38] 39 hb); have n15_ := aM (kB gb519 #[.int .i64 t511, .slice Ao48 t512.length co48] 39 hb); have n16_ := aM (kB gb520 #[.int .i64 t515, .slice Ao54 t516.length co54] 39 hb); have n17_ := aM (kB gb532 #[.int .i64 t524, .slice Ao66 t525.length co66] 39 hb); have n18_ := aM (kB gb533 #[.int .i64 t528, .slice Ao74 t529.length co74] 39 hb); have n19_ := aM (below_step aG hb); clear HO482; clear HO486; clear HO492; clear HO498; clear HO502; clear HO508; clear HO514; clear HO518; clear HO523; clear HO527; clear HO531; clear BK487; clear BK494; clear BK504; clear BK510; clear BK519; clear BK520; clear BK532; clear BK533; clear HB; have HO482 := n0_; have HO486 := n1_; have HO492 := n2_; have HO498 := n3_; have HO502 := n4_; have HO508 := n5_; have HO514 := n6_; have HO518 := n7_; have HO523 := n8_; have HO527 := n9_; have HO531 := n10_; have BK487 := n11_; have BK494 := n12_; have BK504 := n13_; have BK510 := n14_; have BK519 := n15_; have BK520 := n16_; have BK532 := n17_; have BK533 := n18_; have HB := n19_; clear n0_ n1_ n2_ n3_ n4_ n5_ n6_ n7_ n8_ n9_ n10_ n11_ n12_ n13_ n14_ n15_ n16_ n17_ n18_ n19_; (try clear hb); (try clear hb2); (try clear hk); (try clear hi)))
      go_meet
      case rel => exact ⟨_, (true), aX, H', ⟨by first | omega | exact Nat.le_refl _⟩, ⟨by (with_reducible repeat apply pR); exact Kd.R_mono HO523.out (fun _ hk => trivial)⟩, ⟨by (with_reducible repeat apply pR); exact Kd.R_mono HO486.out (fun _ hk => ⟨hk.1.1.1.1.1.1.2, ⟨hk.1.1.1.1.1.2, ⟨hk.1.1.1.1.2, ⟨hk.1.1.1.2, ⟨hk.1.1.2, ⟨hk.1.2, hk.2⟩⟩⟩⟩⟩⟩)⟩, ⟨by (with_reducible repeat apply pR); exact Kd.R_mono HO492.out (fun _ hk => ⟨hk.1.1.1.1.1.1.2, ⟨hk.1.1.1.1.1.2, ⟨hk.1.1.1.1.2, ⟨hk.1.1.1.2, ⟨hk.1.1.2, ⟨hk.1.2, hk.2⟩⟩⟩⟩⟩⟩)⟩, ⟨by (with_reducible repeat apply pR); exact Kd.R_mono HO502.out (fun _ hk => ⟨hk.1.1.1.1.1.1.2, ⟨hk.1.1.1.1.1.2, ⟨hk.1.1.1.1.2, ⟨hk.1.1.1.2, ⟨hk.1.1.2, ⟨hk.1.2, hk.2⟩⟩⟩⟩⟩⟩)⟩, ⟨by (with_reducible repeat apply pR); exact Kd.R_mono HO508.out (fun _ hk => ⟨hk.1.1.1.1.1.1.2, ⟨hk.1.1.1.1.1.2, ⟨hk.1.1.1.1.2, ⟨hk.1.1.1.2, ⟨hk.1.1.2, ⟨hk.1.2, hk.2⟩⟩⟩⟩⟩⟩)⟩, ⟨by (with_reducible repeat apply pR); exact Kd.R_mono HO514.out (fun _ hk => ⟨hk.1.1.1.1.1.2, ⟨hk.1.1.1.1.2, ⟨hk.1.1.1.2, ⟨hk.1.1.2, ⟨hk.1.1.1.1.1.1, ⟨hk.1.2, hk.2⟩⟩⟩⟩⟩⟩)⟩, ⟨by (with_reducible repeat apply pR); exact Kd.R_mono HO518.out (fun _ hk => ⟨hk.1.1.1.1.1.2, ⟨hk.1.1.1.1.2, ⟨hk.1.1.1.2, ⟨hk.1.1.2, ⟨hk.1.1.1.1.1.1, ⟨hk.1.2, hk.2⟩⟩⟩⟩⟩⟩)⟩, ⟨by (with_reducible repeat apply pR); exact Kd.R_mono HO527.out (fun _ hk => ⟨hk.1.1.1.1.1.2, ⟨hk.1.1.1.1.2, ⟨hk.1.1.1.2, ⟨hk.1.1.2, ⟨hk.1.2, ⟨hk.2, hk.1.1.1.1.1.1⟩⟩⟩⟩⟩⟩)⟩, ⟨by (with_reducible repeat apply pR); exact Kd.R_mono HO531.out (fun _ hk => ⟨hk.1.1.1.1.1.2, ⟨hk.1.1.1.1.2, ⟨hk.1.1.1.2, ⟨hk.1.1.2, ⟨hk.1.2, ⟨hk.2, hk.1.1.1.1.1.1⟩⟩⟩⟩⟩⟩)⟩, ⟨aK⟩, ⟨aK⟩, ⟨aK⟩, ⟨aK⟩, ⟨aK⟩, ⟨aK⟩, ⟨aK⟩, ⟨aK⟩, ⟨aG⟩⟩
    ·replace c86 := Bool.eq_false_iff.mpr c86
     subst c86
     have H1 : (if (t503 != t509) = true then (laws_FnFactFormat.j0 k t521 true t511 t512 t515 t516 t524 t525 t528 t529) else (if t503 = true then ((impl_FormatFact.f k t495 t499 t500).bind fun t537 => (laws_FnFactFormat.j0 k t521 (t537.toList != t496.toList) t511 t512 t515 t516 t524 t525 t528 t529)) else (laws_FnFactFormat.j0 k t521 false t511 t512 t515 t516 t524 t525 t528 t529))) = some r := by rw [if_neg (show ¬ (false = true) by decide)] at H; exact H
     clear H
     have H := H1
     clear H1
     by_cases c171 : (t503 != t509) = true
     ·rw [if_pos c171] at H
      have c171b0 : (t503 != t509) = true := c171
      (try (have c171b1 : decide (t503 = t509) = false := by simpa using c171))
      (try (have c171b2 : (t503 == t509) = false := by simpa using c171))
      (try (have c171b3 : ¬ (t503 = t509) := by simpa using c171))
      clear c171
      have H' := aM H
      clear H
      have hnb172 := NB487_494.out
      have hnc172 := NB494_487.out
      have hnb173 := NB487_504.out
      have hnc173 := NB504_487.out
      have hnb174 := NB487_510.out
      have hnc174 := NB510_487.out
      have hnb175 := NB487_519.out
      have hnc175 := NB519_487.out
      have hnb176 := NB487_520.out
      have hnc176 := NB520_487.out
      have hnb177 := NB487_532.out
      have hnc177 := NB532_487.out
      have hnb178 := NB487_533.out
      have hnc178 := NB533_487.out
      have hcz179_0 : w57.cell? ⟨gb487, 0, none⟩ = some (.int .i64 t483) := (blk_cell BK487.out 0).trans rfl
      have hcz179_1 : w57.cell? ⟨gb487, 1, none⟩ = some (.slice Ao16 t484.length co16) := (blk_cell BK487.out 1).trans rfl
      have hfz179_0 := blk_frozen BK487.out 0
      have hfz179_1 := blk_frozen BK487.out 1
      go_wp2_with (first | ((with_reducible refine gate_callee (f := 20) rfl ?_); refine goesL_ (some 65) rfl rfl Tryd.func20 (by kernel_rfl) rfl #[.slice Ao17 t480.length co17, .agg #[.int .i64 t483, .slice Ao16 t484.length co16]] rfl aA ?_; (with_reducible refine (spec_IsValidFact.calls k _ _ t480 t483 _ _ t484 t534 _ ?side1 ?side2 ?side3 ?side4 A75.out).mono ?_); (case side1 => refine (Kd.R_reads' (e := 68) (base := w.heap.size) (ok := fun k_ => ((True ∧ some k_ ≠ (.slice Ao25 t495.length co25 : Value).ownBlock) ∧ some k_ ≠ (v522 : Value).ownBlock)) (n := t480.length) (c := co17) ?_).2.2; exact (by (with_reducible repeat apply pR); exact (rF2 HO482.out BK532.out BK533.out (.int .i64 t524) (.slice Ao66 t525.length co66) (.int .i64 t528) (.slice Ao74 t529.length co74)))); (case side2 => exact (Kd.R_reads' HO482.out).2.1); (case side3 => refine (Kd.R_reads' (e := 3) (base := w.heap.size) (ok := fun k_ => (((((((True ∧ some k_ ≠ (.slice Ao23 t490.length co23 : Value).ownBlock) ∧ some k_ ≠ (.slice Ao31 t500.length co31 : Value).ownBlock) ∧ some k_ ≠ (.slice Ao38 t506.length co38 : Value).ownBlock) ∧ some k_ ≠ (.slice Ao48 t512.length co48 : Value).ownBlock) ∧ some k_ ≠ (.slice Ao54 t516.length co54 : Value).ownBlock) ∧ some k_ ≠ (.slice Ao66 t525.length co66 : Value).ownBlock) ∧ some k_ ≠ (.slice Ao74 t529.length co74 : Value).ownBlock)) (n := t484.length) (c := co16) ?_).2.2; exact (by (with_reducible repeat apply pR); exact (rF2 HO486.out BK532.out BK533.out (.int .i64 t524) (.slice Ao66 t525.length co66) (.int .i64 t528) (.slice Ao74 t529.length co74)))); (case side4 => exact (Kd.R_reads' HO486.out).2.1); rintro e w180 ⟨rfl, hb⟩; refine ⟨_, rfl, ?_⟩; replace HO482 := aM (Kd.R_below (by (with_reducible repeat apply pR); exact (rF2 HO482.out BK532.out BK533.out (.int .i64 t524) (.slice Ao66 t525.length co66) (.int .i64 t528) (.slice Ao74 t529.length co74))) hb); replace HO486 := aM (Kd.R_below (by (with_reducible repeat apply pR); exact (rF2 HO486.out BK532.out BK533.out (.int .i64 t524) (.slice Ao66 t525.length co66) (.int .i64 t528) (.slice Ao74 t529.length co74))) hb); replace HO492 := aM (Kd.R_below (by (with_reducible repeat apply pR); exact (rF2 HO492.out BK532.out BK533.out (.int .i64 t524) (.slice Ao66 t525.length co66) (.int .i64 t528) (.slice Ao74 t529.length co74))) hb); replace HO498 := aM (Kd.R_below (by (with_reducible repeat apply pR); exact (rF2 HO498.out BK532.out BK533.out (.int .i64 t524) (.slice Ao66 t525.length co66) (.int .i64 t528) (.slice Ao74 t529.length co74))) hb); replace HO502 := aM (Kd.R_below (by (with_reducible repeat apply pR); exact (rF2 HO502.out BK532.out BK533.out (.int .i64 t524) (.slice Ao66 t525.length co66) (.int .i64 t528) (.slice Ao74 t529.length co74))) hb); replace HO508 := aM (Kd.R_below (by (with_reducible repeat apply pR); exact (rF2 HO508.out BK532.out BK533.out (.int .i64 t524) (.slice Ao66 t525.length co66) (.int .i64 t528) (.slice Ao74 t529.length co74))) hb); replace HO514 := aM (Kd.R_below (by (with_reducible repeat apply pR); exact (rF2 HO514.out BK532.out BK533.out (.int .i64 t524) (.slice Ao66 t525.length co66) (.int .i64 t528) (.slice Ao74 t529.length co74))) hb); replace HO518 := aM (Kd.R_below (by (with_reducible repeat apply pR); exact (rF2 HO518.out BK532.out BK533.out (.int .i64 t524) (.slice Ao66 t525.length co66) (.int .i64 t528) (.slice Ao74 t529.length co74))) hb); replace HO523 := aM (Kd.R_below (by (with_reducible repeat apply pR); exact (rF2 HO523.out BK532.out BK533.out (.int .i64 t524) (.slice Ao66 t525.length co66) (.int .i64 t528) (.slice Ao74 t529.length co74))) hb); replace HO527 := aM (Kd.R_below (by (with_reducible repeat apply pR); exact (rF2 HO527.out BK532.out BK533.out (.int .i64 t524) (.slice Ao66 t525.length co66) (.int .i64 t528) (.slice Ao74 t529.length co74))) hb); replace HO531 := aM (Kd.R_below (by (with_reducible repeat apply pR); exact (rF2 HO531.out BK532.out BK533.out (.int .i64 t524) (.slice Ao66 t525.length co66) (.int .i64 t528) (.slice Ao74 t529.length co74))) hb); replace BK487 := aM (blk_below (g := gb487) (o := .cells #[.int .i64 t483, .slice Ao16 t484.length co16] 39 (0, 0)) (by (with_reducible repeat refine pB ?_); refine blk_far ?_ NB487_533.out _; (with_reducible repeat refine pB ?_); refine blk_far ?_ NB487_533.out _; (with_reducible repeat refine pB ?_); refine blk_far ?_ NB487_532.out _; (with_reducible repeat refine pB ?_); refine blk_far ?_ NB487_532.out _; (with_reducible repeat refine pB ?_); exact BK487.out) hb); replace BK494 := aM (blk_below (g := gb494) (o := .cells #[.int .i64 t489, .slice Ao23 t490.length co23] 39 (0, 0)) (by (with_reducible repeat refine pB ?_); refine blk_far ?_ NB494_533.out _; (with_reducible repeat refine pB ?_); refine blk_far ?_ NB494_533.out _; (with_reducible repeat refine pB ?_); refine blk_far ?_ NB494_532.out _; (with_reducible repeat refine pB ?_); refine blk_far ?_ NB494_532.out _; (with_reducible repeat refine pB ?_); exact BK494.out) hb); replace BK504 := aM (blk_below (g := gb504) (o := .cells #[.int .i64 t499, .slice Ao31 t500.length co31] 39 (0, 0)) (by (with_reducible repeat refine pB ?_); refine blk_far ?_ NB504_533.out _; (with_reducible repeat refine pB ?_); refine blk_far ?_ NB504_533.out _; (with_reducible repeat refine pB ?_); refine blk_far ?_ NB504_532.out _; (with_reducible repeat refine pB ?_); refine blk_far ?_ NB504_532.out _; (with_reducible repeat refine pB ?_); exact BK504.out) hb); replace BK510 := aM (blk_below (g := gb510) (o := .cells #[.int .i64 t505, .slice Ao38 t506.length co38] 39 (0, 0)) (by (with_reducible repeat refine pB ?_); refine blk_far ?_ NB510_533.out _; (with_reducible repeat refine pB ?_); refine blk_far ?_ NB510_533.out _; (with_reducible repeat refine pB ?_); refine blk_far ?_ NB510_532.out _; (with_reducible repeat refine pB ?_); refine blk_far ?_ NB510_532.out _; (with_reducible repeat refine pB ?_); exact BK510.out) hb); replace BK519 := aM (blk_below (g := gb519) (o := .cells #[.int .i64 t511, .slice Ao48 t512.length co48] 39 (0, 0)) (by (with_reducible repeat refine pB ?_); refine blk_far ?_ NB519_533.out _; (with_reducible repeat refine pB ?_); refine blk_far ?_ NB519_533.out _; (with_reducible repeat refine pB ?_); refine blk_far ?_ NB519_532.out _; (with_reducible repeat refine pB ?_); refine blk_far ?_ NB519_532.out _; (with_reducible repeat refine pB ?_); exact BK519.out) hb); replace BK520 := aM (blk_below (g := gb520) (o := .cells #[.int .i64 t515, .slice Ao54 t516.length co54] 39 (0, 0)) (by (with_reducible repeat refine pB ?_); refine blk_far ?_ NB520_533.out _; (with_reducible repeat refine pB ?_); refine blk_far ?_ NB520_533.out _; (with_reducible repeat refine pB ?_); refine blk_far ?_ NB520_532.out _; (with_reducible repeat refine pB ?_); refine blk_far ?_ NB520_532.out _; (with_reducible repeat refine pB ?_); exact BK520.out) hb); replace BK532 := aM (blk_below (g := gb532) (o := .cells #[.int .i64 t524, .slice Ao66 t525.length co66] 39 (0, 0)) (by (with_reducible repeat refine pB ?_); refine blk_far ?_ NB532_533.out _; (with_reducible repeat refine pB ?_); refine blk_far ?_ NB532_533.out _; (with_reducible repeat refine pB ?_); refine blk_put (cs := #[.int .i64 t524, .slice none 0 0]) ?_ 1 _ rfl; (with_reducible repeat refine pB ?_); refine blk_put (cs := #[.int .i64 0, .slice none 0 0]) ?_ 0 _ rfl; (with_reducible repeat refine pB ?_); exact BK532.out) hb); replace BK533 := aM (blk_below (g := gb533) (o := .cells #[.int .i64 t528, .slice Ao74 t529.length co74] 39 (0, 0)) (by (with_reducible repeat refine pB ?_); refine blk_put (cs := #[.int .i64 t528, .slice none 0 0]) ?_ 1 _ rfl; (with_reducible repeat refine pB ?_); refine blk_put (cs := #[.int .i64 0, .slice none 0 0]) ?_ 0 _ rfl; (with_reducible repeat refine pB ?_); refine blk_far ?_ NB533_532.out _; (with_reducible repeat refine pB ?_); refine blk_far ?_ NB533_532.out _; (with_reducible repeat refine pB ?_); exact BK533.out) hb); replace HB := aM (below_step aG hb); (try clear hb); (try clear hb2); (try clear hk); (try clear hi)))
      go_meet
      case rel => exact ⟨_, (true), aX, H', ⟨by first | omega | exact Nat.le_refl _⟩, ⟨by (with_reducible repeat apply pR); exact Kd.R_mono HO523.out (fun _ hk => trivial)⟩, ⟨by (with_reducible repeat apply pR); exact Kd.R_mono HO486.out (fun _ hk => ⟨hk.1.1.1.1.1.1.2, ⟨hk.1.1.1.1.1.2, ⟨hk.1.1.1.1.2, ⟨hk.1.1.1.2, ⟨hk.1.1.2, ⟨hk.1.2, hk.2⟩⟩⟩⟩⟩⟩)⟩, ⟨by (with_reducible repeat apply pR); exact Kd.R_mono HO492.out (fun _ hk => ⟨hk.1.1.1.1.1.1.2, ⟨hk.1.1.1.1.1.2, ⟨hk.1.1.1.1.2, ⟨hk.1.1.1.2, ⟨hk.1.1.2, ⟨hk.1.2, hk.2⟩⟩⟩⟩⟩⟩)⟩, ⟨by (with_reducible repeat apply pR); exact Kd.R_mono HO502.out (fun _ hk => ⟨hk.1.1.1.1.1.1.2, ⟨hk.1.1.1.1.1.2, ⟨hk.1.1.1.1.2, ⟨hk.1.1.1.2, ⟨hk.1.1.2, ⟨hk.1.2, hk.2⟩⟩⟩⟩⟩⟩)⟩, ⟨by (with_reducible repeat apply pR); exact Kd.R_mono HO508.out (fun _ hk => ⟨hk.1.1.1.1.1.1.2, ⟨hk.1.1.1.1.1.2, ⟨hk.1.1.1.1.2, ⟨hk.1.1.1.2, ⟨hk.1.1.2, ⟨hk.1.2, hk.2⟩⟩⟩⟩⟩⟩)⟩, ⟨by (with_reducible repeat apply pR); exact Kd.R_mono HO514.out (fun _ hk => ⟨hk.1.1.1.1.1.2, ⟨hk.1.1.1.1.2, ⟨hk.1.1.1.2, ⟨hk.1.1.2, ⟨hk.1.1.1.1.1.1, ⟨hk.1.2, hk.2⟩⟩⟩⟩⟩⟩)⟩, ⟨by (with_reducible repeat apply pR); exact Kd.R_mono HO518.out (fun _ hk => ⟨hk.1.1.1.1.1.2, ⟨hk.1.1.1.1.2, ⟨hk.1.1.1.2, ⟨hk.1.1.2, ⟨hk.1.1.1.1.1.1, ⟨hk.1.2, hk.2⟩⟩⟩⟩⟩⟩)⟩, ⟨by (with_reducible repeat apply pR); exact Kd.R_mono HO527.out (fun _ hk => ⟨hk.1.1.1.1.1.2, ⟨hk.1.1.1.1.2, ⟨hk.1.1.1.2, ⟨hk.1.1.2, ⟨hk.1.2, ⟨hk.2, hk.1.1.1.1.1.1⟩⟩⟩⟩⟩⟩)⟩, ⟨by (with_reducible repeat apply pR); exact Kd.R_mono HO531.out (fun _ hk => ⟨hk.1.1.1.1.1.2, ⟨hk.1.1.1.1.2, ⟨hk.1.1.1.2, ⟨hk.1.1.2, ⟨hk.1.2, ⟨hk.2, hk.1.1.1.1.1.1⟩⟩⟩⟩⟩⟩)⟩, ⟨aK⟩, ⟨aK⟩, ⟨aK⟩, ⟨aK⟩, ⟨aK⟩, ⟨aK⟩, ⟨aK⟩, ⟨aK⟩, ⟨aG⟩⟩
     ·rw [if_neg c171] at H
      have c171b0 : (t503 != t509) = false := by simpa using c171
      (try (have c171b1 : decide (t503 = t509) = true := by simpa using c171))
      (try (have c171b2 : (t503 == t509) = true := by simpa using c171))
      clear c171
      by_cases c181 : t503 = true
      ·subst c181
       replace H := iT H
       replace H := bM H
       obtain ⟨t537, A1820, H⟩ := H
       have A182 := aM A1820
       clear A1820
       have H' := aM H
       clear H
       have hnb183 := NB487_494.out
       have hnc183 := NB494_487.out
       have hnb184 := NB487_504.out
       have hnc184 := NB504_487.out
       have hnb185 := NB487_510.out
       have hnc185 := NB510_487.out
       have hnb186 := NB487_519.out
       have hnc186 := NB519_487.out
       have hnb187 := NB487_520.out
       have hnc187 := NB520_487.out
       have hnb188 := NB487_532.out
       have hnc188 := NB532_487.out
       have hnb189 := NB487_533.out
       have hnc189 := NB533_487.out
       have hcz190_0 : w57.cell? ⟨gb487, 0, none⟩ = some (.int .i64 t483) := (blk_cell BK487.out 0).trans rfl
       have hcz190_1 : w57.cell? ⟨gb487, 1, none⟩ = some (.slice Ao16 t484.length co16) := (blk_cell BK487.out 1).trans rfl
       have hfz190_0 := blk_frozen BK487.out 0
       have hfz190_1 := blk_frozen BK487.out 1
       go_wp2_with (first | ((with_reducible refine gate_callee (f := 20) rfl ?_); refine goesL_ (some 65) rfl rfl Tryd.func20 (by kernel_rfl) rfl #[.slice Ao17 t480.length co17, .agg #[.int .i64 t483, .slice Ao16 t484.length co16]] rfl aA ?_; (with_reducible refine (spec_IsValidFact.calls k _ _ t480 t483 _ _ t484 t534 _ ?side1 ?side2 ?side3 ?side4 A75.out).mono ?_); (case side1 => refine (Kd.R_reads' (e := 68) (base := w.heap.size) (ok := fun k_ => ((True ∧ some k_ ≠ (.slice Ao25 t495.length co25 : Value).ownBlock) ∧ some k_ ≠ (v522 : Value).ownBlock)) (n := t480.length) (c := co17) ?_).2.2; exact (by (with_reducible repeat apply pR); exact (rF2 HO482.out BK532.out BK533.out (.int .i64 t524) (.slice Ao66 t525.length co66) (.int .i64 t528) (.slice Ao74 t529.length co74)))); (case side2 => exact (Kd.R_reads' HO482.out).2.1); (case side3 => refine (Kd.R_reads' (e := 3) (base := w.heap.size) (ok := fun k_ => (((((((True ∧ some k_ ≠ (.slice Ao23 t490.length co23 : Value).ownBlock) ∧ some k_ ≠ (.slice Ao31 t500.length co31 : Value).ownBlock) ∧ some k_ ≠ (.slice Ao38 t506.length co38 : Value).ownBlock) ∧ some k_ ≠ (.slice Ao48 t512.length co48 : Value).ownBlock) ∧ some k_ ≠ (.slice Ao54 t516.length co54 : Value).ownBlock) ∧ some k_ ≠ (.slice Ao66 t525.length co66 : Value).ownBlock) ∧ some k_ ≠ (.slice Ao74 t529.length co74 : Value).ownBlock)) (n := t484.length) (c := co16) ?_).2.2; exact (by (with_reducible repeat apply pR); exact (rF2 HO486.out BK532.out BK533.out (.int .i64 t524) (.slice Ao66 t525.length co66) (.int .i64 t528) (.slice Ao74 t529.length co74)))); (case side4 => exact (Kd.R_reads' HO486.out).2.1); rintro e w191 ⟨rfl, hb⟩; refine ⟨_, rfl, ?_⟩; replace HO482 := aM (Kd.R_below (by (with_reducible repeat apply pR); exact (rF2 HO482.out BK532.out BK533.out (.int .i64 t524) (.slice Ao66 t525.length co66) (.int .i64 t528) (.slice Ao74 t529.length co74))) hb); replace HO486 := aM (Kd.R_below (by (with_reducible repeat apply pR); exact (rF2 HO486.out BK532.out BK533.out (.int .i64 t524) (.slice Ao66 t525.length co66) (.int .i64 t528) (.slice Ao74 t529.length co74))) hb); replace HO492 := aM (Kd.R_below (by (with_reducible repeat apply pR); exact (rF2 HO492.out BK532.out BK533.out (.int .i64 t524) (.slice Ao66 t525.length co66) (.int .i64 t528) (.slice Ao74 t529.length co74))) hb); replace HO498 := aM (Kd.R_below (by (with_reducible repeat apply pR); exact (rF2 HO498.out BK532.out BK533.out (.int .i64 t524) (.slice Ao66 t525.length co66) (.int .i64 t528) (.slice Ao74 t529.length co74))) hb); replace HO502 := aM (Kd.R_below (by (with_reducible repeat apply pR); exact (rF2 HO502.out BK532.out BK533.out (.int .i64 t524) (.slice Ao66 t525.length co66) (.int .i64 t528) (.slice Ao74 t529.length co74))) hb); replace HO508 := aM (Kd.R_below (by (with_reducible repeat apply pR); exact (rF2 HO508.out BK532.out BK533.out (.int .i64 t524) (.slice Ao66 t525.length co66) (.int .i64 t528) (.slice Ao74 t529.length co74))) hb); replace HO514 := aM (Kd.R_below (by (with_reducible repeat apply pR); exact (rF2 HO514.out BK532.out BK533.out (.int .i64 t524) (.slice Ao66 t525.length co66) (.int .i64 t528) (.slice Ao74 t529.length co74))) hb); replace HO518 := aM (Kd.R_below (by (with_reducible repeat apply pR); exact (rF2 HO518.out BK532.out BK533.out (.int .i64 t524) (.slice Ao66 t525.length co66) (.int .i64 t528) (.slice Ao74 t529.length co74))) hb); replace HO523 := aM (Kd.R_below (by (with_reducible repeat apply pR); exact (rF2 HO523.out BK532.out BK533.out (.int .i64 t524) (.slice Ao66 t525.length co66) (.int .i64 t528) (.slice Ao74 t529.length co74))) hb); replace HO527 := aM (Kd.R_below (by (with_reducible repeat apply pR); exact (rF2 HO527.out BK532.out BK533.out (.int .i64 t524) (.slice Ao66 t525.length co66) (.int .i64 t528) (.slice Ao74 t529.length co74))) hb); replace HO531 := aM (Kd.R_below (by (with_reducible repeat apply pR); exact (rF2 HO531.out BK532.out BK533.out (.int .i64 t524) (.slice Ao66 t525.length co66) (.int .i64 t528) (.slice Ao74 t529.length co74))) hb); replace BK487 := aM (blk_below (g := gb487) (o := .cells #[.int .i64 t483, .slice Ao16 t484.length co16] 39 (0, 0)) (by (with_reducible repeat refine pB ?_); refine blk_far ?_ NB487_533.out _; (with_reducible repeat refine pB ?_); refine blk_far ?_ NB487_533.out _; (with_reducible repeat refine pB ?_); refine blk_far ?_ NB487_532.out _; (with_reducible repeat refine pB ?_); refine blk_far ?_ NB487_532.out _; (with_reducible repeat refine pB ?_); exact BK487.out) hb); replace BK494 := aM (blk_below (g := gb494) (o := .cells #[.int .i64 t489, .slice Ao23 t490.length co23] 39 (0, 0)) (by (with_reducible repeat refine pB ?_); refine blk_far ?_ NB494_533.out _; (with_reducible repeat refine pB ?_); refine blk_far ?_ NB494_533.out _; (with_reducible repeat refine pB ?_); refine blk_far ?_ NB494_532.out _; (with_reducible repeat refine pB ?_); refine blk_far ?_ NB494_532.out _; (with_reducible repeat refine pB ?_); exact BK494.out) hb); replace BK504 := aM (blk_below (g := gb504) (o := .cells #[.int .i64 t499, .slice Ao31 t500.length co31] 39 (0, 0)) (by (with_reducible repeat refine pB ?_); refine blk_far ?_ NB504_533.out _; (with_reducible repeat refine pB ?_); refine blk_far ?_ NB504_533.out _; (with_reducible repeat refine pB ?_); refine blk_far ?_ NB504_532.out _; (with_reducible repeat refine pB ?_); refine blk_far ?_ NB504_532.out _; (with_reducible repeat refine pB ?_); exact BK504.out) hb); replace BK510 := aM (blk_below (g := gb510) (o := .cells #[.int .i64 t505, .slice Ao38 t506.length co38] 39 (0, 0)) (by (with_reducible repeat refine pB ?_); refine blk_far ?_ NB510_533.out _; (with_reducible repeat refine pB ?_); refine blk_far ?_ NB510_533.out _; (with_reducible repeat refine pB ?_); refine blk_far ?_ NB510_532.out _; (with_reducible repeat refine pB ?_); refine blk_far ?_ NB510_532.out _; (with_reducible repeat refine pB ?_); exact BK510.out) hb); replace BK519 := aM (blk_below (g := gb519) (o := .cells #[.int .i64 t511, .slice Ao48 t512.length co48] 39 (0, 0)) (by (with_reducible repeat refine pB ?_); refine blk_far ?_ NB519_533.out _; (with_reducible repeat refine pB ?_); refine blk_far ?_ NB519_533.out _; (with_reducible repeat refine pB ?_); refine blk_far ?_ NB519_532.out _; (with_reducible repeat refine pB ?_); refine blk_far ?_ NB519_532.out _; (with_reducible repeat refine pB ?_); exact BK519.out) hb); replace BK520 := aM (blk_below (g := gb520) (o := .cells #[.int .i64 t515, .slice Ao54 t516.length co54] 39 (0, 0)) (by (with_reducible repeat refine pB ?_); refine blk_far ?_ NB520_533.out _; (with_reducible repeat refine pB ?_); refine blk_far ?_ NB520_533.out _; (with_reducible repeat refine pB ?_); refine blk_far ?_ NB520_532.out _; (with_reducible repeat refine pB ?_); refine blk_far ?_ NB520_532.out _; (with_reducible repeat refine pB ?_); exact BK520.out) hb); replace BK532 := aM (blk_below (g := gb532) (o := .cells #[.int .i64 t524, .slice Ao66 t525.length co66] 39 (0, 0)) (by (with_reducible repeat refine pB ?_); refine blk_far ?_ NB532_533.out _; (with_reducible repeat refine pB ?_); refine blk_far ?_ NB532_533.out _; (with_reducible repeat refine pB ?_); refine blk_put (cs := #[.int .i64 t524, .slice none 0 0]) ?_ 1 _ rfl; (with_reducible repeat refine pB ?_); refine blk_put (cs := #[.int .i64 0, .slice none 0 0]) ?_ 0 _ rfl; (with_reducible repeat refine pB ?_); exact BK532.out) hb); replace BK533 := aM (blk_below (g := gb533) (o := .cells #[.int .i64 t528, .slice Ao74 t529.length co74] 39 (0, 0)) (by (with_reducible repeat refine pB ?_); refine blk_put (cs := #[.int .i64 t528, .slice none 0 0]) ?_ 1 _ rfl; (with_reducible repeat refine pB ?_); refine blk_put (cs := #[.int .i64 0, .slice none 0 0]) ?_ 0 _ rfl; (with_reducible repeat refine pB ?_); refine blk_far ?_ NB533_532.out _; (with_reducible repeat refine pB ?_); refine blk_far ?_ NB533_532.out _; (with_reducible repeat refine pB ?_); exact BK533.out) hb); replace HB := aM (below_step aG hb); (try clear hb); (try clear hb2); (try clear hk); (try clear hi); have hnb192 := NB504_494.out; have hnc192 := NB494_504.out; have hnb193 := NB504_510.out; have hnc193 := NB510_504.out; have hnb194 := NB504_519.out; have hnc194 := NB519_504.out; have hnb195 := NB504_520.out; have hnc195 := NB520_504.out; have hnb196 := NB504_532.out; have hnc196 := NB532_504.out; have hnb197 := NB504_533.out; have hnc197 := NB533_504.out; have hcz198_0 : w191.cell? ⟨gb504, 0, none⟩ = some (.int .i64 t499) := (blk_cell BK504.out 0).trans rfl; have hcz198_1 : w191.cell? ⟨gb504, 1, none⟩ = some (.slice Ao31 t500.length co31) := (blk_cell BK504.out 1).trans rfl; have hfz198_0 := blk_frozen BK504.out 0; have hfz198_1 := blk_frozen BK504.out 1) | (go_at_call 15; (with_reducible refine (impl_FormatFact.calls k _ _ t495 t499 _ _ t500 t537 _ ?side1 ?side2 ?side3 ?side4 A182.out (hp_.on aG)).mono ?_); (case side1 => repeat (first | exact (Kd.R_reads' HO498.out).2.2 | (with_reducible refine pC ?_))); (case side2 => exact (Kd.R_reads' HO498.out).2.1); (case side3 => repeat (first | exact (Kd.R_reads' HO502.out).2.2 | (with_reducible refine pC ?_))); (case side4 => exact (Kd.R_reads' HO502.out).2.1); rintro e w199 ⟨rfl, hb⟩; have n0_ := aM (Kd.R_below (aR HO482) hb); have n1_ := aM (Kd.R_below (aR HO486) hb); have n2_ := aM (Kd.R_below (aR HO492) hb); have n3_ := aM (Kd.R_below (aR HO498) hb); have n4_ := aM (Kd.R_below (aR HO502) hb); have n5_ := aM (Kd.R_below (aR HO508) hb); have n6_ := aM (Kd.R_below (aR HO514) hb); have n7_ := aM (Kd.R_below (aR HO518) hb); have n8_ := aM (Kd.R_below (aR HO523) hb); have n9_ := aM (Kd.R_below (aR HO527) hb); have n10_ := aM (Kd.R_below (aR HO531) hb); have n11_ := aM (kB gb487 #[.int .i64 t483, .slice Ao16 t484.length co16] 39 hb); have n12_ := aM (kB gb494 #[.int .i64 t489, .slice Ao23 t490.length co23] 39 hb); have n13_ := aM (kB gb504 #[.int .i64 t499, .slice Ao31 t500.length co31] 39 hb); have n14_ := aM (kB gb510 #[.int .i64 t505, .slice Ao38 t506.length co38] 39 hb); have n15_ := aM (kB gb519 #[.int .i64 t511, .slice Ao48 t512.length co48] 39 hb); have n16_ := aM (kB gb520 #[.int .i64 t515, .slice Ao54 t516.length co54] 39 hb); have n17_ := aM (kB gb532 #[.int .i64 t524, .slice Ao66 t525.length co66] 39 hb); have n18_ := aM (kB gb533 #[.int .i64 t528, .slice Ao74 t529.length co74] 39 hb); have n19_ := aM (below_step aG hb); clear HO482; clear HO486; clear HO492; clear HO498; clear HO502; clear HO508; clear HO514; clear HO518; clear HO523; clear HO527; clear HO531; clear BK487; clear BK494; clear BK504; clear BK510; clear BK519; clear BK520; clear BK532; clear BK533; clear HB; have HO482 := n0_; have HO486 := n1_; have HO492 := n2_; have HO498 := n3_; have HO502 := n4_; have HO508 := n5_; have HO514 := n6_; have HO518 := n7_; have HO523 := n8_; have HO527 := n9_; have HO531 := n10_; have BK487 := n11_; have BK494 := n12_; have BK504 := n13_; have BK510 := n14_; have BK519 := n15_; have BK520 := n16_; have BK532 := n17_; have BK533 := n18_; have HB := n19_; clear n0_ n1_ n2_ n3_ n4_ n5_ n6_ n7_ n8_ n9_ n10_ n11_ n12_ n13_ n14_ n15_ n16_ n17_ n18_ n19_; (try clear hb); (try clear hb2); (try clear hk); (try clear hi)))
       go_meet
       case rel => exact ⟨_, ((t537.toList != t496.toList)), aX, H', ⟨by first | omega | exact Nat.le_refl _⟩, ⟨by (with_reducible repeat apply pR); exact Kd.R_mono HO523.out (fun _ hk => trivial)⟩, ⟨by (with_reducible repeat apply pR); exact Kd.R_mono HO486.out (fun _ hk => ⟨hk.1.1.1.1.1.1.2, ⟨hk.1.1.1.1.1.2, ⟨hk.1.1.1.1.2, ⟨hk.1.1.1.2, ⟨hk.1.1.2, ⟨hk.1.2, hk.2⟩⟩⟩⟩⟩⟩)⟩, ⟨by (with_reducible repeat apply pR); exact Kd.R_mono HO492.out (fun _ hk => ⟨hk.1.1.1.1.1.1.2, ⟨hk.1.1.1.1.1.2, ⟨hk.1.1.1.1.2, ⟨hk.1.1.1.2, ⟨hk.1.1.2, ⟨hk.1.2, hk.2⟩⟩⟩⟩⟩⟩)⟩, ⟨by (with_reducible repeat apply pR); exact Kd.R_mono HO502.out (fun _ hk => ⟨hk.1.1.1.1.1.1.2, ⟨hk.1.1.1.1.1.2, ⟨hk.1.1.1.1.2, ⟨hk.1.1.1.2, ⟨hk.1.1.2, ⟨hk.1.2, hk.2⟩⟩⟩⟩⟩⟩)⟩, ⟨by (with_reducible repeat apply pR); exact Kd.R_mono HO508.out (fun _ hk => ⟨hk.1.1.1.1.1.1.2, ⟨hk.1.1.1.1.1.2, ⟨hk.1.1.1.1.2, ⟨hk.1.1.1.2, ⟨hk.1.1.2, ⟨hk.1.2, hk.2⟩⟩⟩⟩⟩⟩)⟩, ⟨by (with_reducible repeat apply pR); exact Kd.R_mono HO514.out (fun _ hk => ⟨hk.1.1.1.1.1.2, ⟨hk.1.1.1.1.2, ⟨hk.1.1.1.2, ⟨hk.1.1.2, ⟨hk.1.1.1.1.1.1, ⟨hk.1.2, hk.2⟩⟩⟩⟩⟩⟩)⟩, ⟨by (with_reducible repeat apply pR); exact Kd.R_mono HO518.out (fun _ hk => ⟨hk.1.1.1.1.1.2, ⟨hk.1.1.1.1.2, ⟨hk.1.1.1.2, ⟨hk.1.1.2, ⟨hk.1.1.1.1.1.1, ⟨hk.1.2, hk.2⟩⟩⟩⟩⟩⟩)⟩, ⟨by (with_reducible repeat apply pR); exact Kd.R_mono HO527.out (fun _ hk => ⟨hk.1.1.1.1.1.2, ⟨hk.1.1.1.1.2, ⟨hk.1.1.1.2, ⟨hk.1.1.2, ⟨hk.1.2, ⟨hk.2, hk.1.1.1.1.1.1⟩⟩⟩⟩⟩⟩)⟩, ⟨by (with_reducible repeat apply pR); exact Kd.R_mono HO531.out (fun _ hk => ⟨hk.1.1.1.1.1.2, ⟨hk.1.1.1.1.2, ⟨hk.1.1.1.2, ⟨hk.1.1.2, ⟨hk.1.2, ⟨hk.2, hk.1.1.1.1.1.1⟩⟩⟩⟩⟩⟩)⟩, ⟨aK⟩, ⟨aK⟩, ⟨aK⟩, ⟨aK⟩, ⟨aK⟩, ⟨aK⟩, ⟨aK⟩, ⟨aK⟩, ⟨aG⟩⟩
      ·replace c181 := Bool.eq_false_iff.mpr c181
       subst c181
       have H1 : (laws_FnFactFormat.j0 k t521 false t511 t512 t515 t516 t524 t525 t528 t529) = some r := by rw [if_neg (show ¬ (false = true) by decide)] at H; exact H
       clear H
       have H := H1
       clear H1
       have H' := aM H
       clear H
       have hnb200 := NB487_494.out
       have hnc200 := NB494_487.out
       have hnb201 := NB487_504.out
       have hnc201 := NB504_487.out
       have hnb202 := NB487_510.out
       have hnc202 := NB510_487.out
       have hnb203 := NB487_519.out
       have hnc203 := NB519_487.out
       have hnb204 := NB487_520.out
       have hnc204 := NB520_487.out
       have hnb205 := NB487_532.out
       have hnc205 := NB532_487.out
       have hnb206 := NB487_533.out
       have hnc206 := NB533_487.out
       have hcz207_0 : w57.cell? ⟨gb487, 0, none⟩ = some (.int .i64 t483) := (blk_cell BK487.out 0).trans rfl
       have hcz207_1 : w57.cell? ⟨gb487, 1, none⟩ = some (.slice Ao16 t484.length co16) := (blk_cell BK487.out 1).trans rfl
       have hfz207_0 := blk_frozen BK487.out 0
       have hfz207_1 := blk_frozen BK487.out 1
       go_wp2_with (first | ((with_reducible refine gate_callee (f := 20) rfl ?_); refine goesL_ (some 65) rfl rfl Tryd.func20 (by kernel_rfl) rfl #[.slice Ao17 t480.length co17, .agg #[.int .i64 t483, .slice Ao16 t484.length co16]] rfl aA ?_; (with_reducible refine (spec_IsValidFact.calls k _ _ t480 t483 _ _ t484 t534 _ ?side1 ?side2 ?side3 ?side4 A75.out).mono ?_); (case side1 => refine (Kd.R_reads' (e := 68) (base := w.heap.size) (ok := fun k_ => ((True ∧ some k_ ≠ (.slice Ao25 t495.length co25 : Value).ownBlock) ∧ some k_ ≠ (v522 : Value).ownBlock)) (n := t480.length) (c := co17) ?_).2.2; exact (by (with_reducible repeat apply pR); exact (rF2 HO482.out BK532.out BK533.out (.int .i64 t524) (.slice Ao66 t525.length co66) (.int .i64 t528) (.slice Ao74 t529.length co74)))); (case side2 => exact (Kd.R_reads' HO482.out).2.1); (case side3 => refine (Kd.R_reads' (e := 3) (base := w.heap.size) (ok := fun k_ => (((((((True ∧ some k_ ≠ (.slice Ao23 t490.length co23 : Value).ownBlock) ∧ some k_ ≠ (.slice Ao31 t500.length co31 : Value).ownBlock) ∧ some k_ ≠ (.slice Ao38 t506.length co38 : Value).ownBlock) ∧ some k_ ≠ (.slice Ao48 t512.length co48 : Value).ownBlock) ∧ some k_ ≠ (.slice Ao54 t516.length co54 : Value).ownBlock) ∧ some k_ ≠ (.slice Ao66 t525.length co66 : Value).ownBlock) ∧ some k_ ≠ (.slice Ao74 t529.length co74 : Value).ownBlock)) (n := t484.length) (c := co16) ?_).2.2; exact (by (with_reducible repeat apply pR); exact (rF2 HO486.out BK532.out BK533.out (.int .i64 t524) (.slice Ao66 t525.length co66) (.int .i64 t528) (.slice Ao74 t529.length co74)))); (case side4 => exact (Kd.R_reads' HO486.out).2.1); rintro e w208 ⟨rfl, hb⟩; refine ⟨_, rfl, ?_⟩; replace HO482 := aM (Kd.R_below (by (with_reducible repeat apply pR); exact (rF2 HO482.out BK532.out BK533.out (.int .i64 t524) (.slice Ao66 t525.length co66) (.int .i64 t528) (.slice Ao74 t529.length co74))) hb); replace HO486 := aM (Kd.R_below (by (with_reducible repeat apply pR); exact (rF2 HO486.out BK532.out BK533.out (.int .i64 t524) (.slice Ao66 t525.length co66) (.int .i64 t528) (.slice Ao74 t529.length co74))) hb); replace HO492 := aM (Kd.R_below (by (with_reducible repeat apply pR); exact (rF2 HO492.out BK532.out BK533.out (.int .i64 t524) (.slice Ao66 t525.length co66) (.int .i64 t528) (.slice Ao74 t529.length co74))) hb); replace HO498 := aM (Kd.R_below (by (with_reducible repeat apply pR); exact (rF2 HO498.out BK532.out BK533.out (.int .i64 t524) (.slice Ao66 t525.length co66) (.int .i64 t528) (.slice Ao74 t529.length co74))) hb); replace HO502 := aM (Kd.R_below (by (with_reducible repeat apply pR); exact (rF2 HO502.out BK532.out BK533.out (.int .i64 t524) (.slice Ao66 t525.length co66) (.int .i64 t528) (.slice Ao74 t529.length co74))) hb); replace HO508 := aM (Kd.R_below (by (with_reducible repeat apply pR); exact (rF2 HO508.out BK532.out BK533.out (.int .i64 t524) (.slice Ao66 t525.length co66) (.int .i64 t528) (.slice Ao74 t529.length co74))) hb); replace HO514 := aM (Kd.R_below (by (with_reducible repeat apply pR); exact (rF2 HO514.out BK532.out BK533.out (.int .i64 t524) (.slice Ao66 t525.length co66) (.int .i64 t528) (.slice Ao74 t529.length co74))) hb); replace HO518 := aM (Kd.R_below (by (with_reducible repeat apply pR); exact (rF2 HO518.out BK532.out BK533.out (.int .i64 t524) (.slice Ao66 t525.length co66) (.int .i64 t528) (.slice Ao74 t529.length co74))) hb); replace HO523 := aM (Kd.R_below (by (with_reducible repeat apply pR); exact (rF2 HO523.out BK532.out BK533.out (.int .i64 t524) (.slice Ao66 t525.length co66) (.int .i64 t528) (.slice Ao74 t529.length co74))) hb); replace HO527 := aM (Kd.R_below (by (with_reducible repeat apply pR); exact (rF2 HO527.out BK532.out BK533.out (.int .i64 t524) (.slice Ao66 t525.length co66) (.int .i64 t528) (.slice Ao74 t529.length co74))) hb); replace HO531 := aM (Kd.R_below (by (with_reducible repeat apply pR); exact (rF2 HO531.out BK532.out BK533.out (.int .i64 t524) (.slice Ao66 t525.length co66) (.int .i64 t528) (.slice Ao74 t529.length co74))) hb); replace BK487 := aM (blk_below (g := gb487) (o := .cells #[.int .i64 t483, .slice Ao16 t484.length co16] 39 (0, 0)) (by (with_reducible repeat refine pB ?_); refine blk_far ?_ NB487_533.out _; (with_reducible repeat refine pB ?_); refine blk_far ?_ NB487_533.out _; (with_reducible repeat refine pB ?_); refine blk_far ?_ NB487_532.out _; (with_reducible repeat refine pB ?_); refine blk_far ?_ NB487_532.out _; (with_reducible repeat refine pB ?_); exact BK487.out) hb); replace BK494 := aM (blk_below (g := gb494) (o := .cells #[.int .i64 t489, .slice Ao23 t490.length co23] 39 (0, 0)) (by (with_reducible repeat refine pB ?_); refine blk_far ?_ NB494_533.out _; (with_reducible repeat refine pB ?_); refine blk_far ?_ NB494_533.out _; (with_reducible repeat refine pB ?_); refine blk_far ?_ NB494_532.out _; (with_reducible repeat refine pB ?_); refine blk_far ?_ NB494_532.out _; (with_reducible repeat refine pB ?_); exact BK494.out) hb); replace BK504 := aM (blk_below (g := gb504) (o := .cells #[.int .i64 t499, .slice Ao31 t500.length co31] 39 (0, 0)) (by (with_reducible repeat refine pB ?_); refine blk_far ?_ NB504_533.out _; (with_reducible repeat refine pB ?_); refine blk_far ?_ NB504_533.out _; (with_reducible repeat refine pB ?_); refine blk_far ?_ NB504_532.out _; (with_reducible repeat refine pB ?_); refine blk_far ?_ NB504_532.out _; (with_reducible repeat refine pB ?_); exact BK504.out) hb); replace BK510 := aM (blk_below (g := gb510) (o := .cells #[.int .i64 t505, .slice Ao38 t506.length co38] 39 (0, 0)) (by (with_reducible repeat refine pB ?_); refine blk_far ?_ NB510_533.out _; (with_reducible repeat refine pB ?_); refine blk_far ?_ NB510_533.out _; (with_reducible repeat refine pB ?_); refine blk_far ?_ NB510_532.out _; (with_reducible repeat refine pB ?_); refine blk_far ?_ NB510_532.out _; (with_reducible repeat refine pB ?_); exact BK510.out) hb); replace BK519 := aM (blk_below (g := gb519) (o := .cells #[.int .i64 t511, .slice Ao48 t512.length co48] 39 (0, 0)) (by (with_reducible repeat refine pB ?_); refine blk_far ?_ NB519_533.out _; (with_reducible repeat refine pB ?_); refine blk_far ?_ NB519_533.out _; (with_reducible repeat refine pB ?_); refine blk_far ?_ NB519_532.out _; (with_reducible repeat refine pB ?_); refine blk_far ?_ NB519_532.out _; (with_reducible repeat refine pB ?_); exact BK519.out) hb); replace BK520 := aM (blk_below (g := gb520) (o := .cells #[.int .i64 t515, .slice Ao54 t516.length co54] 39 (0, 0)) (by (with_reducible repeat refine pB ?_); refine blk_far ?_ NB520_533.out _; (with_reducible repeat refine pB ?_); refine blk_far ?_ NB520_533.out _; (with_reducible repeat refine pB ?_); refine blk_far ?_ NB520_532.out _; (with_reducible repeat refine pB ?_); refine blk_far ?_ NB520_532.out _; (with_reducible repeat refine pB ?_); exact BK520.out) hb); replace BK532 := aM (blk_below (g := gb532) (o := .cells #[.int .i64 t524, .slice Ao66 t525.length co66] 39 (0, 0)) (by (with_reducible repeat refine pB ?_); refine blk_far ?_ NB532_533.out _; (with_reducible repeat refine pB ?_); refine blk_far ?_ NB532_533.out _; (with_reducible repeat refine pB ?_); refine blk_put (cs := #[.int .i64 t524, .slice none 0 0]) ?_ 1 _ rfl; (with_reducible repeat refine pB ?_); refine blk_put (cs := #[.int .i64 0, .slice none 0 0]) ?_ 0 _ rfl; (with_reducible repeat refine pB ?_); exact BK532.out) hb); replace BK533 := aM (blk_below (g := gb533) (o := .cells #[.int .i64 t528, .slice Ao74 t529.length co74] 39 (0, 0)) (by (with_reducible repeat refine pB ?_); refine blk_put (cs := #[.int .i64 t528, .slice none 0 0]) ?_ 1 _ rfl; (with_reducible repeat refine pB ?_); refine blk_put (cs := #[.int .i64 0, .slice none 0 0]) ?_ 0 _ rfl; (with_reducible repeat refine pB ?_); refine blk_far ?_ NB533_532.out _; (with_reducible repeat refine pB ?_); refine blk_far ?_ NB533_532.out _; (with_reducible repeat refine pB ?_); exact BK533.out) hb); replace HB := aM (below_step aG hb); (try clear hb); (try clear hb2); (try clear hk); (try clear hi)))
       go_meet
       case rel => exact ⟨_, (false), aX, H', ⟨by first | omega | exact Nat.le_refl _⟩, ⟨by (with_reducible repeat apply pR); exact Kd.R_mono HO523.out (fun _ hk => trivial)⟩, ⟨by (with_reducible repeat apply pR); exact Kd.R_mono HO486.out (fun _ hk => ⟨hk.1.1.1.1.1.1.2, ⟨hk.1.1.1.1.1.2, ⟨hk.1.1.1.1.2, ⟨hk.1.1.1.2, ⟨hk.1.1.2, ⟨hk.1.2, hk.2⟩⟩⟩⟩⟩⟩)⟩, ⟨by (with_reducible repeat apply pR); exact Kd.R_mono HO492.out (fun _ hk => ⟨hk.1.1.1.1.1.1.2, ⟨hk.1.1.1.1.1.2, ⟨hk.1.1.1.1.2, ⟨hk.1.1.1.2, ⟨hk.1.1.2, ⟨hk.1.2, hk.2⟩⟩⟩⟩⟩⟩)⟩, ⟨by (with_reducible repeat apply pR); exact Kd.R_mono HO502.out (fun _ hk => ⟨hk.1.1.1.1.1.1.2, ⟨hk.1.1.1.1.1.2, ⟨hk.1.1.1.1.2, ⟨hk.1.1.1.2, ⟨hk.1.1.2, ⟨hk.1.2, hk.2⟩⟩⟩⟩⟩⟩)⟩, ⟨by (with_reducible repeat apply pR); exact Kd.R_mono HO508.out (fun _ hk => ⟨hk.1.1.1.1.1.1.2, ⟨hk.1.1.1.1.1.2, ⟨hk.1.1.1.1.2, ⟨hk.1.1.1.2, ⟨hk.1.1.2, ⟨hk.1.2, hk.2⟩⟩⟩⟩⟩⟩)⟩, ⟨by (with_reducible repeat apply pR); exact Kd.R_mono HO514.out (fun _ hk => ⟨hk.1.1.1.1.1.2, ⟨hk.1.1.1.1.2, ⟨hk.1.1.1.2, ⟨hk.1.1.2, ⟨hk.1.1.1.1.1.1, ⟨hk.1.2, hk.2⟩⟩⟩⟩⟩⟩)⟩, ⟨by (with_reducible repeat apply pR); exact Kd.R_mono HO518.out (fun _ hk => ⟨hk.1.1.1.1.1.2, ⟨hk.1.1.1.1.2, ⟨hk.1.1.1.2, ⟨hk.1.1.2, ⟨hk.1.1.1.1.1.1, ⟨hk.1.2, hk.2⟩⟩⟩⟩⟩⟩)⟩, ⟨by (with_reducible repeat apply pR); exact Kd.R_mono HO527.out (fun _ hk => ⟨hk.1.1.1.1.1.2, ⟨hk.1.1.1.1.2, ⟨hk.1.1.1.2, ⟨hk.1.1.2, ⟨hk.1.2, ⟨hk.2, hk.1.1.1.1.1.1⟩⟩⟩⟩⟩⟩)⟩, ⟨by (with_reducible repeat apply pR); exact Kd.R_mono HO531.out (fun _ hk => ⟨hk.1.1.1.1.1.2, ⟨hk.1.1.1.1.2, ⟨hk.1.1.1.2, ⟨hk.1.1.2, ⟨hk.1.2, ⟨hk.2, hk.1.1.1.1.1.1⟩⟩⟩⟩⟩⟩)⟩, ⟨aK⟩, ⟨aK⟩, ⟨aK⟩, ⟨aK⟩, ⟨aK⟩, ⟨aK⟩, ⟨aK⟩, ⟨aK⟩, ⟨aG⟩⟩
  case rest =>
   clear HC12
   try clear c1
   try clear c2
   try clear p2
   try clear c3
   try clear c4
   try clear c5
   try clear c6
   try clear c7
   try clear c8
   try clear c9
   try clear c10
   try clear c11
   try clear c12
   try clear c13
   try clear c14
   try clear c15
   try clear c16
   try clear c17
   try clear c18
   try clear c19
   try clear c20
   try clear c21
   try clear c28
   try clear c29
   try clear c34
   try clear c35
   try clear c36
   try clear c42
   try clear c43
   try clear c44
   try clear c45
   try clear c46
   try clear c49
   try clear c50
   try clear c51
   try clear c52
   try clear c58
   try clear c59
   try clear c60
   try clear c61
   try clear c62
   try clear c63
   try clear c64
   try clear c67
   try clear c68
   try clear c69
   try clear c70
   try clear c71
   try clear c72
   try clear c76
   try clear c76b0
   try clear c76b1
   try clear c76b2
   try clear c77
   try clear c78
   try clear c79
   try clear c80
   try clear c81
   try clear c82
   try clear c83
   try clear c86
   try clear c88
   try clear c88b0
   try clear c88b1
   try clear c89
   try clear c89b0
   try clear c89b1
   try clear c89b2
   try clear c90
   try clear c91
   try clear c92
   try clear c93
   try clear c94
   try clear c95
   try clear c96
   try clear c99
   try clear c100
   try clear c101
   try clear c102
   try clear c103
   try clear c104
   try clear c108
   try clear c110
   try clear c111
   try clear c112
   try clear c113
   try clear c114
   try clear c115
   try clear c116
   try clear c119
   try clear c120
   try clear c121
   try clear c122
   try clear c123
   try clear c124
   try clear c128
   try clear c129
   try clear c130
   try clear c131
   try clear c132
   try clear c135
   try clear c136
   try clear c137
   try clear c138
   try clear c139
   try clear c140
   try clear c141
   try clear c144
   try clear c145
   try clear c146
   try clear c147
   try clear c148
   try clear c149
   try clear c153
   try clear c154
   try clear c155
   try clear c156
   try clear c157
   try clear c158
   try clear c159
   try clear c162
   try clear c163
   try clear c164
   try clear c165
   try clear c166
   try clear c167
   try clear c171
   try clear c171b0
   try clear c171b1
   try clear c171b2
   try clear c172
   try clear c173
   try clear c174
   try clear c175
   try clear c176
   try clear c177
   try clear c178
   try clear c181
   try clear c183
   try clear c184
   try clear c185
   try clear c186
   try clear c187
   try clear c188
   try clear c189
   try clear c192
   try clear c193
   try clear c194
   try clear c195
   try clear c196
   try clear c197
   try clear c200
   try clear c201
   try clear c202
   try clear c203
   try clear c204
   try clear c205
   try clear c206
   try clear hcz105_0
   try clear hcz105_1
   try clear hcz106_0
   try clear hcz106_1
   try clear hcz117_0
   try clear hcz117_1
   try clear hcz125_0
   try clear hcz125_1
   try clear hcz126_0
   try clear hcz126_1
   try clear hcz133_0
   try clear hcz133_1
   try clear hcz142_0
   try clear hcz142_1
   try clear hcz150_0
   try clear hcz150_1
   try clear hcz151_0
   try clear hcz151_1
   try clear hcz15_0
   try clear hcz15_1
   try clear hcz160_0
   try clear hcz160_1
   try clear hcz168_0
   try clear hcz168_1
   try clear hcz169_0
   try clear hcz169_1
   try clear hcz179_0
   try clear hcz179_1
   try clear hcz190_0
   try clear hcz190_1
   try clear hcz198_0
   try clear hcz198_1
   try clear hcz207_0
   try clear hcz207_1
   try clear hcz22_0
   try clear hcz22_1
   try clear hcz30_0
   try clear hcz30_1
   try clear hcz37_0
   try clear hcz37_1
   try clear hcz47_0
   try clear hcz47_1
   try clear hcz53_0
   try clear hcz53_1
   try clear hcz65_0
   try clear hcz65_1
   try clear hcz73_0
   try clear hcz73_1
   try clear hcz84_0
   try clear hcz84_1
   try clear hcz97_0
   try clear hcz97_1
   try clear hfz105_0
   try clear hfz105_1
   try clear hfz106_0
   try clear hfz106_1
   try clear hfz117_0
   try clear hfz117_1
   try clear hfz125_0
   try clear hfz125_1
   try clear hfz126_0
   try clear hfz126_1
   try clear hfz133_0
   try clear hfz133_1
   try clear hfz142_0
   try clear hfz142_1
   try clear hfz150_0
   try clear hfz150_1
   try clear hfz151_0
   try clear hfz151_1
   try clear hfz15_0
   try clear hfz15_1
   try clear hfz160_0
   try clear hfz160_1
   try clear hfz168_0
   try clear hfz168_1
   try clear hfz169_0
   try clear hfz169_1
   try clear hfz179_0
   try clear hfz179_1
   try clear hfz190_0
   try clear hfz190_1
   try clear hfz198_0
   try clear hfz198_1
   try clear hfz207_0
   try clear hfz207_1
   try clear hfz22_0
   try clear hfz22_1
   try clear hfz30_0
   try clear hfz30_1
   try clear hfz37_0
   try clear hfz37_1
   try clear hfz47_0
   try clear hfz47_1
   try clear hfz53_0
   try clear hfz53_1
   try clear hfz65_0
   try clear hfz65_1
   try clear hfz73_0
   try clear hfz73_1
   try clear hfz84_0
   try clear hfz84_1
   try clear hfz97_0
   try clear hfz97_1
   obtain ⟨kq, x90_11, rfl, HA, HJ11, HO_15, HO_488001, HO_495001, HO_505001, HO_511001, HO_520001, HO_521001, HO_533001, HO_534001, BK487, BK494, BK504, BK510, BK519, BK520, BK532, BK533, HB⟩ := hcut
   cases kq with
   | zero => exact absurd HA.out (by simp [laws_FnFactFormat.j0])
   | succ kj11 =>
    have H := HA.out
    clear HA
    simp only [laws_FnFactFormat.j0] at H
    by_cases c209 : x90_11 = true
    ·subst c209
     replace H := iT H
     exact absurd (Option.some.inj (H.trans (congrArg some HRT_.out))) (by decide)
    ·replace c209 := Bool.eq_false_iff.mpr c209
     subst c209
     have H1 : ((impl_CompareFacts.f kj11 t511 t512 t515 t516).bind fun t538 => ((spec_CompareFacts.f kj11 t511 t512 t515 t516).bind fun t539 => (if t538 = t539 then ((impl_CompareFacts.f kj11 t511 t512 t515 t516).bind fun t540 => ((impl_CompareFacts.f kj11 t515 t516 t511 t512).bind fun t541 => (laws_FnFactFormat.j1 kj11 t521 (t540 != (wrap64 (-t541))) t524 t525 t528 t529))) else (laws_FnFactFormat.j1 kj11 t521 true t524 t525 t528 t529)))) = some r := by rw [if_neg (show ¬ (false = true) by decide)] at H; exact H
     clear H
     have H := H1
     clear H1
     have HC210 := aM H
     clear H
     go_upto_region 12 with (fail)
     go_cut [107] (fun v107 wc => ∃ (kq : Nat) (x107_209 : Bool), v107 = .bool x107_209 ∧ Aside0 (laws_FnFactFormat.j1 kq t521 x107_209 t524 t525 t528 t529 = some r) ∧ Aside0 (kq ≤ kj11) ∧ Aside0 (Kd.R k68 68 wc w.heap.size (fun _ => True) v522 t521) ∧ Aside0 (Kd.R (Kd.int .i64) 3 wc w.heap.size (fun k_ => some k_ ≠ ((.slice Ao23 t490.length co23) : Value).ownBlock ∧ some k_ ≠ ((.slice Ao31 t500.length co31) : Value).ownBlock ∧ some k_ ≠ ((.slice Ao38 t506.length co38) : Value).ownBlock ∧ some k_ ≠ ((.slice Ao48 t512.length co48) : Value).ownBlock ∧ some k_ ≠ ((.slice Ao54 t516.length co54) : Value).ownBlock ∧ some k_ ≠ ((.slice Ao66 t525.length co66) : Value).ownBlock ∧ some k_ ≠ ((.slice Ao74 t529.length co74) : Value).ownBlock) (.slice Ao16 t484.length co16) t484) ∧ Aside0 (Kd.R (Kd.int .i64) 3 wc w.heap.size (fun k_ => some k_ ≠ ((.slice Ao16 t484.length co16) : Value).ownBlock ∧ some k_ ≠ ((.slice Ao31 t500.length co31) : Value).ownBlock ∧ some k_ ≠ ((.slice Ao38 t506.length co38) : Value).ownBlock ∧ some k_ ≠ ((.slice Ao48 t512.length co48) : Value).ownBlock ∧ some k_ ≠ ((.slice Ao54 t516.length co54) : Value).ownBlock ∧ some k_ ≠ ((.slice Ao66 t525.length co66) : Value).ownBlock ∧ some k_ ≠ ((.slice Ao74 t529.length co74) : Value).ownBlock) (.slice Ao23 t490.length co23) t490) ∧ Aside0 (Kd.R (Kd.int .i64) 3 wc w.heap.size (fun k_ => some k_ ≠ ((.slice Ao16 t484.length co16) : Value).ownBlock ∧ some k_ ≠ ((.slice Ao23 t490.length co23) : Value).ownBlock ∧ some k_ ≠ ((.slice Ao38 t506.length co38) : Value).ownBlock ∧ some k_ ≠ ((.slice Ao48 t512.length co48) : Value).ownBlock ∧ some k_ ≠ ((.slice Ao54 t516.length co54) : Value).ownBlock ∧ some k_ ≠ ((.slice Ao66 t525.length co66) : Value).ownBlock ∧ some k_ ≠ ((.slice Ao74 t529.length co74) : Value).ownBlock) (.slice Ao31 t500.length co31) t500) ∧ Aside0 (Kd.R (Kd.int .i64) 3 wc w.heap.size (fun k_ => some k_ ≠ ((.slice Ao16 t484.length co16) : Value).ownBlock ∧ some k_ ≠ ((.slice Ao23 t490.length co23) : Value).ownBlock ∧ some k_ ≠ ((.slice Ao31 t500.length co31) : Value).ownBlock ∧ some k_ ≠ ((.slice Ao48 t512.length co48) : Value).ownBlock ∧ some k_ ≠ ((.slice Ao54 t516.length co54) : Value).ownBlock ∧ some k_ ≠ ((.slice Ao66 t525.length co66) : Value).ownBlock ∧ some k_ ≠ ((.slice Ao74 t529.length co74) : Value).ownBlock) (.slice Ao38 t506.length co38) t506) ∧ Aside0 (Kd.R (Kd.int .i64) 3 wc w.heap.size (fun k_ => some k_ ≠ ((.slice Ao16 t484.length co16) : Value).ownBlock ∧ some k_ ≠ ((.slice Ao23 t490.length co23) : Value).ownBlock ∧ some k_ ≠ ((.slice Ao31 t500.length co31) : Value).ownBlock ∧ some k_ ≠ ((.slice Ao38 t506.length co38) : Value).ownBlock ∧ some k_ ≠ ((.slice Ao54 t516.length co54) : Value).ownBlock ∧ some k_ ≠ ((.slice Ao66 t525.length co66) : Value).ownBlock ∧ some k_ ≠ ((.slice Ao74 t529.length co74) : Value).ownBlock) (.slice Ao48 t512.length co48) t512) ∧ Aside0 (Kd.R (Kd.int .i64) 3 wc w.heap.size (fun k_ => some k_ ≠ ((.slice Ao16 t484.length co16) : Value).ownBlock ∧ some k_ ≠ ((.slice Ao23 t490.length co23) : Value).ownBlock ∧ some k_ ≠ ((.slice Ao31 t500.length co31) : Value).ownBlock ∧ some k_ ≠ ((.slice Ao38 t506.length co38) : Value).ownBlock ∧ some k_ ≠ ((.slice Ao48 t512.length co48) : Value).ownBlock ∧ some k_ ≠ ((.slice Ao66 t525.length co66) : Value).ownBlock ∧ some k_ ≠ ((.slice Ao74 t529.length co74) : Value).ownBlock) (.slice Ao54 t516.length co54) t516) ∧ Aside0 (Kd.R (Kd.int .i64) 3 wc w.heap.size (fun k_ => some k_ ≠ ((.slice Ao16 t484.length co16) : Value).ownBlock ∧ some k_ ≠ ((.slice Ao23 t490.length co23) : Value).ownBlock ∧ some k_ ≠ ((.slice Ao31 t500.length co31) : Value).ownBlock ∧ some k_ ≠ ((.slice Ao38 t506.length co38) : Value).ownBlock ∧ some k_ ≠ ((.slice Ao48 t512.length co48) : Value).ownBlock ∧ some k_ ≠ ((.slice Ao54 t516.length co54) : Value).ownBlock ∧ some k_ ≠ ((.slice Ao74 t529.length co74) : Value).ownBlock) (.slice Ao66 t525.length co66) t525) ∧ Aside0 (Kd.R (Kd.int .i64) 3 wc w.heap.size (fun k_ => some k_ ≠ ((.slice Ao16 t484.length co16) : Value).ownBlock ∧ some k_ ≠ ((.slice Ao23 t490.length co23) : Value).ownBlock ∧ some k_ ≠ ((.slice Ao31 t500.length co31) : Value).ownBlock ∧ some k_ ≠ ((.slice Ao38 t506.length co38) : Value).ownBlock ∧ some k_ ≠ ((.slice Ao48 t512.length co48) : Value).ownBlock ∧ some k_ ≠ ((.slice Ao54 t516.length co54) : Value).ownBlock ∧ some k_ ≠ ((.slice Ao66 t525.length co66) : Value).ownBlock) (.slice Ao74 t529.length co74) t529) ∧ Aside0 (wc.heap[gb487]? = some (.cells #[.int .i64 t483, (.slice Ao16 t484.length co16)] 39 (0, 0))) ∧ Aside0 (wc.heap[gb494]? = some (.cells #[.int .i64 t489, (.slice Ao23 t490.length co23)] 39 (0, 0))) ∧ Aside0 (wc.heap[gb504]? = some (.cells #[.int .i64 t499, (.slice Ao31 t500.length co31)] 39 (0, 0))) ∧ Aside0 (wc.heap[gb510]? = some (.cells #[.int .i64 t505, (.slice Ao38 t506.length co38)] 39 (0, 0))) ∧ Aside0 (wc.heap[gb519]? = some (.cells #[.int .i64 t511, (.slice Ao48 t512.length co48)] 39 (0, 0))) ∧ Aside0 (wc.heap[gb520]? = some (.cells #[.int .i64 t515, (.slice Ao54 t516.length co54)] 39 (0, 0))) ∧ Aside0 (wc.heap[gb532]? = some (.cells #[.int .i64 t524, (.slice Ao66 t525.length co66)] 39 (0, 0))) ∧ Aside0 (wc.heap[gb533]? = some (.cells #[.int .i64 t528, (.slice Ao74 t529.length co74)] 39 (0, 0))) ∧ Aside0 (Below w.heap.size w wc))
     case first =>
      have H := HC210.out
      clear HC210
      replace H := bM H
      obtain ⟨t538, A2110, H⟩ := H
      have A211 := aM A2110
      clear A2110
      replace H := bM H
      obtain ⟨t539, A2120, H⟩ := H
      have A212 := aM A2120
      clear A2120
      by_cases c213 : t538 = t539
      ·rw [if_pos c213] at H
       have c213b0 : (t538 == t539) = true := beq_iff_eq.mpr c213
       have c213b1 : (t538 != t539) = false := bne_eq_false_iff_eq.mpr c213
       clear c213
       (first | rw [c213b0] | (simp only [i64_w, i32_w]; rw [c213b0]) | skip)
       replace H := bM H
       obtain ⟨t540, A2140, H⟩ := H
       have A214 := aM A2140
       clear A2140
       replace H := bM H
       obtain ⟨t541, A2150, H⟩ := H
       have A215 := aM A2150
       clear A2150
       have H' := aM H
       clear H
       try go_wp2
       replace HO_15 := aM (Kd.R_drew HO_15.out)
       replace HO_488001 := aM (Kd.R_drew HO_488001.out)
       replace HO_495001 := aM (Kd.R_drew HO_495001.out)
       replace HO_505001 := aM (Kd.R_drew HO_505001.out)
       replace HO_511001 := aM (Kd.R_drew HO_511001.out)
       replace HO_520001 := aM (Kd.R_drew HO_520001.out)
       replace HO_521001 := aM (Kd.R_drew HO_521001.out)
       replace HO_533001 := aM (Kd.R_drew HO_533001.out)
       replace HO_534001 := aM (Kd.R_drew HO_534001.out)
       replace BK487 := aM (blk_drew BK487.out)
       replace BK494 := aM (blk_drew BK494.out)
       replace BK504 := aM (blk_drew BK504.out)
       replace BK510 := aM (blk_drew BK510.out)
       replace BK519 := aM (blk_drew BK519.out)
       replace BK520 := aM (blk_drew BK520.out)
       replace BK532 := aM (blk_drew BK532.out)
       replace BK533 := aM (blk_drew BK533.out)
       replace HB := aM (below_drew1 HB.out)
       refine start_ (n := 17) (S := fun w' => w'.cell? ⟨gb519, 0, none⟩ = some (.int .i64 t511) ∧ w'.cell? ⟨gb519, 1, none⟩ = some (.slice Ao48 t512.length co48) ∧ w'.cell? ⟨gb520, 0, none⟩ = some (.int .i64 t515) ∧ w'.cell? ⟨gb520, 1, none⟩ = some (.slice Ao54 t516.length co54)) (ds := []) #[false, false, false, false, false, false, false, false, false, false, false, false, false, false, false, false, false] (by kernel_rfl) rfl rfl ⟨(blk_cell BK519.out 0).trans rfl, (blk_cell BK519.out 1).trans rfl, (blk_cell BK520.out 0).trans rfl, (blk_cell BK520.out 1).trans rfl⟩ (fun hHeld => ?_); refine with_tabW laws_FnFactFormat.tab12 laws_FnFactFormat.bits12 (fun HT_ HW_ => ?_)
       generalize wc.drew = w216 at HO_15 HO_488001 HO_495001 HO_505001 HO_511001 HO_520001 HO_521001 HO_533001 HO_534001 BK487 BK494 BK504 BK510 BK519 BK520 BK532 BK533 HB hHeld ⊢
       refine tU4 0 91 hHeld ?_
       refine tU4 1 92 hHeld ?_
       refine tU4 3 94 hHeld ?_
       refine tU4 4 95 hHeld ?_
       refine oU 2 93 (fun K hK => ?_)
       refine goes_ Tryd.func21 (by kernel_rfl) rfl #[.agg #[.int .i64 t511, .slice Ao48 t512.length co48], .agg #[.int .i64 t515, .slice Ao54 t516.length co54]] (by rfl) rfl rfl aA ?_
       with_reducible refine (impl_CompareFacts.calls kj11 t511 _ _ t512 t515 _ _ t516 t538 _ ?side1 ?side2 ?side3 ?side4 A211.out).mono ?_
       (case side1 => repeat (first | exact (Kd.R_reads' HO_520001.out).2.2 | (with_reducible refine pC ?_)))
       (case side2 => exact (Kd.R_reads' HO_520001.out).2.1)
       (case side3 => repeat (first | exact (Kd.R_reads' HO_521001.out).2.2 | (with_reducible refine pC ?_)))
       (case side4 => exact (Kd.R_reads' HO_521001.out).2.1)
       rintro e w217 ⟨rfl, hb⟩
       refine ⟨_, rfl, ?_⟩
       have n0_ := aM (Kd.R_below (aR HO_15) hb)
       have n1_ := aM (Kd.R_below (aR HO_488001) hb)
       have n2_ := aM (Kd.R_below (aR HO_495001) hb)
       have n3_ := aM (Kd.R_below (aR HO_505001) hb)
       have n4_ := aM (Kd.R_below (aR HO_511001) hb)
       have n5_ := aM (Kd.R_below (aR HO_520001) hb)
       have n6_ := aM (Kd.R_below (aR HO_521001) hb)
       have n7_ := aM (Kd.R_below (aR HO_533001) hb)
       have n8_ := aM (Kd.R_below (aR HO_534001) hb)
       have n9_ := aM (kB gb487 #[.int .i64 t483, .slice Ao16 t484.length co16] 39 hb)
       have n10_ := aM (kB gb494 #[.int .i64 t489, .slice Ao23 t490.length co23] 39 hb)
       have n11_ := aM (kB gb504 #[.int .i64 t499, .slice Ao31 t500.length co31] 39 hb)
       have n12_ := aM (kB gb510 #[.int .i64 t505, .slice Ao38 t506.length co38] 39 hb)
       have n13_ := aM (kB gb519 #[.int .i64 t511, .slice Ao48 t512.length co48] 39 hb)
       have n14_ := aM (kB gb520 #[.int .i64 t515, .slice Ao54 t516.length co54] 39 hb)
       have n15_ := aM (kB gb532 #[.int .i64 t524, .slice Ao66 t525.length co66] 39 hb)
       have n16_ := aM (kB gb533 #[.int .i64 t528, .slice Ao74 t529.length co74] 39 hb)
       have n17_ := aM (below_step aG hb)
       clear HO_15
       clear HO_488001
       clear HO_495001
       clear HO_505001
       clear HO_511001
       clear HO_520001
       clear HO_521001
       clear HO_533001
       clear HO_534001
       clear BK487
       clear BK494
       clear BK504
       clear BK510
       clear BK519
       clear BK520
       clear BK532
       clear BK533
       clear HB
       have HO_15 := n0_
       have HO_488001 := n1_
       have HO_495001 := n2_
       have HO_505001 := n3_
       have HO_511001 := n4_
       have HO_520001 := n5_
       have HO_521001 := n6_
       have HO_533001 := n7_
       have HO_534001 := n8_
       have BK487 := n9_
       have BK494 := n10_
       have BK504 := n11_
       have BK510 := n12_
       have BK519 := n13_
       have BK520 := n14_
       have BK532 := n15_
       have BK533 := n16_
       have HB := n17_
       clear n0_ n1_ n2_ n3_ n4_ n5_ n6_ n7_ n8_ n9_ n10_ n11_ n12_ n13_ n14_ n15_ n16_ n17_
       (try clear hb)
       (try clear hb2)
       (try clear hk)
       (try clear hi)
       refine hK.out _ _ ⟨(blk_cell BK519.out 0).trans rfl, (blk_cell BK519.out 1).trans rfl, (blk_cell BK520.out 0).trans rfl, (blk_cell BK520.out 1).trans rfl⟩ (fun hHeld => ?_)
       clear hK K
       refine nU 93 ?_
       refine oU 5 96 (fun K hK => ?_)
       refine goes_ Tryd.func22 (by kernel_rfl) rfl #[.agg #[.int .i64 t511, .slice Ao48 t512.length co48], .agg #[.int .i64 t515, .slice Ao54 t516.length co54]] (by rfl) rfl rfl aA ?_
       with_reducible refine (spec_CompareFacts.calls kj11 t511 _ _ t512 t515 _ _ t516 t539 _ ?side1 ?side2 ?side3 ?side4 A212.out).mono ?_
       (case side1 => repeat (first | exact (Kd.R_reads' HO_520001.out).2.2 | (with_reducible refine pC ?_)))
       (case side2 => exact (Kd.R_reads' HO_520001.out).2.1)
       (case side3 => repeat (first | exact (Kd.R_reads' HO_521001.out).2.2 | (with_reducible refine pC ?_)))
       (case side4 => exact (Kd.R_reads' HO_521001.out).2.1)
       rintro e w218 ⟨rfl, hb⟩
       refine ⟨_, rfl, ?_⟩
       have n0_ := aM (Kd.R_below (aR HO_15) hb)
       have n1_ := aM (Kd.R_below (aR HO_488001) hb)
       have n2_ := aM (Kd.R_below (aR HO_495001) hb)
       have n3_ := aM (Kd.R_below (aR HO_505001) hb)
       have n4_ := aM (Kd.R_below (aR HO_511001) hb)
       have n5_ := aM (Kd.R_below (aR HO_520001) hb)
       have n6_ := aM (Kd.R_below (aR HO_521001) hb)
       have n7_ := aM (Kd.R_below (aR HO_533001) hb)
       have n8_ := aM (Kd.R_below (aR HO_534001) hb)
       have n9_ := aM (kB gb487 #[.int .i64 t483, .slice Ao16 t484.length co16] 39 hb)
       have n10_ := aM (kB gb494 #[.int .i64 t489, .slice Ao23 t490.length co23] 39 hb)
       have n11_ := aM (kB gb504 #[.int .i64 t499, .slice Ao31 t500.length co31] 39 hb)
       have n12_ := aM (kB gb510 #[.int .i64 t505, .slice Ao38 t506.length co38] 39 hb)
       have n13_ := aM (kB gb519 #[.int .i64 t511, .slice Ao48 t512.length co48] 39 hb)
       have n14_ := aM (kB gb520 #[.int .i64 t515, .slice Ao54 t516.length co54] 39 hb)
       have n15_ := aM (kB gb532 #[.int .i64 t524, .slice Ao66 t525.length co66] 39 hb)
       have n16_ := aM (kB gb533 #[.int .i64 t528, .slice Ao74 t529.length co74] 39 hb)
       have n17_ := aM (below_step aG hb)
       clear HO_15
       clear HO_488001
       clear HO_495001
       clear HO_505001
       clear HO_511001
       clear HO_520001
       clear HO_521001
       clear HO_533001
       clear HO_534001
       clear BK487
       clear BK494
       clear BK504
       clear BK510
       clear BK519
       clear BK520
       clear BK532
       clear BK533
       clear HB
       have HO_15 := n0_
       have HO_488001 := n1_
       have HO_495001 := n2_
       have HO_505001 := n3_
       have HO_511001 := n4_
       have HO_520001 := n5_
       have HO_521001 := n6_
       have HO_533001 := n7_
       have HO_534001 := n8_
       have BK487 := n9_
       have BK494 := n10_
       have BK504 := n11_
       have BK510 := n12_
       have BK519 := n13_
       have BK520 := n14_
       have BK532 := n15_
       have BK533 := n16_
       have HB := n17_
       clear n0_ n1_ n2_ n3_ n4_ n5_ n6_ n7_ n8_ n9_ n10_ n11_ n12_ n13_ n14_ n15_ n16_ n17_
       (try clear hb)
       (try clear hb2)
       (try clear hk)
       (try clear hi)
       refine hK.out _ _ ⟨(blk_cell BK519.out 0).trans rfl, (blk_cell BK519.out 1).trans rfl, (blk_cell BK520.out 0).trans rfl, (blk_cell BK520.out 1).trans rfl⟩ (fun hHeld => ?_)
       clear hK K
       refine nU 96 ?_
       refine pU 6 97 ?_
       refine pU 7 98 ?_
       refine tU4 8 99 hHeld ?_
       refine tU4 9 100 hHeld ?_
       refine tU4 11 102 hHeld ?_
       refine tU4 12 103 hHeld ?_
       refine oU 10 101 (fun K hK => ?_)
       refine goes_ Tryd.func21 (by kernel_rfl) rfl #[.agg #[.int .i64 t511, .slice Ao48 t512.length co48], .agg #[.int .i64 t515, .slice Ao54 t516.length co54]] (by rfl) rfl rfl aA ?_
       with_reducible refine (impl_CompareFacts.calls kj11 t511 _ _ t512 t515 _ _ t516 t540 _ ?side1 ?side2 ?side3 ?side4 A214.out).mono ?_
       (case side1 => repeat (first | exact (Kd.R_reads' HO_520001.out).2.2 | (with_reducible refine pC ?_)))
       (case side2 => exact (Kd.R_reads' HO_520001.out).2.1)
       (case side3 => repeat (first | exact (Kd.R_reads' HO_521001.out).2.2 | (with_reducible refine pC ?_)))
       (case side4 => exact (Kd.R_reads' HO_521001.out).2.1)
       rintro e w219 ⟨rfl, hb⟩
       refine ⟨_, rfl, ?_⟩
       have n0_ := aM (Kd.R_below (aR HO_15) hb)
       have n1_ := aM (Kd.R_below (aR HO_488001) hb)
       have n2_ := aM (Kd.R_below (aR HO_495001) hb)
       have n3_ := aM (Kd.R_below (aR HO_505001) hb)
       have n4_ := aM (Kd.R_below (aR HO_511001) hb)
       have n5_ := aM (Kd.R_below (aR HO_520001) hb)
       have n6_ := aM (Kd.R_below (aR HO_521001) hb)
       have n7_ := aM (Kd.R_below (aR HO_533001) hb)
       have n8_ := aM (Kd.R_below (aR HO_534001) hb)
       have n9_ := aM (kB gb487 #[.int .i64 t483, .slice Ao16 t484.length co16] 39 hb)
       have n10_ := aM (kB gb494 #[.int .i64 t489, .slice Ao23 t490.length co23] 39 hb)
       have n11_ := aM (kB gb504 #[.int .i64 t499, .slice Ao31 t500.length co31] 39 hb)
       have n12_ := aM (kB gb510 #[.int .i64 t505, .slice Ao38 t506.length co38] 39 hb)
       have n13_ := aM (kB gb519 #[.int .i64 t511, .slice Ao48 t512.length co48] 39 hb)
       have n14_ := aM (kB gb520 #[.int .i64 t515, .slice Ao54 t516.length co54] 39 hb)
       have n15_ := aM (kB gb532 #[.int .i64 t524, .slice Ao66 t525.length co66] 39 hb)
       have n16_ := aM (kB gb533 #[.int .i64 t528, .slice Ao74 t529.length co74] 39 hb)
       have n17_ := aM (below_step aG hb)
       clear HO_15
       clear HO_488001
       clear HO_495001
       clear HO_505001
       clear HO_511001
       clear HO_520001
       clear HO_521001
       clear HO_533001
       clear HO_534001
       clear BK487
       clear BK494
       clear BK504
       clear BK510
       clear BK519
       clear BK520
       clear BK532
       clear BK533
       clear HB
       have HO_15 := n0_
       have HO_488001 := n1_
       have HO_495001 := n2_
       have HO_505001 := n3_
       have HO_511001 := n4_
       have HO_520001 := n5_
       have HO_521001 := n6_
       have HO_533001 := n7_
       have HO_534001 := n8_
       have BK487 := n9_
       have BK494 := n10_
       have BK504 := n11_
       have BK510 := n12_
       have BK519 := n13_
       have BK520 := n14_
       have BK532 := n15_
       have BK533 := n16_
       have HB := n17_
       clear n0_ n1_ n2_ n3_ n4_ n5_ n6_ n7_ n8_ n9_ n10_ n11_ n12_ n13_ n14_ n15_ n16_ n17_
       (try clear hb)
       (try clear hb2)
       (try clear hk)
       (try clear hi)
       refine hK.out _ _ ⟨(blk_cell BK519.out 0).trans rfl, (blk_cell BK519.out 1).trans rfl, (blk_cell BK520.out 0).trans rfl, (blk_cell BK520.out 1).trans rfl⟩ (fun hHeld => ?_)
       clear hK K
       refine nU 101 ?_
       refine oU 13 104 (fun K hK => ?_)
       refine goes_ Tryd.func21 (by kernel_rfl) rfl #[.agg #[.int .i64 t515, .slice Ao54 t516.length co54], .agg #[.int .i64 t511, .slice Ao48 t512.length co48]] (by rfl) rfl rfl aA ?_
       with_reducible refine (impl_CompareFacts.calls kj11 t515 _ _ t516 t511 _ _ t512 t541 _ ?side1 ?side2 ?side3 ?side4 A215.out).mono ?_
       (case side1 => repeat (first | exact (Kd.R_reads' HO_521001.out).2.2 | (with_reducible refine pC ?_)))
       (case side2 => exact (Kd.R_reads' HO_521001.out).2.1)
       (case side3 => repeat (first | exact (Kd.R_reads' HO_520001.out).2.2 | (with_reducible refine pC ?_)))
       (case side4 => exact (Kd.R_reads' HO_520001.out).2.1)
       rintro e w220 ⟨rfl, hb⟩
       refine ⟨_, rfl, ?_⟩
       have n0_ := aM (Kd.R_below (aR HO_15) hb)
       have n1_ := aM (Kd.R_below (aR HO_488001) hb)
       have n2_ := aM (Kd.R_below (aR HO_495001) hb)
       have n3_ := aM (Kd.R_below (aR HO_505001) hb)
       have n4_ := aM (Kd.R_below (aR HO_511001) hb)
       have n5_ := aM (Kd.R_below (aR HO_520001) hb)
       have n6_ := aM (Kd.R_below (aR HO_521001) hb)
       have n7_ := aM (Kd.R_below (aR HO_533001) hb)
       have n8_ := aM (Kd.R_below (aR HO_534001) hb)
       have n9_ := aM (kB gb487 #[.int .i64 t483, .slice Ao16 t484.length co16] 39 hb)
       have n10_ := aM (kB gb494 #[.int .i64 t489, .slice Ao23 t490.length co23] 39 hb)
       have n11_ := aM (kB gb504 #[.int .i64 t499, .slice Ao31 t500.length co31] 39 hb)
       have n12_ := aM (kB gb510 #[.int .i64 t505, .slice Ao38 t506.length co38] 39 hb)
       have n13_ := aM (kB gb519 #[.int .i64 t511, .slice Ao48 t512.length co48] 39 hb)
       have n14_ := aM (kB gb520 #[.int .i64 t515, .slice Ao54 t516.length co54] 39 hb)
       have n15_ := aM (kB gb532 #[.int .i64 t524, .slice Ao66 t525.length co66] 39 hb)
       have n16_ := aM (kB gb533 #[.int .i64 t528, .slice Ao74 t529.length co74] 39 hb)
       have n17_ := aM (below_step aG hb)
       clear HO_15
       clear HO_488001
       clear HO_495001
       clear HO_505001
       clear HO_511001
       clear HO_520001
       clear HO_521001
       clear HO_533001
       clear HO_534001
       clear BK487
       clear BK494
       clear BK504
       clear BK510
       clear BK519
       clear BK520
       clear BK532
       clear BK533
       clear HB
       have HO_15 := n0_
       have HO_488001 := n1_
       have HO_495001 := n2_
       have HO_505001 := n3_
       have HO_511001 := n4_
       have HO_520001 := n5_
       have HO_521001 := n6_
       have HO_533001 := n7_
       have HO_534001 := n8_
       have BK487 := n9_
       have BK494 := n10_
       have BK504 := n11_
       have BK510 := n12_
       have BK519 := n13_
       have BK520 := n14_
       have BK532 := n15_
       have BK533 := n16_
       have HB := n17_
       clear n0_ n1_ n2_ n3_ n4_ n5_ n6_ n7_ n8_ n9_ n10_ n11_ n12_ n13_ n14_ n15_ n16_ n17_
       (try clear hb)
       (try clear hb2)
       (try clear hk)
       (try clear hi)
       refine hK.out _ _ ⟨(blk_cell BK519.out 0).trans rfl, (blk_cell BK519.out 1).trans rfl, (blk_cell BK520.out 0).trans rfl, (blk_cell BK520.out 1).trans rfl⟩ (fun hHeld => ?_)
       clear hK K
       refine nU 104 ?_
       refine pU 14 105 ?_
       refine pU 15 106 ?_
       refine pU 16 107 ?_
       refine done_ (done_of HT_.out (by kernel_rfl)) ?_
       try go_wp2
       go_meet
       case rel => exact ⟨_, ((t540 != (wrap64 (-t541)))), aX, H', ⟨by have := HJ11.out; first | omega | exact Nat.le_refl _⟩, ⟨aR HO_15⟩, ⟨aR HO_488001⟩, ⟨aR HO_495001⟩, ⟨aR HO_505001⟩, ⟨aR HO_511001⟩, ⟨aR HO_520001⟩, ⟨aR HO_521001⟩, ⟨aR HO_533001⟩, ⟨aR HO_534001⟩, ⟨aK⟩, ⟨aK⟩, ⟨aK⟩, ⟨aK⟩, ⟨aK⟩, ⟨aK⟩, ⟨aK⟩, ⟨aK⟩, ⟨aG⟩⟩
      ·rw [if_neg c213] at H
       have c213b0 : (t538 == t539) = false := beq_eq_false_iff_ne.mpr c213
       have c213b1 : (t538 != t539) = true := bne_iff_ne.mpr c213
       (first | rw [c213b0] | (simp only [i64_w, i32_w]; rw [c213b0]) | skip)
       have H' := aM H
       clear H
       try go_wp2
       replace HO_15 := aM (Kd.R_drew HO_15.out)
       replace HO_488001 := aM (Kd.R_drew HO_488001.out)
       replace HO_495001 := aM (Kd.R_drew HO_495001.out)
       replace HO_505001 := aM (Kd.R_drew HO_505001.out)
       replace HO_511001 := aM (Kd.R_drew HO_511001.out)
       replace HO_520001 := aM (Kd.R_drew HO_520001.out)
       replace HO_521001 := aM (Kd.R_drew HO_521001.out)
       replace HO_533001 := aM (Kd.R_drew HO_533001.out)
       replace HO_534001 := aM (Kd.R_drew HO_534001.out)
       replace BK487 := aM (blk_drew BK487.out)
       replace BK494 := aM (blk_drew BK494.out)
       replace BK504 := aM (blk_drew BK504.out)
       replace BK510 := aM (blk_drew BK510.out)
       replace BK519 := aM (blk_drew BK519.out)
       replace BK520 := aM (blk_drew BK520.out)
       replace BK532 := aM (blk_drew BK532.out)
       replace BK533 := aM (blk_drew BK533.out)
       replace HB := aM (below_drew1 HB.out)
       refine start_ (n := 17) (S := fun w' => w'.cell? ⟨gb519, 0, none⟩ = some (.int .i64 t511) ∧ w'.cell? ⟨gb519, 1, none⟩ = some (.slice Ao48 t512.length co48) ∧ w'.cell? ⟨gb520, 0, none⟩ = some (.int .i64 t515) ∧ w'.cell? ⟨gb520, 1, none⟩ = some (.slice Ao54 t516.length co54)) (ds := []) #[false, false, false, false, false, false, false, false, false, false, false, false, false, false, false, false, false] (by kernel_rfl) rfl rfl ⟨(blk_cell BK519.out 0).trans rfl, (blk_cell BK519.out 1).trans rfl, (blk_cell BK520.out 0).trans rfl, (blk_cell BK520.out 1).trans rfl⟩ (fun hHeld => ?_); refine with_tabW laws_FnFactFormat.tab12 laws_FnFactFormat.bits12 (fun HT_ HW_ => ?_)
       generalize wc.drew = w221 at HO_15 HO_488001 HO_495001 HO_505001 HO_511001 HO_520001 HO_521001 HO_533001 HO_534001 BK487 BK494 BK504 BK510 BK519 BK520 BK532 BK533 HB hHeld ⊢
       refine tU4 0 91 hHeld ?_
       refine tU4 1 92 hHeld ?_
       refine tU4 3 94 hHeld ?_
       refine tU4 4 95 hHeld ?_
       refine oU 2 93 (fun K hK => ?_)
       refine goes_ Tryd.func21 (by kernel_rfl) rfl #[.agg #[.int .i64 t511, .slice Ao48 t512.length co48], .agg #[.int .i64 t515, .slice Ao54 t516.length co54]] (by rfl) rfl rfl aA ?_
       with_reducible refine (impl_CompareFacts.calls kj11 t511 _ _ t512 t515 _ _ t516 t538 _ ?side1 ?side2 ?side3 ?side4 A211.out).mono ?_
       (case side1 => repeat (first | exact (Kd.R_reads' HO_520001.out).2.2 | (with_reducible refine pC ?_)))
       (case side2 => exact (Kd.R_reads' HO_520001.out).2.1)
       (case side3 => repeat (first | exact (Kd.R_reads' HO_521001.out).2.2 | (with_reducible refine pC ?_)))
       (case side4 => exact (Kd.R_reads' HO_521001.out).2.1)
       rintro e w222 ⟨rfl, hb⟩
       refine ⟨_, rfl, ?_⟩
       have n0_ := aM (Kd.R_below (aR HO_15) hb)
       have n1_ := aM (Kd.R_below (aR HO_488001) hb)
       have n2_ := aM (Kd.R_below (aR HO_495001) hb)
       have n3_ := aM (Kd.R_below (aR HO_505001) hb)
       have n4_ := aM (Kd.R_below (aR HO_511001) hb)
       have n5_ := aM (Kd.R_below (aR HO_520001) hb)
       have n6_ := aM (Kd.R_below (aR HO_521001) hb)
       have n7_ := aM (Kd.R_below (aR HO_533001) hb)
       have n8_ := aM (Kd.R_below (aR HO_534001) hb)
       have n9_ := aM (kB gb487 #[.int .i64 t483, .slice Ao16 t484.length co16] 39 hb)
       have n10_ := aM (kB gb494 #[.int .i64 t489, .slice Ao23 t490.length co23] 39 hb)
       have n11_ := aM (kB gb504 #[.int .i64 t499, .slice Ao31 t500.length co31] 39 hb)
       have n12_ := aM (kB gb510 #[.int .i64 t505, .slice Ao38 t506.length co38] 39 hb)
       have n13_ := aM (kB gb519 #[.int .i64 t511, .slice Ao48 t512.length co48] 39 hb)
       have n14_ := aM (kB gb520 #[.int .i64 t515, .slice Ao54 t516.length co54] 39 hb)
       have n15_ := aM (kB gb532 #[.int .i64 t524, .slice Ao66 t525.length co66] 39 hb)
       have n16_ := aM (kB gb533 #[.int .i64 t528, .slice Ao74 t529.length co74] 39 hb)
       have n17_ := aM (below_step aG hb)
       clear HO_15
       clear HO_488001
       clear HO_495001
       clear HO_505001
       clear HO_511001
       clear HO_520001
       clear HO_521001
       clear HO_533001
       clear HO_534001
       clear BK487
       clear BK494
       clear BK504
       clear BK510
       clear BK519
       clear BK520
       clear BK532
       clear BK533
       clear HB
       have HO_15 := n0_
       have HO_488001 := n1_
       have HO_495001 := n2_
       have HO_505001 := n3_
       have HO_511001 := n4_
       have HO_520001 := n5_
       have HO_521001 := n6_
       have HO_533001 := n7_
       have HO_534001 := n8_
       have BK487 := n9_
       have BK494 := n10_
       have BK504 := n11_
       have BK510 := n12_
       have BK519 := n13_
       have BK520 := n14_
       have BK532 := n15_
       have BK533 := n16_
       have HB := n17_
       clear n0_ n1_ n2_ n3_ n4_ n5_ n6_ n7_ n8_ n9_ n10_ n11_ n12_ n13_ n14_ n15_ n16_ n17_
       (try clear hb)
       (try clear hb2)
       (try clear hk)
       (try clear hi)
       refine hK.out _ _ ⟨(blk_cell BK519.out 0).trans rfl, (blk_cell BK519.out 1).trans rfl, (blk_cell BK520.out 0).trans rfl, (blk_cell BK520.out 1).trans rfl⟩ (fun hHeld => ?_)
       clear hK K
       refine nU 93 ?_
       refine oU 5 96 (fun K hK => ?_)
       refine goes_ Tryd.func22 (by kernel_rfl) rfl #[.agg #[.int .i64 t511, .slice Ao48 t512.length co48], .agg #[.int .i64 t515, .slice Ao54 t516.length co54]] (by rfl) rfl rfl aA ?_
       with_reducible refine (spec_CompareFacts.calls kj11 t511 _ _ t512 t515 _ _ t516 t539 _ ?side1 ?side2 ?side3 ?side4 A212.out).mono ?_
       (case side1 => repeat (first | exact (Kd.R_reads' HO_520001.out).2.2 | (with_reducible refine pC ?_)))
       (case side2 => exact (Kd.R_reads' HO_520001.out).2.1)
       (case side3 => repeat (first | exact (Kd.R_reads' HO_521001.out).2.2 | (with_reducible refine pC ?_)))
       (case side4 => exact (Kd.R_reads' HO_521001.out).2.1)
       rintro e w223 ⟨rfl, hb⟩
       refine ⟨_, rfl, ?_⟩
       have n0_ := aM (Kd.R_below (aR HO_15) hb)
       have n1_ := aM (Kd.R_below (aR HO_488001) hb)
       have n2_ := aM (Kd.R_below (aR HO_495001) hb)
       have n3_ := aM (Kd.R_below (aR HO_505001) hb)
       have n4_ := aM (Kd.R_below (aR HO_511001) hb)
       have n5_ := aM (Kd.R_below (aR HO_520001) hb)
       have n6_ := aM (Kd.R_below (aR HO_521001) hb)
       have n7_ := aM (Kd.R_below (aR HO_533001) hb)
       have n8_ := aM (Kd.R_below (aR HO_534001) hb)
       have n9_ := aM (kB gb487 #[.int .i64 t483, .slice Ao16 t484.length co16] 39 hb)
       have n10_ := aM (kB gb494 #[.int .i64 t489, .slice Ao23 t490.length co23] 39 hb)
       have n11_ := aM (kB gb504 #[.int .i64 t499, .slice Ao31 t500.length co31] 39 hb)
       have n12_ := aM (kB gb510 #[.int .i64 t505, .slice Ao38 t506.length co38] 39 hb)
       have n13_ := aM (kB gb519 #[.int .i64 t511, .slice Ao48 t512.length co48] 39 hb)
       have n14_ := aM (kB gb520 #[.int .i64 t515, .slice Ao54 t516.length co54] 39 hb)
       have n15_ := aM (kB gb532 #[.int .i64 t524, .slice Ao66 t525.length co66] 39 hb)
       have n16_ := aM (kB gb533 #[.int .i64 t528, .slice Ao74 t529.length co74] 39 hb)
       have n17_ := aM (below_step aG hb)
       clear HO_15
       clear HO_488001
       clear HO_495001
       clear HO_505001
       clear HO_511001
       clear HO_520001
       clear HO_521001
       clear HO_533001
       clear HO_534001
       clear BK487
       clear BK494
       clear BK504
       clear BK510
       clear BK519
       clear BK520
       clear BK532
       clear BK533
       clear HB
       have HO_15 := n0_
       have HO_488001 := n1_
       have HO_495001 := n2_
       have HO_505001 := n3_
       have HO_511001 := n4_
       have HO_520001 := n5_
       have HO_521001 := n6_
       have HO_533001 := n7_
       have HO_534001 := n8_
       have BK487 := n9_
       have BK494 := n10_
       have BK504 := n11_
       have BK510 := n12_
       have BK519 := n13_
       have BK520 := n14_
       have BK532 := n15_
       have BK533 := n16_
       have HB := n17_
       clear n0_ n1_ n2_ n3_ n4_ n5_ n6_ n7_ n8_ n9_ n10_ n11_ n12_ n13_ n14_ n15_ n16_ n17_
       (try clear hb)
       (try clear hb2)
       (try clear hk)
       (try clear hi)
       refine hK.out _ _ ⟨(blk_cell BK519.out 0).trans rfl, (blk_cell BK519.out 1).trans rfl, (blk_cell BK520.out 0).trans rfl, (blk_cell BK520.out 1).trans rfl⟩ (fun hHeld => ?_)
       clear hK K
       refine nU 96 ?_
       refine pU 6 97 ?_
       refine pU 7 98 ?_
       refine pure_ (i := 8) (N := some 99) (v := undef) (a' := ?_) #[true, true, true, true, true, true, true, true, true, false, false, false, false, false, false, false, false] rfl rfl (any_of HT_.out (by kernel_rfl)) (fun _ _ _ h => h) (Or.inr ⟨by rfl, rfl⟩) ?_ ?_
       rotate_left
       ·exact aP
       refine pure_ (i := 9) (N := some 100) (v := undef) (a' := ?_) #[true, true, true, true, true, true, true, true, true, true, false, false, false, false, false, false, false] rfl rfl (any_of HT_.out (by kernel_rfl)) (fun _ _ _ h => h) (Or.inr ⟨by rfl, rfl⟩) ?_ ?_
       rotate_left
       ·exact aP
       refine pure_ (i := 10) (N := some 101) (v := undef) (a' := ?_) #[true, true, true, true, true, true, true, true, true, true, true, false, false, false, false, false, false] rfl rfl (any_of HT_.out (by kernel_rfl)) (fun _ _ _ h => h) (Or.inr ⟨by rfl, rfl⟩) ?_ ?_
       rotate_left
       ·exact aP
       refine pure_ (i := 11) (N := some 102) (v := undef) (a' := ?_) #[true, true, true, true, true, true, true, true, true, true, true, true, false, false, false, false, false] rfl rfl (any_of HT_.out (by kernel_rfl)) (fun _ _ _ h => h) (Or.inr ⟨by rfl, rfl⟩) ?_ ?_
       rotate_left
       ·exact aP
       refine pure_ (i := 12) (N := some 103) (v := undef) (a' := ?_) #[true, true, true, true, true, true, true, true, true, true, true, true, true, false, false, false, false] rfl rfl (any_of HT_.out (by kernel_rfl)) (fun _ _ _ h => h) (Or.inr ⟨by rfl, rfl⟩) ?_ ?_
       rotate_left
       ·exact aP
       refine pure_ (i := 13) (N := some 104) (v := undef) (a' := ?_) #[true, true, true, true, true, true, true, true, true, true, true, true, true, true, false, false, false] rfl rfl (any_of HT_.out (by kernel_rfl)) (fun _ _ _ h => h) (Or.inr ⟨by rfl, rfl⟩) ?_ ?_
       rotate_left
       ·exact aP
       refine pure_ (i := 14) (N := some 105) (v := undef) (a' := ?_) #[true, true, true, true, true, true, true, true, true, true, true, true, true, true, true, false, false] rfl rfl (any_of HT_.out (by kernel_rfl)) (fun _ _ _ h => h) (Or.inr ⟨by rfl, rfl⟩) ?_ ?_
       rotate_left
       ·exact aP
       refine pure_ (i := 15) (N := some 106) (v := undef) (a' := ?_) #[true, true, true, true, true, true, true, true, true, true, true, true, true, true, true, true, false] rfl rfl (any_of HT_.out (by kernel_rfl)) (fun _ _ _ h => h) (Or.inr ⟨by rfl, rfl⟩) ?_ ?_
       rotate_left
       ·exact aP
       refine pU 16 107 ?_
       refine done_ (done_of HT_.out (by kernel_rfl)) ?_
       try go_wp2
       go_meet
       case rel => exact ⟨_, (true), aX, H', ⟨by have := HJ11.out; first | omega | exact Nat.le_refl _⟩, ⟨aR HO_15⟩, ⟨aR HO_488001⟩, ⟨aR HO_495001⟩, ⟨aR HO_505001⟩, ⟨aR HO_511001⟩, ⟨aR HO_520001⟩, ⟨aR HO_521001⟩, ⟨aR HO_533001⟩, ⟨aR HO_534001⟩, ⟨aK⟩, ⟨aK⟩, ⟨aK⟩, ⟨aK⟩, ⟨aK⟩, ⟨aK⟩, ⟨aK⟩, ⟨aK⟩, ⟨aG⟩⟩
     case rest =>
      clear HC210
      try clear c2
      try clear p2
      try clear p6
      try clear c21
      try clear c22
      try clear p64
      try clear c213
      try clear c213b0
      try clear c213b1
      obtain ⟨kq, x107_209, rfl, HA, HJ209, HO_15, HO_488001, HO_495001, HO_505001, HO_511001, HO_520001, HO_521001, HO_533001, HO_534001, BK487, BK494, BK504, BK510, BK519, BK520, BK532, BK533, HB⟩ := hcut
      cases kq with
      | zero => exact absurd HA.out (by simp [laws_FnFactFormat.j1])
      | succ kj209 =>
       have H := HA.out
       clear HA
       simp only [laws_FnFactFormat.j1] at H
       by_cases c224 : x107_209 = true
       ·subst c224
        replace H := iT H
        exact absurd (Option.some.inj (H.trans (congrArg some HRT_.out))) (by decide)
       ·replace c224 := Bool.eq_false_iff.mpr c224
        subst c224
        have H1 : ((impl_HaveSameKey.f t521 t524 t525 t528 t529).bind fun t542 => ((spec_HaveSameKey.f kj209 t521 t524 t525 t528 t529).bind fun t543 => (if (t542 == t543) = true then ((impl_HaveSameKey.f t521 t528 t529 t524 t525).bind fun t544 => (if (t542 == t544) = true then (if t542 = true then (if t524 = t528 then ((impl_KeyOf.f t521 t524 t525).bind fun t545 => ((impl_KeyOf.f t521 t528 t529).bind fun t548 => ((laws_sameInts.f kj209 t545 t548).bind fun t551 => (some t551)))) else (some false)) else (some true)) else (some false))) else (some false)))) = some r := by rw [if_neg (show ¬ (false = true) by decide)] at H; exact H
        clear H
        have H := H1
        clear H1
        replace H := bM H
        obtain ⟨t542, A2250, H⟩ := H
        have A225 := aM A2250
        clear A2250
        replace H := bM H
        obtain ⟨t543, A2260, H⟩ := H
        have A226 := aM A2260
        clear A2260
        by_cases c227 : (t542 == t543) = true
        ·rw [if_pos c227] at H
         have c227b0 : (t542 == t543) = true := c227
         (try (have c227b1 : decide (t542 = t543) = true := by simpa using c227))
         (try (have c227b2 : (t542 == t543) = true := by simpa using c227))
         clear c227
         replace H := bM H
         obtain ⟨t544, A2280, H⟩ := H
         have A228 := aM A2280
         clear A2280
         by_cases c229 : (t542 == t544) = true
         ·rw [if_pos c229] at H
          have c229b0 : (t542 == t544) = true := c229
          (try (have c229b1 : decide (t542 = t544) = true := by simpa using c229))
          (try (have c229b2 : (t542 == t544) = true := by simpa using c229))
          clear c229
          by_cases c230 : t542 = true
          ·subst c230
           replace H := iT H
           by_cases c231 : t524 = t528
           ·rw [if_pos c231] at H
            have c231b0 : (t524 == t528) = true := beq_iff_eq.mpr c231
            have c231b1 : (t524 != t528) = false := bne_eq_false_iff_eq.mpr c231
            clear c231
            replace H := bM H
            obtain ⟨t545, A2320, H⟩ := H
            have A232 := aM A2320
            clear A2320
            replace H := bM H
            obtain ⟨t548, A2330, H⟩ := H
            have A233 := aM A2330
            clear A2330
            replace H := bM H
            obtain ⟨t551, A2340, H⟩ := H
            have A234 := aM A2340
            clear A2340
            obtain rfl := Option.some.inj H
            have hnb235 := NB532_487.out
            have hnc235 := NB487_532.out
            have hnb236 := NB532_494.out
            have hnc236 := NB494_532.out
            have hnb237 := NB532_504.out
            have hnc237 := NB504_532.out
            have hnb238 := NB532_510.out
            have hnc238 := NB510_532.out
            have hnb239 := NB532_519.out
            have hnc239 := NB519_532.out
            have hnb240 := NB532_520.out
            have hnc240 := NB520_532.out
            have hnb241 := NB532_533.out
            have hnc241 := NB533_532.out
            have hcz242_0 : wc.cell? ⟨gb532, 0, none⟩ = some (.int .i64 t524) := (blk_cell BK532.out 0).trans rfl
            have hcz242_1 : wc.cell? ⟨gb532, 1, none⟩ = some (.slice Ao66 t525.length co66) := (blk_cell BK532.out 1).trans rfl
            have hfz242_0 := blk_frozen BK532.out 0
            have hfz242_1 := blk_frozen BK532.out 1
            have hnb243 := NB533_487.out
            have hnc243 := NB487_533.out
            have hnb244 := NB533_494.out
            have hnc244 := NB494_533.out
            have hnb245 := NB533_504.out
            have hnc245 := NB504_533.out
            have hnb246 := NB533_510.out
            have hnc246 := NB510_533.out
            have hnb247 := NB533_519.out
            have hnc247 := NB519_533.out
            have hnb248 := NB533_520.out
            have hnc248 := NB520_533.out
            have hcz249_0 : wc.cell? ⟨gb533, 0, none⟩ = some (.int .i64 t528) := (blk_cell BK533.out 0).trans rfl
            have hcz249_1 : wc.cell? ⟨gb533, 1, none⟩ = some (.slice Ao74 t529.length co74) := (blk_cell BK533.out 1).trans rfl
            have hfz249_0 := blk_frozen BK533.out 0
            have hfz249_1 := blk_frozen BK533.out 1
            obtain ⟨Ao250, co250, eo250⟩ := Kd.R_slice HO_15.out
            subst eo250
            try go_wp2_with (first | ((with_reducible refine gate_callee (f := 23) rfl ?_); refine goesL_ (some 111) rfl rfl Tryd.func23 (by kernel_rfl) rfl #[.slice Ao250 t521.length co250, .agg #[.int .i64 t524, .slice Ao66 t525.length co66], .agg #[.int .i64 t528, .slice Ao74 t529.length co74]] rfl aA ?_; (with_reducible refine (impl_HaveSameKey.calls _ _ t521 t524 _ _ t525 t528 _ _ t529 true _ ?side1 ?side2 ?side3 ?side4 ?side5 ?side6 A225.out).mono ?_); (case side1 => repeat (first | exact (Kd.R_reads' HO_15.out).2.2 | (with_reducible refine pC ?_))); (case side2 => exact (Kd.R_reads' HO_15.out).2.1); (case side3 => repeat (first | exact (Kd.R_reads' HO_533001.out).2.2 | (with_reducible refine pC ?_))); (case side4 => exact (Kd.R_reads' HO_533001.out).2.1); (case side5 => repeat (first | exact (Kd.R_reads' HO_534001.out).2.2 | (with_reducible refine pC ?_))); (case side6 => exact (Kd.R_reads' HO_534001.out).2.1); rintro e w251 ⟨rfl, hb⟩; refine ⟨_, rfl, ?_⟩; have n0_ := aM (Kd.R_below (aR HO_15) hb); have n1_ := aM (Kd.R_below (aR HO_488001) hb); have n2_ := aM (Kd.R_below (aR HO_495001) hb); have n3_ := aM (Kd.R_below (aR HO_505001) hb); have n4_ := aM (Kd.R_below (aR HO_511001) hb); have n5_ := aM (Kd.R_below (aR HO_520001) hb); have n6_ := aM (Kd.R_below (aR HO_521001) hb); have n7_ := aM (Kd.R_below (aR HO_533001) hb); have n8_ := aM (Kd.R_below (aR HO_534001) hb); have n9_ := aM (kB gb487 #[.int .i64 t483, .slice Ao16 t484.length co16] 39 hb); have n10_ := aM (kB gb494 #[.int .i64 t489, .slice Ao23 t490.length co23] 39 hb); have n11_ := aM (kB gb504 #[.int .i64 t499, .slice Ao31 t500.length co31] 39 hb); have n12_ := aM (kB gb510 #[.int .i64 t505, .slice Ao38 t506.length co38] 39 hb); have n13_ := aM (kB gb519 #[.int .i64 t511, .slice Ao48 t512.length co48] 39 hb); have n14_ := aM (kB gb520 #[.int .i64 t515, .slice Ao54 t516.length co54] 39 hb); have n15_ := aM (kB gb532 #[.int .i64 t524, .slice Ao66 t525.length co66] 39 hb); have n16_ := aM (kB gb533 #[.int .i64 t528, .slice Ao74 t529.length co74] 39 hb); have n17_ := aM (below_step aG hb); clear HO_15; clear HO_488001; clear HO_495001; clear HO_505001; clear HO_511001; clear HO_520001; clear HO_521001; clear HO_533001; clear HO_534001; clear BK487; clear BK494; clear BK504; clear BK510; clear BK519; clear BK520; clear BK532; clear BK533; clear HB; have HO_15 := n0_; have HO_488001 := n1_; have HO_495001 := n2_; have HO_505001 := n3_; have HO_511001 := n4_; have HO_520001 := n5_; have HO_521001 := n6_; have HO_533001 := n7_; have HO_534001 := n8_; have BK487 := n9_; have BK494 := n10_; have BK504 := n11_; have BK510 := n12_; have BK519 := n13_; have BK520 := n14_; have BK532 := n15_; have BK533 := n16_; have HB := n17_; clear n0_ n1_ n2_ n3_ n4_ n5_ n6_ n7_ n8_ n9_ n10_ n11_ n12_ n13_ n14_ n15_ n16_ n17_; (try clear hb); (try clear hb2); (try clear hk); (try clear hi)))
            replace HO_15 := aM (Kd.R_drew HO_15.out)
            replace HO_488001 := aM (Kd.R_drew HO_488001.out)
            replace HO_495001 := aM (Kd.R_drew HO_495001.out)
            replace HO_505001 := aM (Kd.R_drew HO_505001.out)
            replace HO_511001 := aM (Kd.R_drew HO_511001.out)
            replace HO_520001 := aM (Kd.R_drew HO_520001.out)
            replace HO_521001 := aM (Kd.R_drew HO_521001.out)
            replace HO_533001 := aM (Kd.R_drew HO_533001.out)
            replace HO_534001 := aM (Kd.R_drew HO_534001.out)
            replace BK487 := aM (blk_drew BK487.out)
            replace BK494 := aM (blk_drew BK494.out)
            replace BK504 := aM (blk_drew BK504.out)
            replace BK510 := aM (blk_drew BK510.out)
            replace BK519 := aM (blk_drew BK519.out)
            replace BK520 := aM (blk_drew BK520.out)
            replace BK532 := aM (blk_drew BK532.out)
            replace BK533 := aM (blk_drew BK533.out)
            replace HB := aM (below_drew1 HB.out)
            refine start_ (n := 35) (S := fun w' => w'.cell? ⟨gb532, 0, none⟩ = some (.int .i64 t524) ∧ w'.cell? ⟨gb532, 1, none⟩ = some (.slice Ao66 t525.length co66) ∧ w'.cell? ⟨gb533, 0, none⟩ = some (.int .i64 t528) ∧ w'.cell? ⟨gb533, 1, none⟩ = some (.slice Ao74 t529.length co74)) (ds := []) #[false, false, false, false, false, false, false, false, false, false, false, false, false, false, false, false, false, false, false, false, false, false, false, false, false, false, false, false, false, false, false, false, false, false, false] (by kernel_rfl) rfl rfl ⟨(blk_cell BK532.out 0).trans rfl, (blk_cell BK532.out 1).trans rfl, (blk_cell BK533.out 0).trans rfl, (blk_cell BK533.out 1).trans rfl⟩ (fun hHeld => ?_); refine with_tabW laws_FnFactFormat.tab15 laws_FnFactFormat.bits15 (fun HT_ HW_ => ?_)
            generalize w251.drew = w252 at HO_15 HO_488001 HO_495001 HO_505001 HO_511001 HO_520001 HO_521001 HO_533001 HO_534001 BK487 BK494 BK504 BK510 BK519 BK520 BK532 BK533 HB hHeld ⊢
            refine pU 0 112 ?_
            refine pU 1 113 ?_
            refine tU4 2 114 hHeld ?_
            refine tU4 3 115 hHeld ?_
            refine oU 4 116 (fun K hK => ?_)
            refine goes_ Tryd.func24 (by kernel_rfl) rfl #[.slice Ao250 t521.length co250, .agg #[.int .i64 t524, .slice Ao66 t525.length co66], .agg #[.int .i64 t528, .slice Ao74 t529.length co74]] (by rfl) rfl rfl aA ?_
            with_reducible refine (spec_HaveSameKey.calls kj209 _ _ t521 t524 _ _ t525 t528 _ _ t529 t543 _ ?side1 ?side2 ?side3 ?side4 ?side5 ?side6 A226.out).mono ?_
            (case side1 => repeat (first | exact (Kd.R_reads' HO_15.out).2.2 | (with_reducible refine pC ?_)))
            (case side2 => exact (Kd.R_reads' HO_15.out).2.1)
            (case side3 => repeat (first | exact (Kd.R_reads' HO_533001.out).2.2 | (with_reducible refine pC ?_)))
            (case side4 => exact (Kd.R_reads' HO_533001.out).2.1)
            (case side5 => repeat (first | exact (Kd.R_reads' HO_534001.out).2.2 | (with_reducible refine pC ?_)))
            (case side6 => exact (Kd.R_reads' HO_534001.out).2.1)
            rintro e w253 ⟨rfl, hb⟩
            refine ⟨_, rfl, ?_⟩
            have n0_ := aM (Kd.R_below (aR HO_15) hb)
            have n1_ := aM (Kd.R_below (aR HO_488001) hb)
            have n2_ := aM (Kd.R_below (aR HO_495001) hb)
            have n3_ := aM (Kd.R_below (aR HO_505001) hb)
            have n4_ := aM (Kd.R_below (aR HO_511001) hb)
            have n5_ := aM (Kd.R_below (aR HO_520001) hb)
            have n6_ := aM (Kd.R_below (aR HO_521001) hb)
            have n7_ := aM (Kd.R_below (aR HO_533001) hb)
            have n8_ := aM (Kd.R_below (aR HO_534001) hb)
            have n9_ := aM (kB gb487 #[.int .i64 t483, .slice Ao16 t484.length co16] 39 hb)
            have n10_ := aM (kB gb494 #[.int .i64 t489, .slice Ao23 t490.length co23] 39 hb)
            have n11_ := aM (kB gb504 #[.int .i64 t499, .slice Ao31 t500.length co31] 39 hb)
            have n12_ := aM (kB gb510 #[.int .i64 t505, .slice Ao38 t506.length co38] 39 hb)
            have n13_ := aM (kB gb519 #[.int .i64 t511, .slice Ao48 t512.length co48] 39 hb)
            have n14_ := aM (kB gb520 #[.int .i64 t515, .slice Ao54 t516.length co54] 39 hb)
            have n15_ := aM (kB gb532 #[.int .i64 t524, .slice Ao66 t525.length co66] 39 hb)
            have n16_ := aM (kB gb533 #[.int .i64 t528, .slice Ao74 t529.length co74] 39 hb)
            have n17_ := aM (below_step aG hb)
            clear HO_15
            clear HO_488001
            clear HO_495001
            clear HO_505001
            clear HO_511001
            clear HO_520001
            clear HO_521001
            clear HO_533001
            clear HO_534001
            clear BK487
            clear BK494
            clear BK504
            clear BK510
            clear BK519
            clear BK520
            clear BK532
            clear BK533
            clear HB
            have HO_15 := n0_
            have HO_488001 := n1_
            have HO_495001 := n2_
            have HO_505001 := n3_
            have HO_511001 := n4_
            have HO_520001 := n5_
            have HO_521001 := n6_
            have HO_533001 := n7_
            have HO_534001 := n8_
            have BK487 := n9_
            have BK494 := n10_
            have BK504 := n11_
            have BK510 := n12_
            have BK519 := n13_
            have BK520 := n14_
            have BK532 := n15_
            have BK533 := n16_
            have HB := n17_
            clear n0_ n1_ n2_ n3_ n4_ n5_ n6_ n7_ n8_ n9_ n10_ n11_ n12_ n13_ n14_ n15_ n16_ n17_
            (try clear hb)
            (try clear hb2)
            (try clear hk)
            (try clear hi)
            refine hK.out _ _ ⟨(blk_cell BK532.out 0).trans rfl, (blk_cell BK532.out 1).trans rfl, (blk_cell BK533.out 0).trans rfl, (blk_cell BK533.out 1).trans rfl⟩ (fun hHeld => ?_)
            clear hK K
            refine nU 116 ?_
            refine pU 5 117 ?_
            refine pU 6 118 ?_
            refine pU 7 119 ?_
            refine pU 8 120 ?_
            refine tU4 9 121 hHeld ?_
            refine tU4 10 122 hHeld ?_
            refine oU 11 123 (fun K hK => ?_)
            refine goes_ Tryd.func23 (by kernel_rfl) rfl #[.slice Ao250 t521.length co250, .agg #[.int .i64 t528, .slice Ao74 t529.length co74], .agg #[.int .i64 t524, .slice Ao66 t525.length co66]] (by rfl) rfl rfl aA ?_
            with_reducible refine (impl_HaveSameKey.calls _ _ t521 t528 _ _ t529 t524 _ _ t525 t544 _ ?side1 ?side2 ?side3 ?side4 ?side5 ?side6 A228.out).mono ?_
            (case side1 => repeat (first | exact (Kd.R_reads' HO_15.out).2.2 | (with_reducible refine pC ?_)))
            (case side2 => exact (Kd.R_reads' HO_15.out).2.1)
            (case side3 => repeat (first | exact (Kd.R_reads' HO_534001.out).2.2 | (with_reducible refine pC ?_)))
            (case side4 => exact (Kd.R_reads' HO_534001.out).2.1)
            (case side5 => repeat (first | exact (Kd.R_reads' HO_533001.out).2.2 | (with_reducible refine pC ?_)))
            (case side6 => exact (Kd.R_reads' HO_533001.out).2.1)
            rintro e w254 ⟨rfl, hb⟩
            refine ⟨_, rfl, ?_⟩
            have n0_ := aM (Kd.R_below (aR HO_15) hb)
            have n1_ := aM (Kd.R_below (aR HO_488001) hb)
            have n2_ := aM (Kd.R_below (aR HO_495001) hb)
            have n3_ := aM (Kd.R_below (aR HO_505001) hb)
            have n4_ := aM (Kd.R_below (aR HO_511001) hb)
            have n5_ := aM (Kd.R_below (aR HO_520001) hb)
            have n6_ := aM (Kd.R_below (aR HO_521001) hb)
            have n7_ := aM (Kd.R_below (aR HO_533001) hb)
            have n8_ := aM (Kd.R_below (aR HO_534001) hb)
            have n9_ := aM (kB gb487 #[.int .i64 t483, .slice Ao16 t484.length co16] 39 hb)
            have n10_ := aM (kB gb494 #[.int .i64 t489, .slice Ao23 t490.length co23] 39 hb)
            have n11_ := aM (kB gb504 #[.int .i64 t499, .slice Ao31 t500.length co31] 39 hb)
            have n12_ := aM (kB gb510 #[.int .i64 t505, .slice Ao38 t506.length co38] 39 hb)
            have n13_ := aM (kB gb519 #[.int .i64 t511, .slice Ao48 t512.length co48] 39 hb)
            have n14_ := aM (kB gb520 #[.int .i64 t515, .slice Ao54 t516.length co54] 39 hb)
            have n15_ := aM (kB gb532 #[.int .i64 t524, .slice Ao66 t525.length co66] 39 hb)
            have n16_ := aM (kB gb533 #[.int .i64 t528, .slice Ao74 t529.length co74] 39 hb)
            have n17_ := aM (below_step aG hb)
            clear HO_15
            clear HO_488001
            clear HO_495001
            clear HO_505001
            clear HO_511001
            clear HO_520001
            clear HO_521001
            clear HO_533001
            clear HO_534001
            clear BK487
            clear BK494
            clear BK504
            clear BK510
            clear BK519
            clear BK520
            clear BK532
            clear BK533
            clear HB
            have HO_15 := n0_
            have HO_488001 := n1_
            have HO_495001 := n2_
            have HO_505001 := n3_
            have HO_511001 := n4_
            have HO_520001 := n5_
            have HO_521001 := n6_
            have HO_533001 := n7_
            have HO_534001 := n8_
            have BK487 := n9_
            have BK494 := n10_
            have BK504 := n11_
            have BK510 := n12_
            have BK519 := n13_
            have BK520 := n14_
            have BK532 := n15_
            have BK533 := n16_
            have HB := n17_
            clear n0_ n1_ n2_ n3_ n4_ n5_ n6_ n7_ n8_ n9_ n10_ n11_ n12_ n13_ n14_ n15_ n16_ n17_
            (try clear hb)
            (try clear hb2)
            (try clear hk)
            (try clear hi)
            refine hK.out _ _ ⟨(blk_cell BK532.out 0).trans rfl, (blk_cell BK532.out 1).trans rfl, (blk_cell BK533.out 0).trans rfl, (blk_cell BK533.out 1).trans rfl⟩ (fun hHeld => ?_)
            clear hK K
            refine nU 123 ?_
            refine pU 12 124 ?_
            refine pU 13 125 ?_
            refine pU 14 126 ?_
            refine pU 15 127 ?_
            refine pU 16 128 ?_
            refine pU 17 129 ?_
            refine pU 18 130 ?_
            refine pU 20 132 ?_
            refine tU4 19 131 hHeld ?_
            refine tU4 21 133 hHeld ?_
            refine pU 22 134 ?_
            refine pU 23 135 ?_
            refine pU 24 136 ?_
            refine pU 27 139 ?_
            refine tU4 25 137 hHeld ?_
            refine tU4 28 140 hHeld ?_
            refine oU 26 138 (fun K hK => ?_)
            refine goes_ Tryd.func26 (by kernel_rfl) rfl #[.slice Ao250 t521.length co250, .agg #[.int .i64 t524, .slice Ao66 t525.length co66]] (by rfl) rfl rfl aA ?_
            with_reducible refine (impl_KeyOf.calls _ _ t521 t524 _ _ t525 t545 _ ?side1 ?side2 ?side3 ?side4 A232.out).mono ?_
            (case side1 => repeat (first | exact (Kd.R_reads' HO_15.out).2.2 | (with_reducible refine pC ?_)))
            (case side2 => exact (Kd.R_reads' HO_15.out).2.1)
            (case side3 => repeat (first | exact (Kd.R_reads' HO_533001.out).2.2 | (with_reducible refine pC ?_)))
            (case side4 => exact (Kd.R_reads' HO_533001.out).2.1)
            rintro e w255 ⟨v546, rfl, ho0, hb⟩
            refine ⟨_, rfl, ?_⟩
            have n0_ := aM (Kd.R_below (aR HO_15) hb)
            have n1_ := aM (Kd.R_elder' (aR HO_488001) (Kd.R_base ho0) hb)
            have n2_ := aM (Kd.R_elder' (aR HO_495001) (Kd.R_base ho0) hb)
            have n3_ := aM (Kd.R_elder' (aR HO_505001) (Kd.R_base ho0) hb)
            have n4_ := aM (Kd.R_elder' (aR HO_511001) (Kd.R_base ho0) hb)
            have n5_ := aM (Kd.R_elder' (aR HO_520001) (Kd.R_base ho0) hb)
            have n6_ := aM (Kd.R_elder' (aR HO_521001) (Kd.R_base ho0) hb)
            have n7_ := aM (Kd.R_elder' (aR HO_533001) (Kd.R_base ho0) hb)
            have n8_ := aM (Kd.R_elder' (aR HO_534001) (Kd.R_base ho0) hb)
            have n9_ := aM (Kd.R_lower (Kd.R_new' (Kd.R_new' (Kd.R_new' (Kd.R_new' (Kd.R_new' (Kd.R_new' (Kd.R_new' (Kd.R_new' ho0 (Kd.R_lt (aR HO_488001))) (Kd.R_lt (aR HO_495001))) (Kd.R_lt (aR HO_505001))) (Kd.R_lt (aR HO_511001))) (Kd.R_lt (aR HO_520001))) (Kd.R_lt (aR HO_521001))) (Kd.R_lt (aR HO_533001))) (Kd.R_lt (aR HO_534001))) (below_size aG))
            have n10_ := aM (kB gb487 #[.int .i64 t483, .slice Ao16 t484.length co16] 39 hb)
            have n11_ := aM (kB gb494 #[.int .i64 t489, .slice Ao23 t490.length co23] 39 hb)
            have n12_ := aM (kB gb504 #[.int .i64 t499, .slice Ao31 t500.length co31] 39 hb)
            have n13_ := aM (kB gb510 #[.int .i64 t505, .slice Ao38 t506.length co38] 39 hb)
            have n14_ := aM (kB gb519 #[.int .i64 t511, .slice Ao48 t512.length co48] 39 hb)
            have n15_ := aM (kB gb520 #[.int .i64 t515, .slice Ao54 t516.length co54] 39 hb)
            have n16_ := aM (kB gb532 #[.int .i64 t524, .slice Ao66 t525.length co66] 39 hb)
            have n17_ := aM (kB gb533 #[.int .i64 t528, .slice Ao74 t529.length co74] 39 hb)
            have n18_ := aM (below_step aG hb)
            clear HO_15
            clear HO_488001
            clear HO_495001
            clear HO_505001
            clear HO_511001
            clear HO_520001
            clear HO_521001
            clear HO_533001
            clear HO_534001
            clear BK487
            clear BK494
            clear BK504
            clear BK510
            clear BK519
            clear BK520
            clear BK532
            clear BK533
            clear HB
            have HO_15 := n0_
            have HO_488001 := n1_
            have HO_495001 := n2_
            have HO_505001 := n3_
            have HO_511001 := n4_
            have HO_520001 := n5_
            have HO_521001 := n6_
            have HO_533001 := n7_
            have HO_534001 := n8_
            have HO547 := n9_
            have BK487 := n10_
            have BK494 := n11_
            have BK504 := n12_
            have BK510 := n13_
            have BK519 := n14_
            have BK520 := n15_
            have BK532 := n16_
            have BK533 := n17_
            have HB := n18_
            clear n0_ n1_ n2_ n3_ n4_ n5_ n6_ n7_ n8_ n9_ n10_ n11_ n12_ n13_ n14_ n15_ n16_ n17_ n18_
            (try clear hb)
            (try clear hb2)
            (try clear hk)
            (try clear hi)
            (try clear ho0)
            refine hK.out _ _ ⟨(blk_cell BK532.out 0).trans rfl, (blk_cell BK532.out 1).trans rfl, (blk_cell BK533.out 0).trans rfl, (blk_cell BK533.out 1).trans rfl⟩ (fun hHeld => ?_)
            clear hK K
            refine nU 138 ?_
            refine oU 29 141 (fun K hK => ?_)
            refine goes_ Tryd.func26 (by kernel_rfl) rfl #[.slice Ao250 t521.length co250, .agg #[.int .i64 t528, .slice Ao74 t529.length co74]] (by rfl) rfl rfl aA ?_
            with_reducible refine (impl_KeyOf.calls _ _ t521 t528 _ _ t529 t548 _ ?side1 ?side2 ?side3 ?side4 A233.out).mono ?_
            (case side1 => repeat (first | exact (Kd.R_reads' HO_15.out).2.2 | (with_reducible refine pC ?_)))
            (case side2 => exact (Kd.R_reads' HO_15.out).2.1)
            (case side3 => repeat (first | exact (Kd.R_reads' HO_534001.out).2.2 | (with_reducible refine pC ?_)))
            (case side4 => exact (Kd.R_reads' HO_534001.out).2.1)
            rintro e w256 ⟨v549, rfl, ho0, hb⟩
            refine ⟨_, rfl, ?_⟩
            have n0_ := aM (Kd.R_below (aR HO_15) hb)
            have n1_ := aM (Kd.R_elder' (aR HO_488001) (Kd.R_base ho0) hb)
            have n2_ := aM (Kd.R_elder' (aR HO_495001) (Kd.R_base ho0) hb)
            have n3_ := aM (Kd.R_elder' (aR HO_505001) (Kd.R_base ho0) hb)
            have n4_ := aM (Kd.R_elder' (aR HO_511001) (Kd.R_base ho0) hb)
            have n5_ := aM (Kd.R_elder' (aR HO_520001) (Kd.R_base ho0) hb)
            have n6_ := aM (Kd.R_elder' (aR HO_521001) (Kd.R_base ho0) hb)
            have n7_ := aM (Kd.R_elder' (aR HO_533001) (Kd.R_base ho0) hb)
            have n8_ := aM (Kd.R_elder' (aR HO_534001) (Kd.R_base ho0) hb)
            have n9_ := aM (Kd.R_elder' (aR HO547) (Kd.R_base ho0) hb)
            have n10_ := aM (Kd.R_lower (Kd.R_new' (Kd.R_new' (Kd.R_new' (Kd.R_new' (Kd.R_new' (Kd.R_new' (Kd.R_new' (Kd.R_new' (Kd.R_new' ho0 (Kd.R_lt (aR HO_488001))) (Kd.R_lt (aR HO_495001))) (Kd.R_lt (aR HO_505001))) (Kd.R_lt (aR HO_511001))) (Kd.R_lt (aR HO_520001))) (Kd.R_lt (aR HO_521001))) (Kd.R_lt (aR HO_533001))) (Kd.R_lt (aR HO_534001))) (Kd.R_lt (aR HO547))) (below_size aG))
            have n11_ := aM (kB gb487 #[.int .i64 t483, .slice Ao16 t484.length co16] 39 hb)
            have n12_ := aM (kB gb494 #[.int .i64 t489, .slice Ao23 t490.length co23] 39 hb)
            have n13_ := aM (kB gb504 #[.int .i64 t499, .slice Ao31 t500.length co31] 39 hb)
            have n14_ := aM (kB gb510 #[.int .i64 t505, .slice Ao38 t506.length co38] 39 hb)
            have n15_ := aM (kB gb519 #[.int .i64 t511, .slice Ao48 t512.length co48] 39 hb)
            have n16_ := aM (kB gb520 #[.int .i64 t515, .slice Ao54 t516.length co54] 39 hb)
            have n17_ := aM (kB gb532 #[.int .i64 t524, .slice Ao66 t525.length co66] 39 hb)
            have n18_ := aM (kB gb533 #[.int .i64 t528, .slice Ao74 t529.length co74] 39 hb)
            have n19_ := aM (below_step aG hb)
            clear HO_15
            clear HO_488001
            clear HO_495001
            clear HO_505001
            clear HO_511001
            clear HO_520001
            clear HO_521001
            clear HO_533001
            clear HO_534001
            clear HO547
            clear BK487
            clear BK494
            clear BK504
            clear BK510
            clear BK519
            clear BK520
            clear BK532
            clear BK533
            clear HB
            have HO_15 := n0_
            have HO_488001 := n1_
            have HO_495001 := n2_
            have HO_505001 := n3_
            have HO_511001 := n4_
            have HO_520001 := n5_
            have HO_521001 := n6_
            have HO_533001 := n7_
            have HO_534001 := n8_
            have HO547 := n9_
            have HO550 := n10_
            have BK487 := n11_
            have BK494 := n12_
            have BK504 := n13_
            have BK510 := n14_
            have BK519 := n15_
            have BK520 := n16_
            have BK532 := n17_
            have BK533 := n18_
            have HB := n19_
            clear n0_ n1_ n2_ n3_ n4_ n5_ n6_ n7_ n8_ n9_ n10_ n11_ n12_ n13_ n14_ n15_ n16_ n17_ n18_ n19_
            (try clear hb)
            (try clear hb2)
            (try clear hk)
            (try clear hi)
            (try clear ho0)
            obtain ⟨Ao257, co257, eo257⟩ := Kd.R_slice HO547.out
            (first | subst eo257 | (injection eo257 with f1_ f2_ f3_; have f4_ := f1_.symm; have f5_ := f3_.symm; clear f1_ f2_ f3_; subst f4_; subst f5_))
            obtain ⟨Ao258, co258, eo258⟩ := Kd.R_slice HO550.out
            (first | subst eo258 | (injection eo258 with f1_ f2_ f3_; have f4_ := f1_.symm; have f5_ := f3_.symm; clear f1_ f2_ f3_; subst f4_; subst f5_))
            refine hK.out _ _ ⟨(blk_cell BK532.out 0).trans rfl, (blk_cell BK532.out 1).trans rfl, (blk_cell BK533.out 0).trans rfl, (blk_cell BK533.out 1).trans rfl⟩ (fun hHeld => ?_)
            clear hK K
            refine nU 141 ?_
            refine oU 30 142 (fun K hK => ?_)
            refine goes_ Tryd.func25 (by kernel_rfl) rfl #[.slice Ao257 t545.length co257, .slice Ao258 t548.length co258] (by rfl) rfl rfl aA ?_
            with_reducible refine (laws_sameInts.calls kj209 _ _ t545 _ _ t548 t551 _ ?side1 ?side2 ?side3 ?side4 A234.out).mono ?_
            (case side1 => repeat (first | exact (Kd.R_reads' HO547.out).2.2 | (with_reducible refine pC ?_)))
            (case side2 => exact (Kd.R_reads' HO547.out).2.1)
            (case side3 => repeat (first | exact (Kd.R_reads' HO550.out).2.2 | (with_reducible refine pC ?_)))
            (case side4 => exact (Kd.R_reads' HO550.out).2.1)
            rintro e w' ⟨rfl, ⟨nd, rfl⟩⟩
            refine ⟨_, rfl, ?_⟩
            refine hK.out _ _ ⟨(blk_cell BK532.out 0).trans rfl, (blk_cell BK532.out 1).trans rfl, (blk_cell BK533.out 0).trans rfl, (blk_cell BK533.out 1).trans rfl⟩ (fun hHeld => ?_)
            clear hK K
            refine nU 142 ?_
            refine pU 31 143 ?_
            refine pU 32 144 ?_
            refine pU 33 145 ?_
            refine pU 34 2 ?_
            refine done_ (done_of HT_.out (by kernel_rfl)) ?_
            try go_wp2
            go_ret
            exact ⟨aE, aG⟩
           ·rw [if_neg c231] at H
            have c231b0 : (t524 == t528) = false := beq_eq_false_iff_ne.mpr c231
            have c231b1 : (t524 != t528) = true := bne_iff_ne.mpr c231
            exact absurd (Option.some.inj (H.trans (congrArg some HRT_.out))) (by decide)
          ·replace c230 := Bool.eq_false_iff.mpr c230
           subst c230
           have H1 : (some true) = some r := by rw [if_neg (show ¬ (false = true) by decide)] at H; exact H
           clear H
           have H := H1
           clear H1
           obtain rfl := Option.some.inj H
           have hnb259 := NB532_487.out
           have hnc259 := NB487_532.out
           have hnb260 := NB532_494.out
           have hnc260 := NB494_532.out
           have hnb261 := NB532_504.out
           have hnc261 := NB504_532.out
           have hnb262 := NB532_510.out
           have hnc262 := NB510_532.out
           have hnb263 := NB532_519.out
           have hnc263 := NB519_532.out
           have hnb264 := NB532_520.out
           have hnc264 := NB520_532.out
           have hnb265 := NB532_533.out
           have hnc265 := NB533_532.out
           have hcz266_0 : wc.cell? ⟨gb532, 0, none⟩ = some (.int .i64 t524) := (blk_cell BK532.out 0).trans rfl
           have hcz266_1 : wc.cell? ⟨gb532, 1, none⟩ = some (.slice Ao66 t525.length co66) := (blk_cell BK532.out 1).trans rfl
           have hfz266_0 := blk_frozen BK532.out 0
           have hfz266_1 := blk_frozen BK532.out 1
           have hnb267 := NB533_487.out
           have hnc267 := NB487_533.out
           have hnb268 := NB533_494.out
           have hnc268 := NB494_533.out
           have hnb269 := NB533_504.out
           have hnc269 := NB504_533.out
           have hnb270 := NB533_510.out
           have hnc270 := NB510_533.out
           have hnb271 := NB533_519.out
           have hnc271 := NB519_533.out
           have hnb272 := NB533_520.out
           have hnc272 := NB520_533.out
           have hcz273_0 : wc.cell? ⟨gb533, 0, none⟩ = some (.int .i64 t528) := (blk_cell BK533.out 0).trans rfl
           have hcz273_1 : wc.cell? ⟨gb533, 1, none⟩ = some (.slice Ao74 t529.length co74) := (blk_cell BK533.out 1).trans rfl
           have hfz273_0 := blk_frozen BK533.out 0
           have hfz273_1 := blk_frozen BK533.out 1
           obtain ⟨Ao274, co274, eo274⟩ := Kd.R_slice HO_15.out
           subst eo274
           try go_wp2_with (first | ((with_reducible refine gate_callee (f := 23) rfl ?_); refine goesL_ (some 111) rfl rfl Tryd.func23 (by kernel_rfl) rfl #[.slice Ao274 t521.length co274, .agg #[.int .i64 t524, .slice Ao66 t525.length co66], .agg #[.int .i64 t528, .slice Ao74 t529.length co74]] rfl aA ?_; (with_reducible refine (impl_HaveSameKey.calls _ _ t521 t524 _ _ t525 t528 _ _ t529 false _ ?side1 ?side2 ?side3 ?side4 ?side5 ?side6 A225.out).mono ?_); (case side1 => repeat (first | exact (Kd.R_reads' HO_15.out).2.2 | (with_reducible refine pC ?_))); (case side2 => exact (Kd.R_reads' HO_15.out).2.1); (case side3 => repeat (first | exact (Kd.R_reads' HO_533001.out).2.2 | (with_reducible refine pC ?_))); (case side4 => exact (Kd.R_reads' HO_533001.out).2.1); (case side5 => repeat (first | exact (Kd.R_reads' HO_534001.out).2.2 | (with_reducible refine pC ?_))); (case side6 => exact (Kd.R_reads' HO_534001.out).2.1); rintro e w275 ⟨rfl, hb⟩; refine ⟨_, rfl, ?_⟩; have n0_ := aM (Kd.R_below (aR HO_15) hb); have n1_ := aM (Kd.R_below (aR HO_488001) hb); have n2_ := aM (Kd.R_below (aR HO_495001) hb); have n3_ := aM (Kd.R_below (aR HO_505001) hb); have n4_ := aM (Kd.R_below (aR HO_511001) hb); have n5_ := aM (Kd.R_below (aR HO_520001) hb); have n6_ := aM (Kd.R_below (aR HO_521001) hb); have n7_ := aM (Kd.R_below (aR HO_533001) hb); have n8_ := aM (Kd.R_below (aR HO_534001) hb); have n9_ := aM (kB gb487 #[.int .i64 t483, .slice Ao16 t484.length co16] 39 hb); have n10_ := aM (kB gb494 #[.int .i64 t489, .slice Ao23 t490.length co23] 39 hb); have n11_ := aM (kB gb504 #[.int .i64 t499, .slice Ao31 t500.length co31] 39 hb); have n12_ := aM (kB gb510 #[.int .i64 t505, .slice Ao38 t506.length co38] 39 hb); have n13_ := aM (kB gb519 #[.int .i64 t511, .slice Ao48 t512.length co48] 39 hb); have n14_ := aM (kB gb520 #[.int .i64 t515, .slice Ao54 t516.length co54] 39 hb); have n15_ := aM (kB gb532 #[.int .i64 t524, .slice Ao66 t525.length co66] 39 hb); have n16_ := aM (kB gb533 #[.int .i64 t528, .slice Ao74 t529.length co74] 39 hb); have n17_ := aM (below_step aG hb); clear HO_15; clear HO_488001; clear HO_495001; clear HO_505001; clear HO_511001; clear HO_520001; clear HO_521001; clear HO_533001; clear HO_534001; clear BK487; clear BK494; clear BK504; clear BK510; clear BK519; clear BK520; clear BK532; clear BK533; clear HB; have HO_15 := n0_; have HO_488001 := n1_; have HO_495001 := n2_; have HO_505001 := n3_; have HO_511001 := n4_; have HO_520001 := n5_; have HO_521001 := n6_; have HO_533001 := n7_; have HO_534001 := n8_; have BK487 := n9_; have BK494 := n10_; have BK504 := n11_; have BK510 := n12_; have BK519 := n13_; have BK520 := n14_; have BK532 := n15_; have BK533 := n16_; have HB := n17_; clear n0_ n1_ n2_ n3_ n4_ n5_ n6_ n7_ n8_ n9_ n10_ n11_ n12_ n13_ n14_ n15_ n16_ n17_; (try clear hb); (try clear hb2); (try clear hk); (try clear hi)))
           replace HO_15 := aM (Kd.R_drew HO_15.out)
           replace HO_488001 := aM (Kd.R_drew HO_488001.out)
           replace HO_495001 := aM (Kd.R_drew HO_495001.out)
           replace HO_505001 := aM (Kd.R_drew HO_505001.out)
           replace HO_511001 := aM (Kd.R_drew HO_511001.out)
           replace HO_520001 := aM (Kd.R_drew HO_520001.out)
           replace HO_521001 := aM (Kd.R_drew HO_521001.out)
           replace HO_533001 := aM (Kd.R_drew HO_533001.out)
           replace HO_534001 := aM (Kd.R_drew HO_534001.out)
           replace BK487 := aM (blk_drew BK487.out)
           replace BK494 := aM (blk_drew BK494.out)
           replace BK504 := aM (blk_drew BK504.out)
           replace BK510 := aM (blk_drew BK510.out)
           replace BK519 := aM (blk_drew BK519.out)
           replace BK520 := aM (blk_drew BK520.out)
           replace BK532 := aM (blk_drew BK532.out)
           replace BK533 := aM (blk_drew BK533.out)
           replace HB := aM (below_drew1 HB.out)
           refine start_ (n := 35) (S := fun w' => w'.cell? ⟨gb532, 0, none⟩ = some (.int .i64 t524) ∧ w'.cell? ⟨gb532, 1, none⟩ = some (.slice Ao66 t525.length co66) ∧ w'.cell? ⟨gb533, 0, none⟩ = some (.int .i64 t528) ∧ w'.cell? ⟨gb533, 1, none⟩ = some (.slice Ao74 t529.length co74)) (ds := []) #[false, false, false, false, false, false, false, false, false, false, false, false, false, false, false, false, false, false, false, false, false, false, false, false, false, false, false, false, false, false, false, false, false, false, false] (by kernel_rfl) rfl rfl ⟨(blk_cell BK532.out 0).trans rfl, (blk_cell BK532.out 1).trans rfl, (blk_cell BK533.out 0).trans rfl, (blk_cell BK533.out 1).trans rfl⟩ (fun hHeld => ?_); refine with_tabW laws_FnFactFormat.tab15 laws_FnFactFormat.bits15 (fun HT_ HW_ => ?_)
           generalize w275.drew = w276 at HO_15 HO_488001 HO_495001 HO_505001 HO_511001 HO_520001 HO_521001 HO_533001 HO_534001 BK487 BK494 BK504 BK510 BK519 BK520 BK532 BK533 HB hHeld ⊢
           refine pU 0 112 ?_
           refine pU 1 113 ?_
           refine tU4 2 114 hHeld ?_
           refine tU4 3 115 hHeld ?_
           refine oU 4 116 (fun K hK => ?_)
           refine goes_ Tryd.func24 (by kernel_rfl) rfl #[.slice Ao274 t521.length co274, .agg #[.int .i64 t524, .slice Ao66 t525.length co66], .agg #[.int .i64 t528, .slice Ao74 t529.length co74]] (by rfl) rfl rfl aA ?_
           with_reducible refine (spec_HaveSameKey.calls kj209 _ _ t521 t524 _ _ t525 t528 _ _ t529 t543 _ ?side1 ?side2 ?side3 ?side4 ?side5 ?side6 A226.out).mono ?_
           (case side1 => repeat (first | exact (Kd.R_reads' HO_15.out).2.2 | (with_reducible refine pC ?_)))
           (case side2 => exact (Kd.R_reads' HO_15.out).2.1)
           (case side3 => repeat (first | exact (Kd.R_reads' HO_533001.out).2.2 | (with_reducible refine pC ?_)))
           (case side4 => exact (Kd.R_reads' HO_533001.out).2.1)
           (case side5 => repeat (first | exact (Kd.R_reads' HO_534001.out).2.2 | (with_reducible refine pC ?_)))
           (case side6 => exact (Kd.R_reads' HO_534001.out).2.1)
           rintro e w277 ⟨rfl, hb⟩
           refine ⟨_, rfl, ?_⟩
           have n0_ := aM (Kd.R_below (aR HO_15) hb)
           have n1_ := aM (Kd.R_below (aR HO_488001) hb)
           have n2_ := aM (Kd.R_below (aR HO_495001) hb)
           have n3_ := aM (Kd.R_below (aR HO_505001) hb)
           have n4_ := aM (Kd.R_below (aR HO_511001) hb)
           have n5_ := aM (Kd.R_below (aR HO_520001) hb)
           have n6_ := aM (Kd.R_below (aR HO_521001) hb)
           have n7_ := aM (Kd.R_below (aR HO_533001) hb)
           have n8_ := aM (Kd.R_below (aR HO_534001) hb)
           have n9_ := aM (kB gb487 #[.int .i64 t483, .slice Ao16 t484.length co16] 39 hb)
           have n10_ := aM (kB gb494 #[.int .i64 t489, .slice Ao23 t490.length co23] 39 hb)
           have n11_ := aM (kB gb504 #[.int .i64 t499, .slice Ao31 t500.length co31] 39 hb)
           have n12_ := aM (kB gb510 #[.int .i64 t505, .slice Ao38 t506.length co38] 39 hb)
           have n13_ := aM (kB gb519 #[.int .i64 t511, .slice Ao48 t512.length co48] 39 hb)
           have n14_ := aM (kB gb520 #[.int .i64 t515, .slice Ao54 t516.length co54] 39 hb)
           have n15_ := aM (kB gb532 #[.int .i64 t524, .slice Ao66 t525.length co66] 39 hb)
           have n16_ := aM (kB gb533 #[.int .i64 t528, .slice Ao74 t529.length co74] 39 hb)
           have n17_ := aM (below_step aG hb)
           clear HO_15
           clear HO_488001
           clear HO_495001
           clear HO_505001
           clear HO_511001
           clear HO_520001
           clear HO_521001
           clear HO_533001
           clear HO_534001
           clear BK487
           clear BK494
           clear BK504
           clear BK510
           clear BK519
           clear BK520
           clear BK532
           clear BK533
           clear HB
           have HO_15 := n0_
           have HO_488001 := n1_
           have HO_495001 := n2_
           have HO_505001 := n3_
           have HO_511001 := n4_
           have HO_520001 := n5_
           have HO_521001 := n6_
           have HO_533001 := n7_
           have HO_534001 := n8_
           have BK487 := n9_
           have BK494 := n10_
           have BK504 := n11_
           have BK510 := n12_
           have BK519 := n13_
           have BK520 := n14_
           have BK532 := n15_
           have BK533 := n16_
           have HB := n17_
           clear n0_ n1_ n2_ n3_ n4_ n5_ n6_ n7_ n8_ n9_ n10_ n11_ n12_ n13_ n14_ n15_ n16_ n17_
           (try clear hb)
           (try clear hb2)
           (try clear hk)
           (try clear hi)
           refine hK.out _ _ ⟨(blk_cell BK532.out 0).trans rfl, (blk_cell BK532.out 1).trans rfl, (blk_cell BK533.out 0).trans rfl, (blk_cell BK533.out 1).trans rfl⟩ (fun hHeld => ?_)
           clear hK K
           refine nU 116 ?_
           refine pU 5 117 ?_
           refine pU 6 118 ?_
           refine pU 7 119 ?_
           refine pU 8 120 ?_
           refine tU4 9 121 hHeld ?_
           refine tU4 10 122 hHeld ?_
           refine oU 11 123 (fun K hK => ?_)
           refine goes_ Tryd.func23 (by kernel_rfl) rfl #[.slice Ao274 t521.length co274, .agg #[.int .i64 t528, .slice Ao74 t529.length co74], .agg #[.int .i64 t524, .slice Ao66 t525.length co66]] (by rfl) rfl rfl aA ?_
           with_reducible refine (impl_HaveSameKey.calls _ _ t521 t528 _ _ t529 t524 _ _ t525 t544 _ ?side1 ?side2 ?side3 ?side4 ?side5 ?side6 A228.out).mono ?_
           (case side1 => repeat (first | exact (Kd.R_reads' HO_15.out).2.2 | (with_reducible refine pC ?_)))
           (case side2 => exact (Kd.R_reads' HO_15.out).2.1)
           (case side3 => repeat (first | exact (Kd.R_reads' HO_534001.out).2.2 | (with_reducible refine pC ?_)))
           (case side4 => exact (Kd.R_reads' HO_534001.out).2.1)
           (case side5 => repeat (first | exact (Kd.R_reads' HO_533001.out).2.2 | (with_reducible refine pC ?_)))
           (case side6 => exact (Kd.R_reads' HO_533001.out).2.1)
           rintro e w278 ⟨rfl, hb⟩
           refine ⟨_, rfl, ?_⟩
           have n0_ := aM (Kd.R_below (aR HO_15) hb)
           have n1_ := aM (Kd.R_below (aR HO_488001) hb)
           have n2_ := aM (Kd.R_below (aR HO_495001) hb)
           have n3_ := aM (Kd.R_below (aR HO_505001) hb)
           have n4_ := aM (Kd.R_below (aR HO_511001) hb)
           have n5_ := aM (Kd.R_below (aR HO_520001) hb)
           have n6_ := aM (Kd.R_below (aR HO_521001) hb)
           have n7_ := aM (Kd.R_below (aR HO_533001) hb)
           have n8_ := aM (Kd.R_below (aR HO_534001) hb)
           have n9_ := aM (kB gb487 #[.int .i64 t483, .slice Ao16 t484.length co16] 39 hb)
           have n10_ := aM (kB gb494 #[.int .i64 t489, .slice Ao23 t490.length co23] 39 hb)
           have n11_ := aM (kB gb504 #[.int .i64 t499, .slice Ao31 t500.length co31] 39 hb)
           have n12_ := aM (kB gb510 #[.int .i64 t505, .slice Ao38 t506.length co38] 39 hb)
           have n13_ := aM (kB gb519 #[.int .i64 t511, .slice Ao48 t512.length co48] 39 hb)
           have n14_ := aM (kB gb520 #[.int .i64 t515, .slice Ao54 t516.length co54] 39 hb)
           have n15_ := aM (kB gb532 #[.int .i64 t524, .slice Ao66 t525.length co66] 39 hb)
           have n16_ := aM (kB gb533 #[.int .i64 t528, .slice Ao74 t529.length co74] 39 hb)
           have n17_ := aM (below_step aG hb)
           clear HO_15
           clear HO_488001
           clear HO_495001
           clear HO_505001
           clear HO_511001
           clear HO_520001
           clear HO_521001
           clear HO_533001
           clear HO_534001
           clear BK487
           clear BK494
           clear BK504
           clear BK510
           clear BK519
           clear BK520
           clear BK532
           clear BK533
           clear HB
           have HO_15 := n0_
           have HO_488001 := n1_
           have HO_495001 := n2_
           have HO_505001 := n3_
           have HO_511001 := n4_
           have HO_520001 := n5_
           have HO_521001 := n6_
           have HO_533001 := n7_
           have HO_534001 := n8_
           have BK487 := n9_
           have BK494 := n10_
           have BK504 := n11_
           have BK510 := n12_
           have BK519 := n13_
           have BK520 := n14_
           have BK532 := n15_
           have BK533 := n16_
           have HB := n17_
           clear n0_ n1_ n2_ n3_ n4_ n5_ n6_ n7_ n8_ n9_ n10_ n11_ n12_ n13_ n14_ n15_ n16_ n17_
           (try clear hb)
           (try clear hb2)
           (try clear hk)
           (try clear hi)
           refine hK.out _ _ ⟨(blk_cell BK532.out 0).trans rfl, (blk_cell BK532.out 1).trans rfl, (blk_cell BK533.out 0).trans rfl, (blk_cell BK533.out 1).trans rfl⟩ (fun hHeld => ?_)
           clear hK K
           refine nU 123 ?_
           refine pU 12 124 ?_
           refine pU 13 125 ?_
           refine pU 14 126 ?_
           refine pU 15 127 ?_
           refine pU 16 128 ?_
           refine pU 17 129 ?_
           refine pure_ (i := 18) (N := some 130) (v := undef) (a' := ?_) #[true, true, true, true, true, true, true, true, true, true, true, true, true, true, true, true, true, true, true, false, false, false, false, false, false, false, false, false, false, false, false, false, false, false, false] rfl rfl (any_of HT_.out (by kernel_rfl)) (fun _ _ _ h => h) (Or.inr ⟨by rfl, rfl⟩) ?_ ?_
           rotate_left
           ·exact aP
           refine pure_ (i := 19) (N := some 131) (v := undef) (a' := ?_) #[true, true, true, true, true, true, true, true, true, true, true, true, true, true, true, true, true, true, true, true, false, false, false, false, false, false, false, false, false, false, false, false, false, false, false] rfl rfl (any_of HT_.out (by kernel_rfl)) (fun _ _ _ h => h) (Or.inr ⟨by rfl, rfl⟩) ?_ ?_
           rotate_left
           ·exact aP
           refine pure_ (i := 20) (N := some 132) (v := undef) (a' := ?_) #[true, true, true, true, true, true, true, true, true, true, true, true, true, true, true, true, true, true, true, true, true, false, false, false, false, false, false, false, false, false, false, false, false, false, false] rfl rfl (any_of HT_.out (by kernel_rfl)) (fun _ _ _ h => h) (Or.inr ⟨by rfl, rfl⟩) ?_ ?_
           rotate_left
           ·exact aP
           refine pure_ (i := 21) (N := some 133) (v := undef) (a' := ?_) #[true, true, true, true, true, true, true, true, true, true, true, true, true, true, true, true, true, true, true, true, true, true, false, false, false, false, false, false, false, false, false, false, false, false, false] rfl rfl (any_of HT_.out (by kernel_rfl)) (fun _ _ _ h => h) (Or.inr ⟨by rfl, rfl⟩) ?_ ?_
           rotate_left
           ·exact aP
           refine pure_ (i := 22) (N := some 134) (v := undef) (a' := ?_) #[true, true, true, true, true, true, true, true, true, true, true, true, true, true, true, true, true, true, true, true, true, true, true, false, false, false, false, false, false, false, false, false, false, false, false] rfl rfl (any_of HT_.out (by kernel_rfl)) (fun _ _ _ h => h) (Or.inr ⟨by rfl, rfl⟩) ?_ ?_
           rotate_left
           ·exact aP
           refine pure_ (i := 23) (N := some 135) (v := undef) (a' := ?_) #[true, true, true, true, true, true, true, true, true, true, true, true, true, true, true, true, true, true, true, true, true, true, true, true, false, false, false, false, false, false, false, false, false, false, false] rfl rfl (any_of HT_.out (by kernel_rfl)) (fun _ _ _ h => h) (Or.inr ⟨by rfl, rfl⟩) ?_ ?_
           rotate_left
           ·exact aP
           refine pure_ (i := 24) (N := some 136) (v := undef) (a' := ?_) #[true, true, true, true, true, true, true, true, true, true, true, true, true, true, true, true, true, true, true, true, true, true, true, true, true, false, false, false, false, false, false, false, false, false, false] rfl rfl (any_of HT_.out (by kernel_rfl)) (fun _ _ _ h => h) (Or.inr ⟨by rfl, rfl⟩) ?_ ?_
           rotate_left
           ·exact aP
           refine pure_ (i := 25) (N := some 137) (v := undef) (a' := ?_) #[true, true, true, true, true, true, true, true, true, true, true, true, true, true, true, true, true, true, true, true, true, true, true, true, true, true, false, false, false, false, false, false, false, false, false] rfl rfl (any_of HT_.out (by kernel_rfl)) (fun _ _ _ h => h) (Or.inr ⟨by rfl, rfl⟩) ?_ ?_
           rotate_left
           ·exact aP
           refine pure_ (i := 26) (N := some 138) (v := undef) (a' := ?_) #[true, true, true, true, true, true, true, true, true, true, true, true, true, true, true, true, true, true, true, true, true, true, true, true, true, true, true, false, false, false, false, false, false, false, false] rfl rfl (any_of HT_.out (by kernel_rfl)) (fun _ _ _ h => h) (Or.inr ⟨by rfl, rfl⟩) ?_ ?_
           rotate_left
           ·exact aP
           refine pure_ (i := 27) (N := some 139) (v := undef) (a' := ?_) #[true, true, true, true, true, true, true, true, true, true, true, true, true, true, true, true, true, true, true, true, true, true, true, true, true, true, true, true, false, false, false, false, false, false, false] rfl rfl (any_of HT_.out (by kernel_rfl)) (fun _ _ _ h => h) (Or.inr ⟨by rfl, rfl⟩) ?_ ?_
           rotate_left
           ·exact aP
           refine pure_ (i := 28) (N := some 140) (v := undef) (a' := ?_) #[true, true, true, true, true, true, true, true, true, true, true, true, true, true, true, true, true, true, true, true, true, true, true, true, true, true, true, true, true, false, false, false, false, false, false] rfl rfl (any_of HT_.out (by kernel_rfl)) (fun _ _ _ h => h) (Or.inr ⟨by rfl, rfl⟩) ?_ ?_
           rotate_left
           ·exact aP
           refine pure_ (i := 29) (N := some 141) (v := undef) (a' := ?_) #[true, true, true, true, true, true, true, true, true, true, true, true, true, true, true, true, true, true, true, true, true, true, true, true, true, true, true, true, true, true, false, false, false, false, false] rfl rfl (any_of HT_.out (by kernel_rfl)) (fun _ _ _ h => h) (Or.inr ⟨by rfl, rfl⟩) ?_ ?_
           rotate_left
           ·exact aP
           refine pure_ (i := 30) (N := some 142) (v := undef) (a' := ?_) #[true, true, true, true, true, true, true, true, true, true, true, true, true, true, true, true, true, true, true, true, true, true, true, true, true, true, true, true, true, true, true, false, false, false, false] rfl rfl (any_of HT_.out (by kernel_rfl)) (fun _ _ _ h => h) (Or.inr ⟨by rfl, rfl⟩) ?_ ?_
           rotate_left
           ·exact aP
           refine pure_ (i := 31) (N := some 143) (v := undef) (a' := ?_) #[true, true, true, true, true, true, true, true, true, true, true, true, true, true, true, true, true, true, true, true, true, true, true, true, true, true, true, true, true, true, true, true, false, false, false] rfl rfl (any_of HT_.out (by kernel_rfl)) (fun _ _ _ h => h) (Or.inr ⟨by rfl, rfl⟩) ?_ ?_
           rotate_left
           ·exact aP
           refine pU 32 144 ?_
           refine pU 33 145 ?_
           refine pU 34 2 ?_
           refine done_ (done_of HT_.out (by kernel_rfl)) ?_
           try go_wp2
           go_ret
           exact ⟨aE, aG⟩
         ·rw [if_neg c229] at H
          have c229b0 : (t542 == t544) = false := by simpa using c229
          (try (have c229b1 : decide (t542 = t544) = false := by simpa using c229))
          (try (have c229b2 : (t542 == t544) = false := by simpa using c229))
          (try (have c229b3 : ¬ (t542 = t544) := by simpa using c229))
          clear c229
          exact absurd (Option.some.inj (H.trans (congrArg some HRT_.out))) (by decide)
        ·rw [if_neg c227] at H
         have c227b0 : (t542 == t543) = false := by simpa using c227
         (try (have c227b1 : decide (t542 = t543) = false := by simpa using c227))
         (try (have c227b2 : (t542 == t543) = false := by simpa using c227))
         (try (have c227b3 : ¬ (t542 = t543) := by simpa using c227))
         clear c227
         exact absurd (Option.some.inj (H.trans (congrArg some HRT_.out))) (by decide)

end Go.Proofs.YtckpikfbhlhhjaaDoor.PFnFactFormat
