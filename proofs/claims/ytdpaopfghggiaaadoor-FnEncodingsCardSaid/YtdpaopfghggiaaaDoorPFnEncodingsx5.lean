-- Laid by a program of this claim: what the functions come to, some of them proved by hand.
import Derived.Test.YtdpaopfghggiaaaDoorPFnEncodingsx0
import Derived.Test.YtdpaopfghggiaaaDoorPFnEncodingsx1
import Derived.Test.YtdpaopfghggiaaaDoorPFnEncodingsx2
import Derived.Test.YtdpaopfghggiaaaDoorPFnEncodingsx3
import Derived.Test.YtdpaopfghggiaaaDoorPFnEncodingsx4
namespace Go.Proofs.YtdpaopfghggiaaaDoor.PFnEncodings
open Go.RowKit Go.Proofs.YtdpaopfghggiaaaDoorW.PrintWords Go.Proofs.YtdpaopfghggiaaaDoorW.PrintLast Go.Proofs.YtdpaopfghggiaaaDoorW.PrintMore
attribute [local go_sem] max2_int min2_int max_two min_two max_three min_three max_four min_four   -- for this text's walks alone
set_option linter.unusedVariables false
set_option linter.unusedSimpArgs false

/-! ### spec_DrawDecodeVarint: function 51 -/
def spec_DrawDecodeVarint.f (k : Nat) (l0 : List Int) : Option (ByteArray) := (spec_l1New.f k l0).bind fun bt282 => ((spec_l1Num.f bt282.1 bt282.2.1 bt282.2.2).bind fun bt286 => ((spec_EncodeVarint.f k bt286.1).bind fun t289 => ((spec_l1Text.f k bt282.1 bt286.2.1 bt286.2.2 4).bind fun bt290 => (if t289.size + bt290.1.size ≤ 9223372036854775807 then ((spec_l1Once.f bt282.1 bt290.2.1 bt290.2.2 4).bind fun bt293 => (if bt293.1 = true then ((spec_l1Spoil.f k bt282.1 bt293.2.1 bt293.2.2 (t289 ++ bt290.1)).bind fun bt296 => (some bt296.1)) else (some (t289 ++ bt290.1)))) else (none)))))
set_option maxHeartbeats 8000000 in
set_option maxRecDepth 100000 in
theorem spec_DrawDecodeVarint.calls (k : Nat) (A0 : Option Addr) (c0 : Nat) (l0 : List Int) (r : ByteArray) (w : World) (hr0 : Kd.C (Kd.int .u8) w A0 l0.length l0) (hc0 : l0.length ≤ c0) (h : spec_DrawDecodeVarint.f k l0 = some r) :
  Calls Tryd.prog 51 #[.slice A0 l0.length c0] w fun e w' => e = .returned (.string r) ∧ Below w.heap.size w w' := by
 have HR0 := aM hr0
 have HC0 := aM hc0
 clear hr0 hc0
 have HB := aM (Below.refl w.heap.size w)
 have H : ((spec_l1New.f k l0).bind fun bt282 => ((spec_l1Num.f bt282.1 bt282.2.1 bt282.2.2).bind fun bt286 => ((spec_EncodeVarint.f k bt286.1).bind fun t289 => ((spec_l1Text.f k bt282.1 bt286.2.1 bt286.2.2 4).bind fun bt290 => (if t289.size + bt290.1.size ≤ 9223372036854775807 then ((spec_l1Once.f bt282.1 bt290.2.1 bt290.2.2 4).bind fun bt293 => (if bt293.1 = true then ((spec_l1Spoil.f k bt282.1 bt293.2.1 bt293.2.2 (t289 ++ bt290.1)).bind fun bt296 => (some bt296.1)) else (some (t289 ++ bt290.1)))) else (none)))))) = some r := h
 clear h
 replace H := Option.bind_eq_some_iff.mp H
 obtain ⟨⟨t282, t283, t284⟩, A20, H⟩ := H
 replace H : ((spec_l1Num.f t282 t283 t284).bind fun bt286 => ((spec_EncodeVarint.f k bt286.1).bind fun t289 => ((spec_l1Text.f k t282 bt286.2.1 bt286.2.2 4).bind fun bt290 => (if t289.size + bt290.1.size ≤ 9223372036854775807 then ((spec_l1Once.f t282 bt290.2.1 bt290.2.2 4).bind fun bt293 => (if bt293.1 = true then ((spec_l1Spoil.f k t282 bt293.2.1 bt293.2.2 (t289 ++ bt290.1)).bind fun bt296 => (some bt296.1)) else (some (t289 ++ bt290.1)))) else (none))))) = some r := H
 have A2 := aM A20
 clear A20
 replace H := Option.bind_eq_some_iff.mp H
 obtain ⟨⟨t286, t287, t288⟩, A30, H⟩ := H
 replace H : ((spec_EncodeVarint.f k t286).bind fun t289 => ((spec_l1Text.f k t282 t287 t288 4).bind fun bt290 => (if t289.size + bt290.1.size ≤ 9223372036854775807 then ((spec_l1Once.f t282 bt290.2.1 bt290.2.2 4).bind fun bt293 => (if bt293.1 = true then ((spec_l1Spoil.f k t282 bt293.2.1 bt293.2.2 (t289 ++ bt290.1)).bind fun bt296 => (some bt296.1)) else (some (t289 ++ bt290.1)))) else (none)))) = some r := H
 have A3 := aM A30
 clear A30
 replace H := Option.bind_eq_some_iff.mp H
 obtain ⟨t289, A40, H⟩ := H
 replace H : ((spec_l1Text.f k t282 t287 t288 4).bind fun bt290 => (if t289.size + bt290.1.size ≤ 9223372036854775807 then ((spec_l1Once.f t282 bt290.2.1 bt290.2.2 4).bind fun bt293 => (if bt293.1 = true then ((spec_l1Spoil.f k t282 bt293.2.1 bt293.2.2 (t289 ++ bt290.1)).bind fun bt296 => (some bt296.1)) else (some (t289 ++ bt290.1)))) else (none))) = some r := H
 have A4 := aM A40
 clear A40
 replace H := Option.bind_eq_some_iff.mp H
 obtain ⟨⟨t290, t291, t292⟩, A50, H⟩ := H
 replace H : (if t289.size + t290.size ≤ 9223372036854775807 then ((spec_l1Once.f t282 t291 t292 4).bind fun bt293 => (if bt293.1 = true then ((spec_l1Spoil.f k t282 bt293.2.1 bt293.2.2 (t289 ++ t290)).bind fun bt296 => (some bt296.1)) else (some (t289 ++ t290)))) else (none)) = some r := H
 have A5 := aM A50
 clear A50
 by_cases c6 : t289.size + t290.size ≤ 9223372036854775807
 ·rw [if_pos c6] at H
  have c6b0 := eq_true c6
  have c6b1 : decide (t289.size + t290.size ≤ 9223372036854775807) = true := decide_eq_true c6
  try have c6b2 : (9223372036854775807 < t289.size + t290.size) = False := eq_false (Nat.not_lt.2 c6)
  replace H := Option.bind_eq_some_iff.mp H
  obtain ⟨⟨t293, t294, t295⟩, A70, H⟩ := H
  replace H : (if t293 = true then ((spec_l1Spoil.f k t282 t294 t295 (t289 ++ t290)).bind fun bt296 => (some bt296.1)) else (some (t289 ++ t290))) = some r := H
  have A7 := aM A70
  clear A70
  by_cases c8 : t293 = true
  ·subst c8
   have H1 : ((spec_l1Spoil.f k t282 t294 t295 (t289 ++ t290)).bind fun bt296 => (some bt296.1)) = some r := by rw [if_pos rfl] at H; exact H
   clear H
   have H := H1
   clear H1
   replace H := Option.bind_eq_some_iff.mp H
   obtain ⟨⟨t296, t297, t298⟩, A90, H⟩ := H
   replace H : (some t296) = some r := H
   have A9 := aM A90
   clear A90
   obtain rfl := Option.some.inj H
   go_enter Tryd.func51, Tryd.ntmps51
   go_wp2_with (first | ((with_reducible refine gate_callee (f := 55) rfl ?_); refine goesL_ (some 6) rfl rfl Tryd.func55 (by kernel_rfl) rfl #[.slice A0 l0.length c0] rfl (by (try simp only [List.map_toArray, List.map_cons, List.map_nil]); first | done | rfl | (simp only [List.length_drop, List.length_take]; rfl)) ?_; (with_reducible refine (spec_l1New.calls k _ _ l0 t282 t283 t284 w _ ?side1 ?side2 ?side3 A2.out).mono ?_); (case side1 => repeat (first | (with_reducible first | exact HB.out | apply below_alloc | apply pw_below_drewN | apply below_drew1) | exact HB.out)); (case side2 => exact HR0.out); (case side3 => exact HC0.out); rintro e w10 ⟨g285, rfl, hi, hb, hb2⟩; refine ⟨_, rfl, ?_⟩; have n0_ := aM (hb); have n1_ := aM (hi); clear HB; have HB := n0_; have HI285 := n1_; clear n0_ n1_; (try clear hb); (try clear hb2); (try clear hk); (try clear hi)) | ((with_reducible refine gate_callee (f := 76) rfl ?_); refine goesL_ (some 8) rfl rfl Tryd.func76 (by kernel_rfl) rfl #[.pointer (some ⟨g285, 0, none⟩)] rfl (by (try simp only [List.map_toArray, List.map_cons, List.map_nil]); first | done | rfl | (simp only [List.length_drop, List.length_take]; rfl)) ?_; (with_reducible refine (spec_l1Num.calls g285 t282 t283 t284 t286 t287 t288 w _ ?side1 ?side2 A3.out).mono ?_); (case side1 => repeat (first | (with_reducible first | exact HI285.out | apply IsS97.alloc | apply IsS97.drewN | apply IsS97.drew | apply IsS97.set_1 | apply IsS97.set_2) | exact HI285.out)); (case side2 => repeat (first | (with_reducible first | exact HB.out | apply below_alloc | apply pw_below_drewN | apply below_drew1 | refine below_set ?_ (IsS97.ge HI285.out)) | exact HB.out)); rintro e w11 ⟨rfl, hi, hb, hk⟩; refine ⟨_, rfl, ?_⟩; have n0_ := aM (hb); have n1_ := aM (hi); clear HB; clear HI285; have HB := n0_; have HI285 := n1_; clear n0_ n1_; (try clear hb); (try clear hb2); (try clear hk); (try clear hi)) | ((with_reducible refine gate_callee (f := 79) rfl ?_); refine goesL_ (some 9) rfl rfl Tryd.func79 (by kernel_rfl) rfl #[.int .i64 t286] rfl (by (try simp only [List.map_toArray, List.map_cons, List.map_nil]); first | done | rfl | (simp only [List.length_drop, List.length_take]; rfl)) ?_; (with_reducible refine (spec_EncodeVarint.calls k t286 t289 _ A4.out).mono ?_); rintro e w12 ⟨rfl, hb⟩; refine ⟨_, rfl, ?_⟩; have n0_ := aM (IsS97.below (by repeat (first | (with_reducible first | exact HI285.out | apply IsS97.alloc | apply IsS97.drewN | apply IsS97.drew | apply IsS97.set_1 | apply IsS97.set_2) | exact HI285.out)) hb); have n1_ := aM (below_step (by repeat (first | (with_reducible first | exact HB.out | apply below_alloc | apply pw_below_drewN | apply below_drew1 | refine below_set ?_ (IsS97.ge HI285.out)) | exact HB.out)) hb); clear HI285; clear HB; have HI285 := n0_; have HB := n1_; clear n0_ n1_; (try clear hb); (try clear hb2); (try clear hk); (try clear hi)) | ((with_reducible refine gate_callee (f := 77) rfl ?_); refine goesL_ (some 11) rfl rfl Tryd.func77 (by kernel_rfl) rfl #[.pointer (some ⟨g285, 0, none⟩), .int .i64 4] rfl (by (try simp only [List.map_toArray, List.map_cons, List.map_nil]); first | done | rfl | (simp only [List.length_drop, List.length_take]; rfl)) ?_; (with_reducible refine (spec_l1Text.calls k g285 t282 t287 t288 4 t290 t291 t292 w _ ?side1 ?side2 A5.out).mono ?_); (case side1 => repeat (first | (with_reducible first | exact HI285.out | apply IsS97.alloc | apply IsS97.drewN | apply IsS97.drew | apply IsS97.set_1 | apply IsS97.set_2) | exact HI285.out)); (case side2 => repeat (first | (with_reducible first | exact HB.out | apply below_alloc | apply pw_below_drewN | apply below_drew1 | refine below_set ?_ (IsS97.ge HI285.out)) | exact HB.out)); rintro e w13 ⟨rfl, hi, hb, hk⟩; refine ⟨_, rfl, ?_⟩; have n0_ := aM (hb); have n1_ := aM (hi); clear HB; clear HI285; have HB := n0_; have HI285 := n1_; clear n0_ n1_; (try clear hb); (try clear hb2); (try clear hk); (try clear hi)) | ((with_reducible refine gate_callee (f := 58) rfl ?_); refine goesL_ (some 14) rfl rfl Tryd.func58 (by kernel_rfl) rfl #[.pointer (some ⟨g285, 0, none⟩), .int .i64 4] rfl (by (try simp only [List.map_toArray, List.map_cons, List.map_nil]); first | done | rfl | (simp only [List.length_drop, List.length_take]; rfl)) ?_; (with_reducible refine (spec_l1Once.calls g285 t282 t291 t292 4 true t294 t295 w _ ?side1 ?side2 A7.out).mono ?_); (case side1 => repeat (first | (with_reducible first | exact HI285.out | apply IsS97.alloc | apply IsS97.drewN | apply IsS97.drew | apply IsS97.set_1 | apply IsS97.set_2) | exact HI285.out)); (case side2 => repeat (first | (with_reducible first | exact HB.out | apply below_alloc | apply pw_below_drewN | apply below_drew1 | refine below_set ?_ (IsS97.ge HI285.out)) | exact HB.out)); rintro e w14 ⟨rfl, hi, hb, hk⟩; refine ⟨_, rfl, ?_⟩; have n0_ := aM (hb); have n1_ := aM (hi); clear HB; clear HI285; have HB := n0_; have HI285 := n1_; clear n0_ n1_; (try clear hb); (try clear hb2); (try clear hk); (try clear hi)) | ((with_reducible refine gate_callee (f := 60) rfl ?_); refine goesL_ (some 17) rfl rfl Tryd.func60 (by kernel_rfl) rfl #[.pointer (some ⟨g285, 0, none⟩), .string (t289 ++ t290)] rfl (by (try simp only [List.map_toArray, List.map_cons, List.map_nil]); first | done | rfl | (simp only [List.length_drop, List.length_take]; rfl)) ?_; (with_reducible refine (spec_l1Spoil.calls k g285 t282 t294 t295 (t289 ++ t290) t296 t297 t298 w _ ?side1 ?side2 A9.out).mono ?_); (case side1 => repeat (first | (with_reducible first | exact HI285.out | apply IsS97.alloc | apply IsS97.drewN | apply IsS97.drew | apply IsS97.set_1 | apply IsS97.set_2) | exact HI285.out)); (case side2 => repeat (first | (with_reducible first | exact HB.out | apply below_alloc | apply pw_below_drewN | apply below_drew1 | refine below_set ?_ (IsS97.ge HI285.out)) | exact HB.out)); rintro e w15 ⟨rfl, hi, hb, hk⟩; refine ⟨_, rfl, ?_⟩; have n0_ := aM (hb); have n1_ := aM (hi); clear HB; clear HI285; have HB := n0_; have HI285 := n1_; clear n0_ n1_; (try clear hb); (try clear hb2); (try clear hk); (try clear hi)))
   go_ret
   exact ⟨by first | rfl | (simp [errW_none, errW_some] <;> rfl) | (simp [*, errW_none, errW_some] <;> rfl), by repeat (first | (with_reducible first | exact HB.out | apply below_alloc | apply pw_below_drewN | apply below_drew1 | refine below_set ?_ (IsS97.ge HI285.out)) | exact HB.out)⟩
  ·replace c8 := Bool.eq_false_iff.mpr c8
   subst c8
   have H1 : (some (t289 ++ t290)) = some r := by rw [if_neg (show ¬ (false = true) by decide)] at H; exact H
   clear H
   have H := H1
   clear H1
   obtain rfl := Option.some.inj H
   go_enter Tryd.func51, Tryd.ntmps51
   go_wp2_with (first | ((with_reducible refine gate_callee (f := 55) rfl ?_); refine goesL_ (some 6) rfl rfl Tryd.func55 (by kernel_rfl) rfl #[.slice A0 l0.length c0] rfl (by (try simp only [List.map_toArray, List.map_cons, List.map_nil]); first | done | rfl | (simp only [List.length_drop, List.length_take]; rfl)) ?_; (with_reducible refine (spec_l1New.calls k _ _ l0 t282 t283 t284 w _ ?side1 ?side2 ?side3 A2.out).mono ?_); (case side1 => repeat (first | (with_reducible first | exact HB.out | apply below_alloc | apply pw_below_drewN | apply below_drew1) | exact HB.out)); (case side2 => exact HR0.out); (case side3 => exact HC0.out); rintro e w16 ⟨g285, rfl, hi, hb, hb2⟩; refine ⟨_, rfl, ?_⟩; have n0_ := aM (hb); have n1_ := aM (hi); clear HB; have HB := n0_; have HI285 := n1_; clear n0_ n1_; (try clear hb); (try clear hb2); (try clear hk); (try clear hi)) | ((with_reducible refine gate_callee (f := 76) rfl ?_); refine goesL_ (some 8) rfl rfl Tryd.func76 (by kernel_rfl) rfl #[.pointer (some ⟨g285, 0, none⟩)] rfl (by (try simp only [List.map_toArray, List.map_cons, List.map_nil]); first | done | rfl | (simp only [List.length_drop, List.length_take]; rfl)) ?_; (with_reducible refine (spec_l1Num.calls g285 t282 t283 t284 t286 t287 t288 w _ ?side1 ?side2 A3.out).mono ?_); (case side1 => repeat (first | (with_reducible first | exact HI285.out | apply IsS97.alloc | apply IsS97.drewN | apply IsS97.drew | apply IsS97.set_1 | apply IsS97.set_2) | exact HI285.out)); (case side2 => repeat (first | (with_reducible first | exact HB.out | apply below_alloc | apply pw_below_drewN | apply below_drew1 | refine below_set ?_ (IsS97.ge HI285.out)) | exact HB.out)); rintro e w17 ⟨rfl, hi, hb, hk⟩; refine ⟨_, rfl, ?_⟩; have n0_ := aM (hb); have n1_ := aM (hi); clear HB; clear HI285; have HB := n0_; have HI285 := n1_; clear n0_ n1_; (try clear hb); (try clear hb2); (try clear hk); (try clear hi)) | ((with_reducible refine gate_callee (f := 79) rfl ?_); refine goesL_ (some 9) rfl rfl Tryd.func79 (by kernel_rfl) rfl #[.int .i64 t286] rfl (by (try simp only [List.map_toArray, List.map_cons, List.map_nil]); first | done | rfl | (simp only [List.length_drop, List.length_take]; rfl)) ?_; (with_reducible refine (spec_EncodeVarint.calls k t286 t289 _ A4.out).mono ?_); rintro e w18 ⟨rfl, hb⟩; refine ⟨_, rfl, ?_⟩; have n0_ := aM (IsS97.below (by repeat (first | (with_reducible first | exact HI285.out | apply IsS97.alloc | apply IsS97.drewN | apply IsS97.drew | apply IsS97.set_1 | apply IsS97.set_2) | exact HI285.out)) hb); have n1_ := aM (below_step (by repeat (first | (with_reducible first | exact HB.out | apply below_alloc | apply pw_below_drewN | apply below_drew1 | refine below_set ?_ (IsS97.ge HI285.out)) | exact HB.out)) hb); clear HI285; clear HB; have HI285 := n0_; have HB := n1_; clear n0_ n1_; (try clear hb); (try clear hb2); (try clear hk); (try clear hi)) | ((with_reducible refine gate_callee (f := 77) rfl ?_); refine goesL_ (some 11) rfl rfl Tryd.func77 (by kernel_rfl) rfl #[.pointer (some ⟨g285, 0, none⟩), .int .i64 4] rfl (by (try simp only [List.map_toArray, List.map_cons, List.map_nil]); first | done | rfl | (simp only [List.length_drop, List.length_take]; rfl)) ?_; (with_reducible refine (spec_l1Text.calls k g285 t282 t287 t288 4 t290 t291 t292 w _ ?side1 ?side2 A5.out).mono ?_); (case side1 => repeat (first | (with_reducible first | exact HI285.out | apply IsS97.alloc | apply IsS97.drewN | apply IsS97.drew | apply IsS97.set_1 | apply IsS97.set_2) | exact HI285.out)); (case side2 => repeat (first | (with_reducible first | exact HB.out | apply below_alloc | apply pw_below_drewN | apply below_drew1 | refine below_set ?_ (IsS97.ge HI285.out)) | exact HB.out)); rintro e w19 ⟨rfl, hi, hb, hk⟩; refine ⟨_, rfl, ?_⟩; have n0_ := aM (hb); have n1_ := aM (hi); clear HB; clear HI285; have HB := n0_; have HI285 := n1_; clear n0_ n1_; (try clear hb); (try clear hb2); (try clear hk); (try clear hi)) | ((with_reducible refine gate_callee (f := 58) rfl ?_); refine goesL_ (some 14) rfl rfl Tryd.func58 (by kernel_rfl) rfl #[.pointer (some ⟨g285, 0, none⟩), .int .i64 4] rfl (by (try simp only [List.map_toArray, List.map_cons, List.map_nil]); first | done | rfl | (simp only [List.length_drop, List.length_take]; rfl)) ?_; (with_reducible refine (spec_l1Once.calls g285 t282 t291 t292 4 false t294 t295 w _ ?side1 ?side2 A7.out).mono ?_); (case side1 => repeat (first | (with_reducible first | exact HI285.out | apply IsS97.alloc | apply IsS97.drewN | apply IsS97.drew | apply IsS97.set_1 | apply IsS97.set_2) | exact HI285.out)); (case side2 => repeat (first | (with_reducible first | exact HB.out | apply below_alloc | apply pw_below_drewN | apply below_drew1 | refine below_set ?_ (IsS97.ge HI285.out)) | exact HB.out)); rintro e w20 ⟨rfl, hi, hb, hk⟩; refine ⟨_, rfl, ?_⟩; have n0_ := aM (hb); have n1_ := aM (hi); clear HB; clear HI285; have HB := n0_; have HI285 := n1_; clear n0_ n1_; (try clear hb); (try clear hb2); (try clear hk); (try clear hi)))
   go_ret
   exact ⟨by first | rfl | (simp [errW_none, errW_some] <;> rfl) | (simp [*, errW_none, errW_some] <;> rfl), by repeat (first | (with_reducible first | exact HB.out | apply below_alloc | apply pw_below_drewN | apply below_drew1 | refine below_set ?_ (IsS97.ge HI285.out)) | exact HB.out)⟩
 ·rw [if_neg c6] at H
  exact absurd H (by simp)

/-! ### laws_FnEncodings: function 10 -/
mutual
def laws_FnEncodings.j0 : Nat → List Int → Int → ByteArray → Bool → Option (Bool)
 | 0, _, _, _, _ => none
 | k + 1, x0, x3, x4, x55 => if x55 = true then (some false) else ((impl_EncodeFixed.f k x3 7).bind fun t305 => (if t305.size + x4.size ≤ 9223372036854775807 then ((impl_DecodeFixed.f k (t305 ++ x4) 7).bind fun bt306 => (if t305.toList = ([] : List UInt8) then (if x3 < 0 then (laws_FnEncodings.j1 k x0 x3 x4 ((t305.toList == ([] : List UInt8)) != true)) else (laws_FnEncodings.j1 k x0 x3 x4 ((t305.toList == ([] : List UInt8)) != (decide (x3 ≥ 72057594037927936))))) else (if bt306.2 = true then (if bt306.1 = x3 then (if (t305.size : Int) = 7 then (if x3 < 0 then (laws_FnEncodings.j1 k x0 x3 x4 ((t305.toList == ([] : List UInt8)) != true)) else (laws_FnEncodings.j1 k x0 x3 x4 ((t305.toList == ([] : List UInt8)) != (decide (x3 ≥ 72057594037927936))))) else (laws_FnEncodings.j1 k x0 x3 x4 true)) else (laws_FnEncodings.j1 k x0 x3 x4 true)) else (laws_FnEncodings.j1 k x0 x3 x4 true)))) else (none)))
def laws_FnEncodings.j1 : Nat → List Int → Int → ByteArray → Bool → Option (Bool)
 | 0, _, _, _, _ => none
 | k + 1, x0, x3, x4, x91 => if x91 = true then (some false) else ((impl_FormatInt.f x3).bind fun t308 => ((impl_ParseInt.f t308).bind fun bt309 => (if x3 > (-1000000000) then (if (bt309.2 != (decide (x3 < 1000000000))) = true then (laws_FnEncodings.j2 k x0 x4 true) else (if bt309.2 = true then (laws_FnEncodings.j2 k x0 x4 (bt309.1 != x3)) else (laws_FnEncodings.j2 k x0 x4 false))) else (if (bt309.2 != false) = true then (laws_FnEncodings.j2 k x0 x4 true) else (if bt309.2 = true then (laws_FnEncodings.j2 k x0 x4 (bt309.1 != x3)) else (laws_FnEncodings.j2 k x0 x4 false))))))
def laws_FnEncodings.j2 : Nat → List Int → ByteArray → Bool → Option (Bool)
 | 0, _, _, _ => none
 | k + 1, x0, x4, x113 => if x113 = true then (some false) else ((impl_EncodeHex.f k x4).bind fun t311 => ((impl_DecodeHex.f k t311).bind fun bt312 => ((spec_DrawDecodeVarint.f k x0).bind fun t314 => ((impl_DecodeVarint.f k t314).bind fun bt315 => (if bt312.2 = true then (if bt312.1.toList = x4.toList then (if bt315.2 = 0 then (some true) else (if bt315.2 > 0 then ((spec_DrawDecodeVarint.f k x0).bind fun t317 => (if bt315.2 ≤ (t317.size : Int) then ((spec_DrawDecodeVarint.f k x0).bind fun t318 => (if bt315.2 ≤ (t318.size : Int) then ((impl_EncodeVarint.f k bt315.1).bind fun t319 => ((spec_DrawDecodeVarint.f k x0).bind fun t320 => (if 0 ≤ bt315.2 then (if bt315.2 ≤ (t320.size : Int) then (some (t319.toList == (t320.extract 0 (bt315.2 : Int).toNat).toList)) else (none)) else (none)))) else (some false))) else (some false))) else (some false))) else (some false)) else (some false))))))
end
def laws_FnEncodings.f (k : Nat) (l0 : List Int) : Option (Bool) := (laws_big.f l0).bind fun t299 => (if t299 = true then (some true) else ((spec_DrawEncodeVarint.f k l0).bind fun t300 => ((spec_DrawEncodeHex.f k l0).bind fun t301 => ((impl_EncodeVarint.f k t300).bind fun t302 => (if t302.size + t301.size ≤ 9223372036854775807 then ((impl_DecodeVarint.f k (t302 ++ t301)).bind fun bt303 => (if t300 ≥ 0 then (if ((t302.toList != ([] : List UInt8)) != (decide (t300 ≤ 562949953421311))) = true then (laws_FnEncodings.j0 k l0 t300 t301 true) else (if t302.toList = ([] : List UInt8) then (laws_FnEncodings.j0 k l0 t300 t301 false) else (if bt303.1 = t300 then (laws_FnEncodings.j0 k l0 t300 t301 (bt303.2 != (t302.size : Int))) else (laws_FnEncodings.j0 k l0 t300 t301 true)))) else (if ((t302.toList != ([] : List UInt8)) != false) = true then (laws_FnEncodings.j0 k l0 t300 t301 true) else (if t302.toList = ([] : List UInt8) then (laws_FnEncodings.j0 k l0 t300 t301 false) else (if bt303.1 = t300 then (laws_FnEncodings.j0 k l0 t300 t301 (bt303.2 != (t302.size : Int))) else (laws_FnEncodings.j0 k l0 t300 t301 true)))))) else (none))))))
set_option maxHeartbeats 8000000 in
set_option maxRecDepth 100000 in
theorem laws_FnEncodings.calls (k : Nat) (A0 : Option Addr) (c0 : Nat) (l0 : List Int) (r : Bool) (w : World) (hr0 : Kd.C (Kd.int .u8) w A0 l0.length l0) (hc0 : l0.length ≤ c0) (h : laws_FnEncodings.f k l0 = some r) (hr_ : r = true) (hp_ : Go.Proofs.YtdpaopfghggiaaaDoor.Shelf.PowE w) :
  Calls Tryd.prog 10 #[.slice A0 l0.length c0] w fun e w' => e = .returned (.bool r) ∧ Below w.heap.size w w' := by
 have HRT_ := aM hr_
 clear hr_
 have HR0 := aM hr0
 have HC0 := aM hc0
 clear hr0 hc0
 have HB := aM (Below.refl w.heap.size w)
 have H : ((laws_big.f l0).bind fun t299 => (if t299 = true then (some true) else ((spec_DrawEncodeVarint.f k l0).bind fun t300 => ((spec_DrawEncodeHex.f k l0).bind fun t301 => ((impl_EncodeVarint.f k t300).bind fun t302 => (if t302.size + t301.size ≤ 9223372036854775807 then ((impl_DecodeVarint.f k (t302 ++ t301)).bind fun bt303 => (if t300 ≥ 0 then (if ((t302.toList != ([] : List UInt8)) != (decide (t300 ≤ 562949953421311))) = true then (laws_FnEncodings.j0 k l0 t300 t301 true) else (if t302.toList = ([] : List UInt8) then (laws_FnEncodings.j0 k l0 t300 t301 false) else (if bt303.1 = t300 then (laws_FnEncodings.j0 k l0 t300 t301 (bt303.2 != (t302.size : Int))) else (laws_FnEncodings.j0 k l0 t300 t301 true)))) else (if ((t302.toList != ([] : List UInt8)) != false) = true then (laws_FnEncodings.j0 k l0 t300 t301 true) else (if t302.toList = ([] : List UInt8) then (laws_FnEncodings.j0 k l0 t300 t301 false) else (if bt303.1 = t300 then (laws_FnEncodings.j0 k l0 t300 t301 (bt303.2 != (t302.size : Int))) else (laws_FnEncodings.j0 k l0 t300 t301 true)))))) else (none))))))) = some r := h
 clear h
 replace H := Option.bind_eq_some_iff.mp H
 obtain ⟨t299, A20, H⟩ := H
 replace H : (if t299 = true then (some true) else ((spec_DrawEncodeVarint.f k l0).bind fun t300 => ((spec_DrawEncodeHex.f k l0).bind fun t301 => ((impl_EncodeVarint.f k t300).bind fun t302 => (if t302.size + t301.size ≤ 9223372036854775807 then ((impl_DecodeVarint.f k (t302 ++ t301)).bind fun bt303 => (if t300 ≥ 0 then (if ((t302.toList != ([] : List UInt8)) != (decide (t300 ≤ 562949953421311))) = true then (laws_FnEncodings.j0 k l0 t300 t301 true) else (if t302.toList = ([] : List UInt8) then (laws_FnEncodings.j0 k l0 t300 t301 false) else (if bt303.1 = t300 then (laws_FnEncodings.j0 k l0 t300 t301 (bt303.2 != (t302.size : Int))) else (laws_FnEncodings.j0 k l0 t300 t301 true)))) else (if ((t302.toList != ([] : List UInt8)) != false) = true then (laws_FnEncodings.j0 k l0 t300 t301 true) else (if t302.toList = ([] : List UInt8) then (laws_FnEncodings.j0 k l0 t300 t301 false) else (if bt303.1 = t300 then (laws_FnEncodings.j0 k l0 t300 t301 (bt303.2 != (t302.size : Int))) else (laws_FnEncodings.j0 k l0 t300 t301 true)))))) else (none)))))) = some r := H
 have A2 := aM A20
 clear A20
 by_cases c3 : t299 = true
 ·subst c3
  have H1 : (some true) = some r := by rw [if_pos rfl] at H; exact H
  clear H
  have H := H1
  clear H1
  obtain rfl := Option.some.inj H
  go_enter Tryd.func10, Tryd.ntmps10
  go_wp2_with (first | ((with_reducible refine gate_callee (f := 20) rfl ?_); refine goesL_ (some 18) rfl rfl Tryd.func20 (by kernel_rfl) rfl #[.slice A0 l0.length c0] rfl (by (try simp only [List.map_toArray, List.map_cons, List.map_nil]); first | done | rfl | (simp only [List.length_drop, List.length_take]; rfl)) ?_; (with_reducible refine (laws_big.calls _ _ l0 true _ ?side1 ?side2 A2.out).mono ?_); (case side1 => repeat (first | exact HR0.out | (with_reducible refine Kd.C_alloc ?_ _) | (with_reducible refine Kd.C_drewN ?_ _) | (with_reducible refine Kd.C_drew ?_))); (case side2 => exact HC0.out); rintro e w' ⟨rfl, ⟨nd, rfl⟩⟩; refine ⟨_, rfl, ?_⟩))
  go_ret
  exact ⟨by first | rfl | (simp [errW_none, errW_some] <;> rfl) | (simp [*, errW_none, errW_some] <;> rfl), by repeat (first | (with_reducible first | exact HB.out | apply below_alloc | apply pw_below_drewN | apply below_drew1) | exact HB.out)⟩
 ·replace c3 := Bool.eq_false_iff.mpr c3
  subst c3
  have H1 : ((spec_DrawEncodeVarint.f k l0).bind fun t300 => ((spec_DrawEncodeHex.f k l0).bind fun t301 => ((impl_EncodeVarint.f k t300).bind fun t302 => (if t302.size + t301.size ≤ 9223372036854775807 then ((impl_DecodeVarint.f k (t302 ++ t301)).bind fun bt303 => (if t300 ≥ 0 then (if ((t302.toList != ([] : List UInt8)) != (decide (t300 ≤ 562949953421311))) = true then (laws_FnEncodings.j0 k l0 t300 t301 true) else (if t302.toList = ([] : List UInt8) then (laws_FnEncodings.j0 k l0 t300 t301 false) else (if bt303.1 = t300 then (laws_FnEncodings.j0 k l0 t300 t301 (bt303.2 != (t302.size : Int))) else (laws_FnEncodings.j0 k l0 t300 t301 true)))) else (if ((t302.toList != ([] : List UInt8)) != false) = true then (laws_FnEncodings.j0 k l0 t300 t301 true) else (if t302.toList = ([] : List UInt8) then (laws_FnEncodings.j0 k l0 t300 t301 false) else (if bt303.1 = t300 then (laws_FnEncodings.j0 k l0 t300 t301 (bt303.2 != (t302.size : Int))) else (laws_FnEncodings.j0 k l0 t300 t301 true)))))) else (none))))) = some r := by rw [if_neg (show ¬ (false = true) by decide)] at H; exact H
  clear H
  have H := H1
  clear H1
  replace H := Option.bind_eq_some_iff.mp H
  obtain ⟨t300, A40, H⟩ := H
  replace H : ((spec_DrawEncodeHex.f k l0).bind fun t301 => ((impl_EncodeVarint.f k t300).bind fun t302 => (if t302.size + t301.size ≤ 9223372036854775807 then ((impl_DecodeVarint.f k (t302 ++ t301)).bind fun bt303 => (if t300 ≥ 0 then (if ((t302.toList != ([] : List UInt8)) != (decide (t300 ≤ 562949953421311))) = true then (laws_FnEncodings.j0 k l0 t300 t301 true) else (if t302.toList = ([] : List UInt8) then (laws_FnEncodings.j0 k l0 t300 t301 false) else (if bt303.1 = t300 then (laws_FnEncodings.j0 k l0 t300 t301 (bt303.2 != (t302.size : Int))) else (laws_FnEncodings.j0 k l0 t300 t301 true)))) else (if ((t302.toList != ([] : List UInt8)) != false) = true then (laws_FnEncodings.j0 k l0 t300 t301 true) else (if t302.toList = ([] : List UInt8) then (laws_FnEncodings.j0 k l0 t300 t301 false) else (if bt303.1 = t300 then (laws_FnEncodings.j0 k l0 t300 t301 (bt303.2 != (t302.size : Int))) else (laws_FnEncodings.j0 k l0 t300 t301 true)))))) else (none)))) = some r := H
  have A4 := aM A40
  clear A40
  replace H := Option.bind_eq_some_iff.mp H
  obtain ⟨t301, A50, H⟩ := H
  replace H : ((impl_EncodeVarint.f k t300).bind fun t302 => (if t302.size + t301.size ≤ 9223372036854775807 then ((impl_DecodeVarint.f k (t302 ++ t301)).bind fun bt303 => (if t300 ≥ 0 then (if ((t302.toList != ([] : List UInt8)) != (decide (t300 ≤ 562949953421311))) = true then (laws_FnEncodings.j0 k l0 t300 t301 true) else (if t302.toList = ([] : List UInt8) then (laws_FnEncodings.j0 k l0 t300 t301 false) else (if bt303.1 = t300 then (laws_FnEncodings.j0 k l0 t300 t301 (bt303.2 != (t302.size : Int))) else (laws_FnEncodings.j0 k l0 t300 t301 true)))) else (if ((t302.toList != ([] : List UInt8)) != false) = true then (laws_FnEncodings.j0 k l0 t300 t301 true) else (if t302.toList = ([] : List UInt8) then (laws_FnEncodings.j0 k l0 t300 t301 false) else (if bt303.1 = t300 then (laws_FnEncodings.j0 k l0 t300 t301 (bt303.2 != (t302.size : Int))) else (laws_FnEncodings.j0 k l0 t300 t301 true)))))) else (none))) = some r := H
  have A5 := aM A50
  clear A50
  replace H := Option.bind_eq_some_iff.mp H
  obtain ⟨t302, A60, H⟩ := H
  replace H : (if t302.size + t301.size ≤ 9223372036854775807 then ((impl_DecodeVarint.f k (t302 ++ t301)).bind fun bt303 => (if t300 ≥ 0 then (if ((t302.toList != ([] : List UInt8)) != (decide (t300 ≤ 562949953421311))) = true then (laws_FnEncodings.j0 k l0 t300 t301 true) else (if t302.toList = ([] : List UInt8) then (laws_FnEncodings.j0 k l0 t300 t301 false) else (if bt303.1 = t300 then (laws_FnEncodings.j0 k l0 t300 t301 (bt303.2 != (t302.size : Int))) else (laws_FnEncodings.j0 k l0 t300 t301 true)))) else (if ((t302.toList != ([] : List UInt8)) != false) = true then (laws_FnEncodings.j0 k l0 t300 t301 true) else (if t302.toList = ([] : List UInt8) then (laws_FnEncodings.j0 k l0 t300 t301 false) else (if bt303.1 = t300 then (laws_FnEncodings.j0 k l0 t300 t301 (bt303.2 != (t302.size : Int))) else (laws_FnEncodings.j0 k l0 t300 t301 true)))))) else (none)) = some r := H
  have A6 := aM A60
  clear A60
  by_cases c7 : t302.size + t301.size ≤ 9223372036854775807
  ·rw [if_pos c7] at H
   have c7b0 := eq_true c7
   have c7b1 : decide (t302.size + t301.size ≤ 9223372036854775807) = true := decide_eq_true c7
   try have c7b2 : (9223372036854775807 < t302.size + t301.size) = False := eq_false (Nat.not_lt.2 c7)
   replace H := Option.bind_eq_some_iff.mp H
   obtain ⟨⟨t303, t304⟩, A80, H⟩ := H
   replace H : (if t300 ≥ 0 then (if ((t302.toList != ([] : List UInt8)) != (decide (t300 ≤ 562949953421311))) = true then (laws_FnEncodings.j0 k l0 t300 t301 true) else (if t302.toList = ([] : List UInt8) then (laws_FnEncodings.j0 k l0 t300 t301 false) else (if t303 = t300 then (laws_FnEncodings.j0 k l0 t300 t301 (t304 != (t302.size : Int))) else (laws_FnEncodings.j0 k l0 t300 t301 true)))) else (if ((t302.toList != ([] : List UInt8)) != false) = true then (laws_FnEncodings.j0 k l0 t300 t301 true) else (if t302.toList = ([] : List UInt8) then (laws_FnEncodings.j0 k l0 t300 t301 false) else (if t303 = t300 then (laws_FnEncodings.j0 k l0 t300 t301 (t304 != (t302.size : Int))) else (laws_FnEncodings.j0 k l0 t300 t301 true))))) = some r := H
   have A8 := aM A80
   clear A80
   have HC9 := aM H
   clear H
   go_enter Tryd.func10, Tryd.ntmps10
   go_upto_region 7 with (first | ((with_reducible refine gate_callee (f := 20) rfl ?_); refine goesL_ (some 18) rfl rfl Tryd.func20 (by kernel_rfl) rfl #[.slice A0 l0.length c0] rfl (by (try simp only [List.map_toArray, List.map_cons, List.map_nil]); first | done | rfl | (simp only [List.length_drop, List.length_take]; rfl)) ?_; (with_reducible refine (laws_big.calls _ _ l0 false _ ?side1 ?side2 A2.out).mono ?_); (case side1 => repeat (first | exact HR0.out | (with_reducible refine Kd.C_alloc ?_ _) | (with_reducible refine Kd.C_drewN ?_ _) | (with_reducible refine Kd.C_drew ?_))); (case side2 => exact HC0.out); rintro e w' ⟨rfl, ⟨nd, rfl⟩⟩; refine ⟨_, rfl, ?_⟩) | ((with_reducible refine gate_callee (f := 43) rfl ?_); refine goesL_ (some 20) rfl rfl Tryd.func43 (by kernel_rfl) rfl #[.slice A0 l0.length c0] rfl (by (try simp only [List.map_toArray, List.map_cons, List.map_nil]); first | done | rfl | (simp only [List.length_drop, List.length_take]; rfl)) ?_; (with_reducible refine (spec_DrawEncodeVarint.calls k _ _ l0 t300 _ ?side1 ?side2 A4.out).mono ?_); (case side1 => repeat (first | exact HR0.out | (with_reducible refine Kd.C_alloc ?_ _) | (with_reducible refine Kd.C_drewN ?_ _) | (with_reducible refine Kd.C_drew ?_))); (case side2 => exact HC0.out); rintro e w10 ⟨rfl, hb⟩; refine ⟨_, rfl, ?_⟩; have n0_ := aM (below_step aB hb); clear HB; have HB := n0_; clear n0_; (try clear hb); (try clear hb2); (try clear hk); (try clear hi)) | ((with_reducible refine gate_callee (f := 44) rfl ?_); refine goesL_ (some 22) rfl rfl Tryd.func44 (by kernel_rfl) rfl #[.slice A0 l0.length c0] rfl (by (try simp only [List.map_toArray, List.map_cons, List.map_nil]); first | done | rfl | (simp only [List.length_drop, List.length_take]; rfl)) ?_; (with_reducible refine (spec_DrawEncodeHex.calls k _ _ l0 t301 _ ?side1 ?side2 A5.out).mono ?_); (case side1 => exact aC); (case side2 => exact HC0.out); rintro e w11 ⟨rfl, hb⟩; refine ⟨_, rfl, ?_⟩; have n0_ := aM (below_step aB hb); clear HB; have HB := n0_; clear n0_; (try clear hb); (try clear hb2); (try clear hk); (try clear hi)) | ((with_reducible refine gate_callee (f := 45) rfl ?_); refine goesL_ (some 24) rfl rfl Tryd.func45 (by kernel_rfl) rfl #[.int .i64 t300] rfl (by (try simp only [List.map_toArray, List.map_cons, List.map_nil]); first | done | rfl | (simp only [List.length_drop, List.length_take]; rfl)) ?_; (with_reducible refine (impl_EncodeVarint.calls k t300 t302 _ A6.out).mono ?_); rintro e w12 ⟨rfl, hb⟩; refine ⟨_, rfl, ?_⟩; have n0_ := aM (below_step aB hb); clear HB; have HB := n0_; clear n0_; (try clear hb); (try clear hb2); (try clear hk); (try clear hi)) | ((with_reducible refine gate_callee (f := 46) rfl ?_); refine goesL_ (some 29) rfl rfl Tryd.func46 (by kernel_rfl) rfl #[.string (t302 ++ t301)] rfl (by (try simp only [List.map_toArray, List.map_cons, List.map_nil]); first | done | rfl | (simp only [List.length_drop, List.length_take]; rfl)) ?_; (with_reducible refine (impl_DecodeVarint.calls k (t302 ++ t301) t303 t304 _ A8.out).mono ?_); rintro e w' ⟨rfl, ⟨nd, rfl⟩⟩; refine ⟨_, rfl, ?_⟩))
   (try simp only [Act.put, List.setIfInBounds_toArray, List.set_cons_zero, List.set_cons_succ])
   go_cut [55] (fun v55 wc => ∃ (kq : Nat) (x55_8 : Bool), v55 = .bool x55_8 ∧ Aside0 (laws_FnEncodings.j0 kq l0 t300 t301 x55_8 = some r) ∧ Aside0 (kq ≤ k) ∧ Aside0 (Below w.heap.size w wc))
   case first =>
    have H := HC9.out
    clear HC9
    by_cases c13 : t300 ≥ 0
    ·rw [if_pos c13] at H
     have c13b0 : decide (0 ≤ t300) = true := decide_eq_true c13
     clear c13
     (first | rw [c13b0] | (simp only [i64_w, i32_w]; rw [c13b0]) | skip)
     by_cases c15 : t302.toList = ([] : List UInt8)
     ·have cx0_ : (t302.toList == ([] : List UInt8)) = true := beq_iff_eq.mpr c15
      have cx1_ : (t302.toList != ([] : List UInt8)) = false := bne_eq_false_iff_eq.mpr c15
      by_cases cy_ : t300 ≤ 562949953421311
      ·have cy1_ : decide (t300 ≤ 562949953421311) = true := decide_eq_true cy_
       rw [if_pos (show ((t302.toList != ([] : List UInt8)) != (decide (t300 ≤ 562949953421311))) = true by rw [cx1_, cy1_]; rfl)] at H
       have H' := aM H
       clear H
       go_wp2
       go_meet
       case rel => exact ⟨_, (true), (by first | rfl | (simp; done) | (simp [*]; done)), H', ⟨by first | omega | exact Nat.le_refl _⟩, ⟨by repeat (first | (with_reducible first | exact HB.out | apply below_alloc | apply pw_below_drewN | apply below_drew1) | exact HB.out)⟩⟩
      ·have cy1_ : decide (t300 ≤ 562949953421311) = false := decide_eq_false cy_
       rw [if_neg (show ¬ ((t302.toList != ([] : List UInt8)) != (decide (t300 ≤ 562949953421311))) = true by rw [cx1_, cy1_]; decide)] at H
       rw [if_pos c15] at H
       have c15b0 : (t302.toList == ([] : List UInt8)) = true := beq_iff_eq.mpr c15
       have c15b1 : (t302.toList != ([] : List UInt8)) = false := bne_eq_false_iff_eq.mpr c15
       have H' := aM H
       clear H
       go_wp2
       go_meet
       case rel => exact ⟨_, (false), (by first | rfl | (simp; done) | (simp [*]; done)), H', ⟨by first | omega | exact Nat.le_refl _⟩, ⟨by repeat (first | (with_reducible first | exact HB.out | apply below_alloc | apply pw_below_drewN | apply below_drew1) | exact HB.out)⟩⟩
     ·have cx0_ : (t302.toList == ([] : List UInt8)) = false := beq_eq_false_iff_ne.mpr c15
      have cx1_ : (t302.toList != ([] : List UInt8)) = true := bne_iff_ne.mpr c15
      by_cases cy_ : t300 ≤ 562949953421311
      ·have cy1_ : decide (t300 ≤ 562949953421311) = true := decide_eq_true cy_
       rw [if_neg (show ¬ ((t302.toList != ([] : List UInt8)) != (decide (t300 ≤ 562949953421311))) = true by rw [cx1_, cy1_]; decide)] at H
       rw [if_neg c15] at H
       have c15b0 : (t302.toList == ([] : List UInt8)) = false := beq_eq_false_iff_ne.mpr c15
       have c15b1 : (t302.toList != ([] : List UInt8)) = true := bne_iff_ne.mpr c15
       by_cases c16 : t303 = t300
       ·rw [if_pos c16] at H
        have c16b0 : (t303 == t300) = true := beq_iff_eq.mpr c16
        have c16b1 : (t303 != t300) = false := bne_eq_false_iff_eq.mpr c16
        clear c16
        have H' := aM H
        clear H
        go_wp2
        go_meet
        case rel => exact ⟨_, ((t304 != (t302.size : Int))), (by first | rfl | (simp; done) | (simp [*]; done)), H', ⟨by first | omega | exact Nat.le_refl _⟩, ⟨by repeat (first | (with_reducible first | exact HB.out | apply below_alloc | apply pw_below_drewN | apply below_drew1) | exact HB.out)⟩⟩
       ·rw [if_neg c16] at H
        have c16b0 : (t303 == t300) = false := beq_eq_false_iff_ne.mpr c16
        have c16b1 : (t303 != t300) = true := bne_iff_ne.mpr c16
        have H' := aM H
        clear H
        go_wp2
        go_meet
        case rel => exact ⟨_, (true), (by first | rfl | (simp; done) | (simp [*]; done)), H', ⟨by first | omega | exact Nat.le_refl _⟩, ⟨by repeat (first | (with_reducible first | exact HB.out | apply below_alloc | apply pw_below_drewN | apply below_drew1) | exact HB.out)⟩⟩
      ·have cy1_ : decide (t300 ≤ 562949953421311) = false := decide_eq_false cy_
       rw [if_pos (show ((t302.toList != ([] : List UInt8)) != (decide (t300 ≤ 562949953421311))) = true by rw [cx1_, cy1_]; rfl)] at H
       have H' := aM H
       clear H
       go_wp2
       go_meet
       case rel => exact ⟨_, (true), (by first | rfl | (simp; done) | (simp [*]; done)), H', ⟨by first | omega | exact Nat.le_refl _⟩, ⟨by repeat (first | (with_reducible first | exact HB.out | apply below_alloc | apply pw_below_drewN | apply below_drew1) | exact HB.out)⟩⟩
    ·rw [if_neg c13] at H
     have c13b0 : decide (0 ≤ t300) = false := decide_eq_false c13
     clear c13
     (first | rw [c13b0] | (simp only [i64_w, i32_w]; rw [c13b0]) | skip)
     by_cases c18 : t302.toList = ([] : List UInt8)
     ·have cx0_ : (t302.toList == ([] : List UInt8)) = true := beq_iff_eq.mpr c18
      have cx1_ : (t302.toList != ([] : List UInt8)) = false := bne_eq_false_iff_eq.mpr c18
      rw [if_neg (show ¬ ((t302.toList != ([] : List UInt8)) != false) = true by rw [cx1_]; decide)] at H
      rw [if_pos c18] at H
      have c18b0 : (t302.toList == ([] : List UInt8)) = true := beq_iff_eq.mpr c18
      have c18b1 : (t302.toList != ([] : List UInt8)) = false := bne_eq_false_iff_eq.mpr c18
      have H' := aM H
      clear H
      go_wp2
      go_meet
      case rel => exact ⟨_, (false), (by first | rfl | (simp; done) | (simp [*]; done)), H', ⟨by first | omega | exact Nat.le_refl _⟩, ⟨by repeat (first | (with_reducible first | exact HB.out | apply below_alloc | apply pw_below_drewN | apply below_drew1) | exact HB.out)⟩⟩
     ·have cx0_ : (t302.toList == ([] : List UInt8)) = false := beq_eq_false_iff_ne.mpr c18
      have cx1_ : (t302.toList != ([] : List UInt8)) = true := bne_iff_ne.mpr c18
      rw [if_pos (show ((t302.toList != ([] : List UInt8)) != false) = true by rw [cx1_]; rfl)] at H
      have H' := aM H
      clear H
      go_wp2
      go_meet
      case rel => exact ⟨_, (true), (by first | rfl | (simp; done) | (simp [*]; done)), H', ⟨by first | omega | exact Nat.le_refl _⟩, ⟨by repeat (first | (with_reducible first | exact HB.out | apply below_alloc | apply pw_below_drewN | apply below_drew1) | exact HB.out)⟩⟩
   case rest =>
    clear HC9
    try clear c1
    try clear c2
    try clear p2
    try clear c3
    try clear c4
    try clear c7
    try clear c7b0
    try clear c7b1
    try clear c7b2
    try clear c10
    try clear c13
    try clear c13b0
    try clear c14
    try clear c14b0
    try clear c14b1
    try clear c14b2
    try clear c15
    try clear c15b0
    try clear c15b1
    try clear c16
    try clear c16b0
    try clear c16b1
    try clear c17
    try clear c17b0
    try clear c17b1
    try clear c17b2
    try clear c18
    try clear c18b0
    try clear c18b1
    try clear c19
    try clear c19b0
    try clear c19b1
    obtain ⟨kq, x55_8, rfl, HA, HJ8, HB⟩ := hcut
    cases kq with
    | zero => exact absurd HA.out (by simp [laws_FnEncodings.j0])
    | succ kj8 =>
     have H := HA.out
     clear HA
     simp only [laws_FnEncodings.j0] at H
     by_cases c20 : x55_8 = true
     ·subst c20
      have H1 : (some false) = some r := by rw [if_pos rfl] at H; exact H
      clear H
      have H := H1
      clear H1
      exact absurd (Option.some.inj (H.trans (congrArg some HRT_.out))) (by decide)
     ·replace c20 := Bool.eq_false_iff.mpr c20
      subst c20
      have H1 : ((impl_EncodeFixed.f kj8 t300 7).bind fun t305 => (if t305.size + t301.size ≤ 9223372036854775807 then ((impl_DecodeFixed.f kj8 (t305 ++ t301) 7).bind fun bt306 => (if t305.toList = ([] : List UInt8) then (if t300 < 0 then (laws_FnEncodings.j1 kj8 l0 t300 t301 ((t305.toList == ([] : List UInt8)) != true)) else (laws_FnEncodings.j1 kj8 l0 t300 t301 ((t305.toList == ([] : List UInt8)) != (decide (t300 ≥ 72057594037927936))))) else (if bt306.2 = true then (if bt306.1 = t300 then (if (t305.size : Int) = 7 then (if t300 < 0 then (laws_FnEncodings.j1 kj8 l0 t300 t301 ((t305.toList == ([] : List UInt8)) != true)) else (laws_FnEncodings.j1 kj8 l0 t300 t301 ((t305.toList == ([] : List UInt8)) != (decide (t300 ≥ 72057594037927936))))) else (laws_FnEncodings.j1 kj8 l0 t300 t301 true)) else (laws_FnEncodings.j1 kj8 l0 t300 t301 true)) else (laws_FnEncodings.j1 kj8 l0 t300 t301 true)))) else (none))) = some r := by rw [if_neg (show ¬ (false = true) by decide)] at H; exact H
      clear H
      have H := H1
      clear H1
      replace H := Option.bind_eq_some_iff.mp H
      obtain ⟨t305, A210, H⟩ := H
      replace H : (if t305.size + t301.size ≤ 9223372036854775807 then ((impl_DecodeFixed.f kj8 (t305 ++ t301) 7).bind fun bt306 => (if t305.toList = ([] : List UInt8) then (if t300 < 0 then (laws_FnEncodings.j1 kj8 l0 t300 t301 ((t305.toList == ([] : List UInt8)) != true)) else (laws_FnEncodings.j1 kj8 l0 t300 t301 ((t305.toList == ([] : List UInt8)) != (decide (t300 ≥ 72057594037927936))))) else (if bt306.2 = true then (if bt306.1 = t300 then (if (t305.size : Int) = 7 then (if t300 < 0 then (laws_FnEncodings.j1 kj8 l0 t300 t301 ((t305.toList == ([] : List UInt8)) != true)) else (laws_FnEncodings.j1 kj8 l0 t300 t301 ((t305.toList == ([] : List UInt8)) != (decide (t300 ≥ 72057594037927936))))) else (laws_FnEncodings.j1 kj8 l0 t300 t301 true)) else (laws_FnEncodings.j1 kj8 l0 t300 t301 true)) else (laws_FnEncodings.j1 kj8 l0 t300 t301 true)))) else (none)) = some r := H
      have A21 := aM A210
      clear A210
      by_cases c22 : t305.size + t301.size ≤ 9223372036854775807
      ·rw [if_pos c22] at H
       have c22b0 := eq_true c22
       have c22b1 : decide (t305.size + t301.size ≤ 9223372036854775807) = true := decide_eq_true c22
       try have c22b2 : (9223372036854775807 < t305.size + t301.size) = False := eq_false (Nat.not_lt.2 c22)
       replace H := Option.bind_eq_some_iff.mp H
       obtain ⟨⟨t306, t307⟩, A230, H⟩ := H
       replace H : (if t305.toList = ([] : List UInt8) then (if t300 < 0 then (laws_FnEncodings.j1 kj8 l0 t300 t301 ((t305.toList == ([] : List UInt8)) != true)) else (laws_FnEncodings.j1 kj8 l0 t300 t301 ((t305.toList == ([] : List UInt8)) != (decide (t300 ≥ 72057594037927936))))) else (if t307 = true then (if t306 = t300 then (if (t305.size : Int) = 7 then (if t300 < 0 then (laws_FnEncodings.j1 kj8 l0 t300 t301 ((t305.toList == ([] : List UInt8)) != true)) else (laws_FnEncodings.j1 kj8 l0 t300 t301 ((t305.toList == ([] : List UInt8)) != (decide (t300 ≥ 72057594037927936))))) else (laws_FnEncodings.j1 kj8 l0 t300 t301 true)) else (laws_FnEncodings.j1 kj8 l0 t300 t301 true)) else (laws_FnEncodings.j1 kj8 l0 t300 t301 true))) = some r := H
       have A23 := aM A230
       clear A230
       have HC24 := aM H
       clear H
       go_upto_region 11 with (first | ((with_reducible refine gate_callee (f := 47) rfl ?_); refine goesL_ (some 57) rfl rfl Tryd.func47 (by kernel_rfl) rfl #[.int .i64 t300, .int .i64 7] rfl (by (try simp only [List.map_toArray, List.map_cons, List.map_nil]); first | done | rfl | (simp only [List.length_drop, List.length_take]; rfl)) ?_; (with_reducible refine (impl_EncodeFixed.calls kj8 t300 7 t305 _ A21.out).mono ?_); rintro e w25 ⟨rfl, hb⟩; refine ⟨_, rfl, ?_⟩; have n0_ := aM (below_step aB hb); clear HB; have HB := n0_; clear n0_; (try clear hb); (try clear hb2); (try clear hk); (try clear hi)) | ((with_reducible refine gate_callee (f := 48) rfl ?_); refine goesL_ (some 62) rfl rfl Tryd.func48 (by kernel_rfl) rfl #[.string (t305 ++ t301), .int .i64 7] rfl (by (try simp only [List.map_toArray, List.map_cons, List.map_nil]); first | done | rfl | (simp only [List.length_drop, List.length_take]; rfl)) ?_; (with_reducible refine (impl_DecodeFixed.calls kj8 (t305 ++ t301) 7 t306 t307 _ A23.out).mono ?_); rintro e w' ⟨rfl, ⟨nd, rfl⟩⟩; refine ⟨_, rfl, ?_⟩))
       (try simp only [Act.put, List.setIfInBounds_toArray, List.set_cons_zero, List.set_cons_succ])
       go_cut [91] (fun v91 wc => ∃ (kq : Nat) (x91_23 : Bool), v91 = .bool x91_23 ∧ Aside0 (laws_FnEncodings.j1 kq l0 t300 t301 x91_23 = some r) ∧ Aside0 (kq ≤ kj8) ∧ Aside0 (Below w.heap.size w wc))
       case first =>
        have H := HC24.out
        clear HC24
        by_cases c26 : t305.toList = ([] : List UInt8)
        ·rw [if_pos c26] at H
         have c26b0 : (t305.toList == ([] : List UInt8)) = true := beq_iff_eq.mpr c26
         have c26b1 : (t305.toList != ([] : List UInt8)) = false := bne_eq_false_iff_eq.mpr c26
         clear c26
         (first | rw [c26b0] | (simp only [i64_w, i32_w]; rw [c26b0]) | skip)
         by_cases c27 : t300 < 0
         ·rw [if_pos c27] at H
          have c27b0 : decide (t300 < 0) = true := decide_eq_true c27
          clear c27
          have H' := aM H
          clear H
          go_wp2
          go_meet
          case rel => exact ⟨_, (((t305.toList == ([] : List UInt8)) != true)), (by first | rfl | (simp; done) | (simp [*]; done)), H', ⟨by have := HJ8.out; first | omega | exact Nat.le_refl _⟩, ⟨by repeat (first | (with_reducible first | exact HB.out | apply below_alloc | apply pw_below_drewN | apply below_drew1) | exact HB.out)⟩⟩
         ·rw [if_neg c27] at H
          have c27b0 : decide (t300 < 0) = false := decide_eq_false c27
          clear c27
          have H' := aM H
          clear H
          go_wp2
          go_meet
          case rel => exact ⟨_, (((t305.toList == ([] : List UInt8)) != (decide (t300 ≥ 72057594037927936)))), (by first | rfl | (simp; done) | (simp [*]; done)), H', ⟨by have := HJ8.out; first | omega | exact Nat.le_refl _⟩, ⟨by repeat (first | (with_reducible first | exact HB.out | apply below_alloc | apply pw_below_drewN | apply below_drew1) | exact HB.out)⟩⟩
        ·rw [if_neg c26] at H
         have c26b0 : (t305.toList == ([] : List UInt8)) = false := beq_eq_false_iff_ne.mpr c26
         have c26b1 : (t305.toList != ([] : List UInt8)) = true := bne_iff_ne.mpr c26
         (first | rw [c26b0] | (simp only [i64_w, i32_w]; rw [c26b0]) | skip)
         by_cases c28 : t307 = true
         ·subst c28
          have H1 : (if t306 = t300 then (if (t305.size : Int) = 7 then (if t300 < 0 then (laws_FnEncodings.j1 kj8 l0 t300 t301 ((t305.toList == ([] : List UInt8)) != true)) else (laws_FnEncodings.j1 kj8 l0 t300 t301 ((t305.toList == ([] : List UInt8)) != (decide (t300 ≥ 72057594037927936))))) else (laws_FnEncodings.j1 kj8 l0 t300 t301 true)) else (laws_FnEncodings.j1 kj8 l0 t300 t301 true)) = some r := by rw [if_pos rfl] at H; exact H
          clear H
          have H := H1
          clear H1
          by_cases c29 : t306 = t300
          ·rw [if_pos c29] at H
           have c29b0 : (t306 == t300) = true := beq_iff_eq.mpr c29
           have c29b1 : (t306 != t300) = false := bne_eq_false_iff_eq.mpr c29
           clear c29
           by_cases c30 : (t305.size : Int) = 7
           ·rw [if_pos c30] at H
            have c30b0 : ((t305.size : Int) == 7) = true := beq_iff_eq.mpr c30
            have c30b1 : ((t305.size : Int) != 7) = false := bne_eq_false_iff_eq.mpr c30
            clear c30
            by_cases c31 : t300 < 0
            ·rw [if_pos c31] at H
             have c31b0 : decide (t300 < 0) = true := decide_eq_true c31
             clear c31
             have H' := aM H
             clear H
             go_wp2
             go_meet
             case rel => exact ⟨_, (((t305.toList == ([] : List UInt8)) != true)), (by first | rfl | (simp; done) | (simp [*]; done)), H', ⟨by have := HJ8.out; first | omega | exact Nat.le_refl _⟩, ⟨by repeat (first | (with_reducible first | exact HB.out | apply below_alloc | apply pw_below_drewN | apply below_drew1) | exact HB.out)⟩⟩
            ·rw [if_neg c31] at H
             have c31b0 : decide (t300 < 0) = false := decide_eq_false c31
             clear c31
             have H' := aM H
             clear H
             go_wp2
             go_meet
             case rel => exact ⟨_, (((t305.toList == ([] : List UInt8)) != (decide (t300 ≥ 72057594037927936)))), (by first | rfl | (simp; done) | (simp [*]; done)), H', ⟨by have := HJ8.out; first | omega | exact Nat.le_refl _⟩, ⟨by repeat (first | (with_reducible first | exact HB.out | apply below_alloc | apply pw_below_drewN | apply below_drew1) | exact HB.out)⟩⟩
           ·rw [if_neg c30] at H
            have c30b0 : ((t305.size : Int) == 7) = false := beq_eq_false_iff_ne.mpr c30
            have c30b1 : ((t305.size : Int) != 7) = true := bne_iff_ne.mpr c30
            have H' := aM H
            clear H
            go_wp2
            go_meet
            case rel => exact ⟨_, (true), (by first | rfl | (simp; done) | (simp [*]; done)), H', ⟨by have := HJ8.out; first | omega | exact Nat.le_refl _⟩, ⟨by repeat (first | (with_reducible first | exact HB.out | apply below_alloc | apply pw_below_drewN | apply below_drew1) | exact HB.out)⟩⟩
          ·rw [if_neg c29] at H
           have c29b0 : (t306 == t300) = false := beq_eq_false_iff_ne.mpr c29
           have c29b1 : (t306 != t300) = true := bne_iff_ne.mpr c29
           have H' := aM H
           clear H
           go_wp2
           go_meet
           case rel => exact ⟨_, (true), (by first | rfl | (simp; done) | (simp [*]; done)), H', ⟨by have := HJ8.out; first | omega | exact Nat.le_refl _⟩, ⟨by repeat (first | (with_reducible first | exact HB.out | apply below_alloc | apply pw_below_drewN | apply below_drew1) | exact HB.out)⟩⟩
         ·replace c28 := Bool.eq_false_iff.mpr c28
          subst c28
          have H1 : (laws_FnEncodings.j1 kj8 l0 t300 t301 true) = some r := by rw [if_neg (show ¬ (false = true) by decide)] at H; exact H
          clear H
          have H := H1
          clear H1
          have H' := aM H
          clear H
          go_wp2
          go_meet
          case rel => exact ⟨_, (true), (by first | rfl | (simp; done) | (simp [*]; done)), H', ⟨by have := HJ8.out; first | omega | exact Nat.le_refl _⟩, ⟨by repeat (first | (with_reducible first | exact HB.out | apply below_alloc | apply pw_below_drewN | apply below_drew1) | exact HB.out)⟩⟩
       case rest =>
        clear HC24
        try clear c1
        try clear c2
        try clear p2
        try clear c3
        try clear c4
        try clear c7
        try clear c7b0
        try clear c7b1
        try clear c7b2
        try clear c10
        try clear c13
        try clear c13b0
        try clear c14
        try clear c14b0
        try clear c14b1
        try clear c14b2
        try clear c15
        try clear c15b0
        try clear c15b1
        try clear c16
        try clear c16b0
        try clear c16b1
        try clear c17
        try clear c17b0
        try clear c17b1
        try clear c17b2
        try clear c18
        try clear c18b0
        try clear c18b1
        try clear c19
        try clear c19b0
        try clear c19b1
        try clear c20
        try clear c22
        try clear c22b0
        try clear c22b1
        try clear c22b2
        try clear c26
        try clear c26b0
        try clear c26b1
        try clear c27
        try clear c27b0
        try clear c28
        try clear c29
        try clear c29b0
        try clear c29b1
        try clear c30
        try clear c30b0
        try clear c30b1
        try clear c31
        try clear c31b0
        try clear p2
        obtain ⟨kq, x91_23, rfl, HA, HJ23, HB⟩ := hcut
        cases kq with
        | zero => exact absurd HA.out (by simp [laws_FnEncodings.j1])
        | succ kj23 =>
         have H := HA.out
         clear HA
         simp only [laws_FnEncodings.j1] at H
         by_cases c32 : x91_23 = true
         ·subst c32
          have H1 : (some false) = some r := by rw [if_pos rfl] at H; exact H
          clear H
          have H := H1
          clear H1
          exact absurd (Option.some.inj (H.trans (congrArg some HRT_.out))) (by decide)
         ·replace c32 := Bool.eq_false_iff.mpr c32
          subst c32
          have H1 : ((impl_FormatInt.f t300).bind fun t308 => ((impl_ParseInt.f t308).bind fun bt309 => (if t300 > (-1000000000) then (if (bt309.2 != (decide (t300 < 1000000000))) = true then (laws_FnEncodings.j2 kj23 l0 t301 true) else (if bt309.2 = true then (laws_FnEncodings.j2 kj23 l0 t301 (bt309.1 != t300)) else (laws_FnEncodings.j2 kj23 l0 t301 false))) else (if (bt309.2 != false) = true then (laws_FnEncodings.j2 kj23 l0 t301 true) else (if bt309.2 = true then (laws_FnEncodings.j2 kj23 l0 t301 (bt309.1 != t300)) else (laws_FnEncodings.j2 kj23 l0 t301 false)))))) = some r := by rw [if_neg (show ¬ (false = true) by decide)] at H; exact H
          clear H
          have H := H1
          clear H1
          replace H := Option.bind_eq_some_iff.mp H
          obtain ⟨t308, A330, H⟩ := H
          replace H : ((impl_ParseInt.f t308).bind fun bt309 => (if t300 > (-1000000000) then (if (bt309.2 != (decide (t300 < 1000000000))) = true then (laws_FnEncodings.j2 kj23 l0 t301 true) else (if bt309.2 = true then (laws_FnEncodings.j2 kj23 l0 t301 (bt309.1 != t300)) else (laws_FnEncodings.j2 kj23 l0 t301 false))) else (if (bt309.2 != false) = true then (laws_FnEncodings.j2 kj23 l0 t301 true) else (if bt309.2 = true then (laws_FnEncodings.j2 kj23 l0 t301 (bt309.1 != t300)) else (laws_FnEncodings.j2 kj23 l0 t301 false))))) = some r := H
          have A33 := aM A330
          clear A330
          replace H := Option.bind_eq_some_iff.mp H
          obtain ⟨⟨t309, t310⟩, A340, H⟩ := H
          replace H : (if t300 > (-1000000000) then (if (t310 != (decide (t300 < 1000000000))) = true then (laws_FnEncodings.j2 kj23 l0 t301 true) else (if t310 = true then (laws_FnEncodings.j2 kj23 l0 t301 (t309 != t300)) else (laws_FnEncodings.j2 kj23 l0 t301 false))) else (if (t310 != false) = true then (laws_FnEncodings.j2 kj23 l0 t301 true) else (if t310 = true then (laws_FnEncodings.j2 kj23 l0 t301 (t309 != t300)) else (laws_FnEncodings.j2 kj23 l0 t301 false)))) = some r := H
          have A34 := aM A340
          clear A340
          have HC35 := aM H
          clear H
          go_upto_region 14 with (first | ((with_reducible refine gate_callee (f := 12) rfl ?_); refine goesL_ (some 94) rfl rfl Tryd.func12 (by kernel_rfl) rfl #[.int .i64 t300] rfl (by (try simp only [List.map_toArray, List.map_cons, List.map_nil]); first | done | rfl | (simp only [List.length_drop, List.length_take]; rfl)) ?_; (with_reducible refine (impl_FormatInt.calls t300 t308 _ A33.out (hp_.pow.on (by repeat (first | (with_reducible first | exact HB.out | apply below_alloc | apply pw_below_drewN | apply below_drew1) | exact HB.out)))).mono ?_); rintro e w36 ⟨rfl, hb⟩; refine ⟨_, rfl, ?_⟩; have n0_ := aM (below_step aB hb); clear HB; have HB := n0_; clear n0_; (try clear hb); (try clear hb2); (try clear hk); (try clear hi)) | ((with_reducible refine gate_callee (f := 37) rfl ?_); refine goesL_ (some 95) rfl rfl Tryd.func37 (by kernel_rfl) rfl #[.string t308] rfl (by (try simp only [List.map_toArray, List.map_cons, List.map_nil]); first | done | rfl | (simp only [List.length_drop, List.length_take]; rfl)) ?_; (with_reducible refine (impl_ParseInt.calls t308 t309 t310 _ A34.out (hp_.on (by repeat (first | (with_reducible first | exact HB.out | apply below_alloc | apply pw_below_drewN | apply below_drew1) | exact HB.out)))).mono ?_); rintro e w37 ⟨rfl, hb⟩; refine ⟨_, rfl, ?_⟩; have n0_ := aM (below_step aB hb); clear HB; have HB := n0_; clear n0_; (try clear hb); (try clear hb2); (try clear hk); (try clear hi)))
          (try simp only [Act.put, List.setIfInBounds_toArray, List.set_cons_zero, List.set_cons_succ])
          go_cut [113] (fun v113 wc => ∃ (kq : Nat) (x113_34 : Bool), v113 = .bool x113_34 ∧ Aside0 (laws_FnEncodings.j2 kq l0 t301 x113_34 = some r) ∧ Aside0 (kq ≤ kj23) ∧ Aside0 (Below w.heap.size w wc))
          case first =>
           have H := HC35.out
           clear HC35
           by_cases c38 : t300 > (-1000000000)
           ·rw [if_pos c38] at H
            have c38b0 : decide ((-1000000000) < t300) = true := decide_eq_true c38
            clear c38
            (first | rw [c38b0] | (simp only [i64_w, i32_w]; rw [c38b0]) | skip)
            by_cases c39 : (t310 != (decide (t300 < 1000000000))) = true
            ·rw [if_pos c39] at H
             have c39b0 : (t310 != (decide (t300 < 1000000000))) = true := c39
             (try (have c39b1 : decide (t310 = (decide (t300 < 1000000000))) = false := by simpa using c39))
             (try (have c39b2 : (t310 == (decide (t300 < 1000000000))) = false := by simpa using c39))
             (try (have c39b3 : ¬ (t310 = (decide (t300 < 1000000000))) := by simpa using c39))
             clear c39
             have H' := aM H
             clear H
             go_wp2
             go_meet
             case rel => exact ⟨_, (true), (by first | rfl | (simp; done) | (simp [*]; done)), H', ⟨by have := HJ8.out; have := HJ23.out; first | omega | exact Nat.le_refl _⟩, ⟨by repeat (first | (with_reducible first | exact HB.out | apply below_alloc | apply pw_below_drewN | apply below_drew1) | exact HB.out)⟩⟩
            ·rw [if_neg c39] at H
             have c39b0 : (t310 != (decide (t300 < 1000000000))) = false := by simpa using c39
             (try (have c39b1 : decide (t310 = (decide (t300 < 1000000000))) = true := by simpa using c39))
             (try (have c39b2 : (t310 == (decide (t300 < 1000000000))) = true := by simpa using c39))
             clear c39
             by_cases c40 : t310 = true
             ·subst c40
              have H1 : (laws_FnEncodings.j2 kj23 l0 t301 (t309 != t300)) = some r := by rw [if_pos rfl] at H; exact H
              clear H
              have H := H1
              clear H1
              have H' := aM H
              clear H
              go_wp2
              go_meet
              case rel => exact ⟨_, ((t309 != t300)), (by first | rfl | (simp; done) | (simp [*]; done)), H', ⟨by have := HJ8.out; have := HJ23.out; first | omega | exact Nat.le_refl _⟩, ⟨by repeat (first | (with_reducible first | exact HB.out | apply below_alloc | apply pw_below_drewN | apply below_drew1) | exact HB.out)⟩⟩
             ·replace c40 := Bool.eq_false_iff.mpr c40
              subst c40
              have H1 : (laws_FnEncodings.j2 kj23 l0 t301 false) = some r := by rw [if_neg (show ¬ (false = true) by decide)] at H; exact H
              clear H
              have H := H1
              clear H1
              have H' := aM H
              clear H
              go_wp2
              go_meet
              case rel => exact ⟨_, (false), (by first | rfl | (simp; done) | (simp [*]; done)), H', ⟨by have := HJ8.out; have := HJ23.out; first | omega | exact Nat.le_refl _⟩, ⟨by repeat (first | (with_reducible first | exact HB.out | apply below_alloc | apply pw_below_drewN | apply below_drew1) | exact HB.out)⟩⟩
           ·rw [if_neg c38] at H
            have c38b0 : decide ((-1000000000) < t300) = false := decide_eq_false c38
            clear c38
            (first | rw [c38b0] | (simp only [i64_w, i32_w]; rw [c38b0]) | skip)
            by_cases c41 : (t310 != false) = true
            ·rw [if_pos c41] at H
             have c41b0 : (t310 != false) = true := c41
             (try (have c41b1 : decide (t310 = false) = false := by simpa using c41))
             (try (have c41b2 : (t310 == false) = false := by simpa using c41))
             (try (have c41b3 : ¬ (t310 = false) := by simpa using c41))
             clear c41
             have H' := aM H
             clear H
             go_wp2
             go_meet
             case rel => exact ⟨_, (true), (by first | rfl | (simp; done) | (simp [*]; done)), H', ⟨by have := HJ8.out; have := HJ23.out; first | omega | exact Nat.le_refl _⟩, ⟨by repeat (first | (with_reducible first | exact HB.out | apply below_alloc | apply pw_below_drewN | apply below_drew1) | exact HB.out)⟩⟩
            ·rw [if_neg c41] at H
             have c41b0 : (t310 != false) = false := by simpa using c41
             (try (have c41b1 : decide (t310 = false) = true := by simpa using c41))
             (try (have c41b2 : (t310 == false) = true := by simpa using c41))
             clear c41
             by_cases c42 : t310 = true
             ·subst c42
              have H1 : (laws_FnEncodings.j2 kj23 l0 t301 (t309 != t300)) = some r := by rw [if_pos rfl] at H; exact H
              clear H
              have H := H1
              clear H1
              have H' := aM H
              clear H
              go_wp2
              go_meet
              case rel => exact ⟨_, ((t309 != t300)), (by first | rfl | (simp; done) | (simp [*]; done)), H', ⟨by have := HJ8.out; have := HJ23.out; first | omega | exact Nat.le_refl _⟩, ⟨by repeat (first | (with_reducible first | exact HB.out | apply below_alloc | apply pw_below_drewN | apply below_drew1) | exact HB.out)⟩⟩
             ·replace c42 := Bool.eq_false_iff.mpr c42
              subst c42
              have H1 : (laws_FnEncodings.j2 kj23 l0 t301 false) = some r := by rw [if_neg (show ¬ (false = true) by decide)] at H; exact H
              clear H
              have H := H1
              clear H1
              have H' := aM H
              clear H
              go_wp2
              go_meet
              case rel => exact ⟨_, (false), (by first | rfl | (simp; done) | (simp [*]; done)), H', ⟨by have := HJ8.out; have := HJ23.out; first | omega | exact Nat.le_refl _⟩, ⟨by repeat (first | (with_reducible first | exact HB.out | apply below_alloc | apply pw_below_drewN | apply below_drew1) | exact HB.out)⟩⟩
          case rest =>
           clear HC35
           try clear c1
           try clear c2
           try clear p2
           try clear c3
           try clear c4
           try clear c7
           try clear c7b0
           try clear c7b1
           try clear c7b2
           try clear c10
           try clear c12
           try clear c13
           try clear c13b0
           try clear c14
           try clear c14b0
           try clear c14b1
           try clear c14b2
           try clear c15
           try clear c15b0
           try clear c15b1
           try clear c16
           try clear c16b0
           try clear c16b1
           try clear c17
           try clear c17b0
           try clear c17b1
           try clear c17b2
           try clear c18
           try clear c18b0
           try clear c18b1
           try clear c19
           try clear c19b0
           try clear c19b1
           try clear c20
           try clear c22
           try clear c22b0
           try clear c22b1
           try clear c22b2
           try clear c26
           try clear c26b0
           try clear c26b1
           try clear c27
           try clear c27b0
           try clear c28
           try clear c29
           try clear c29b0
           try clear c29b1
           try clear c30
           try clear c30b0
           try clear c30b1
           try clear c31
           try clear c31b0
           try clear c32
           try clear c37
           try clear c38
           try clear c38b0
           try clear c39
           try clear c39b0
           try clear c39b1
           try clear c39b2
           try clear c40
           try clear c41
           try clear c41b0
           try clear c41b1
           try clear c41b2
           try clear c42
           try clear p2
           obtain ⟨kq, x113_34, rfl, HA, HJ34, HB⟩ := hcut
           cases kq with
           | zero => exact absurd HA.out (by simp [laws_FnEncodings.j2])
           | succ kj34 =>
            have H := HA.out
            clear HA
            simp only [laws_FnEncodings.j2] at H
            by_cases c43 : x113_34 = true
            ·subst c43
             have H1 : (some false) = some r := by rw [if_pos rfl] at H; exact H
             clear H
             have H := H1
             clear H1
             exact absurd (Option.some.inj (H.trans (congrArg some HRT_.out))) (by decide)
            ·replace c43 := Bool.eq_false_iff.mpr c43
             subst c43
             have H1 : ((impl_EncodeHex.f kj34 t301).bind fun t311 => ((impl_DecodeHex.f kj34 t311).bind fun bt312 => ((spec_DrawDecodeVarint.f kj34 l0).bind fun t314 => ((impl_DecodeVarint.f kj34 t314).bind fun bt315 => (if bt312.2 = true then (if bt312.1.toList = t301.toList then (if bt315.2 = 0 then (some true) else (if bt315.2 > 0 then ((spec_DrawDecodeVarint.f kj34 l0).bind fun t317 => (if bt315.2 ≤ (t317.size : Int) then ((spec_DrawDecodeVarint.f kj34 l0).bind fun t318 => (if bt315.2 ≤ (t318.size : Int) then ((impl_EncodeVarint.f kj34 bt315.1).bind fun t319 => ((spec_DrawDecodeVarint.f kj34 l0).bind fun t320 => (if 0 ≤ bt315.2 then (if bt315.2 ≤ (t320.size : Int) then (some (t319.toList == (t320.extract 0 (bt315.2 : Int).toNat).toList)) else (none)) else (none)))) else (some false))) else (some false))) else (some false))) else (some false)) else (some false)))))) = some r := by rw [if_neg (show ¬ (false = true) by decide)] at H; exact H
             clear H
             have H := H1
             clear H1
             replace H := Option.bind_eq_some_iff.mp H
             obtain ⟨t311, A440, H⟩ := H
             replace H : ((impl_DecodeHex.f kj34 t311).bind fun bt312 => ((spec_DrawDecodeVarint.f kj34 l0).bind fun t314 => ((impl_DecodeVarint.f kj34 t314).bind fun bt315 => (if bt312.2 = true then (if bt312.1.toList = t301.toList then (if bt315.2 = 0 then (some true) else (if bt315.2 > 0 then ((spec_DrawDecodeVarint.f kj34 l0).bind fun t317 => (if bt315.2 ≤ (t317.size : Int) then ((spec_DrawDecodeVarint.f kj34 l0).bind fun t318 => (if bt315.2 ≤ (t318.size : Int) then ((impl_EncodeVarint.f kj34 bt315.1).bind fun t319 => ((spec_DrawDecodeVarint.f kj34 l0).bind fun t320 => (if 0 ≤ bt315.2 then (if bt315.2 ≤ (t320.size : Int) then (some (t319.toList == (t320.extract 0 (bt315.2 : Int).toNat).toList)) else (none)) else (none)))) else (some false))) else (some false))) else (some false))) else (some false)) else (some false))))) = some r := H
             have A44 := aM A440
             clear A440
             replace H := Option.bind_eq_some_iff.mp H
             obtain ⟨⟨t312, t313⟩, A450, H⟩ := H
             replace H : ((spec_DrawDecodeVarint.f kj34 l0).bind fun t314 => ((impl_DecodeVarint.f kj34 t314).bind fun bt315 => (if t313 = true then (if t312.toList = t301.toList then (if bt315.2 = 0 then (some true) else (if bt315.2 > 0 then ((spec_DrawDecodeVarint.f kj34 l0).bind fun t317 => (if bt315.2 ≤ (t317.size : Int) then ((spec_DrawDecodeVarint.f kj34 l0).bind fun t318 => (if bt315.2 ≤ (t318.size : Int) then ((impl_EncodeVarint.f kj34 bt315.1).bind fun t319 => ((spec_DrawDecodeVarint.f kj34 l0).bind fun t320 => (if 0 ≤ bt315.2 then (if bt315.2 ≤ (t320.size : Int) then (some (t319.toList == (t320.extract 0 (bt315.2 : Int).toNat).toList)) else (none)) else (none)))) else (some false))) else (some false))) else (some false))) else (some false)) else (some false)))) = some r := H
             have A45 := aM A450
             clear A450
             replace H := Option.bind_eq_some_iff.mp H
             obtain ⟨t314, A460, H⟩ := H
             replace H : ((impl_DecodeVarint.f kj34 t314).bind fun bt315 => (if t313 = true then (if t312.toList = t301.toList then (if bt315.2 = 0 then (some true) else (if bt315.2 > 0 then ((spec_DrawDecodeVarint.f kj34 l0).bind fun t317 => (if bt315.2 ≤ (t317.size : Int) then ((spec_DrawDecodeVarint.f kj34 l0).bind fun t318 => (if bt315.2 ≤ (t318.size : Int) then ((impl_EncodeVarint.f kj34 bt315.1).bind fun t319 => ((spec_DrawDecodeVarint.f kj34 l0).bind fun t320 => (if 0 ≤ bt315.2 then (if bt315.2 ≤ (t320.size : Int) then (some (t319.toList == (t320.extract 0 (bt315.2 : Int).toNat).toList)) else (none)) else (none)))) else (some false))) else (some false))) else (some false))) else (some false)) else (some false))) = some r := H
             have A46 := aM A460
             clear A460
             replace H := Option.bind_eq_some_iff.mp H
             obtain ⟨⟨t315, t316⟩, A470, H⟩ := H
             replace H : (if t313 = true then (if t312.toList = t301.toList then (if t316 = 0 then (some true) else (if t316 > 0 then ((spec_DrawDecodeVarint.f kj34 l0).bind fun t317 => (if t316 ≤ (t317.size : Int) then ((spec_DrawDecodeVarint.f kj34 l0).bind fun t318 => (if t316 ≤ (t318.size : Int) then ((impl_EncodeVarint.f kj34 t315).bind fun t319 => ((spec_DrawDecodeVarint.f kj34 l0).bind fun t320 => (if 0 ≤ t316 then (if t316 ≤ (t320.size : Int) then (some (t319.toList == (t320.extract 0 (t316 : Int).toNat).toList)) else (none)) else (none)))) else (some false))) else (some false))) else (some false))) else (some false)) else (some false)) = some r := H
             have A47 := aM A470
             clear A470
             by_cases c48 : t313 = true
             ·subst c48
              have H1 : (if t312.toList = t301.toList then (if t316 = 0 then (some true) else (if t316 > 0 then ((spec_DrawDecodeVarint.f kj34 l0).bind fun t317 => (if t316 ≤ (t317.size : Int) then ((spec_DrawDecodeVarint.f kj34 l0).bind fun t318 => (if t316 ≤ (t318.size : Int) then ((impl_EncodeVarint.f kj34 t315).bind fun t319 => ((spec_DrawDecodeVarint.f kj34 l0).bind fun t320 => (if 0 ≤ t316 then (if t316 ≤ (t320.size : Int) then (some (t319.toList == (t320.extract 0 (t316 : Int).toNat).toList)) else (none)) else (none)))) else (some false))) else (some false))) else (some false))) else (some false)) = some r := by rw [if_pos rfl] at H; exact H
              clear H
              have H := H1
              clear H1
              by_cases c49 : t312.toList = t301.toList
              ·rw [if_pos c49] at H
               have c49b0 : (t312.toList == t301.toList) = true := beq_iff_eq.mpr c49
               have c49b1 : (t312.toList != t301.toList) = false := bne_eq_false_iff_eq.mpr c49
               clear c49
               by_cases c50 : t316 = 0
               ·rw [if_pos c50] at H
                have c50b0 : (t316 == 0) = true := beq_iff_eq.mpr c50
                have c50b1 : (t316 != 0) = false := bne_eq_false_iff_eq.mpr c50
                clear c50
                obtain rfl := Option.some.inj H
                go_wp2_with (first | ((with_reducible refine gate_callee (f := 50) rfl ?_); refine goesL_ (some 116) rfl rfl Tryd.func50 (by kernel_rfl) rfl #[.string t301] rfl (by (try simp only [List.map_toArray, List.map_cons, List.map_nil]); first | done | rfl | (simp only [List.length_drop, List.length_take]; rfl)) ?_; (with_reducible refine (impl_EncodeHex.calls kj34 t301 t311 _ A44.out).mono ?_); rintro e w51 ⟨rfl, hb⟩; refine ⟨_, rfl, ?_⟩; have n0_ := aM (below_step aB hb); clear HB; have HB := n0_; clear n0_; (try clear hb); (try clear hb2); (try clear hk); (try clear hi)) | ((with_reducible refine gate_callee (f := 49) rfl ?_); refine goesL_ (some 117) rfl rfl Tryd.func49 (by kernel_rfl) rfl #[.string t311] rfl (by (try simp only [List.map_toArray, List.map_cons, List.map_nil]); first | done | rfl | (simp only [List.length_drop, List.length_take]; rfl)) ?_; (with_reducible refine (impl_DecodeHex.calls kj34 t311 t312 true _ A45.out).mono ?_); rintro e w52 ⟨rfl, hb⟩; refine ⟨_, rfl, ?_⟩; have n0_ := aM (below_step aB hb); clear HB; have HB := n0_; clear n0_; (try clear hb); (try clear hb2); (try clear hk); (try clear hi)) | ((with_reducible refine gate_callee (f := 51) rfl ?_); refine goesL_ (some 122) rfl rfl Tryd.func51 (by kernel_rfl) rfl #[.slice A0 l0.length c0] rfl (by (try simp only [List.map_toArray, List.map_cons, List.map_nil]); first | done | rfl | (simp only [List.length_drop, List.length_take]; rfl)) ?_; (with_reducible refine (spec_DrawDecodeVarint.calls kj34 _ _ l0 t314 _ ?side1 ?side2 A46.out).mono ?_); (case side1 => exact aC); (case side2 => exact HC0.out); rintro e w53 ⟨rfl, hb⟩; refine ⟨_, rfl, ?_⟩; have n0_ := aM (below_step aB hb); clear HB; have HB := n0_; clear n0_; (try clear hb); (try clear hb2); (try clear hk); (try clear hi)) | ((with_reducible refine gate_callee (f := 46) rfl ?_); refine goesL_ (some 123) rfl rfl Tryd.func46 (by kernel_rfl) rfl #[.string t314] rfl (by (try simp only [List.map_toArray, List.map_cons, List.map_nil]); first | done | rfl | (simp only [List.length_drop, List.length_take]; rfl)) ?_; (with_reducible refine (impl_DecodeVarint.calls kj34 t314 t315 t316 _ A47.out).mono ?_); rintro e w' ⟨rfl, ⟨nd, rfl⟩⟩; refine ⟨_, rfl, ?_⟩))
                go_ret
                exact ⟨by first | rfl | (simp [errW_none, errW_some] <;> rfl) | (simp [*, errW_none, errW_some] <;> rfl), by repeat (first | (with_reducible first | exact HB.out | apply below_alloc | apply pw_below_drewN | apply below_drew1) | exact HB.out)⟩
               ·rw [if_neg c50] at H
                have c50b0 : (t316 == 0) = false := beq_eq_false_iff_ne.mpr c50
                have c50b1 : (t316 != 0) = true := bne_iff_ne.mpr c50
                by_cases c54 : t316 > 0
                ·rw [if_pos c54] at H
                 have c54b0 : decide (0 < t316) = true := decide_eq_true c54
                 clear c54
                 replace H := Option.bind_eq_some_iff.mp H
                 obtain ⟨t317, A550, H⟩ := H
                 replace H : (if t316 ≤ (t317.size : Int) then ((spec_DrawDecodeVarint.f kj34 l0).bind fun t318 => (if t316 ≤ (t318.size : Int) then ((impl_EncodeVarint.f kj34 t315).bind fun t319 => ((spec_DrawDecodeVarint.f kj34 l0).bind fun t320 => (if 0 ≤ t316 then (if t316 ≤ (t320.size : Int) then (some (t319.toList == (t320.extract 0 (t316 : Int).toNat).toList)) else (none)) else (none)))) else (some false))) else (some false)) = some r := H
                 have A55 := aM A550
                 obtain rfl : t314 = t317 := Option.some.inj (A46.out.symm.trans A55.out)
                 clear A550
                 by_cases c56 : t316 ≤ (t314.size : Int)
                 ·rw [if_pos c56] at H
                  have c56b0 : decide (t316 ≤ (t314.size : Int)) = true := decide_eq_true c56
                  clear c56
                  replace H := Option.bind_eq_some_iff.mp H
                  obtain ⟨t318, A570, H⟩ := H
                  replace H : (if t316 ≤ (t318.size : Int) then ((impl_EncodeVarint.f kj34 t315).bind fun t319 => ((spec_DrawDecodeVarint.f kj34 l0).bind fun t320 => (if 0 ≤ t316 then (if t316 ≤ (t320.size : Int) then (some (t319.toList == (t320.extract 0 (t316 : Int).toNat).toList)) else (none)) else (none)))) else (some false)) = some r := H
                  have A57 := aM A570
                  obtain rfl : t314 = t318 := Option.some.inj (A46.out.symm.trans A57.out)
                  clear A570
                  by_cases c58 : t316 ≤ (t314.size : Int)
                  ·rw [if_pos c58] at H
                   have c58b0 : decide (t316 ≤ (t314.size : Int)) = true := decide_eq_true c58
                   clear c58
                   replace H := Option.bind_eq_some_iff.mp H
                   obtain ⟨t319, A590, H⟩ := H
                   replace H : ((spec_DrawDecodeVarint.f kj34 l0).bind fun t320 => (if 0 ≤ t316 then (if t316 ≤ (t320.size : Int) then (some (t319.toList == (t320.extract 0 (t316 : Int).toNat).toList)) else (none)) else (none))) = some r := H
                   have A59 := aM A590
                   clear A590
                   replace H := Option.bind_eq_some_iff.mp H
                   obtain ⟨t320, A600, H⟩ := H
                   replace H : (if 0 ≤ t316 then (if t316 ≤ (t320.size : Int) then (some (t319.toList == (t320.extract 0 (t316 : Int).toNat).toList)) else (none)) else (none)) = some r := H
                   have A60 := aM A600
                   obtain rfl : t314 = t320 := Option.some.inj (A46.out.symm.trans A60.out)
                   clear A600
                   by_cases c61 : 0 ≤ t316
                   ·rw [if_pos c61] at H
                    have c61b0 := eq_true c61
                    have c61b1 : decide (0 ≤ t316) = true := decide_eq_true c61
                    clear c61
                    by_cases c62 : t316 ≤ (t314.size : Int)
                    ·rw [if_pos c62] at H
                     have c62b0 := eq_true c62
                     have c62b1 : decide (t316 ≤ (t314.size : Int)) = true := decide_eq_true c62
                     clear c62
                     obtain rfl := Option.some.inj H
                     go_wp2_with (first | ((with_reducible refine gate_callee (f := 50) rfl ?_); refine goesL_ (some 116) rfl rfl Tryd.func50 (by kernel_rfl) rfl #[.string t301] rfl (by (try simp only [List.map_toArray, List.map_cons, List.map_nil]); first | done | rfl | (simp only [List.length_drop, List.length_take]; rfl)) ?_; (with_reducible refine (impl_EncodeHex.calls kj34 t301 t311 _ A44.out).mono ?_); rintro e w63 ⟨rfl, hb⟩; refine ⟨_, rfl, ?_⟩; have n0_ := aM (below_step aB hb); clear HB; have HB := n0_; clear n0_; (try clear hb); (try clear hb2); (try clear hk); (try clear hi)) | ((with_reducible refine gate_callee (f := 49) rfl ?_); refine goesL_ (some 117) rfl rfl Tryd.func49 (by kernel_rfl) rfl #[.string t311] rfl (by (try simp only [List.map_toArray, List.map_cons, List.map_nil]); first | done | rfl | (simp only [List.length_drop, List.length_take]; rfl)) ?_; (with_reducible refine (impl_DecodeHex.calls kj34 t311 t312 true _ A45.out).mono ?_); rintro e w64 ⟨rfl, hb⟩; refine ⟨_, rfl, ?_⟩; have n0_ := aM (below_step aB hb); clear HB; have HB := n0_; clear n0_; (try clear hb); (try clear hb2); (try clear hk); (try clear hi)) | ((with_reducible refine gate_callee (f := 51) rfl ?_); refine goesL_ (some 122) rfl rfl Tryd.func51 (by kernel_rfl) rfl #[.slice A0 l0.length c0] rfl (by (try simp only [List.map_toArray, List.map_cons, List.map_nil]); first | done | rfl | (simp only [List.length_drop, List.length_take]; rfl)) ?_; (with_reducible refine (spec_DrawDecodeVarint.calls kj34 _ _ l0 t314 _ ?side1 ?side2 A46.out).mono ?_); (case side1 => exact aC); (case side2 => exact HC0.out); rintro e w65 ⟨rfl, hb⟩; refine ⟨_, rfl, ?_⟩; have n0_ := aM (below_step aB hb); clear HB; have HB := n0_; clear n0_; (try clear hb); (try clear hb2); (try clear hk); (try clear hi)) | ((with_reducible refine gate_callee (f := 46) rfl ?_); refine goesL_ (some 123) rfl rfl Tryd.func46 (by kernel_rfl) rfl #[.string t314] rfl (by (try simp only [List.map_toArray, List.map_cons, List.map_nil]); first | done | rfl | (simp only [List.length_drop, List.length_take]; rfl)) ?_; (with_reducible refine (impl_DecodeVarint.calls kj34 t314 t315 t316 _ A47.out).mono ?_); rintro e w' ⟨rfl, ⟨nd, rfl⟩⟩; refine ⟨_, rfl, ?_⟩) | (go_at_call 51; (with_reducible refine (spec_DrawDecodeVarint.calls kj34 _ _ l0 t314 _ ?side1 ?side2 A55.out).mono ?_); (case side1 => repeat (first | exact (Kd.C_below HR0.out aB) | (with_reducible refine Kd.C_alloc ?_ _) | (with_reducible refine Kd.C_drewN ?_ _) | (with_reducible refine Kd.C_drew ?_))); (case side2 => exact HC0.out); rintro e w66 ⟨rfl, hb⟩; have n0_ := aM (below_step aB hb); clear HB; have HB := n0_; clear n0_; (try clear hb); (try clear hb2); (try clear hk); (try clear hi)) | (go_at_call 51; (with_reducible refine (spec_DrawDecodeVarint.calls kj34 _ _ l0 t314 _ ?side1 ?side2 A57.out).mono ?_); (case side1 => exact aC); (case side2 => exact HC0.out); rintro e w67 ⟨rfl, hb⟩; have n0_ := aM (below_step aB hb); clear HB; have HB := n0_; clear n0_; (try clear hb); (try clear hb2); (try clear hk); (try clear hi)) | (go_at_call 45; (with_reducible refine (impl_EncodeVarint.calls kj34 t315 t319 _ A59.out).mono ?_); rintro e w68 ⟨rfl, hb⟩; have n0_ := aM (below_step aB hb); clear HB; have HB := n0_; clear n0_; (try clear hb); (try clear hb2); (try clear hk); (try clear hi)) | (go_at_call 51; (with_reducible refine (spec_DrawDecodeVarint.calls kj34 _ _ l0 t314 _ ?side1 ?side2 A60.out).mono ?_); (case side1 => exact aC); (case side2 => exact HC0.out); rintro e w69 ⟨rfl, hb⟩; have n0_ := aM (below_step aB hb); clear HB; have HB := n0_; clear n0_; (try clear hb); (try clear hb2); (try clear hk); (try clear hi)))
                     go_ret
                     exact ⟨by first | rfl | (simp [errW_none, errW_some] <;> rfl) | (simp [*, errW_none, errW_some] <;> rfl), by repeat (first | (with_reducible first | exact HB.out | apply below_alloc | apply pw_below_drewN | apply below_drew1) | exact HB.out)⟩
                    ·rw [if_neg c62] at H
                     exact absurd H (by simp)
                   ·rw [if_neg c61] at H
                    exact absurd H (by simp)
                  ·rw [if_neg c58] at H
                   have c58b0 : decide (t316 ≤ (t314.size : Int)) = false := decide_eq_false c58
                   clear c58
                   exact absurd (Option.some.inj (H.trans (congrArg some HRT_.out))) (by decide)
                 ·rw [if_neg c56] at H
                  have c56b0 : decide (t316 ≤ (t314.size : Int)) = false := decide_eq_false c56
                  clear c56
                  exact absurd (Option.some.inj (H.trans (congrArg some HRT_.out))) (by decide)
                ·rw [if_neg c54] at H
                 have c54b0 : decide (0 < t316) = false := decide_eq_false c54
                 clear c54
                 exact absurd (Option.some.inj (H.trans (congrArg some HRT_.out))) (by decide)
              ·rw [if_neg c49] at H
               have c49b0 : (t312.toList == t301.toList) = false := beq_eq_false_iff_ne.mpr c49
               have c49b1 : (t312.toList != t301.toList) = true := bne_iff_ne.mpr c49
               exact absurd (Option.some.inj (H.trans (congrArg some HRT_.out))) (by decide)
             ·replace c48 := Bool.eq_false_iff.mpr c48
              subst c48
              have H1 : (some false) = some r := by rw [if_neg (show ¬ (false = true) by decide)] at H; exact H
              clear H
              have H := H1
              clear H1
              exact absurd (Option.some.inj (H.trans (congrArg some HRT_.out))) (by decide)
      ·rw [if_neg c22] at H
       exact absurd H (by simp)
  ·rw [if_neg c7] at H
   exact absurd H (by simp)

end Go.Proofs.YtdpaopfghggiaaaDoor.PFnEncodings
