-- Laid by a program of this claim: what the functions come to, some of them proved by hand.
import Derived.Test.YtdpaopfghggiaaaDoorPFnRelationFormatx0
import Derived.Test.YtdpaopfghggiaaaDoorPFnRelationFormatx2
import Derived.Test.YtdpaopfghggiaaaDoorPFnRelationFormatx3
import Derived.Test.YtdpaopfghggiaaaDoorPFnRelationFormatx4
namespace Go.Proofs.YtdpaopfghggiaaaDoor.PFnRelationFormat
open Go.RowKit Go.Proofs.YtdpaopfghggiaaaDoorW.PrintWords Go.Proofs.YtdpaopfghggiaaaDoorW.PrintLast Go.Proofs.YtdpaopfghggiaaaDoorW.PrintMore
attribute [local go_sem] max2_int min2_int max_two min_two max_three min_three max_four min_four   -- for this text's walks alone
set_option linter.unusedVariables false
set_option linter.unusedSimpArgs false

/-! ### spec_DrawAreValidRelations: function 23 -/
def spec_DrawAreValidRelations.f (k : Nat) (l0 : List Int) : Option ((List (S28))) := (spec_l1New.f k l0).bind fun bt281 => ((spec_l2Sigs.f bt281.1 bt281.2.1 bt281.2.2).bind fun bt285 => ((spec_l1Below.f bt281.1 bt285.2.1 bt285.2.2 6).bind fun bt290 => (if bt290.1 = 0 then ((spec_l1Below.f bt281.1 bt290.2.1 bt290.2.2 4).bind fun bt293 => ((spec_l2Any.f bt281.1 bt293.2.1 bt293.2.2).bind fun bt296 => (if 0 ≤ bt293.1 then (if bt293.1 < (bt285.1.length : Int) then (some (bt285.1.set (bt293.1 : Int).toNat (⟨bt296.1, bt296.2.1, bt296.2.2.1⟩ : S28))) else (none)) else (none)))) else (if bt290.1 = 1 then (if bt285.1.length < 4398046511104 then (some (bt285.1 ++ [(⟨(⟨#[118]⟩ : ByteArray), 1, 0⟩ : S28)])) else (none)) else (if bt290.1 = 2 then ((spec_l1Below.f bt281.1 bt290.2.1 bt290.2.2 4).bind fun bt305 => (if 0 ≤ bt305.1 then (if bt305.1 ≤ (bt285.1.length : Int) then (some (bt285.1.drop (bt305.1 : Int).toNat)) else (none)) else (none))) else (some bt285.1))))))
set_option maxHeartbeats 8000000 in
set_option maxRecDepth 100000 in
theorem spec_DrawAreValidRelations.calls (k : Nat) (A0 : Option Addr) (c0 : Nat) (l0 : List Int) (r : List (S28)) (w : World) (hr0 : Kd.C (Kd.int .u8) w A0 l0.length l0) (hc0 : l0.length ≤ c0) (h : spec_DrawAreValidRelations.f k l0 = some r) :
  Calls Tryd.prog 23 #[.slice A0 l0.length c0] w fun e w' => ∃ v0_ : Value, e = .returned (v0_) ∧ Kd.Q k28 28 w' w.heap.size (fun _ => True) v0_ r ∧ Below w.heap.size w w' := by
 have hu28 := Tryd.underlying28
 have HR0 := aM hr0
 have HC0 := aM hc0
 clear hr0 hc0
 have HB := aM (Below.refl w.heap.size w)
 have H : ((spec_l1New.f k l0).bind fun bt281 => ((spec_l2Sigs.f bt281.1 bt281.2.1 bt281.2.2).bind fun bt285 => ((spec_l1Below.f bt281.1 bt285.2.1 bt285.2.2 6).bind fun bt290 => (if bt290.1 = 0 then ((spec_l1Below.f bt281.1 bt290.2.1 bt290.2.2 4).bind fun bt293 => ((spec_l2Any.f bt281.1 bt293.2.1 bt293.2.2).bind fun bt296 => (if 0 ≤ bt293.1 then (if bt293.1 < (bt285.1.length : Int) then (some (bt285.1.set (bt293.1 : Int).toNat (⟨bt296.1, bt296.2.1, bt296.2.2.1⟩ : S28))) else (none)) else (none)))) else (if bt290.1 = 1 then (if bt285.1.length < 4398046511104 then (some (bt285.1 ++ [(⟨(⟨#[118]⟩ : ByteArray), 1, 0⟩ : S28)])) else (none)) else (if bt290.1 = 2 then ((spec_l1Below.f bt281.1 bt290.2.1 bt290.2.2 4).bind fun bt305 => (if 0 ≤ bt305.1 then (if bt305.1 ≤ (bt285.1.length : Int) then (some (bt285.1.drop (bt305.1 : Int).toNat)) else (none)) else (none))) else (some bt285.1))))))) = some r := h
 clear h
 replace H := Option.bind_eq_some_iff.mp H
 obtain ⟨⟨t281, t282, t283⟩, A20, H⟩ := H
 replace H : ((spec_l2Sigs.f t281 t282 t283).bind fun bt285 => ((spec_l1Below.f t281 bt285.2.1 bt285.2.2 6).bind fun bt290 => (if bt290.1 = 0 then ((spec_l1Below.f t281 bt290.2.1 bt290.2.2 4).bind fun bt293 => ((spec_l2Any.f t281 bt293.2.1 bt293.2.2).bind fun bt296 => (if 0 ≤ bt293.1 then (if bt293.1 < (bt285.1.length : Int) then (some (bt285.1.set (bt293.1 : Int).toNat (⟨bt296.1, bt296.2.1, bt296.2.2.1⟩ : S28))) else (none)) else (none)))) else (if bt290.1 = 1 then (if bt285.1.length < 4398046511104 then (some (bt285.1 ++ [(⟨(⟨#[118]⟩ : ByteArray), 1, 0⟩ : S28)])) else (none)) else (if bt290.1 = 2 then ((spec_l1Below.f t281 bt290.2.1 bt290.2.2 4).bind fun bt305 => (if 0 ≤ bt305.1 then (if bt305.1 ≤ (bt285.1.length : Int) then (some (bt285.1.drop (bt305.1 : Int).toNat)) else (none)) else (none))) else (some bt285.1)))))) = some r := H
 have A2 := aM A20
 clear A20
 replace H := Option.bind_eq_some_iff.mp H
 obtain ⟨⟨t285, t288, t289⟩, A30, H⟩ := H
 replace H : ((spec_l1Below.f t281 t288 t289 6).bind fun bt290 => (if bt290.1 = 0 then ((spec_l1Below.f t281 bt290.2.1 bt290.2.2 4).bind fun bt293 => ((spec_l2Any.f t281 bt293.2.1 bt293.2.2).bind fun bt296 => (if 0 ≤ bt293.1 then (if bt293.1 < (t285.length : Int) then (some (t285.set (bt293.1 : Int).toNat (⟨bt296.1, bt296.2.1, bt296.2.2.1⟩ : S28))) else (none)) else (none)))) else (if bt290.1 = 1 then (if t285.length < 4398046511104 then (some (t285 ++ [(⟨(⟨#[118]⟩ : ByteArray), 1, 0⟩ : S28)])) else (none)) else (if bt290.1 = 2 then ((spec_l1Below.f t281 bt290.2.1 bt290.2.2 4).bind fun bt305 => (if 0 ≤ bt305.1 then (if bt305.1 ≤ (t285.length : Int) then (some (t285.drop (bt305.1 : Int).toNat)) else (none)) else (none))) else (some t285))))) = some r := H
 have A3 := aM A30
 clear A30
 replace H := Option.bind_eq_some_iff.mp H
 obtain ⟨⟨t290, t291, t292⟩, A40, H⟩ := H
 replace H : (if t290 = 0 then ((spec_l1Below.f t281 t291 t292 4).bind fun bt293 => ((spec_l2Any.f t281 bt293.2.1 bt293.2.2).bind fun bt296 => (if 0 ≤ bt293.1 then (if bt293.1 < (t285.length : Int) then (some (t285.set (bt293.1 : Int).toNat (⟨bt296.1, bt296.2.1, bt296.2.2.1⟩ : S28))) else (none)) else (none)))) else (if t290 = 1 then (if t285.length < 4398046511104 then (some (t285 ++ [(⟨(⟨#[118]⟩ : ByteArray), 1, 0⟩ : S28)])) else (none)) else (if t290 = 2 then ((spec_l1Below.f t281 t291 t292 4).bind fun bt305 => (if 0 ≤ bt305.1 then (if bt305.1 ≤ (t285.length : Int) then (some (t285.drop (bt305.1 : Int).toNat)) else (none)) else (none))) else (some t285)))) = some r := H
 have A4 := aM A40
 clear A40
 by_cases c5 : t290 = 0
 ·rw [if_pos c5] at H
  have c5b0 : (t290 == 0) = true := beq_iff_eq.mpr c5
  have c5b1 : (t290 != 0) = false := bne_eq_false_iff_eq.mpr c5
  clear c5
  replace H := Option.bind_eq_some_iff.mp H
  obtain ⟨⟨t293, t294, t295⟩, A60, H⟩ := H
  replace H : ((spec_l2Any.f t281 t294 t295).bind fun bt296 => (if 0 ≤ t293 then (if t293 < (t285.length : Int) then (some (t285.set (t293 : Int).toNat (⟨bt296.1, bt296.2.1, bt296.2.2.1⟩ : S28))) else (none)) else (none))) = some r := H
  have A6 := aM A60
  clear A60
  replace H := Option.bind_eq_some_iff.mp H
  obtain ⟨⟨t296, t297, t298, t299, t300⟩, A70, H⟩ := H
  replace H : (if 0 ≤ t293 then (if t293 < (t285.length : Int) then (some (t285.set (t293 : Int).toNat (⟨t296, t297, t298⟩ : S28))) else (none)) else (none)) = some r := H
  have A7 := aM A70
  clear A70
  by_cases c8 : 0 ≤ t293
  ·rw [if_pos c8] at H
   have c8b0 : decide (0 ≤ t293) = true := decide_eq_true c8
   clear c8
   by_cases c9 : t293 < (t285.length : Int)
   ·rw [if_pos c9] at H
    have c9b0 : decide (t293 < (t285.length : Int)) = true := decide_eq_true c9
    clear c9
    obtain ⟨y301, hy301⟩ : ∃ y_ : List (S28), y_ = (t285.set (t293 : Int).toNat (⟨t296, t297, t298⟩ : S28)) := ⟨_, rfl⟩
    replace H : (some y301) = some r := by first | (rw [hy301]; with_reducible exact H) | (have H2_ := (Option.bind_some _ _).symm.trans H; rw [hy301]; with_reducible exact H2_) | (have H2_ := (Option.bind_some _ _).symm.trans H; with_reducible exact H2_) | with_reducible exact H | (rw [hy301]; exact H) | exact H
    have Ny301 := aM hy301
    clear hy301
    obtain rfl := Option.some.inj H
    go_enter Tryd.func23, Tryd.ntmps23
    go_wp2_with (first | ((with_reducible refine gate_callee (f := 55) rfl ?_); refine goesL_ (some 6) rfl rfl Tryd.func55 (by kernel_rfl) rfl #[.slice A0 l0.length c0] rfl (by (try simp only [List.map_toArray, List.map_cons, List.map_nil]); first | done | rfl | (simp only [List.length_drop, List.length_take]; rfl)) ?_; (with_reducible refine (spec_l1New.calls k _ _ l0 t281 t282 t283 w _ ?side1 ?side2 ?side3 A2.out).mono ?_); (case side1 => repeat (first | (with_reducible first | exact HB.out | apply below_alloc | apply pw_below_drewN | apply below_drew1) | exact HB.out)); (case side2 => exact HR0.out); (case side3 => exact HC0.out); rintro e w11 ⟨g284, rfl, hi, hb, hb2⟩; refine ⟨_, rfl, ?_⟩; have n0_ := aM (hb); have n1_ := aM (hi); clear HB; have HB := n0_; have HI284 := n1_; clear n0_ n1_; (try clear hb); (try clear hb2); (try clear hk); (try clear hi)) | ((with_reducible refine gate_callee (f := 56) rfl ?_); refine goesL_ (some 8) rfl rfl Tryd.func56 (by kernel_rfl) rfl #[.pointer (some ⟨g284, 0, none⟩)] rfl (by (try simp only [List.map_toArray, List.map_cons, List.map_nil]); first | done | rfl | (simp only [List.length_drop, List.length_take]; rfl)) ?_; (with_reducible refine (spec_l2Sigs.calls g284 t281 t282 t283 t285 t288 t289 w _ ?side1 ?side2 A3.out).mono ?_); (case side1 => repeat (first | (with_reducible first | exact HI284.out | apply IsS97.alloc | apply IsS97.drewN | apply IsS97.drew | apply IsS97.set_1 | apply IsS97.set_2) | exact HI284.out)); (case side2 => repeat (first | (with_reducible first | exact HB.out | apply below_alloc | apply pw_below_drewN | apply below_drew1 | refine below_set ?_ (IsS97.ge HI284.out)) | exact HB.out)); rintro e w12 ⟨v286, rfl, ho0, hi, hb, hk⟩; refine ⟨_, rfl, ?_⟩; have n0_ := aM (Kd.R_lower ho0 (below_size (by repeat (first | (with_reducible first | exact HB.out | apply below_alloc | apply pw_below_drewN | apply below_drew1 | refine below_set ?_ (IsS97.ge HI284.out)) | exact HB.out)))); have n1_ := aM (hb); have n2_ := aM (hi); clear HB; clear HI284; have HO287 := n0_; have HB := n1_; have HI284 := n2_; clear n0_ n1_ n2_; (try clear hb); (try clear hb2); (try clear hk); (try clear hi); (try clear ho0)) | ((with_reducible refine gate_callee (f := 57) rfl ?_); refine goesL_ (some 10) rfl rfl Tryd.func57 (by kernel_rfl) rfl #[.pointer (some ⟨g284, 0, none⟩), .int .i64 6] rfl (by (try simp only [List.map_toArray, List.map_cons, List.map_nil]); first | done | rfl | (simp only [List.length_drop, List.length_take]; rfl)) ?_; (with_reducible refine (spec_l1Below.calls g284 t281 t288 t289 6 t290 t291 t292 w _ ?side1 ?side2 A4.out).mono ?_); (case side1 => repeat (first | (with_reducible first | exact HI284.out | apply IsS97.alloc | apply IsS97.drewN | apply IsS97.drew | apply IsS97.set_1 | apply IsS97.set_2) | exact HI284.out)); (case side2 => repeat (first | (with_reducible first | exact HB.out | apply below_alloc | apply pw_below_drewN | apply below_drew1 | refine below_set ?_ (IsS97.ge HI284.out)) | exact HB.out)); rintro e w13 ⟨rfl, hi, hb, hk⟩; refine ⟨_, rfl, ?_⟩; have n0_ := aM (Kd.R_mono (Kd.R_keep (IsS97.apart (show IsS97 w _ g284 t281 t288 t289 from by repeat (first | (with_reducible first | exact HI284.out | apply IsS97.alloc | apply IsS97.drewN | apply IsS97.drew | apply IsS97.set_1 | apply IsS97.set_2) | exact HI284.out)) (aR HO287) (by decide)) hk (fun _ h => h.2)) (fun _ h => h.1)); have n1_ := aM (hb); have n2_ := aM (hi); clear HO287; clear HB; clear HI284; have HO287 := n0_; have HB := n1_; have HI284 := n2_; clear n0_ n1_ n2_; (try clear hb); (try clear hb2); (try clear hk); (try clear hi)) | ((with_reducible refine gate_callee (f := 57) rfl ?_); refine goesL_ (some 15) rfl rfl Tryd.func57 (by kernel_rfl) rfl #[.pointer (some ⟨g284, 0, none⟩), .int .i64 4] rfl (by (try simp only [List.map_toArray, List.map_cons, List.map_nil]); first | done | rfl | (simp only [List.length_drop, List.length_take]; rfl)) ?_; (with_reducible refine (spec_l1Below.calls g284 t281 t291 t292 4 t293 t294 t295 w _ ?side1 ?side2 A6.out).mono ?_); (case side1 => repeat (first | (with_reducible first | exact HI284.out | apply IsS97.alloc | apply IsS97.drewN | apply IsS97.drew | apply IsS97.set_1 | apply IsS97.set_2) | exact HI284.out)); (case side2 => repeat (first | (with_reducible first | exact HB.out | apply below_alloc | apply pw_below_drewN | apply below_drew1 | refine below_set ?_ (IsS97.ge HI284.out)) | exact HB.out)); rintro e w14 ⟨rfl, hi, hb, hk⟩; refine ⟨_, rfl, ?_⟩; have n0_ := aM (Kd.R_mono (Kd.R_keep (IsS97.apart (show IsS97 w _ g284 t281 t291 t292 from by repeat (first | (with_reducible first | exact HI284.out | apply IsS97.alloc | apply IsS97.drewN | apply IsS97.drew | apply IsS97.set_1 | apply IsS97.set_2) | exact HI284.out)) (aR HO287) (by decide)) hk (fun _ h => h.2)) (fun _ h => h.1)); have n1_ := aM (hb); have n2_ := aM (hi); clear HO287; clear HB; clear HI284; have HO287 := n0_; have HB := n1_; have HI284 := n2_; clear n0_ n1_ n2_; (try clear hb); (try clear hb2); (try clear hk); (try clear hi)) | ((with_reducible refine gate_callee (f := 54) rfl ?_); refine goesL_ (some 17) rfl rfl Tryd.func54 (by kernel_rfl) rfl #[.pointer (some ⟨g284, 0, none⟩)] rfl (by (try simp only [List.map_toArray, List.map_cons, List.map_nil]); first | done | rfl | (simp only [List.length_drop, List.length_take]; rfl)) ?_; (with_reducible refine (spec_l2Any.calls g284 t281 t294 t295 t296 t297 t298 t299 t300 w _ ?side1 ?side2 A7.out).mono ?_); (case side1 => repeat (first | (with_reducible first | exact HI284.out | apply IsS97.alloc | apply IsS97.drewN | apply IsS97.drew | apply IsS97.set_1 | apply IsS97.set_2) | exact HI284.out)); (case side2 => repeat (first | (with_reducible first | exact HB.out | apply below_alloc | apply pw_below_drewN | apply below_drew1 | refine below_set ?_ (IsS97.ge HI284.out)) | exact HB.out)); rintro e w15 ⟨rfl, hi, hb, hk⟩; refine ⟨_, rfl, ?_⟩; have n0_ := aM (Kd.R_mono (Kd.R_keep (IsS97.apart (show IsS97 w _ g284 t281 t294 t295 from by repeat (first | (with_reducible first | exact HI284.out | apply IsS97.alloc | apply IsS97.drewN | apply IsS97.drew | apply IsS97.set_1 | apply IsS97.set_2) | exact HI284.out)) (aR HO287) (by decide)) hk (fun _ h => h.2)) (fun _ h => h.1)); have n1_ := aM (hb); have n2_ := aM (hi); clear HO287; clear HB; clear HI284; have HO287 := n0_; have HB := n1_; have HI284 := n2_; clear n0_ n1_ n2_; (try clear hb); (try clear hb2); (try clear hk); (try clear hi); have p10 : 0 ≤ (t293 : Int) := aD; have q10 : (t293 : Int) < ((t285.length : Int) : Int) := aD; obtain ⟨go10, co10, eo10, gb10, gl10, cl10, HG10⟩ := Kd.R_form HO287.out (by omega); (first | cases eo10 | (injection eo10 with ea_ en_ ec_; (first | subst ea_ | (injection ea_ with ea_; subst ea_)); subst ec_; clear en_)); have GB10 := aM gb10; have GG10 := aM HG10; clear gb10 gl10 HG10; obtain ⟨ce10, hcl10, hM10, hcc10, hfr10⟩ := Kd.R_elem HO287.out z28 (t293 : Int) p10 q10; obtain rfl := k28_openM hM10; have hx10_0 : w15.cell? ⟨go10, (t293 : Int).toNat * 3, none⟩ = some (.string ((rd_T28 t285 t293).f0)) := hcc10 0 _ rfl; have hx10_1 : w15.cell? ⟨go10, (t293 : Int).toNat * 3 + 1, none⟩ = some (.int .i64 ((rd_T28 t285 t293).f1)) := hcc10 1 _ rfl; have hx10_2 : w15.cell? ⟨go10, (t293 : Int).toNat * 3 + 2, none⟩ = some (.int .i64 ((rd_T28 t285 t293).f2)) := hcc10 2 _ rfl; have hf10_0 : w15.frozen? ⟨go10, (t293 : Int).toNat * 3, none⟩ = false := hfr10 0; have hf10_1 : w15.frozen? ⟨go10, (t293 : Int).toNat * 3 + 1, none⟩ = false := hfr10 1; have hf10_2 : w15.frozen? ⟨go10, (t293 : Int).toNat * 3 + 2, none⟩ = false := hfr10 2; clear hcl10 hcc10 hfr10 hM10; replace p10 := eq_true p10; replace q10 := eq_true q10; have HX16 := aM (show Kd.R k28 28 w15 w.heap.size (fun _ => True) (.slice (some ⟨go10, 0, none⟩) t285.length co10) t285 from (aR HO287)); obtain ⟨ce16, hcl16, hM16, hcc16, hfr16⟩ := Kd.R_elem HX16.out z28 (t293 : Int) (aD) (by have h_ : (t293 : Int) < ((t285.length : Int) : Int) := aD; first | exact h_ | (have e_ := (Kd.R_reads' HO287.out).1; omega) | simpa using h_); obtain rfl := k28_openM hM16; have HP16 := Kd.R_seg HX16.out (t293 : Int) (aD) (by have h_ : (t293 : Int) < ((t285.length : Int) : Int) := aD; first | exact h_ | (have e_ := (Kd.R_reads' HO287.out).1; omega) | simpa using h_) (seg := [.string t296, .int .i64 t297, .int .i64 t298]) (j := 0) hcl16 hcc16 (show 3 ≤ 3 from by decide) (x' := (⟨t296, t297, t298⟩ : S28)) (k28_mkM _ _ _ (⟨t296, t297, t298⟩ : S28) ) (fun _ hk => hk); have hx16_0 := hcc16 0 _ rfl; (try simp only [show (k28).sz = 3 from rfl, Nat.mul_one, Nat.add_zero] at hx16_0); have hf16_0 := hfr16 0; (try simp only [show (k28).sz = 3 from rfl, Nat.mul_one, Nat.add_zero] at hf16_0); have hx16_1 := hcc16 1 _ rfl; (try simp only [show (k28).sz = 3 from rfl, Nat.mul_one, Nat.add_zero] at hx16_1); have hf16_1 := hfr16 1; (try simp only [show (k28).sz = 3 from rfl, Nat.mul_one, Nat.add_zero] at hf16_1); have hx16_2 := hcc16 2 _ rfl; (try simp only [show (k28).sz = 3 from rfl, Nat.mul_one, Nat.add_zero] at hx16_2); have hf16_2 := hfr16 2; (try simp only [show (k28).sz = 3 from rfl, Nat.mul_one, Nat.add_zero] at hf16_2); clear hcl16 hcc16 hfr16 hM16) | ((with_reducible refine gate_store (t := 28) (p := 18) rfl ?_); refine store_event (t := 28) (p := 18) (v := ?vo_w17) (w1 := (((w15.setCell ⟨go10, (t293 : Int).toNat * 3, none⟩ (.string t296)).setCell ⟨go10, (t293 : Int).toNat * 3 + 1, none⟩ (.int .i64 t297)).setCell ⟨go10, (t293 : Int).toNat * 3 + 2, none⟩ (.int .i64 t298))) ?hg ?ho ?hn ?hr ?_; (case ho => rfl); (case hg => rfl); (case hn => rfl); (case hr => first | (go_simp; done) | (go_simp; rfl) | (obtain ⟨A_, c_, e_⟩ := Kd.R_slice HO287.out; subst e_; first | (go_simp; done) | (go_simp; rfl))); intro w17 hw; have hg : w15.grownBy w17 (some go10) := (by rw [hw]; exact HP16.2); have hp_ : Kd.R k28 28 w17 w.heap.size (fun _ => True) (.slice (some ⟨go10, 0, none⟩) t285.length co10) y301 := (by rw [hw, Ny301.out]; exact HP16.1); clear HP16; have n0_ := aM (IsS97.grown (by repeat (first | (with_reducible first | exact HI284.out | apply IsS97.alloc | apply IsS97.drewN | apply IsS97.drew | apply IsS97.set_1 | apply IsS97.set_2) | exact HI284.out)) hg (IsS97.own_ne HI284.out HO287.out (by decide))); have n1_ := aM (hp_); have n2_ := aM ((by rw [hw]; exact below_set (below_set (below_set (HB.out) GB10.out) GB10.out) GB10.out : Below w.heap.size w w17)); clear HI284; clear HO287; clear HB; have HI284 := n0_; have HO287 := n1_; have HB := n2_; clear n0_ n1_ n2_; clear hg hw hp_))
    go_ret
    exact ⟨_, by first | rfl | (simp [errW_none, errW_some] <;> rfl) | (simp [*, errW_none, errW_some] <;> rfl), Kd.Q_of_R (aR HO287), by repeat (first | (with_reducible first | exact HB.out | apply below_alloc | apply pw_below_drewN | apply below_drew1 | refine below_set ?_ (IsS97.ge HI284.out)) | exact HB.out)⟩
   ·rw [if_neg c9] at H
    exact absurd H (by simp)
  ·rw [if_neg c8] at H
   exact absurd H (by simp)
 ·rw [if_neg c5] at H
  have c5b0 : (t290 == 0) = false := beq_eq_false_iff_ne.mpr c5
  have c5b1 : (t290 != 0) = true := bne_iff_ne.mpr c5
  by_cases c18 : t290 = 1
  ·rw [if_pos c18] at H
   have c18b0 : (t290 == 1) = true := beq_iff_eq.mpr c18
   have c18b1 : (t290 != 1) = false := bne_eq_false_iff_eq.mpr c18
   clear c18
   by_cases c19 : t285.length < 4398046511104
   ·rw [if_pos c19] at H
    have LMc19 := aM c19
    clear c19
    obtain ⟨y302, hy302⟩ : ∃ y_ : List (S28), y_ = (t285 ++ [(⟨(⟨#[118]⟩ : ByteArray), 1, 0⟩ : S28)]) := ⟨_, rfl⟩
    replace H : (some y302) = some r := by first | (rw [hy302]; with_reducible exact H) | (have H2_ := (Option.bind_some _ _).symm.trans H; rw [hy302]; with_reducible exact H2_) | (have H2_ := (Option.bind_some _ _).symm.trans H; with_reducible exact H2_) | with_reducible exact H | (rw [hy302]; exact H) | exact H
    have Ny302 := aM hy302
    clear hy302
    obtain rfl := Option.some.inj H
    go_enter Tryd.func23, Tryd.ntmps23
    go_wp2_with (first | ((with_reducible refine gate_callee (f := 55) rfl ?_); refine goesL_ (some 6) rfl rfl Tryd.func55 (by kernel_rfl) rfl #[.slice A0 l0.length c0] rfl (by (try simp only [List.map_toArray, List.map_cons, List.map_nil]); first | done | rfl | (simp only [List.length_drop, List.length_take]; rfl)) ?_; (with_reducible refine (spec_l1New.calls k _ _ l0 t281 t282 t283 w _ ?side1 ?side2 ?side3 A2.out).mono ?_); (case side1 => repeat (first | (with_reducible first | exact HB.out | apply below_alloc | apply pw_below_drewN | apply below_drew1) | exact HB.out)); (case side2 => exact HR0.out); (case side3 => exact HC0.out); rintro e w20 ⟨g284, rfl, hi, hb, hb2⟩; refine ⟨_, rfl, ?_⟩; have n0_ := aM (hb); have n1_ := aM (hi); clear HB; have HB := n0_; have HI284 := n1_; clear n0_ n1_; (try clear hb); (try clear hb2); (try clear hk); (try clear hi)) | ((with_reducible refine gate_callee (f := 56) rfl ?_); refine goesL_ (some 8) rfl rfl Tryd.func56 (by kernel_rfl) rfl #[.pointer (some ⟨g284, 0, none⟩)] rfl (by (try simp only [List.map_toArray, List.map_cons, List.map_nil]); first | done | rfl | (simp only [List.length_drop, List.length_take]; rfl)) ?_; (with_reducible refine (spec_l2Sigs.calls g284 t281 t282 t283 t285 t288 t289 w _ ?side1 ?side2 A3.out).mono ?_); (case side1 => repeat (first | (with_reducible first | exact HI284.out | apply IsS97.alloc | apply IsS97.drewN | apply IsS97.drew | apply IsS97.set_1 | apply IsS97.set_2) | exact HI284.out)); (case side2 => repeat (first | (with_reducible first | exact HB.out | apply below_alloc | apply pw_below_drewN | apply below_drew1 | refine below_set ?_ (IsS97.ge HI284.out)) | exact HB.out)); rintro e w21 ⟨v286, rfl, ho0, hi, hb, hk⟩; refine ⟨_, rfl, ?_⟩; have n0_ := aM (Kd.R_lower ho0 (below_size (by repeat (first | (with_reducible first | exact HB.out | apply below_alloc | apply pw_below_drewN | apply below_drew1 | refine below_set ?_ (IsS97.ge HI284.out)) | exact HB.out)))); have n1_ := aM (hb); have n2_ := aM (hi); clear HB; clear HI284; have HO287 := n0_; have HB := n1_; have HI284 := n2_; clear n0_ n1_ n2_; (try clear hb); (try clear hb2); (try clear hk); (try clear hi); (try clear ho0)) | ((with_reducible refine gate_callee (f := 57) rfl ?_); refine goesL_ (some 10) rfl rfl Tryd.func57 (by kernel_rfl) rfl #[.pointer (some ⟨g284, 0, none⟩), .int .i64 6] rfl (by (try simp only [List.map_toArray, List.map_cons, List.map_nil]); first | done | rfl | (simp only [List.length_drop, List.length_take]; rfl)) ?_; (with_reducible refine (spec_l1Below.calls g284 t281 t288 t289 6 t290 t291 t292 w _ ?side1 ?side2 A4.out).mono ?_); (case side1 => repeat (first | (with_reducible first | exact HI284.out | apply IsS97.alloc | apply IsS97.drewN | apply IsS97.drew | apply IsS97.set_1 | apply IsS97.set_2) | exact HI284.out)); (case side2 => repeat (first | (with_reducible first | exact HB.out | apply below_alloc | apply pw_below_drewN | apply below_drew1 | refine below_set ?_ (IsS97.ge HI284.out)) | exact HB.out)); rintro e w22 ⟨rfl, hi, hb, hk⟩; refine ⟨_, rfl, ?_⟩; have n0_ := aM (Kd.R_mono (Kd.R_keep (IsS97.apart (show IsS97 w _ g284 t281 t288 t289 from by repeat (first | (with_reducible first | exact HI284.out | apply IsS97.alloc | apply IsS97.drewN | apply IsS97.drew | apply IsS97.set_1 | apply IsS97.set_2) | exact HI284.out)) (aR HO287) (by decide)) hk (fun _ h => h.2)) (fun _ h => h.1)); have n1_ := aM (hb); have n2_ := aM (hi); clear HO287; clear HB; clear HI284; have HO287 := n0_; have HB := n1_; have HI284 := n2_; clear n0_ n1_ n2_; (try clear hb); (try clear hb2); (try clear hk); (try clear hi)) | ((with_reducible refine gate_builtin (b := .append) (xs := #[.tmp 21, .tmp 23]) rfl ?_); at_builtin; refine Kd.R_append k28 (w0 := w) w.heap.size rfl (.tmp 21) (.tmp 23) 39 28 (.agg #[(.string ⟨#[]⟩), (.int .i64 0), (.int .i64 0)]) 32 rfl Tryd.underlying39 info28 rfl (by decide) (by omega) v286 t285 (⟨(⟨#[118]⟩ : ByteArray), 1, 0⟩ : S28) [.string (⟨#[118]⟩ : ByteArray), .int .i64 1, .int .i64 0] (fun _ => True) (fun _ => False) rfl rfl ?aP (fun _ hk => hk.elim) ?aF ?aO ?aB ?aS ?aL ?_; (case aP => exact k28_mkM _ _ _ (⟨(⟨#[118]⟩ : ByteArray), 1, 0⟩ : S28)); (case aB => exact (by repeat (first | (with_reducible first | exact HB.out | apply below_alloc | apply pw_below_drewN | apply below_drew1 | refine below_set ?_ (IsS97.ge HI284.out)) | exact HB.out))); (case aF => exact (fun _ _ => trivial)); (case aO => exact (aR HO287)); (case aS => exact (below_size (by repeat (first | (with_reducible first | exact HB.out | apply below_alloc | apply pw_below_drewN | apply below_drew1 | refine below_set ?_ (IsS97.ge HI284.out)) | exact HB.out)))); (case aL => have := LMc19.out; omega); intro v303 w23 ho hb hg hat; rw [← Ny302.out] at ho; have n0_ := aM (IsS97.grown (by repeat (first | (with_reducible first | exact HI284.out | apply IsS97.alloc | apply IsS97.drewN | apply IsS97.drew | apply IsS97.set_1 | apply IsS97.set_2) | exact HI284.out)) hg (IsS97.own_ne HI284.out HO287.out (by decide))); have n1_ := aM (hb); have n2_ := aM (ho); clear HI284; clear HB; clear HO287; have HI284 := n0_; have HB := n1_; have HO304 := n2_; clear n0_ n1_ n2_; clear ho hb hg hat))
    go_ret
    exact ⟨_, by first | rfl | (simp [errW_none, errW_some] <;> rfl) | (simp [*, errW_none, errW_some] <;> rfl), Kd.Q_of_R (aR HO304), by repeat (first | (with_reducible first | exact HB.out | apply below_alloc | apply pw_below_drewN | apply below_drew1 | refine below_set ?_ (IsS97.ge HI284.out)) | exact HB.out)⟩
   ·rw [if_neg c19] at H
    exact absurd H (by simp)
  ·rw [if_neg c18] at H
   have c18b0 : (t290 == 1) = false := beq_eq_false_iff_ne.mpr c18
   have c18b1 : (t290 != 1) = true := bne_iff_ne.mpr c18
   by_cases c24 : t290 = 2
   ·rw [if_pos c24] at H
    have c24b0 : (t290 == 2) = true := beq_iff_eq.mpr c24
    have c24b1 : (t290 != 2) = false := bne_eq_false_iff_eq.mpr c24
    clear c24
    replace H := Option.bind_eq_some_iff.mp H
    obtain ⟨⟨t305, t306, t307⟩, A250, H⟩ := H
    replace H : (if 0 ≤ t305 then (if t305 ≤ (t285.length : Int) then (some (t285.drop (t305 : Int).toNat)) else (none)) else (none)) = some r := H
    have A25 := aM A250
    clear A250
    by_cases c26 : 0 ≤ t305
    ·rw [if_pos c26] at H
     have c26b0 := eq_true c26
     have c26b1 : decide (0 ≤ t305) = true := decide_eq_true c26
     clear c26
     by_cases c27 : t305 ≤ (t285.length : Int)
     ·rw [if_pos c27] at H
      have c27b0 := eq_true c27
      have c27b1 : decide (t305 ≤ (t285.length : Int)) = true := decide_eq_true c27
      clear c27
      obtain ⟨y308, hy308⟩ : ∃ y_ : List (S28), y_ = (t285.drop (t305 : Int).toNat) := ⟨_, rfl⟩
      replace H : (some y308) = some r := by first | (rw [hy308]; with_reducible exact H) | (have H2_ := (Option.bind_some _ _).symm.trans H; rw [hy308]; with_reducible exact H2_) | (have H2_ := (Option.bind_some _ _).symm.trans H; with_reducible exact H2_) | with_reducible exact H | (rw [hy308]; exact H) | exact H
      have Ny308 := aM hy308
      clear hy308
      obtain rfl := Option.some.inj H
      go_enter Tryd.func23, Tryd.ntmps23
      go_wp2_with (first | ((with_reducible refine gate_callee (f := 55) rfl ?_); refine goesL_ (some 6) rfl rfl Tryd.func55 (by kernel_rfl) rfl #[.slice A0 l0.length c0] rfl (by (try simp only [List.map_toArray, List.map_cons, List.map_nil]); first | done | rfl | (simp only [List.length_drop, List.length_take]; rfl)) ?_; (with_reducible refine (spec_l1New.calls k _ _ l0 t281 t282 t283 w _ ?side1 ?side2 ?side3 A2.out).mono ?_); (case side1 => repeat (first | (with_reducible first | exact HB.out | apply below_alloc | apply pw_below_drewN | apply below_drew1) | exact HB.out)); (case side2 => exact HR0.out); (case side3 => exact HC0.out); rintro e w28 ⟨g284, rfl, hi, hb, hb2⟩; refine ⟨_, rfl, ?_⟩; have n0_ := aM (hb); have n1_ := aM (hi); clear HB; have HB := n0_; have HI284 := n1_; clear n0_ n1_; (try clear hb); (try clear hb2); (try clear hk); (try clear hi)) | ((with_reducible refine gate_callee (f := 56) rfl ?_); refine goesL_ (some 8) rfl rfl Tryd.func56 (by kernel_rfl) rfl #[.pointer (some ⟨g284, 0, none⟩)] rfl (by (try simp only [List.map_toArray, List.map_cons, List.map_nil]); first | done | rfl | (simp only [List.length_drop, List.length_take]; rfl)) ?_; (with_reducible refine (spec_l2Sigs.calls g284 t281 t282 t283 t285 t288 t289 w _ ?side1 ?side2 A3.out).mono ?_); (case side1 => repeat (first | (with_reducible first | exact HI284.out | apply IsS97.alloc | apply IsS97.drewN | apply IsS97.drew | apply IsS97.set_1 | apply IsS97.set_2) | exact HI284.out)); (case side2 => repeat (first | (with_reducible first | exact HB.out | apply below_alloc | apply pw_below_drewN | apply below_drew1 | refine below_set ?_ (IsS97.ge HI284.out)) | exact HB.out)); rintro e w29 ⟨v286, rfl, ho0, hi, hb, hk⟩; refine ⟨_, rfl, ?_⟩; have n0_ := aM (Kd.R_lower ho0 (below_size (by repeat (first | (with_reducible first | exact HB.out | apply below_alloc | apply pw_below_drewN | apply below_drew1 | refine below_set ?_ (IsS97.ge HI284.out)) | exact HB.out)))); have n1_ := aM (hb); have n2_ := aM (hi); clear HB; clear HI284; have HO287 := n0_; have HB := n1_; have HI284 := n2_; clear n0_ n1_ n2_; (try clear hb); (try clear hb2); (try clear hk); (try clear hi); (try clear ho0)) | ((with_reducible refine gate_callee (f := 57) rfl ?_); refine goesL_ (some 10) rfl rfl Tryd.func57 (by kernel_rfl) rfl #[.pointer (some ⟨g284, 0, none⟩), .int .i64 6] rfl (by (try simp only [List.map_toArray, List.map_cons, List.map_nil]); first | done | rfl | (simp only [List.length_drop, List.length_take]; rfl)) ?_; (with_reducible refine (spec_l1Below.calls g284 t281 t288 t289 6 t290 t291 t292 w _ ?side1 ?side2 A4.out).mono ?_); (case side1 => repeat (first | (with_reducible first | exact HI284.out | apply IsS97.alloc | apply IsS97.drewN | apply IsS97.drew | apply IsS97.set_1 | apply IsS97.set_2) | exact HI284.out)); (case side2 => repeat (first | (with_reducible first | exact HB.out | apply below_alloc | apply pw_below_drewN | apply below_drew1 | refine below_set ?_ (IsS97.ge HI284.out)) | exact HB.out)); rintro e w30 ⟨rfl, hi, hb, hk⟩; refine ⟨_, rfl, ?_⟩; have n0_ := aM (Kd.R_mono (Kd.R_keep (IsS97.apart (show IsS97 w _ g284 t281 t288 t289 from by repeat (first | (with_reducible first | exact HI284.out | apply IsS97.alloc | apply IsS97.drewN | apply IsS97.drew | apply IsS97.set_1 | apply IsS97.set_2) | exact HI284.out)) (aR HO287) (by decide)) hk (fun _ h => h.2)) (fun _ h => h.1)); have n1_ := aM (hb); have n2_ := aM (hi); clear HO287; clear HB; clear HI284; have HO287 := n0_; have HB := n1_; have HI284 := n2_; clear n0_ n1_ n2_; (try clear hb); (try clear hb2); (try clear hk); (try clear hi)) | ((with_reducible refine gate_callee (f := 57) rfl ?_); refine goesL_ (some 29) rfl rfl Tryd.func57 (by kernel_rfl) rfl #[.pointer (some ⟨g284, 0, none⟩), .int .i64 4] rfl (by (try simp only [List.map_toArray, List.map_cons, List.map_nil]); first | done | rfl | (simp only [List.length_drop, List.length_take]; rfl)) ?_; (with_reducible refine (spec_l1Below.calls g284 t281 t291 t292 4 t305 t306 t307 w _ ?side1 ?side2 A25.out).mono ?_); (case side1 => repeat (first | (with_reducible first | exact HI284.out | apply IsS97.alloc | apply IsS97.drewN | apply IsS97.drew | apply IsS97.set_1 | apply IsS97.set_2) | exact HI284.out)); (case side2 => repeat (first | (with_reducible first | exact HB.out | apply below_alloc | apply pw_below_drewN | apply below_drew1 | refine below_set ?_ (IsS97.ge HI284.out)) | exact HB.out)); rintro e w31 ⟨rfl, hi, hb, hk⟩; refine ⟨_, rfl, ?_⟩; have n0_ := aM (Kd.R_mono (Kd.R_keep (IsS97.apart (show IsS97 w _ g284 t281 t291 t292 from by repeat (first | (with_reducible first | exact HI284.out | apply IsS97.alloc | apply IsS97.drewN | apply IsS97.drew | apply IsS97.set_1 | apply IsS97.set_2) | exact HI284.out)) (aR HO287) (by decide)) hk (fun _ h => h.2)) (fun _ h => h.1)); have n1_ := aM (hb); have n2_ := aM (hi); clear HO287; clear HB; clear HI284; have HO287 := n0_; have HB := n1_; have HI284 := n2_; clear n0_ n1_ n2_; (try clear hb); (try clear hb2); (try clear hk); (try clear hi); obtain ⟨Ao32, co32, eo32⟩ := Kd.R_slice HO287.out; subst eo32; have q33 : (t305 : Int) ≤ ((t285.length : Int) : Int) := aD; obtain ⟨i033, hi033, _, hsz33, _⟩ := info_parts info28; have hcut33 := cut_from (P := Tryd.prog) 39 28 .i64 Tryd.underlying39 hi033 3 hsz33 Ao32 t285.length co32 t305 (aD) q33; have hr33 := Kd.Q_drop (k := (t305 : Int).toNat) (Kd.Q_of_R HO287.out) (by omega); obtain ⟨A33, hA33⟩ : ∃ A1, A1 = (if co32 = (t305 : Int).toNat then Ao32 else (Ao32 : Option Addr).map (·.add ((t305 : Int).toNat * 3))) := ⟨_, rfl⟩; obtain ⟨c33, hc33⟩ : ∃ c1, c1 = co32 - (t305 : Int).toNat := ⟨_, rfl⟩; have hy33 : y308.length = t285.length - (t305 : Int).toNat := (by rw [Ny308.out, List.length_drop]); rw [← Ny308.out] at hr33; rw [← hy33, ← hA33, ← hc33] at hcut33; replace hr33 : Kd.Q k28 28 w31 w.heap.size (fun _ => True) (.slice A33 y308.length c33) y308 := (by rw [hA33, hc33, hy33]; exact hr33); have HE33 : Aside0 ((Value.slice A33 y308.length c33).ownBlock = (.slice Ao32 t285.length co32 : Value).ownBlock) := ⟨by rw [hA33]; split <;> (cases (Ao32 : Option Addr) <;> first | rfl | (simp [Value.ownBlock, add_block]))⟩; clear hy33 hi033 hsz33 HO287 hA33 hc33; have HO310 := aM hr33; clear hr33; replace q33 := eq_true q33))
      go_ret
      exact ⟨_, by first | rfl | (simp [errW_none, errW_some] <;> rfl) | (simp [*, errW_none, errW_some] <;> rfl), by (with_reducible repeat (first | apply Kd.Q_alloc | apply Kd.Q_drewN | apply Kd.Q_drew)); exact HO310.out, by repeat (first | (with_reducible first | exact HB.out | apply below_alloc | apply pw_below_drewN | apply below_drew1 | refine below_set ?_ (IsS97.ge HI284.out)) | exact HB.out)⟩
     ·rw [if_neg c27] at H
      exact absurd H (by simp)
    ·rw [if_neg c26] at H
     exact absurd H (by simp)
   ·rw [if_neg c24] at H
    have c24b0 : (t290 == 2) = false := beq_eq_false_iff_ne.mpr c24
    have c24b1 : (t290 != 2) = true := bne_iff_ne.mpr c24
    obtain rfl := Option.some.inj H
    go_enter Tryd.func23, Tryd.ntmps23
    go_wp2_with (first | ((with_reducible refine gate_callee (f := 55) rfl ?_); refine goesL_ (some 6) rfl rfl Tryd.func55 (by kernel_rfl) rfl #[.slice A0 l0.length c0] rfl (by (try simp only [List.map_toArray, List.map_cons, List.map_nil]); first | done | rfl | (simp only [List.length_drop, List.length_take]; rfl)) ?_; (with_reducible refine (spec_l1New.calls k _ _ l0 t281 t282 t283 w _ ?side1 ?side2 ?side3 A2.out).mono ?_); (case side1 => repeat (first | (with_reducible first | exact HB.out | apply below_alloc | apply pw_below_drewN | apply below_drew1) | exact HB.out)); (case side2 => exact HR0.out); (case side3 => exact HC0.out); rintro e w34 ⟨g284, rfl, hi, hb, hb2⟩; refine ⟨_, rfl, ?_⟩; have n0_ := aM (hb); have n1_ := aM (hi); clear HB; have HB := n0_; have HI284 := n1_; clear n0_ n1_; (try clear hb); (try clear hb2); (try clear hk); (try clear hi)) | ((with_reducible refine gate_callee (f := 56) rfl ?_); refine goesL_ (some 8) rfl rfl Tryd.func56 (by kernel_rfl) rfl #[.pointer (some ⟨g284, 0, none⟩)] rfl (by (try simp only [List.map_toArray, List.map_cons, List.map_nil]); first | done | rfl | (simp only [List.length_drop, List.length_take]; rfl)) ?_; (with_reducible refine (spec_l2Sigs.calls g284 t281 t282 t283 t285 t288 t289 w _ ?side1 ?side2 A3.out).mono ?_); (case side1 => repeat (first | (with_reducible first | exact HI284.out | apply IsS97.alloc | apply IsS97.drewN | apply IsS97.drew | apply IsS97.set_1 | apply IsS97.set_2) | exact HI284.out)); (case side2 => repeat (first | (with_reducible first | exact HB.out | apply below_alloc | apply pw_below_drewN | apply below_drew1 | refine below_set ?_ (IsS97.ge HI284.out)) | exact HB.out)); rintro e w35 ⟨v286, rfl, ho0, hi, hb, hk⟩; refine ⟨_, rfl, ?_⟩; have n0_ := aM (Kd.R_lower ho0 (below_size (by repeat (first | (with_reducible first | exact HB.out | apply below_alloc | apply pw_below_drewN | apply below_drew1 | refine below_set ?_ (IsS97.ge HI284.out)) | exact HB.out)))); have n1_ := aM (hb); have n2_ := aM (hi); clear HB; clear HI284; have HO287 := n0_; have HB := n1_; have HI284 := n2_; clear n0_ n1_ n2_; (try clear hb); (try clear hb2); (try clear hk); (try clear hi); (try clear ho0)) | ((with_reducible refine gate_callee (f := 57) rfl ?_); refine goesL_ (some 10) rfl rfl Tryd.func57 (by kernel_rfl) rfl #[.pointer (some ⟨g284, 0, none⟩), .int .i64 6] rfl (by (try simp only [List.map_toArray, List.map_cons, List.map_nil]); first | done | rfl | (simp only [List.length_drop, List.length_take]; rfl)) ?_; (with_reducible refine (spec_l1Below.calls g284 t281 t288 t289 6 t290 t291 t292 w _ ?side1 ?side2 A4.out).mono ?_); (case side1 => repeat (first | (with_reducible first | exact HI284.out | apply IsS97.alloc | apply IsS97.drewN | apply IsS97.drew | apply IsS97.set_1 | apply IsS97.set_2) | exact HI284.out)); (case side2 => repeat (first | (with_reducible first | exact HB.out | apply below_alloc | apply pw_below_drewN | apply below_drew1 | refine below_set ?_ (IsS97.ge HI284.out)) | exact HB.out)); rintro e w36 ⟨rfl, hi, hb, hk⟩; refine ⟨_, rfl, ?_⟩; have n0_ := aM (Kd.R_mono (Kd.R_keep (IsS97.apart (show IsS97 w _ g284 t281 t288 t289 from by repeat (first | (with_reducible first | exact HI284.out | apply IsS97.alloc | apply IsS97.drewN | apply IsS97.drew | apply IsS97.set_1 | apply IsS97.set_2) | exact HI284.out)) (aR HO287) (by decide)) hk (fun _ h => h.2)) (fun _ h => h.1)); have n1_ := aM (hb); have n2_ := aM (hi); clear HO287; clear HB; clear HI284; have HO287 := n0_; have HB := n1_; have HI284 := n2_; clear n0_ n1_ n2_; (try clear hb); (try clear hb2); (try clear hk); (try clear hi)))
    go_ret
    exact ⟨_, by first | rfl | (simp [errW_none, errW_some] <;> rfl) | (simp [*, errW_none, errW_some] <;> rfl), Kd.Q_of_R (aR HO287), by repeat (first | (with_reducible first | exact HB.out | apply below_alloc | apply pw_below_drewN | apply below_drew1 | refine below_set ?_ (IsS97.ge HI284.out)) | exact HB.out)⟩

/-! ### impl_AreValidRelations: function 25 -/
/-- x lies between a and b. -/
def inB (x a b : Int) : Bool := decide (a ≤ x ∧ x ≤ b)
theorem inI (x a b : Int) : impl_within.f x a b = some (inB x a b) := by
 unfold impl_within.f inB
 by_cases h : a ≤ x
 ·rw [if_pos h]; simp [h]
 ·rw [if_neg h]; simp [h]
/-- A valid relation. -/
def vRel (r : S28) : Bool := decide ((r.f0.size : Int) = 1 ∧ 97 ≤ bt r.f0 0 ∧ bt r.f0 0 ≤ 122) && inB r.f1 1 3 && inB r.f2 0 r.f1
theorem vRelI (r : S28) : impl_IsValidRelation.f r.f0 r.f1 r.f2 = some (vRel r) := by
 unfold impl_IsValidRelation.f vRel
 simp only [inI]
 by_cases h1 : (r.f0.size : Int) = 1
 ·rw [if_pos h1, if_pos (by omega)]
  by_cases h2 : bt r.f0 0 ≥ 97
  ·rw [if_pos h2]
   by_cases h3 : bt r.f0 0 ≤ 122
   ·rw [if_pos h3]
    have h2' : 97 ≤ bt r.f0 0 := h2
    simp only [Option.bind_some, h1, h2', h3, and_self, decide_true, Bool.true_and]
    cases inB r.f1 1 3 <;> simp
   ·rw [if_neg h3]; simp [h3]
  ·rw [if_neg h2]
   have h2' : ¬ 97 ≤ bt r.f0 0 := h2
   simp [h2']
 ·rw [if_neg h1]; simp [h1]
/-- From place i on each relation is valid and stands behind its forerunner. -/
def vRelsFrom (l : List S28) : Nat → Nat → Bool
 | 0, _ => decide ((l.length : Int) ≤ 4)
 | d + 1, i => vRel (l.getD i z28) && (decide (i = 0) || Op.bytesLess (l.getD (i - 1) z28).f0.toList (l.getD i z28).f0.toList) && vRelsFrom l d (i + 1)
/-- Valid relations. -/
def vRels (l : List S28) : Bool := vRelsFrom l l.length 0

def impl_AreValidRelations.f (l0 : List S28) : Option Bool := some (vRels l0)
set_option maxHeartbeats 4000000 in
set_option maxRecDepth 100000 in
theorem impl_AreValidRelations.calls (A0 : Option Addr) (c0 : Nat) (l0 : List S28) (r : Bool) (w : World) (hr0 : Kd.C k28 w A0 l0.length l0) (hc0 : l0.length ≤ c0) (h : impl_AreValidRelations.f l0 = some r) :
  Calls Tryd.prog 25 #[.slice A0 l0.length c0] w fun e w' => e = .returned (.bool r) ∧ Below w.heap.size w w' := by
 obtain rfl := Option.some.inj h
 have hl : l0.length ≤ 9223372036854775807 := hr0.2.1
 have HR := aM hr0
 clear hr0 h
 go_enter Tryd.func25, Tryd.ntmps25
 go_wp2
 go_loopg [7] l0.length (fun gg s7 wr => ∃ i : Nat, i ≤ l0.length ∧ l0.length - i ≤ gg ∧ s7 = .int .i64 i ∧ Aside0 (Below w.heap.size w wr) ∧ Aside0 (vRelsFrom l0 (l0.length - i) i = vRels l0))
 case atStart => exact ⟨0, Nat.zero_le _, by omega, rfl, ⟨Below.refl _ _⟩, ⟨rfl⟩⟩
 case round =>
  obtain ⟨i, hi, hg, rfl, BW, HA⟩ := hrel
  by_cases hlt : i < l0.length
  ·have hltz : (i : Int) < (l0.length : Int) := by omega
   obtain ⟨ad, e, h0, h1, h2⟩ := at_T28 (Kd.C_below HR.out BW.out) (i : Int) (by omega) hltz
   rw [Int.toNat_natCast] at h0 h1 h2
   cases e
   have hrd : rd_T28 l0 (i : Int) = l0.getD i z28 := by unfold rd_T28; rw [Int.toNat_natCast]
   rw [hrd] at h0 h1 h2
   clear hrd
   have HX : Aside0 (vRelsFrom l0 (l0.length - i) i = (vRel (l0.getD i z28) && (decide (i = 0) || Op.bytesLess (l0.getD (i - 1) z28).f0.toList (l0.getD i z28).f0.toList) && vRelsFrom l0 (l0.length - (i + 1)) (i + 1))) := ⟨by
    rw [show l0.length - i = (l0.length - (i + 1)) + 1 by omega]; rfl⟩
   generalize l0.getD i z28 = x at h0 h1 h2 HX
   have F0 : Aside0 ((wr.alloc (.cells #[.string x.f0, .int .i64 x.f1, .int .i64 x.f2] 28)).cell? ⟨wr.heap.size, 0, none⟩ = some (.string x.f0)) := ⟨(blk_cell (heap_alloc_new wr _) 0).trans rfl⟩
   have F1 : Aside0 ((wr.alloc (.cells #[.string x.f0, .int .i64 x.f1, .int .i64 x.f2] 28)).cell? ⟨wr.heap.size, 1, none⟩ = some (.int .i64 x.f1)) := ⟨(blk_cell (heap_alloc_new wr _) 1).trans rfl⟩
   have F2 : Aside0 ((wr.alloc (.cells #[.string x.f0, .int .i64 x.f1, .int .i64 x.f2] 28)).cell? ⟨wr.heap.size, 2, none⟩ = some (.int .i64 x.f2)) := ⟨(blk_cell (heap_alloc_new wr _) 2).trans rfl⟩
   have B2 : Aside0 (Below w.heap.size w (wr.alloc (.cells #[.string x.f0, .int .i64 x.f1, .int .i64 x.f2] 28))) := ⟨below_alloc BW.out _⟩
   have HC : Aside0 (∀ (W : World) d os, Calls Tryd.prog 53 #[.agg #[.string x.f0, .int .i64 x.f1, .int .i64 x.f2]] (Go.Sort.grow (redrawn W d) os) fun e w'' => e = .returned (.bool (vRel x)) ∧ ∃ p : Regrown, w'' = Go.Sort.grow (redrawn W p.d) p.os) := ⟨fun W d os => Calls.regrown_of (impl_IsValidRelation.calls x.f0 x.f1 x.f2 (vRel x) _ (vRelI x))⟩
   by_cases hi0 : i = 0 ∨ vRel x = false
   ·have hd0 : vRel x = true → decide (0 < i) = false := fun hx => by
     rcases hi0 with h | h
     ·simp [h]
     ·rw [hx] at h; cases h
    have hX : vRelsFrom l0 (l0.length - i) i = (vRel x && vRelsFrom l0 (l0.length - (i + 1)) (i + 1)) := by
     rw [HX.out]
     rcases hi0 with h | h
     ·simp [h]
     ·simp [h]
    have HX := aM hX
    clear hX hi0
    cases hv : vRel x with
    | false =>
     have HV := aM hv
     clear hv hd0
     go_wp2_with fail
     clear h0 h1 h2
     generalize wr.alloc (.cells #[.string x.f0, .int .i64 x.f1, .int .i64 x.f2] 28) = w2 at F0 F1 F2 B2 ⊢
     generalize wr.heap.size = gb at F0 F1 F2 ⊢
     have f0 := cell_regrown F0.out
     have f1 := cell_regrown F1.out
     have f2 := cell_regrown F2.out
     have hc := HC.out w2
     rw [HV.out] at hc
     have HC := aM hc
     clear hc
     refine wp_region_quiet_below (by kernel_rfl) (by kernel_rfl) ?_
     repeat (go_big_quiet_step (exact HC.out _ _))
     refine wpQuiet_nil ?_
     intro _ hw'
     obtain ⟨⟨dq, osq⟩, hw''⟩ := hw'
     subst hw''
     go_wp2
     go_ret
     exact ⟨by rw [← HA.out, HX.out, HV.out]; rfl, below_then B2.out B2.out.size (below_regrown _ _ _)⟩
    | true =>
     have hd0 := hd0 hv
     have HV := aM hv
     clear hv
     go_wp2_with fail
     clear h0 h1 h2
     generalize wr.alloc (.cells #[.string x.f0, .int .i64 x.f1, .int .i64 x.f2] 28) = w2 at F0 F1 F2 B2 ⊢
     generalize wr.heap.size = gb at F0 F1 F2 ⊢
     have f0 := cell_regrown F0.out
     have f1 := cell_regrown F1.out
     have f2 := cell_regrown F2.out
     have hc := HC.out w2
     rw [HV.out] at hc
     have HC := aM hc
     clear hc
     refine wp_region_quiet_below (by kernel_rfl) (by kernel_rfl) ?_
     repeat (go_big_quiet_step (exact HC.out _ _))
     refine wpQuiet_nil ?_
     intro _ hw'
     obtain ⟨⟨dq, osq⟩, hw''⟩ := hw'
     subst hw''
     go_wp2
     go_roundg (l0.length - (i + 1))
     case measure => omega
     case rel => exact ⟨i + 1, by omega, by omega, by go_num, ⟨below_then B2.out B2.out.size (below_regrown _ _ _)⟩, ⟨by rw [← HA.out, HX.out, HV.out]; rfl⟩⟩
   ·have hi1 : i ≠ 0 := fun h => hi0 (.inl h)
    have hv : vRel x = true := by
     cases h : vRel x with
     | true => rfl
     | false => exact absurd (.inr h) hi0
    clear hi0
    obtain ⟨ad', e', k0, _, _⟩ := at_T28 (Kd.C_below HR.out BW.out) ((i - 1 : Nat) : Int) (by omega) (by omega)
    cases e'
    rw [Int.toNat_natCast] at k0
    have hrd : rd_T28 l0 ((i - 1 : Nat) : Int) = l0.getD (i - 1) z28 := by unfold rd_T28; rw [Int.toNat_natCast]
    rw [hrd] at k0
    clear hrd
    have hX : vRelsFrom l0 (l0.length - i) i = (Op.bytesLess (l0.getD (i - 1) z28).f0.toList x.f0.toList && vRelsFrom l0 (l0.length - (i + 1)) (i + 1)) := by
     rw [HX.out, hv]; simp [hi1]
    have HX := aM hX
    have HV := aM hv
    clear hX hv
    generalize (l0.getD (i - 1) z28).f0 = y at k0 HX
    have K0 : Aside0 ((wr.alloc (.cells #[.string x.f0, .int .i64 x.f1, .int .i64 x.f2] 28)).cell? (ad.add ((i - 1) * 3)) = some (.string y)) := ⟨(World.cell?_alloc_lt _ _ _ (World.block_lt_of_cell? wr _ k0)).trans k0⟩
    clear k0
    have e3 : IntKind.i64.wrap ((i : Int) - 1) = ((i - 1 : Nat) : Int) := by rw [IntKind.wrap_i64]; omega
    have hd0 : decide (0 < i) = true := by simp; omega
    have hm0 : (0 : Int) ≤ ((i - 1 : Nat) : Int) := by omega
    have hm1 : ((i - 1 : Nat) : Int) < (l0.length : Int) := by omega
    go_wp2_with fail
    clear h0 h1 h2
    generalize wr.alloc (.cells #[.string x.f0, .int .i64 x.f1, .int .i64 x.f2] 28) = w2 at F0 F1 F2 B2 K0 ⊢
    generalize wr.heap.size = gb at F0 F1 F2 ⊢
    have f0 := cell_regrown F0.out
    have f1 := cell_regrown F1.out
    have f2 := cell_regrown F2.out
    have f3 := cell_regrown K0.out
    have hc := HC.out w2
    rw [HV.out] at hc
    have HC := aM hc
    clear hc
    cases hb : Op.bytesLess y.toList x.f0.toList with
    | false =>
     refine wp_region_quiet_below (by kernel_rfl) (by kernel_rfl) ?_
     repeat (go_big_quiet_step (exact HC.out _ _))
     refine wpQuiet_nil ?_
     intro _ hw'
     obtain ⟨⟨dq, osq⟩, hw''⟩ := hw'
     subst hw''
     have HB := aM hb
     clear hb
     go_wp2
     go_ret
     exact ⟨by rw [← HA.out, HX.out, HB.out]; rfl, below_then B2.out B2.out.size (below_regrown _ _ _)⟩
    | true =>
     refine wp_region_quiet_below (by kernel_rfl) (by kernel_rfl) ?_
     repeat (go_big_quiet_step (exact HC.out _ _))
     refine wpQuiet_nil ?_
     intro _ hw'
     obtain ⟨⟨dq, osq⟩, hw''⟩ := hw'
     subst hw''
     have HB := aM hb
     clear hb
     go_wp2
     go_roundg (l0.length - (i + 1))
     case measure => omega
     case rel => exact ⟨i + 1, by omega, by omega, by go_num, ⟨below_then B2.out B2.out.size (below_regrown _ _ _)⟩, ⟨by rw [← HA.out, HX.out, HB.out]; rfl⟩⟩
  ·have hd : decide (i < l0.length) = false := decide_eq_false hlt
   have hle : l0.length ≤ i := by omega
   have HX : Aside0 (vRels l0 = decide (l0.length ≤ 4)) := ⟨by rw [← HA.out, show l0.length - i = 0 by omega]; exact decide_eq_decide.2 (by omega)⟩
   clear hlt
   go_wp2
   go_ret
   exact ⟨by rw [HX.out]; first | rfl | (simp; done) | (simp; omega), BW.out⟩


/-! ### spec_AreValidRelations: function 26 -/

theorem inS (x a b : Int) : spec_l1In.f x a b = some (inB x a b) := by
 unfold spec_l1In.f inB
 by_cases h : a ≤ x
 ·rw [if_pos h]; simp [h]
 ·rw [if_neg h]; simp [h]
theorem vRelS (r : S28) : spec_IsValidRelation.f r.f0 r.f1 r.f2 = some (vRel r) := by
 rw [← vRelI r]
 unfold impl_IsValidRelation.f spec_IsValidRelation.f
 simp only [inS, inI]
def spec_AreValidRelations.f (l0 : List S28) : Option Bool := some (vRels l0)
set_option maxHeartbeats 4000000 in
set_option maxRecDepth 100000 in
theorem spec_AreValidRelations.calls (A0 : Option Addr) (c0 : Nat) (l0 : List S28) (r : Bool) (w : World) (hr0 : Kd.C k28 w A0 l0.length l0) (hc0 : l0.length ≤ c0) (h : spec_AreValidRelations.f l0 = some r) :
  Calls Tryd.prog 26 #[.slice A0 l0.length c0] w fun e w' => e = .returned (.bool r) ∧ Below w.heap.size w w' := by
 obtain rfl := Option.some.inj h
 have hl : l0.length ≤ 9223372036854775807 := hr0.2.1
 have HR := aM hr0
 clear hr0 h
 go_enter Tryd.func26, Tryd.ntmps26
 go_wp2
 go_loopg [3] l0.length (fun gg s3 wr => ∃ i : Nat, i ≤ l0.length ∧ l0.length - i ≤ gg ∧ s3 = .int .i64 i ∧ Aside0 (Below w.heap.size w wr) ∧ Aside0 (vRelsFrom l0 (l0.length - i) i = vRels l0))
 case atStart => exact ⟨0, Nat.zero_le _, by omega, rfl, ⟨Below.refl _ _⟩, ⟨rfl⟩⟩
 case round =>
  obtain ⟨i, hi, hg, rfl, BW, HA⟩ := hrel
  by_cases hlt : i < l0.length
  ·have hltz : (i : Int) < (l0.length : Int) := by omega
   have hi00 : (0 : Int) ≤ (i : Int) := by omega
   obtain ⟨ad, e, h0, h1, h2⟩ := at_T28 (Kd.C_below HR.out BW.out) (i : Int) (by omega) hltz
   rw [Int.toNat_natCast] at h0 h1 h2
   cases e
   have hrd : rd_T28 l0 (i : Int) = l0.getD i z28 := by unfold rd_T28; rw [Int.toNat_natCast]
   rw [hrd] at h0 h1 h2
   clear hrd
   have HX : Aside0 (vRelsFrom l0 (l0.length - i) i = (vRel (l0.getD i z28) && (decide (i = 0) || Op.bytesLess (l0.getD (i - 1) z28).f0.toList (l0.getD i z28).f0.toList) && vRelsFrom l0 (l0.length - (i + 1)) (i + 1))) := ⟨by
    rw [show l0.length - i = (l0.length - (i + 1)) + 1 by omega]; rfl⟩
   generalize l0.getD i z28 = x at h0 h1 h2 HX
   have HC : Aside0 (∀ (W : World) d os, Calls Tryd.prog 24 #[.agg #[.string x.f0, .int .i64 x.f1, .int .i64 x.f2]] (Go.Sort.grow (redrawn W d) os) fun e w'' => e = .returned (.bool (vRel x)) ∧ ∃ p : Regrown, w'' = Go.Sort.grow (redrawn W p.d) p.os) := ⟨fun W d os => Calls.regrown_of (spec_IsValidRelation.calls x.f0 x.f1 x.f2 (vRel x) _ (vRelS x))⟩
   have f0 := cell_regrown h0
   have f1 := cell_regrown h1
   have f2 := cell_regrown h2
   clear h0 h1 h2
   by_cases hi0 : i = 0 ∨ vRel x = false
   ·have hd0 : vRel x = true → decide (0 < i) = false := fun hx => by
     rcases hi0 with h | h
     ·simp [h]
     ·rw [hx] at h; cases h
    have hX : vRelsFrom l0 (l0.length - i) i = (vRel x && vRelsFrom l0 (l0.length - (i + 1)) (i + 1)) := by
     rw [HX.out]
     rcases hi0 with h | h
     ·simp [h]
     ·simp [h]
    have HX := aM hX
    clear hX hi0
    cases hv : vRel x with
    | false =>
     have HV := aM hv
     clear hv hd0
     go_wp2_with fail
     have hc := HC.out wr
     rw [HV.out] at hc
     have HC := aM hc
     clear hc
     refine wp_region_quiet_below (by kernel_rfl) (by kernel_rfl) ?_
     repeat (go_big_quiet_step (exact HC.out _ _))
     refine wpQuiet_nil ?_
     intro _ hw'
     obtain ⟨⟨dq, osq⟩, hw''⟩ := hw'
     subst hw''
     go_wp2
     go_ret
     exact ⟨by rw [← HA.out, HX.out, HV.out]; rfl, below_then BW.out BW.out.size (below_regrown _ _ _)⟩
    | true =>
     have hd0 := hd0 hv
     have HV := aM hv
     clear hv
     go_wp2_with fail
     have hc := HC.out wr
     rw [HV.out] at hc
     have HC := aM hc
     clear hc
     refine wp_region_quiet_below (by kernel_rfl) (by kernel_rfl) ?_
     repeat (go_big_quiet_step (exact HC.out _ _))
     refine wpQuiet_nil ?_
     intro _ hw'
     obtain ⟨⟨dq, osq⟩, hw''⟩ := hw'
     subst hw''
     go_wp2
     go_roundg (l0.length - (i + 1))
     case measure => omega
     case rel => exact ⟨i + 1, by omega, by omega, by go_num, ⟨below_then BW.out BW.out.size (below_regrown _ _ _)⟩, ⟨by rw [← HA.out, HX.out, HV.out]; rfl⟩⟩
   ·have hi1 : i ≠ 0 := fun h => hi0 (.inl h)
    have hv : vRel x = true := by
     cases h : vRel x with
     | true => rfl
     | false => exact absurd (.inr h) hi0
    clear hi0
    obtain ⟨ad', e', k0, _, _⟩ := at_T28 (Kd.C_below HR.out BW.out) ((i - 1 : Nat) : Int) (by omega) (by omega)
    cases e'
    rw [Int.toNat_natCast] at k0
    have hrd : rd_T28 l0 ((i - 1 : Nat) : Int) = l0.getD (i - 1) z28 := by unfold rd_T28; rw [Int.toNat_natCast]
    rw [hrd] at k0
    clear hrd
    have hX : vRelsFrom l0 (l0.length - i) i = (Op.bytesLess (l0.getD (i - 1) z28).f0.toList x.f0.toList && vRelsFrom l0 (l0.length - (i + 1)) (i + 1)) := by
     rw [HX.out, hv]; simp [hi1]
    have HX := aM hX
    have HV := aM hv
    clear hX hv
    generalize (l0.getD (i - 1) z28).f0 = y at k0 HX
    have f3 := cell_regrown k0
    clear k0
    have e3 : IntKind.i64.wrap ((i : Int) - 1) = ((i - 1 : Nat) : Int) := by rw [IntKind.wrap_i64]; omega
    have hd0 : decide (0 < i) = true := by simp; omega
    have hm0 : (0 : Int) ≤ ((i - 1 : Nat) : Int) := by omega
    have hm1 : ((i - 1 : Nat) : Int) < (l0.length : Int) := by omega
    go_wp2_with fail
    have hc := HC.out wr
    rw [HV.out] at hc
    have HC := aM hc
    clear hc
    cases hb : Op.bytesLess y.toList x.f0.toList with
    | false =>
     refine wp_region_quiet_below (by kernel_rfl) (by kernel_rfl) ?_
     repeat (go_big_quiet_step (exact HC.out _ _))
     refine wpQuiet_nil ?_
     intro _ hw'
     obtain ⟨⟨dq, osq⟩, hw''⟩ := hw'
     subst hw''
     have HB := aM hb
     clear hb
     go_wp2
     go_ret
     exact ⟨by rw [← HA.out, HX.out, HB.out]; rfl, below_then BW.out BW.out.size (below_regrown _ _ _)⟩
    | true =>
     refine wp_region_quiet_below (by kernel_rfl) (by kernel_rfl) ?_
     repeat (go_big_quiet_step (exact HC.out _ _))
     refine wpQuiet_nil ?_
     intro _ hw'
     obtain ⟨⟨dq, osq⟩, hw''⟩ := hw'
     subst hw''
     have HB := aM hb
     clear hb
     go_wp2
     go_roundg (l0.length - (i + 1))
     case measure => omega
     case rel => exact ⟨i + 1, by omega, by omega, by go_num, ⟨below_then BW.out BW.out.size (below_regrown _ _ _)⟩, ⟨by rw [← HA.out, HX.out, HB.out]; rfl⟩⟩
  ·have hd : decide (i < l0.length) = false := decide_eq_false hlt
   have hle : l0.length ≤ i := by omega
   have HX : Aside0 (vRels l0 = decide (l0.length ≤ 4)) := ⟨by rw [← HA.out, show l0.length - i = 0 by omega]; exact decide_eq_decide.2 (by omega)⟩
   clear hlt
   go_wp2
   go_ret
   exact ⟨by rw [HX.out]; first | rfl | (simp; done) | (simp; omega), BW.out⟩


-- NOT PRINTED: function 62 (impl_Relation)

/-! ### impl_RelationIndex: function 27 -/
section
open Base
def nameIs (nm : ByteArray) (x : S28) : Bool := x.f0.toList == nm.toList
set_option maxHeartbeats 8000000 in
theorem nameIs_calls (nm : ByteArray) (b : Nat) (x : S28) (w : World) (hb : w.cell? ⟨b, 0, none⟩ = some (.string nm)) :
  Calls Tryd.prog 63 #[.agg #[.string x.f0, .int .i64 x.f1, .int .i64 x.f2], .pointer (some ⟨b, 0, none⟩)] w fun e w' => e = .returned (.bool (nameIs nm x)) ∧ Below w.heap.size w w' := by
 have hlt := World.block_lt_of_cell? w _ hb
 have hb1 : ∀ o, (w.alloc o).cell? ⟨b, 0, none⟩ = some (.string nm) := fun o => (World.cell?_alloc_lt _ _ _ hlt).trans hb
 go_enter Tryd.func63, Tryd.ntmps63
 go_wp2
 go_ret
 exact ⟨rfl, (Below.refl _ _).alloc (Nat.le_refl _) _⟩
set_option maxHeartbeats 8000000 in
set_option maxRecDepth 100000 in
theorem nameIdx_calls (nm : ByteArray) (b : Nat) (A0 : Option Addr) (c0 : Nat) (l : List S28) (w : World) (hr : Kd.C k28 w A0 l.length l) (hb : w.cell? ⟨b, 0, none⟩ = some (.string nm)) :
  Calls Tryd.prog 62 #[.slice A0 l.length c0, .func (.func 63) #[] #[.pointer (some ⟨b, 0, none⟩)]] w fun e w' => e = .returned (.int .i64 (idxW (nameIs nm) l 0)) ∧ Below w.heap.size w w' := by
 have hl : l.length ≤ 9223372036854775807 := hr.2.1
 have hlt := World.block_lt_of_cell? w _ hb
 have HR := aM hr
 have HN := aM hb
 clear hr hb
 go_enter Tryd.func62, Tryd.ntmps62
 go_wp2
 go_loopg [5, 8] l.length (fun gg _ s8 wr => ∃ kk : Nat, kk ≤ l.length ∧ l.length - kk ≤ gg ∧ s8 = .int .i64 kk ∧ Aside0 (Below w.heap.size w wr) ∧ Aside0 (∀ j, j < kk → nameIs nm (l.getD j z28) = false))
 case atStart => exact ⟨0, Nat.zero_le _, by omega, rfl, ⟨Below.refl _ _⟩, ⟨fun j hj => absurd hj (Nat.not_lt_zero _)⟩⟩
 case round =>
  obtain ⟨kk, hkk, hg, rfl, BW, HA⟩ := hrel
  by_cases hltk : kk < l.length
  ·have hltz : (kk : Int) < (l.length : Int) := by omega
   obtain ⟨ad, e, h0, h1, h2⟩ := at_T28 (Kd.C_below HR.out BW.out) (kk : Int) (by omega) hltz
   rw [Int.toNat_natCast] at h0 h1 h2
   cases e
   have hcell : wr.cell? ⟨b, 0, none⟩ = some (.string nm) := pw_cell_below BW.out HN.out
   have hcall := nameIs_calls nm b (rd_T28 l (kk : Int)) wr hcell
   have HC := aM hcell
   clear hcell
   have hrd : rd_T28 l (kk : Int) = l.getD kk z28 := by unfold rd_T28; rw [Int.toNat_natCast]
   cases hq : nameIs nm (rd_T28 l (kk : Int)) with
   | true =>
    rw [hq] at hcall
    have HQ := aM hq
    have HRD := aM hrd
    clear hq hrd
    go_wp2_with (go_at_call 63; refine hcall.mono ?_; rintro e w' ⟨rfl, hb'⟩)
    go_ret
    refine ⟨?_, below_then BW.out BW.out.size hb'⟩
    rw [idxW_hit (nameIs nm) z28 l kk 0 hltk HA.out (by rw [← HRD.out]; exact HQ.out)]
    simp
   | false =>
    rw [hq] at hcall
    have HQ := aM hq
    have HRD := aM hrd
    clear hq hrd
    go_wp2_with (go_at_call 63; refine hcall.mono ?_; rintro e w' ⟨rfl, hb'⟩)
    go_roundg (l.length - (kk + 1))
    case measure => omega
    case rel =>
     refine ⟨kk + 1, by omega, by omega, by go_num, ⟨below_then BW.out BW.out.size hb'⟩, ⟨fun j hj => ?_⟩⟩
     by_cases e : j = kk
     ·subst e
      rw [← HRD.out]; exact HQ.out
     ·exact HA.out j (by omega)
  ·have hltz : ¬ (kk : Int) < (l.length : Int) := by omega
   have hd : decide (kk < l.length) = false := decide_eq_false hltk
   have HK := aM (show l.length ≤ kk by omega)
   clear hltk hltz
   go_wp2
   go_ret
   refine ⟨?_, BW.out⟩
   have HA := fun j (hj : j < l.length) => HA.out j (Nat.lt_of_lt_of_le hj HK.out)
   rw [idxW_miss (nameIs nm) z28 l 0 HA]
   rfl
def impl_RelationIndex.f (l0 : List S28) (a1 : ByteArray) : Option Int := some (idxW (nameIs a1) l0 0)
set_option maxHeartbeats 8000000 in
set_option maxRecDepth 100000 in
theorem impl_RelationIndex.calls (A0 : Option Addr) (c0 : Nat) (l0 : List S28) (a1 : ByteArray) (r : Int) (w : World) (hr0 : Kd.C k28 w A0 l0.length l0) (hc0 : l0.length ≤ c0) (h : impl_RelationIndex.f l0 a1 = some r) :
  Calls Tryd.prog 27 #[.slice A0 l0.length c0, .string a1] w fun e w' => e = .returned (.int .i64 r) ∧ Below w.heap.size w w' := by
 obtain rfl := Option.some.inj h
 have hb : (w.alloc (.cells #[.string a1] 9)).cell? ⟨w.heap.size, 0, none⟩ = some (.string a1) := (blk_cell (heap_alloc_new w _) 0).trans rfl
 have hcall := fun c => nameIdx_calls a1 w.heap.size A0 c l0 _ (Kd.C_below hr0 ((Below.refl _ _).alloc (Nat.le_refl _) (.cells #[.string a1] 9))) hb
 have HC := aM hcall
 clear hcall hb hr0 h
 go_enter Tryd.func27, Tryd.ntmps27
 go_wp2_with (go_at_call 62; refine (HC.out _).mono ?_; rintro e w' ⟨rfl, hb'⟩)
 go_ret
 exact ⟨rfl, below_then ((Below.refl _ _).alloc (Nat.le_refl _) _) (by simp) hb'⟩
end


end Go.Proofs.YtdpaopfghggiaaaDoor.PFnRelationFormat
