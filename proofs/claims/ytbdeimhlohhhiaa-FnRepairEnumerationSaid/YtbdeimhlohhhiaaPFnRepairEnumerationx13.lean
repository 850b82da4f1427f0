import Derived.Test.YtbdeimhlohhhiaaPFnRepairEnumerationx0
import Derived.Test.YtbdeimhlohhhiaaPFnRepairEnumerationx10
namespace Go.Proofs.Ytbdeimhlohhhiaa.PFnRepairEnumeration
open Go.RowKit Go.Proofs.YtbdeimhlohhhiaaW.PrintWords Go.Proofs.YtbdeimhlohhhiaaW.PrintLast Go.Proofs.YtbdeimhlohhhiaaW.PrintMore
attribute [local go_sem] max2_int min2_int max_two min_two max_three min_three max_four min_four
set_option linter.unusedVariables false
set_option linter.unusedSimpArgs false

/-! ### spec_l1PickInt: function 94 -/
def spec_l1PickInt.f (s0_0 : List Int) (s0_1 : Int) (s0_2 : Int) (l1 : List Int) : Option (Int × Int × Int) := (spec_l1Below.f s0_0 s0_1 s0_2 (l1.length : Int)).bind fun bt425 => (if 0 ≤ bt425.1 then (if bt425.1 < (l1.length : Int) then (some (rd l1 bt425.1, bt425.2.1, bt425.2.2)) else (none)) else (none))
set_option maxHeartbeats 8000000 in
set_option maxRecDepth 100000 in
theorem spec_l1PickInt.calls (g : Nat) (s0_0 : List Int) (s0_1 : Int) (s0_2 : Int) (A1 : Option Addr) (c1 : Nat) (l1 : List Int) (r1 : Int) (r2 : Int) (r3 : Int) (w0 w : World) (hI : IsS83 w0 w g s0_0 s0_1 s0_2) (hB : Below w0.heap.size w0 w) (hr1 : Kd.C (Kd.int .i64) w A1 l1.length l1) (hc1 : l1.length ≤ c1) (hf1 : ∀ ad, A1 = some ad → 0 < l1.length → ad.block ≠ g) (h : spec_l1PickInt.f s0_0 s0_1 s0_2 l1 = some (r1, r2, r3)) :
  Calls Try.prog 94 #[.pointer (some ⟨g, 0, none⟩), .slice A1 l1.length c1] w fun e w' => e = .returned (.int .i64 r1) ∧ IsS83 w0 w' g s0_0 r2 r3 ∧ Below w0.heap.size w0 w' ∧ KeepBut w w' g none := by
 have HR1 := aM hr1
 have HC1 := aM hc1
 clear hr1 hc1
 have HI0 := aM hI
 have HK := aM (KeepBut.refl w g none)
 have HL := aM hB.size
 clear hI
 have HW0 := aM hB.size
 have HB := aM hB
 clear hB
 have H : ((spec_l1Below.f s0_0 s0_1 s0_2 (l1.length : Int)).bind fun bt425 => (if 0 ≤ bt425.1 then (if bt425.1 < (l1.length : Int) then (some (rd l1 bt425.1, bt425.2.1, bt425.2.2)) else (none)) else (none))) = some (r1, r2, r3) := h
 clear h
 replace H := bM H
 obtain ⟨⟨t425, t426, t427⟩, A30, H⟩ := H
 dsimp only at H
 have A3 := aM A30
 clear A30
 by_cases c4 : 0 ≤ t425
 ·rw [if_pos c4] at H
  have c4b0 : decide (0 ≤ t425) = true := decide_eq_true c4
  clear c4
  by_cases c5 : t425 < (l1.length : Int)
  ·rw [if_pos c5] at H
   have c5b0 : decide (t425 < (l1.length : Int)) = true := decide_eq_true c5
   clear c5
   simp only [Option.some.injEq, Prod.mk.injEq] at H
   obtain ⟨rfl, rfl, rfl⟩ := H
   go_enter Try.func94, Try.ntmps94
   go_wp2_with (first | ((with_reducible refine gate_callee (f := 66) rfl ?_); refine goesL_ (some 9) rfl rfl Try.func66 (by kernel_rfl) rfl #[.pointer (some ⟨g, 0, none⟩), .int .i64 (l1.length : Int)] rfl aA ?_; (with_reducible refine (spec_l1Below.calls g s0_0 s0_1 s0_2 (l1.length : Int) t425 t426 t427 w0 _ ?side1 ?side2 A3.out).mono ?_); (case side1 => exact aZ); (case side2 => exact aY); rintro e w6 ⟨rfl, hi, hb, hk⟩; refine ⟨_, rfl, ?_⟩; replace HK := aM (KeepBut.trans aQ hk (.inl rfl)); replace HB := aM (hb); replace HI0 := aM (hi); (try clear hb); (try clear hb2); (try clear hk); (try clear hi); have p428 : 0 ≤ (t425 : Int) := aD; have q428 : t425 < (l1.length : Int) := aD; obtain ⟨ad428, e428, hx428_0⟩ := Kd.at_int HR1.out t425 p428 q428; cases e428; replace hx428_0 := keep_cell HK.out hx428_0 (by first | (rw [add_block]; exact hf1 _ rfl (by omega)) | exact hf1 _ rfl (by omega) | exact hf1 ad428 rfl (by omega)); replace p428 := eq_true p428; replace q428 := eq_true q428))
   go_ret
   exact ⟨aE, aZ, aY, aQ⟩
  ·rw [if_neg c5] at H
   exact absurd H (by simp)
 ·rw [if_neg c4] at H
  exact absurd H (by simp)

/-! ### spec_l2Sigs: function 93 -/
def spec_l2Sigs.f (s0_0 : List Int) (s0_1 : Int) (s0_2 : Int) : Option ((List (S70)) × Int × Int) := (spec_l1PickInt.f s0_0 s0_1 s0_2 (([1, 1, 2, 0] : List Int))).bind fun bt432 => ((spec_l1Below.f s0_0 bt432.2.1 bt432.2.2 2).bind fun bt435 => (some ((([(⟨(⟨#[114]⟩ : ByteArray), 2, 1⟩ : S70), (⟨(⟨#[115]⟩ : ByteArray), 2, 1⟩ : S70), (⟨(⟨#[116]⟩ : ByteArray), 2, bt432.1⟩ : S70), (⟨(⟨#[117]⟩ : ByteArray), 3, wrap64 (1 + bt435.1)⟩ : S70)] : List (S70))), bt435.2.1, bt435.2.2)))
set_option maxHeartbeats 8000000 in
set_option maxRecDepth 100000 in
theorem spec_l2Sigs.calls (g : Nat) (s0_0 : List Int) (s0_1 : Int) (s0_2 : Int) (r1 : List (S70)) (r2 : Int) (r3 : Int) (w0 w : World) (hI : IsS83 w0 w g s0_0 s0_1 s0_2) (hB : Below w0.heap.size w0 w) (h : spec_l2Sigs.f s0_0 s0_1 s0_2 = some (r1, r2, r3)) :
  Calls Try.prog 93 #[.pointer (some ⟨g, 0, none⟩)] w fun e w' => ∃ v0_ : Value, e = .returned (v0_) ∧ Kd.R k70 70 w' w.heap.size (fun _ => True) v0_ r1 ∧ IsS83 w0 w' g s0_0 r2 r3 ∧ Below w0.heap.size w0 w' ∧ KeepBut w w' g none := by
 have hu70 := Try.underlying70
 have HI0 := aM hI
 have HK := aM (KeepBut.refl w g none)
 have HL := aM hB.size
 clear hI
 have HW0 := aM hB.size
 have HB := aM hB
 clear hB
 have H : ((spec_l1PickInt.f s0_0 s0_1 s0_2 (([1, 1, 2, 0] : List Int))).bind fun bt432 => ((spec_l1Below.f s0_0 bt432.2.1 bt432.2.2 2).bind fun bt435 => (some ((([(⟨(⟨#[114]⟩ : ByteArray), 2, 1⟩ : S70), (⟨(⟨#[115]⟩ : ByteArray), 2, 1⟩ : S70), (⟨(⟨#[116]⟩ : ByteArray), 2, bt432.1⟩ : S70), (⟨(⟨#[117]⟩ : ByteArray), 3, wrap64 (1 + bt435.1)⟩ : S70)] : List (S70))), bt435.2.1, bt435.2.2)))) = some (r1, r2, r3) := h
 clear h
 obtain ⟨y429, hy429⟩ : ∃ y_ : List Int, y_ = (([1, 1, 2, 0] : List Int)) := ⟨_, rfl⟩
 first | replace H := bY hy429 H | rw [← hy429] at H
 have Ny429 := aM hy429
 clear hy429
 replace H := bM H
 obtain ⟨⟨t432, t433, t434⟩, A20, H⟩ := H
 dsimp only at H
 have A2 := aM A20
 clear A20
 replace H := bM H
 obtain ⟨⟨t435, t436, t437⟩, A30, H⟩ := H
 dsimp only at H
 have A3 := aM A30
 clear A30
 obtain ⟨y438, hy438⟩ : ∃ y_ : List (S70), y_ = (([(⟨(⟨#[114]⟩ : ByteArray), 2, 1⟩ : S70), (⟨(⟨#[115]⟩ : ByteArray), 2, 1⟩ : S70), (⟨(⟨#[116]⟩ : ByteArray), 2, t432⟩ : S70), (⟨(⟨#[117]⟩ : ByteArray), 3, wrap64 (1 + t435)⟩ : S70)] : List (S70))) := ⟨_, rfl⟩
 first | replace H := bY hy438 H | rw [← hy438] at H
 have Ny438 := aM hy438
 clear hy438
 simp only [Option.some.injEq, Prod.mk.injEq] at H
 obtain ⟨rfl, rfl, rfl⟩ := H
 go_enter Try.func93, Try.ntmps93
 go_wp2_with (first | ((with_reducible refine gate_dst (N := 6) rfl ?_); refine Kd.R_lit (Kd.int .i64) _ 3 ?hg (N := 6) ?hd (xs := ([1, 1, 2, 0] : List Int)) (inner := [.int .i64 1, .int .i64 1, .int .i64 2, .int .i64 0]) (ok := fun _ => True) (okp := fun _ => True) ?hr ?hp (fun _ hk => hk) trivial (Below.refl _ _) (Nat.le_refl _) (by simp) ?_; (case hd => rfl); (case hg => rfl); (case hr => first | (go_simp; done) | (go_simp; rfl)); (case hp => exact (Reps.one (show Kd.M (Kd.int .i64) _ _ _ 1 [.int .i64 1] from rfl) (Reps.one (show Kd.M (Kd.int .i64) _ _ _ 1 [.int .i64 1] from rfl) (Reps.one (show Kd.M (Kd.int .i64) _ _ _ 2 [.int .i64 2] from rfl) (Reps.one (show Kd.M (Kd.int .i64) _ _ _ 0 [.int .i64 0] from rfl) (Reps.none _ _)))))); intro v430 w4 ho5 hb hg_ hnew_; clear hg_ hnew_; (first | rw [← Ny429.out] at ho5 | (simp only [Int.reduceToNat] at ho5; rw [← Ny429.out] at ho5)); have HO431 := aM (Kd.R_lower ho5 (kS (w := w) (g := g))); replace HK := aM (KeepBut.trans aQ (KeepBut.of_below hb g none) (.inl rfl)); replace HB := aM (below_step aY hb); replace HI0 := aM (IsS83.below aZ hb); clear hb ho5; obtain ⟨Ao6, co6, eo6⟩ := Kd.R_slice HO431.out; subst eo6) | ((with_reducible refine gate_callee (f := 94) rfl ?_); refine goesL_ (some 7) rfl rfl Try.func94 (by kernel_rfl) rfl #[.pointer (some ⟨g, 0, none⟩), .slice Ao6 y429.length co6] rfl aA ?_; (with_reducible refine (spec_l1PickInt.calls g s0_0 s0_1 s0_2 _ _ y429 t432 t433 t434 w0 _ ?side1 ?side2 ?side3 ?side4 ?side5 A2.out).mono ?_); (case side1 => exact aZ); (case side2 => exact aY); (case side3 => repeat (first | exact (Kd.R_reads' HO431.out).2.2 | (with_reducible refine pC ?_))); (case side4 => exact (Kd.R_reads' HO431.out).2.1); (case side5 => exact far_slice (IsS83.own_ne HI0.out HO431.out (by decide))); rintro e w7 ⟨rfl, hi, hb, hk⟩; refine ⟨_, rfl, ?_⟩; replace HO431 := aM (Kd.R_mono (Kd.R_keep (IsS83.apart (show IsS83 w0 _ g s0_0 s0_1 s0_2 from aZ) (aR HO431) (by decide)) hk (fun _ h => h.2)) (fun _ h => h.1)); replace HK := aM (KeepBut.trans aQ hk (.inl rfl)); replace HB := aM (hb); replace HI0 := aM (hi); (try clear hb); (try clear hb2); (try clear hk); (try clear hi)) | ((with_reducible refine gate_callee (f := 66) rfl ?_); refine goesL_ (some 10) rfl rfl Try.func66 (by kernel_rfl) rfl #[.pointer (some ⟨g, 0, none⟩), .int .i64 2] rfl aA ?_; (with_reducible refine (spec_l1Below.calls g s0_0 t433 t434 2 t435 t436 t437 w0 _ ?side1 ?side2 A3.out).mono ?_); (case side1 => exact aZ); (case side2 => exact aY); rintro e w8 ⟨rfl, hi, hb, hk⟩; refine ⟨_, rfl, ?_⟩; replace HO431 := aM (Kd.R_mono (Kd.R_keep (IsS83.apart (show IsS83 w0 _ g s0_0 t433 t434 from aZ) (aR HO431) (by decide)) hk (fun _ h => h.2)) (fun _ h => h.1)); replace HK := aM (KeepBut.trans aQ hk (.inl rfl)); replace HB := aM (hb); replace HI0 := aM (hi); (try clear hb); (try clear hb2); (try clear hk); (try clear hi)) | ((with_reducible refine gate_dst (N := 13) rfl ?_); refine Kd.R_lit k70 _ 70 ?hg (N := 13) ?hd (xs := ([(⟨(⟨#[114]⟩ : ByteArray), 2, 1⟩ : S70), (⟨(⟨#[115]⟩ : ByteArray), 2, 1⟩ : S70), (⟨(⟨#[116]⟩ : ByteArray), 2, t432⟩ : S70), (⟨(⟨#[117]⟩ : ByteArray), 3, wrap64 (1 + t435)⟩ : S70)] : List (S70))) (inner := [.string (⟨#[114]⟩ : ByteArray), .int .i64 2, .int .i64 1, .string (⟨#[115]⟩ : ByteArray), .int .i64 2, .int .i64 1, .string (⟨#[116]⟩ : ByteArray), .int .i64 2, .int .i64 t432, .string (⟨#[117]⟩ : ByteArray), .int .i64 3, .int .i64 (wrap64 (1 + t435))]) (ok := fun _ => True) (okp := fun _ => True) ?hr ?hp (fun _ hk => hk) trivial (Below.refl _ _) (Nat.le_refl _) (by simp) ?_; (case hd => rfl); (case hg => rfl); (case hr => first | (go_simp; done) | (go_simp; rfl)); (case hp => exact (Reps.c3 (show Kd.M k70 _ _ _ (⟨(⟨#[114]⟩ : ByteArray), 2, 1⟩ : S70) [.string (⟨#[114]⟩ : ByteArray), .int .i64 2, .int .i64 1] from (k70_mkM _ _ _ (⟨(⟨#[114]⟩ : ByteArray), 2, 1⟩ : S70) )) (Reps.c3 (show Kd.M k70 _ _ _ (⟨(⟨#[115]⟩ : ByteArray), 2, 1⟩ : S70) [.string (⟨#[115]⟩ : ByteArray), .int .i64 2, .int .i64 1] from (k70_mkM _ _ _ (⟨(⟨#[115]⟩ : ByteArray), 2, 1⟩ : S70) )) (Reps.c3 (show Kd.M k70 _ _ _ (⟨(⟨#[116]⟩ : ByteArray), 2, t432⟩ : S70) [.string (⟨#[116]⟩ : ByteArray), .int .i64 2, .int .i64 t432] from (k70_mkM _ _ _ (⟨(⟨#[116]⟩ : ByteArray), 2, t432⟩ : S70) )) (Reps.c3 (show Kd.M k70 _ _ _ (⟨(⟨#[117]⟩ : ByteArray), 3, wrap64 (1 + t435)⟩ : S70) [.string (⟨#[117]⟩ : ByteArray), .int .i64 3, .int .i64 (wrap64 (1 + t435))] from (k70_mkM _ _ _ (⟨(⟨#[117]⟩ : ByteArray), 3, wrap64 (1 + t435)⟩ : S70) )) (Reps.none _ _)))))); intro v439 w9 ho10 hb hg_ hnew_; clear hg_ hnew_; (first | rw [← Ny438.out] at ho10 | (simp only [Int.reduceToNat] at ho10; rw [← Ny438.out] at ho10)); have HO440 := aM (Kd.R_lower ho10 (kS (w := w) (g := g))); replace HO431 := aM (Kd.R_below (aR HO431) hb); replace HK := aM (KeepBut.trans aQ (KeepBut.of_below hb g none) (.inl rfl)); replace HB := aM (below_step aY hb); replace HI0 := aM (IsS83.below aZ hb); clear hb ho10))
 go_ret
 exact ⟨_, aE, aR HO440, aZ, aY, aQ⟩

end Go.Proofs.Ytbdeimhlohhhiaa.PFnRepairEnumeration
