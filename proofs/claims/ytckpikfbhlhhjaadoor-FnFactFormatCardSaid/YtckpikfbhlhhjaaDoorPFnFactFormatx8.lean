import Derived.Test.YtckpikfbhlhhjaaDoorPFnFactFormatx0
import Derived.Test.YtckpikfbhlhhjaaDoorPFnFactFormatx1
import Derived.Test.YtckpikfbhlhhjaaDoorPFnFactFormatx2
import Derived.Test.YtckpikfbhlhhjaaDoorPFnFactFormatx5
namespace Go.Proofs.YtckpikfbhlhhjaaDoor.PFnFactFormat
open Go.RowKit Go.Proofs.YtckpikfbhlhhjaaDoorW.PrintWords Go.Proofs.YtckpikfbhlhhjaaDoorW.PrintLast Go.Proofs.YtckpikfbhlhhjaaDoorW.PrintMore
attribute [local go_sem] max2_int min2_int max_two min_two max_three min_three max_four min_four
set_option linter.unusedVariables false
set_option linter.unusedSimpArgs false

/-! ### spec_DrawHaveSameKey: function 19 -/
def spec_DrawHaveSameKey.f (k : Nat) (l0 : List Int) : Option ((List (S68)) × Int × List Int × Int × List Int) := (spec_l1New.f k l0).bind fun bt381 => ((spec_l2Sigs.f bt381.1 bt381.2.1 bt381.2.2).bind fun bt385 => ((spec_l3Any.f k bt381.1 bt385.2.1 bt385.2.2 bt385.1).bind fun bt390 => ((spec_l3Fact.f k bt381.1 bt390.2.2.1 bt390.2.2.2 bt385.1 2).bind fun bt397 => ((spec_l1Once.f bt381.1 bt397.2.2.1 bt397.2.2.2 2).bind fun bt404 => (if bt404.1 = true then ((some (([] : List Int) : List Int)).bind fun y407 => (if y407.length + bt390.2.1.length < 17592186044416 then ((some (y407 ++ bt390.2.1 : List Int)).bind fun y410 => ((spec_l1Below.f bt381.1 bt404.2.1 bt404.2.2 4).bind fun bt413 => (if 0 ≤ (wrap64 ((y410.length : Int) - 1)) then (if (wrap64 ((y410.length : Int) - 1)) < (y410.length : Int) then (some (bt385.1, bt390.1, bt390.2.1, bt390.1, (y410.set ((wrap64 ((y410.length : Int) - 1)) : Int).toNat bt413.1))) else (none)) else (none)))) else (none))) else (some (bt385.1, bt390.1, bt390.2.1, bt397.1, bt397.2.1)))))))
def spec_DrawHaveSameKey.T6 : Bool × List (List Nat × List Nat) := (true, [([], []), ([0], [0]), ([], []), ([], []), ([3], [3]), ([2, 4], [2, 4]), ([1, 5], [1, 5]), ([6, 5, 0, 1, 2, 3, 4, 5, 6], [6])])
def spec_DrawHaveSameKey.B6 : List Nat := [0, 1, 0, 0, 8, 28, 63, 127]
theorem spec_DrawHaveSameKey.tab6 : rtab .any (opsOf Tryd.f19 6) = spec_DrawHaveSameKey.T6 := by kernel_rfl
theorem spec_DrawHaveSameKey.bits6 : waitsOk spec_DrawHaveSameKey.T6.2 spec_DrawHaveSameKey.B6 = true := by kernel_rfl
def spec_DrawHaveSameKey.T7 : Bool × List (List Nat × List Nat) := (true, [([], []), ([0], [0]), ([], []), ([2], [2]), ([3], [3]), ([4], [4]), ([], []), ([6], [6]), ([1, 5, 0, 1, 2, 3, 4, 5, 6, 7], [1, 5]), ([8, 7, 7, 0, 1, 2, 3, 4, 5, 6, 7], [7, 8])])
def spec_DrawHaveSameKey.B7 : List Nat := [0, 1, 0, 4, 12, 28, 0, 64, 255, 511]
theorem spec_DrawHaveSameKey.tab7 : rtab .any (opsOf Tryd.f19 7) = spec_DrawHaveSameKey.T7 := by kernel_rfl
theorem spec_DrawHaveSameKey.bits7 : waitsOk spec_DrawHaveSameKey.T7.2 spec_DrawHaveSameKey.B7 = true := by kernel_rfl
set_option maxHeartbeats 8000000 in
set_option maxRecDepth 100000 in
theorem spec_DrawHaveSameKey.calls (k : Nat) (A0 : Option Addr) (c0 : Nat) (l0 : List Int) (r1 : List (S68)) (r2 : Int) (r3 : List Int) (r4 : Int) (r5 : List Int) (w : World) (hr0 : Kd.C (Kd.int .u8) w A0 l0.length l0) (hc0 : l0.length ≤ c0) (h : spec_DrawHaveSameKey.f k l0 = some (r1, r2, r3, r4, r5)) :
  Calls Tryd.prog 19 #[.slice A0 l0.length c0] w fun e w' => ∃ v0_ v2_ v4_ : Value, e = .returned (.tuple #[v0_, .agg #[.int .i64 r2, v2_], .agg #[.int .i64 r4, v4_]]) ∧ Kd.R k68 68 w' w.heap.size (fun _ => True) v0_ r1 ∧ Kd.R (Kd.int .i64) 3 w' w.heap.size (fun k_ => some k_ ≠ (v4_ : Value).ownBlock) v2_ r3 ∧ Kd.R (Kd.int .i64) 3 w' w.heap.size (fun k_ => some k_ ≠ (v2_ : Value).ownBlock) v4_ r5 ∧ Below w.heap.size w w' := by
 have hu39 := Tryd.underlying39
 have HR0 := aM hr0
 have HC0 := aM hc0
 clear hr0 hc0
 have HB := aM (Below.refl w.heap.size w)
 have H : ((spec_l1New.f k l0).bind fun bt381 => ((spec_l2Sigs.f bt381.1 bt381.2.1 bt381.2.2).bind fun bt385 => ((spec_l3Any.f k bt381.1 bt385.2.1 bt385.2.2 bt385.1).bind fun bt390 => ((spec_l3Fact.f k bt381.1 bt390.2.2.1 bt390.2.2.2 bt385.1 2).bind fun bt397 => ((spec_l1Once.f bt381.1 bt397.2.2.1 bt397.2.2.2 2).bind fun bt404 => (if bt404.1 = true then ((some (([] : List Int) : List Int)).bind fun y407 => (if y407.length + bt390.2.1.length < 17592186044416 then ((some (y407 ++ bt390.2.1 : List Int)).bind fun y410 => ((spec_l1Below.f bt381.1 bt404.2.1 bt404.2.2 4).bind fun bt413 => (if 0 ≤ (wrap64 ((y410.length : Int) - 1)) then (if (wrap64 ((y410.length : Int) - 1)) < (y410.length : Int) then (some (bt385.1, bt390.1, bt390.2.1, bt390.1, (y410.set ((wrap64 ((y410.length : Int) - 1)) : Int).toNat bt413.1))) else (none)) else (none)))) else (none))) else (some (bt385.1, bt390.1, bt390.2.1, bt397.1, bt397.2.1)))))))) = some (r1, r2, r3, r4, r5) := h
 clear h
 replace H := bM H
 obtain ⟨⟨t381, t382, t383⟩, A20, H⟩ := H
 dsimp only at H
 have A2 := aM A20
 clear A20
 replace H := bM H
 obtain ⟨⟨t385, t388, t389⟩, A30, H⟩ := H
 dsimp only at H
 have A3 := aM A30
 clear A30
 replace H := bM H
 obtain ⟨⟨t390, t391, t394, t395⟩, A40, H⟩ := H
 dsimp only at H
 have A4 := aM A40
 clear A40
 replace H := bM H
 obtain ⟨⟨t397, t398, t401, t402⟩, A50, H⟩ := H
 dsimp only at H
 have A5 := aM A50
 clear A50
 replace H := bM H
 obtain ⟨⟨t404, t405, t406⟩, A60, H⟩ := H
 dsimp only at H
 have A6 := aM A60
 clear A60
 by_cases c7 : t404 = true
 ·subst c7
  replace H := iT H
  obtain ⟨y407, hy407⟩ : ∃ y_ : List Int, y_ = (([] : List Int)) := ⟨_, rfl⟩
  first | replace H := bY hy407 H | rw [← hy407] at H
  have Ny407 := aM hy407
  clear hy407
  by_cases c8 : y407.length + t391.length < 17592186044416
  ·rw [if_pos c8] at H
   have LMc8 := aM c8
   clear c8
   obtain ⟨y410, hy410⟩ : ∃ y_ : List Int, y_ = (y407 ++ t391) := ⟨_, rfl⟩
   first | replace H := bY hy410 H | rw [← hy410] at H
   have Ny410 := aM hy410
   clear hy410
   replace H := bM H
   obtain ⟨⟨t413, t414, t415⟩, A90, H⟩ := H
   dsimp only at H
   have A9 := aM A90
   clear A90
   obtain ⟨ji10, hji10⟩ : ∃ j_ : Int, (wrap64 ((y410.length : Int) - 1)) = j_ := ⟨_, rfl⟩
   replace H : (if 0 ≤ (ji10) then (if (ji10) < (y410.length : Int) then (some (t385, t390, t391, t390, (y410.set ((ji10) : Int).toNat t413))) else (none)) else (none)) = some (r1, r2, r3, r4, r5) := by first | (rw [hji10] at H; exact H) | (simp only [hji10] at H ⊢; exact H)
   (try rw [hji10] at A2)
   (try rw [hji10] at A3)
   (try rw [hji10] at A4)
   (try rw [hji10] at A5)
   (try rw [hji10] at A6)
   (try rw [hji10] at A9)
   have hji10w : (IntKind.i64.wrap ((y410.length : Int) - 1)) = ji10 := (i64_w _).trans hji10
   by_cases c11 : 0 ≤ (ji10)
   ·rw [if_pos c11] at H
    have c11b0 : decide (0 ≤ (ji10)) = true := decide_eq_true c11
    clear c11
    by_cases c12 : (ji10) < (y410.length : Int)
    ·rw [if_pos c12] at H
     have c12b0 : decide ((ji10) < (y410.length : Int)) = true := decide_eq_true c12
     clear c12
     obtain ⟨y416, hy416⟩ : ∃ y_ : List Int, y_ = (y410.set ((ji10) : Int).toNat t413) := ⟨_, rfl⟩
     first | replace H := bY hy416 H | rw [← hy416] at H
     have Ny416 := aM hy416
     clear hy416
     simp only [Option.some.injEq, Prod.mk.injEq] at H
     obtain ⟨rfl, rfl, rfl, rfl, rfl⟩ := H
     go_enter Tryd.func19, Tryd.ntmps19
     try go_wp2_with (first | ((with_reducible refine gate_dst (N := 3) rfl ?_); refine bE 3 (cs := #[.int .i64 0, .slice none 0 0]) (t := 39) ?_; intro gb379 hg w14 hbox hb; have BK379 := aM (hbox); have GW379 := aM ((by rw [hg]; exact (below_size aB) : w.heap.size ≤ gb379)); have GE379 := aM ((by rw [hg]; exact (below_size aB) : w.heap.size ≤ gb379)); replace HB := aM (below_step aB hb); clear hb hbox hg) | ((with_reducible refine gate_dst (N := 4) rfl ?_); refine bE 4 (cs := #[.int .i64 0, .slice none 0 0]) (t := 39) ?_; intro gb380 hg w15 hbox hb; have BK380 := aM (hbox); have GW380 := aM ((by rw [hg]; exact (below_size aG) : w.heap.size ≤ gb380)); have GE380 := aM ((by rw [hg]; exact (below_size aG) : w.heap.size ≤ gb380)); have NB379_380 := aM ((by rw [hg]; exact Nat.ne_of_lt (blk_lt (g := gb379) (o := .cells #[.int .i64 0, .slice none 0 0] 39 (0, 0)) aK) : gb379 ≠ gb380)); have NB380_379 := aM ((by rw [hg]; exact Nat.ne_of_gt (blk_lt (g := gb379) (o := .cells #[.int .i64 0, .slice none 0 0] 39 (0, 0)) aK) : gb380 ≠ gb379)); replace BK379 := aM (kB gb379 #[.int .i64 0, .slice none 0 0] 39 hb); replace HB := aM (below_step aG hb); clear hb hbox hg) | ((with_reducible refine gate_callee (f := 53) rfl ?_); refine goesL_ (some 10) rfl rfl Tryd.func53 (by kernel_rfl) rfl #[.slice A0 l0.length c0] rfl aA ?_; (with_reducible refine (spec_l1New.calls k _ _ l0 t381 t382 t383 w _ ?side1 ?side2 ?side3 A2.out).mono ?_); (case side1 => exact aG); (case side2 => exact HR0.out); (case side3 => exact HC0.out); rintro e w16 ⟨g384, rfl, hi, hb, hb2⟩; refine ⟨_, rfl, ?_⟩; have n0_ := aM (blk_below (g := gb379) (o := .cells #[.int .i64 0, .slice none 0 0] 39 (0, 0)) aK hb2); have n1_ := aM (blk_below (g := gb380) (o := .cells #[.int .i64 0, .slice none 0 0] 39 (0, 0)) aK hb2); have n2_ := aM (hb); have n3_ := aM (hi); have n4_ := aM (IsS117.ne_blk hi (blk_below (g := gb379) (o := .cells #[.int .i64 0, .slice none 0 0] 39 (0, 0)) aK hb2) (by decide)); have n5_ := aM (Ne.symm (IsS117.ne_blk hi (blk_below (g := gb379) (o := .cells #[.int .i64 0, .slice none 0 0] 39 (0, 0)) aK hb2) (by decide))); have n6_ := aM (IsS117.ne_blk hi (blk_below (g := gb380) (o := .cells #[.int .i64 0, .slice none 0 0] 39 (0, 0)) aK hb2) (by decide)); have n7_ := aM (Ne.symm (IsS117.ne_blk hi (blk_below (g := gb380) (o := .cells #[.int .i64 0, .slice none 0 0] 39 (0, 0)) aK hb2) (by decide))); clear BK379; clear BK380; clear HB; have BK379 := n0_; have BK380 := n1_; have HB := n2_; have HI384 := n3_; have NB384_379 := n4_; have NB379_384 := n5_; have NB384_380 := n6_; have NB380_384 := n7_; clear n0_ n1_ n2_ n3_ n4_ n5_ n6_ n7_; (try clear hb); (try clear hb2); (try clear hk); (try clear hi)) | ((with_reducible refine gate_callee (f := 54) rfl ?_); refine goesL_ (some 12) rfl rfl Tryd.func54 (by kernel_rfl) rfl #[.pointer (some ⟨g384, 0, none⟩)] rfl aA ?_; (with_reducible refine (spec_l2Sigs.calls g384 t381 t382 t383 t385 t388 t389 w _ ?side1 ?side2 A3.out).mono ?_); (case side1 => repeat (first | (with_reducible first | exact HI384.out | apply IsS117.alloc | apply IsS117.drewN | apply IsS117.drew | apply IsS117.set_1 | apply IsS117.set_2 | refine IsS117.far ?_ NB384_379.out _ | refine IsS117.far ?_ NB384_380.out _) | exact HI384.out)); (case side2 => repeat (first | (with_reducible first | exact HB.out | apply below_alloc | apply pw_below_drewN | apply below_drew1 | refine below_set ?_ (IsS117.ge HI384.out) | refine below_set ?_ GE379.out | refine below_set ?_ GE380.out) | exact HB.out)); rintro e w17 ⟨v386, rfl, ho0, hi, hb, hk⟩; refine ⟨_, rfl, ?_⟩; have n0_ := aM (KeepBut.blk hk (g' := gb379) (o := .cells #[.int .i64 0, .slice none 0 0] 39 (0, 0)) aK NB379_384.out (by simp)); have n1_ := aM (KeepBut.blk hk (g' := gb380) (o := .cells #[.int .i64 0, .slice none 0 0] 39 (0, 0)) aK NB380_384.out (by simp)); have n2_ := aM (Kd.R_lower ho0 (below_size (by repeat (first | (with_reducible first | exact HB.out | apply below_alloc | apply pw_below_drewN | apply below_drew1 | refine below_set ?_ (IsS117.ge HI384.out) | refine below_set ?_ GE379.out | refine below_set ?_ GE380.out) | exact HB.out)))); have n3_ := aM (hb); have n4_ := aM (hi); clear BK379; clear BK380; clear HB; clear HI384; have BK379 := n0_; have BK380 := n1_; have HO387 := n2_; have HB := n3_; have HI384 := n4_; clear n0_ n1_ n2_ n3_ n4_; (try clear hb); (try clear hb2); (try clear hk); (try clear hi); (try clear ho0); obtain ⟨Ao18, co18, eo18⟩ := Kd.R_slice HO387.out; subst eo18) | ((with_reducible refine gate_callee (f := 61) rfl ?_); refine goesL_ (some 15) rfl rfl Tryd.func61 (by kernel_rfl) rfl #[.pointer (some ⟨g384, 0, none⟩), .slice Ao18 t385.length co18] rfl aA ?_; (with_reducible refine (spec_l3Any.calls k g384 t381 t388 t389 _ _ t385 t390 t391 t394 t395 w _ ?side1 ?side2 ?side3 ?side4 A4.out).mono ?_); (case side1 => repeat (first | (with_reducible first | exact HI384.out | apply IsS117.alloc | apply IsS117.drewN | apply IsS117.drew | apply IsS117.set_1 | apply IsS117.set_2 | refine IsS117.far ?_ NB384_379.out _ | refine IsS117.far ?_ NB384_380.out _) | exact HI384.out)); (case side2 => repeat (first | (with_reducible first | exact HB.out | apply below_alloc | apply pw_below_drewN | apply below_drew1 | refine below_set ?_ (IsS117.ge HI384.out) | refine below_set ?_ GE379.out | refine below_set ?_ GE380.out) | exact HB.out)); (case side3 => exact Kd.C_foot_own (IsS117.apart (show IsS117 w _ g384 t381 t388 t389 from by repeat (first | (with_reducible first | exact HI384.out | apply IsS117.alloc | apply IsS117.drewN | apply IsS117.drew | apply IsS117.set_1 | apply IsS117.set_2 | refine IsS117.far ?_ NB384_379.out _ | refine IsS117.far ?_ NB384_380.out _) | exact HI384.out)) (aR HO387) (by decide)) (fun _ h_ => h_.2)); (case side4 => exact (Kd.R_reads' HO387.out).2.1); rintro e w19 ⟨v392, rfl, ho0, hi, hb, hk⟩; refine ⟨_, rfl, ?_⟩; have n0_ := aM (KeepBut.blk hk (g' := gb379) (o := .cells #[.int .i64 0, .slice none 0 0] 39 (0, 0)) aK NB379_384.out (by simp)); have n1_ := aM (KeepBut.blk hk (g' := gb380) (o := .cells #[.int .i64 0, .slice none 0 0] 39 (0, 0)) aK NB380_384.out (by simp)); have n2_ := aM (Kd.R_mono (Kd.R_keep (IsS117.apart (show IsS117 w _ g384 t381 t388 t389 from by repeat (first | (with_reducible first | exact HI384.out | apply IsS117.alloc | apply IsS117.drewN | apply IsS117.drew | apply IsS117.set_1 | apply IsS117.set_2 | refine IsS117.far ?_ NB384_379.out _ | refine IsS117.far ?_ NB384_380.out _) | exact HI384.out)) (aR HO387) (by decide)) hk (fun _ h => h.2)) (fun _ h => h.1)); have n3_ := aM (Kd.R_lower ho0 (below_size (by repeat (first | (with_reducible first | exact HB.out | apply below_alloc | apply pw_below_drewN | apply below_drew1 | refine below_set ?_ (IsS117.ge HI384.out) | refine below_set ?_ GE379.out | refine below_set ?_ GE380.out) | exact HB.out)))); have n4_ := aM (hb); have n5_ := aM (hi); clear BK379; clear BK380; clear HO387; clear HB; clear HI384; have BK379 := n0_; have BK380 := n1_; have HO387 := n2_; have HO393 := n3_; have HB := n4_; have HI384 := n5_; clear n0_ n1_ n2_ n3_ n4_ n5_; (try clear hb); (try clear hb2); (try clear hk); (try clear hi); (try clear ho0)) | ((with_reducible refine gate_dst (N := 7) rfl ?_); refine bE 7 (cs := #[.int .i64 0, .slice none 0 0]) (t := 39) ?_; intro gb396 hg w20 hbox hb; have n0_ := aM (Kd.R_below (aR HO387) hb); have n1_ := aM (Kd.R_below (aR HO393) hb); have n2_ := aM (kB gb379 #[.int .i64 0, .slice none 0 0] 39 hb); have n3_ := aM (kB gb380 #[.int .i64 0, .slice none 0 0] 39 hb); have n4_ := aM (IsS117.below (by repeat (first | (with_reducible first | exact HI384.out | apply IsS117.alloc | apply IsS117.drewN | apply IsS117.drew | apply IsS117.set_1 | apply IsS117.set_2 | refine IsS117.far ?_ NB384_379.out _ | refine IsS117.far ?_ NB384_380.out _) | exact HI384.out)) hb); have n5_ := aM (below_step (by repeat (first | (with_reducible first | exact HB.out | apply below_alloc | apply pw_below_drewN | apply below_drew1 | refine below_set ?_ (IsS117.ge HI384.out) | refine below_set ?_ GE379.out | refine below_set ?_ GE380.out) | exact HB.out)) hb); have n6_ := aM (hbox); have n7_ := aM ((by rw [hg]; exact (below_size (by repeat (first | (with_reducible first | exact HB.out | apply below_alloc | apply pw_below_drewN | apply below_drew1 | refine below_set ?_ (IsS117.ge HI384.out) | refine below_set ?_ GE379.out | refine below_set ?_ GE380.out) | exact HB.out))) : w.heap.size ≤ gb396)); have n8_ := aM ((by rw [hg]; exact (below_size (by repeat (first | (with_reducible first | exact HB.out | apply below_alloc | apply pw_below_drewN | apply below_drew1 | refine below_set ?_ (IsS117.ge HI384.out) | refine below_set ?_ GE379.out | refine below_set ?_ GE380.out) | exact HB.out))) : w.heap.size ≤ gb396)); have n9_ := aM ((by rw [hg]; exact Nat.ne_of_lt (blk_lt (g := gb379) (o := .cells #[.int .i64 0, .slice none 0 0] 39 (0, 0)) aK) : gb379 ≠ gb396)); have n10_ := aM ((by rw [hg]; exact Nat.ne_of_gt (blk_lt (g := gb379) (o := .cells #[.int .i64 0, .slice none 0 0] 39 (0, 0)) aK) : gb396 ≠ gb379)); have n11_ := aM ((by rw [hg]; exact Nat.ne_of_lt (blk_lt (g := gb380) (o := .cells #[.int .i64 0, .slice none 0 0] 39 (0, 0)) aK) : gb380 ≠ gb396)); have n12_ := aM ((by rw [hg]; exact Nat.ne_of_gt (blk_lt (g := gb380) (o := .cells #[.int .i64 0, .slice none 0 0] 39 (0, 0)) aK) : gb396 ≠ gb380)); have n13_ := aM ((by rw [hg]; exact Nat.ne_of_lt (IsS117.lt (show IsS117 w _ g384 t381 t394 t395 from by repeat (first | (with_reducible first | exact HI384.out | apply IsS117.alloc | apply IsS117.drewN | apply IsS117.drew | apply IsS117.set_1 | apply IsS117.set_2 | refine IsS117.far ?_ NB384_379.out _ | refine IsS117.far ?_ NB384_380.out _) | exact HI384.out))) : g384 ≠ gb396)); have n14_ := aM ((by rw [hg]; exact Nat.ne_of_gt (IsS117.lt (show IsS117 w _ g384 t381 t394 t395 from by repeat (first | (with_reducible first | exact HI384.out | apply IsS117.alloc | apply IsS117.drewN | apply IsS117.drew | apply IsS117.set_1 | apply IsS117.set_2 | refine IsS117.far ?_ NB384_379.out _ | refine IsS117.far ?_ NB384_380.out _) | exact HI384.out))) : gb396 ≠ g384)); clear HO387; clear HO393; clear BK379; clear BK380; clear HI384; clear HB; have HO387 := n0_; have HO393 := n1_; have BK379 := n2_; have BK380 := n3_; have HI384 := n4_; have HB := n5_; have BK396 := n6_; have GW396 := n7_; have GE396 := n8_; have NB379_396 := n9_; have NB396_379 := n10_; have NB380_396 := n11_; have NB396_380 := n12_; have NB384_396 := n13_; have NB396_384 := n14_; clear n0_ n1_ n2_ n3_ n4_ n5_ n6_ n7_ n8_ n9_ n10_ n11_ n12_ n13_ n14_; clear hb hbox hg; have hnb21 := NB396_379.out; have hnc21 := NB379_396.out; have hnb22 := NB396_380.out; have hnc22 := NB380_396.out; have hnb23 := NB396_384.out; have hnc23 := NB384_396.out; have hcz24_0 : w20.cell? ⟨gb396, 0, none⟩ = some (.int .i64 0) := (blk_cell BK396.out 0).trans rfl; have hcz24_1 : w20.cell? ⟨gb396, 1, none⟩ = some (.slice none 0 0) := (blk_cell BK396.out 1).trans rfl; have hfz24_0 := blk_frozen BK396.out 0; have hfz24_1 := blk_frozen BK396.out 1; obtain ⟨Ao25, co25, eo25⟩ := Kd.R_slice HO393.out; subst eo25) | ((with_reducible refine gate_callee (f := 56) rfl ?_); refine goesL_ (some 18) rfl rfl Tryd.func56 (by kernel_rfl) rfl #[.pointer (some ⟨g384, 0, none⟩), .slice Ao18 t385.length co18, .int .i64 2] rfl aA ?_; (with_reducible refine (spec_l3Fact.calls k g384 t381 t394 t395 _ _ t385 2 t397 t398 t401 t402 w _ ?side1 ?side2 ?side3 ?side4 A5.out).mono ?_); (case side1 => repeat (first | (with_reducible first | exact HI384.out | apply IsS117.alloc | apply IsS117.drewN | apply IsS117.drew | apply IsS117.set_1 | apply IsS117.set_2 | refine IsS117.far ?_ NB384_379.out _ | refine IsS117.far ?_ NB384_380.out _ | refine IsS117.far ?_ NB384_396.out _) | exact HI384.out)); (case side2 => repeat (first | (with_reducible first | exact HB.out | apply below_alloc | apply pw_below_drewN | apply below_drew1 | refine below_set ?_ (IsS117.ge HI384.out) | refine below_set ?_ GE379.out | refine below_set ?_ GE380.out | refine below_set ?_ GE396.out) | exact HB.out)); (case side3 => exact Kd.C_foot_own (IsS117.apart (show IsS117 w _ g384 t381 t394 t395 from by repeat (first | (with_reducible first | exact HI384.out | apply IsS117.alloc | apply IsS117.drewN | apply IsS117.drew | apply IsS117.set_1 | apply IsS117.set_2 | refine IsS117.far ?_ NB384_379.out _ | refine IsS117.far ?_ NB384_380.out _ | refine IsS117.far ?_ NB384_396.out _) | exact HI384.out)) (by (with_reducible repeat apply pR); exact (Kd.R_mono (Kd.R_far (p := ⟨gb396, 1, none⟩) (Kd.R_far (p := ⟨gb396, 0, none⟩) (Kd.R_types HO387.out BK396.out (by decide)) (fun _ hk => hk.2) (.int .i64 t390)) (fun _ hk => hk.2) (.slice Ao25 t391.length co25)) (fun _ h_ => h_.1))) (by decide)) (fun _ h_ => h_.2)); (case side4 => exact (Kd.R_reads' HO387.out).2.1); rintro e w26 ⟨v399, rfl, ho0, hi, hb, hk⟩; refine ⟨_, rfl, ?_⟩; have HO400 := aM (Kd.R_lower (Kd.R_new' ho0 (Kd.R_lt (by (with_reducible repeat apply pR); exact (Kd.R_mono (Kd.R_far (p := ⟨gb396, 1, none⟩) (Kd.R_far (p := ⟨gb396, 0, none⟩) (Kd.R_types HO393.out BK396.out (by decide)) (fun _ hk => hk.2) (.int .i64 t390)) (fun _ hk => hk.2) (.slice Ao25 t391.length co25)) (fun _ h_ => h_.1))))) (below_size (by repeat (first | (with_reducible first | exact HB.out | apply below_alloc | apply pw_below_drewN | apply below_drew1 | refine below_set ?_ (IsS117.ge HI384.out) | refine below_set ?_ GE379.out | refine below_set ?_ GE380.out | refine below_set ?_ GE396.out) | exact HB.out)))); replace BK379 := aM (KeepBut.blk hk (g' := gb379) (o := .cells #[.int .i64 0, .slice none 0 0] 39 (0, 0)) (by (with_reducible repeat refine pB ?_); refine blk_far ?_ NB379_396.out _; (with_reducible repeat refine pB ?_); refine blk_far ?_ NB379_396.out _; (with_reducible repeat refine pB ?_); exact BK379.out) NB379_384.out (by simp)); replace BK380 := aM (KeepBut.blk hk (g' := gb380) (o := .cells #[.int .i64 0, .slice none 0 0] 39 (0, 0)) (by (with_reducible repeat refine pB ?_); refine blk_far ?_ NB380_396.out _; (with_reducible repeat refine pB ?_); refine blk_far ?_ NB380_396.out _; (with_reducible repeat refine pB ?_); exact BK380.out) NB380_384.out (by simp)); replace HO387 := aM (Kd.R_mono (Kd.R_keep (IsS117.apart (show IsS117 w _ g384 t381 t394 t395 from by repeat (first | (with_reducible first | exact HI384.out | apply IsS117.alloc | apply IsS117.drewN | apply IsS117.drew | apply IsS117.set_1 | apply IsS117.set_2 | refine IsS117.far ?_ NB384_379.out _ | refine IsS117.far ?_ NB384_380.out _ | refine IsS117.far ?_ NB384_396.out _) | exact HI384.out)) (by (with_reducible repeat apply pR); exact (Kd.R_mono (Kd.R_far (p := ⟨gb396, 1, none⟩) (Kd.R_far (p := ⟨gb396, 0, none⟩) (Kd.R_types HO387.out BK396.out (by decide)) (fun _ hk => hk.2) (.int .i64 t390)) (fun _ hk => hk.2) (.slice Ao25 t391.length co25)) (fun _ h_ => h_.1))) (by decide)) hk (fun _ h => h.2)) (fun _ h => h.1)); replace HO393 := aM (Kd.R_mono (Kd.R_told (Kd.R_oldK (IsS117.apart (show IsS117 w _ g384 t381 t394 t395 from by repeat (first | (with_reducible first | exact HI384.out | apply IsS117.alloc | apply IsS117.drewN | apply IsS117.drew | apply IsS117.set_1 | apply IsS117.set_2 | refine IsS117.far ?_ NB384_379.out _ | refine IsS117.far ?_ NB384_380.out _ | refine IsS117.far ?_ NB384_396.out _) | exact HI384.out)) (by (with_reducible repeat apply pR); exact (Kd.R_mono (Kd.R_far (p := ⟨gb396, 1, none⟩) (Kd.R_far (p := ⟨gb396, 0, none⟩) (Kd.R_types HO393.out BK396.out (by decide)) (fun _ hk => hk.2) (.int .i64 t390)) (fun _ hk => hk.2) (.slice Ao25 t391.length co25)) (fun _ h_ => h_.1))) (by decide)) hk) (Kd.R_base ho0)) (fun _ h_ => h_.1)); replace BK396 := aM (KeepBut.blk hk (g' := gb396) (o := .cells #[.int .i64 t390, .slice Ao25 t391.length co25] 39 (0, 0)) (by (with_reducible repeat refine pB ?_); refine blk_put (cs := #[.int .i64 t390, .slice none 0 0]) ?_ 1 _ rfl; (with_reducible repeat refine pB ?_); refine blk_put (cs := #[.int .i64 0, .slice none 0 0]) ?_ 0 _ rfl; (with_reducible repeat refine pB ?_); exact BK396.out) NB396_384.out (by simp)); replace HB := aM (hb); replace HI384 := aM (hi); (try clear hb); (try clear hb2); (try clear hk); (try clear hi); (try clear ho0)) | ((with_reducible refine gate_dst (N := 8) rfl ?_); refine bE 8 (cs := #[.int .i64 0, .slice none 0 0]) (t := 39) ?_; intro gb403 hg w27 hbox hb; have n0_ := aM (Kd.R_below (aR HO387) hb); have n1_ := aM (Kd.R_below (aR HO393) hb); have n2_ := aM (Kd.R_below (aR HO400) hb); have n3_ := aM (kB gb379 #[.int .i64 0, .slice none 0 0] 39 hb); have n4_ := aM (kB gb380 #[.int .i64 0, .slice none 0 0] 39 hb); have n5_ := aM (IsS117.below (by repeat (first | (with_reducible first | exact HI384.out | apply IsS117.alloc | apply IsS117.drewN | apply IsS117.drew | apply IsS117.set_1 | apply IsS117.set_2 | refine IsS117.far ?_ NB384_379.out _ | refine IsS117.far ?_ NB384_380.out _ | refine IsS117.far ?_ NB384_396.out _) | exact HI384.out)) hb); have n6_ := aM (kB gb396 #[.int .i64 t390, .slice Ao25 t391.length co25] 39 hb); have n7_ := aM (below_step (by repeat (first | (with_reducible first | exact HB.out | apply below_alloc | apply pw_below_drewN | apply below_drew1 | refine below_set ?_ (IsS117.ge HI384.out) | refine below_set ?_ GE379.out | refine below_set ?_ GE380.out | refine below_set ?_ GE396.out) | exact HB.out)) hb); have n8_ := aM (hbox); have n9_ := aM ((by rw [hg]; exact (below_size (by repeat (first | (with_reducible first | exact HB.out | apply below_alloc | apply pw_below_drewN | apply below_drew1 | refine below_set ?_ (IsS117.ge HI384.out) | refine below_set ?_ GE379.out | refine below_set ?_ GE380.out | refine below_set ?_ GE396.out) | exact HB.out))) : w.heap.size ≤ gb403)); have n10_ := aM ((by rw [hg]; exact (below_size (by repeat (first | (with_reducible first | exact HB.out | apply below_alloc | apply pw_below_drewN | apply below_drew1 | refine below_set ?_ (IsS117.ge HI384.out) | refine below_set ?_ GE379.out | refine below_set ?_ GE380.out | refine below_set ?_ GE396.out) | exact HB.out))) : w.heap.size ≤ gb403)); have n11_ := aM ((by rw [hg]; exact Nat.ne_of_lt (blk_lt (g := gb379) (o := .cells #[.int .i64 0, .slice none 0 0] 39 (0, 0)) aK) : gb379 ≠ gb403)); have n12_ := aM ((by rw [hg]; exact Nat.ne_of_gt (blk_lt (g := gb379) (o := .cells #[.int .i64 0, .slice none 0 0] 39 (0, 0)) aK) : gb403 ≠ gb379)); have n13_ := aM ((by rw [hg]; exact Nat.ne_of_lt (blk_lt (g := gb380) (o := .cells #[.int .i64 0, .slice none 0 0] 39 (0, 0)) aK) : gb380 ≠ gb403)); have n14_ := aM ((by rw [hg]; exact Nat.ne_of_gt (blk_lt (g := gb380) (o := .cells #[.int .i64 0, .slice none 0 0] 39 (0, 0)) aK) : gb403 ≠ gb380)); have n15_ := aM ((by rw [hg]; exact Nat.ne_of_lt (blk_lt (g := gb396) (o := .cells #[.int .i64 t390, .slice Ao25 t391.length co25] 39 (0, 0)) aK) : gb396 ≠ gb403)); have n16_ := aM ((by rw [hg]; exact Nat.ne_of_gt (blk_lt (g := gb396) (o := .cells #[.int .i64 t390, .slice Ao25 t391.length co25] 39 (0, 0)) aK) : gb403 ≠ gb396)); have n17_ := aM ((by rw [hg]; exact Nat.ne_of_lt (IsS117.lt (show IsS117 w _ g384 t381 t401 t402 from by repeat (first | (with_reducible first | exact HI384.out | apply IsS117.alloc | apply IsS117.drewN | apply IsS117.drew | apply IsS117.set_1 | apply IsS117.set_2 | refine IsS117.far ?_ NB384_379.out _ | refine IsS117.far ?_ NB384_380.out _ | refine IsS117.far ?_ NB384_396.out _) | exact HI384.out))) : g384 ≠ gb403)); have n18_ := aM ((by rw [hg]; exact Nat.ne_of_gt (IsS117.lt (show IsS117 w _ g384 t381 t401 t402 from by repeat (first | (with_reducible first | exact HI384.out | apply IsS117.alloc | apply IsS117.drewN | apply IsS117.drew | apply IsS117.set_1 | apply IsS117.set_2 | refine IsS117.far ?_ NB384_379.out _ | refine IsS117.far ?_ NB384_380.out _ | refine IsS117.far ?_ NB384_396.out _) | exact HI384.out))) : gb403 ≠ g384)); clear HO387; clear HO393; clear HO400; clear BK379; clear BK380; clear HI384; clear BK396; clear HB; have HO387 := n0_; have HO393 := n1_; have HO400 := n2_; have BK379 := n3_; have BK380 := n4_; have HI384 := n5_; have BK396 := n6_; have HB := n7_; have BK403 := n8_; have GW403 := n9_; have GE403 := n10_; have NB379_403 := n11_; have NB403_379 := n12_; have NB380_403 := n13_; have NB403_380 := n14_; have NB396_403 := n15_; have NB403_396 := n16_; have NB384_403 := n17_; have NB403_384 := n18_; clear n0_ n1_ n2_ n3_ n4_ n5_ n6_ n7_ n8_ n9_ n10_ n11_ n12_ n13_ n14_ n15_ n16_ n17_ n18_; clear hb hbox hg; have hnb28 := NB403_379.out; have hnc28 := NB379_403.out; have hnb29 := NB403_380.out; have hnc29 := NB380_403.out; have hnb30 := NB403_396.out; have hnc30 := NB396_403.out; have hnb31 := NB403_384.out; have hnc31 := NB384_403.out; have hcz32_0 : w27.cell? ⟨gb403, 0, none⟩ = some (.int .i64 0) := (blk_cell BK403.out 0).trans rfl; have hcz32_1 : w27.cell? ⟨gb403, 1, none⟩ = some (.slice none 0 0) := (blk_cell BK403.out 1).trans rfl; have hfz32_0 := blk_frozen BK403.out 0; have hfz32_1 := blk_frozen BK403.out 1; obtain ⟨Ao33, co33, eo33⟩ := Kd.R_slice HO400.out; subst eo33) | ((with_reducible refine gate_callee (f := 57) rfl ?_); refine goesL_ (some 20) rfl rfl Tryd.func57 (by kernel_rfl) rfl #[.pointer (some ⟨g384, 0, none⟩), .int .i64 2] rfl aA ?_; (with_reducible refine (spec_l1Once.calls g384 t381 t401 t402 2 true t405 t406 w _ ?side1 ?side2 A6.out).mono ?_); (case side1 => repeat (first | (with_reducible first | exact HI384.out | apply IsS117.alloc | apply IsS117.drewN | apply IsS117.drew | apply IsS117.set_1 | apply IsS117.set_2 | refine IsS117.far ?_ NB384_379.out _ | refine IsS117.far ?_ NB384_380.out _ | refine IsS117.far ?_ NB384_396.out _ | refine IsS117.far ?_ NB384_403.out _) | exact HI384.out)); (case side2 => repeat (first | (with_reducible first | exact HB.out | apply below_alloc | apply pw_below_drewN | apply below_drew1 | refine below_set ?_ (IsS117.ge HI384.out) | refine below_set ?_ GE379.out | refine below_set ?_ GE380.out | refine below_set ?_ GE396.out | refine below_set ?_ GE403.out) | exact HB.out)); rintro e w34 ⟨rfl, hi, hb, hk⟩; refine ⟨_, rfl, ?_⟩; replace BK379 := aM (KeepBut.blk hk (g' := gb379) (o := .cells #[.int .i64 0, .slice none 0 0] 39 (0, 0)) (by (with_reducible repeat refine pB ?_); refine blk_far ?_ NB379_403.out _; (with_reducible repeat refine pB ?_); refine blk_far ?_ NB379_403.out _; (with_reducible repeat refine pB ?_); exact BK379.out) NB379_384.out (by simp)); replace BK380 := aM (KeepBut.blk hk (g' := gb380) (o := .cells #[.int .i64 0, .slice none 0 0] 39 (0, 0)) (by (with_reducible repeat refine pB ?_); refine blk_far ?_ NB380_403.out _; (with_reducible repeat refine pB ?_); refine blk_far ?_ NB380_403.out _; (with_reducible repeat refine pB ?_); exact BK380.out) NB380_384.out (by simp)); replace HO387 := aM (Kd.R_mono (Kd.R_keep (IsS117.apart (show IsS117 w _ g384 t381 t401 t402 from by repeat (first | (with_reducible first | exact HI384.out | apply IsS117.alloc | apply IsS117.drewN | apply IsS117.drew | apply IsS117.set_1 | apply IsS117.set_2 | refine IsS117.far ?_ NB384_379.out _ | refine IsS117.far ?_ NB384_380.out _ | refine IsS117.far ?_ NB384_396.out _ | refine IsS117.far ?_ NB384_403.out _) | exact HI384.out)) (by (with_reducible repeat apply pR); exact (Kd.R_mono (Kd.R_far (p := ⟨gb403, 1, none⟩) (Kd.R_far (p := ⟨gb403, 0, none⟩) (Kd.R_types HO387.out BK403.out (by decide)) (fun _ hk => hk.2) (.int .i64 t397)) (fun _ hk => hk.2) (.slice Ao33 t398.length co33)) (fun _ h_ => h_.1))) (by decide)) hk (fun _ h => h.2)) (fun _ h => h.1)); replace HO393 := aM (Kd.R_mono (Kd.R_keep (IsS117.apart (show IsS117 w _ g384 t381 t401 t402 from by repeat (first | (with_reducible first | exact HI384.out | apply IsS117.alloc | apply IsS117.drewN | apply IsS117.drew | apply IsS117.set_1 | apply IsS117.set_2 | refine IsS117.far ?_ NB384_379.out _ | refine IsS117.far ?_ NB384_380.out _ | refine IsS117.far ?_ NB384_396.out _ | refine IsS117.far ?_ NB384_403.out _) | exact HI384.out)) (by (with_reducible repeat apply pR); exact (Kd.R_mono (Kd.R_far (p := ⟨gb403, 1, none⟩) (Kd.R_far (p := ⟨gb403, 0, none⟩) (Kd.R_types HO393.out BK403.out (by decide)) (fun _ hk => hk.2) (.int .i64 t397)) (fun _ hk => hk.2) (.slice Ao33 t398.length co33)) (fun _ h_ => h_.1))) (by decide)) hk (fun _ h => h.2)) (fun _ h => h.1)); replace BK396 := aM (KeepBut.blk hk (g' := gb396) (o := .cells #[.int .i64 t390, .slice Ao25 t391.length co25] 39 (0, 0)) (by (with_reducible repeat refine pB ?_); refine blk_far ?_ NB396_403.out _; (with_reducible repeat refine pB ?_); refine blk_far ?_ NB396_403.out _; (with_reducible repeat refine pB ?_); exact BK396.out) NB396_384.out (by simp)); replace HO400 := aM (Kd.R_mono (Kd.R_keep (IsS117.apart (show IsS117 w _ g384 t381 t401 t402 from by repeat (first | (with_reducible first | exact HI384.out | apply IsS117.alloc | apply IsS117.drewN | apply IsS117.drew | apply IsS117.set_1 | apply IsS117.set_2 | refine IsS117.far ?_ NB384_379.out _ | refine IsS117.far ?_ NB384_380.out _ | refine IsS117.far ?_ NB384_396.out _ | refine IsS117.far ?_ NB384_403.out _) | exact HI384.out)) (by (with_reducible repeat apply pR); exact (Kd.R_mono (Kd.R_far (p := ⟨gb403, 1, none⟩) (Kd.R_far (p := ⟨gb403, 0, none⟩) (Kd.R_types HO400.out BK403.out (by decide)) (fun _ hk => hk.2) (.int .i64 t397)) (fun _ hk => hk.2) (.slice Ao33 t398.length co33)) (fun _ h_ => h_.1))) (by decide)) hk (fun _ h => h.2)) (fun _ h => h.1)); replace BK403 := aM (KeepBut.blk hk (g' := gb403) (o := .cells #[.int .i64 t397, .slice Ao33 t398.length co33] 39 (0, 0)) (by (with_reducible repeat refine pB ?_); refine blk_put (cs := #[.int .i64 t397, .slice none 0 0]) ?_ 1 _ rfl; (with_reducible repeat refine pB ?_); refine blk_put (cs := #[.int .i64 0, .slice none 0 0]) ?_ 0 _ rfl; (with_reducible repeat refine pB ?_); exact BK403.out) NB403_384.out (by simp)); replace HB := aM (hb); replace HI384 := aM (hi); (try clear hb); (try clear hb2); (try clear hk); (try clear hi)))
     replace HO387 := aM (Kd.R_drew HO387.out)
     replace HO393 := aM (Kd.R_drew HO393.out)
     replace HO400 := aM (Kd.R_drew HO400.out)
     replace BK379 := aM (blk_drew BK379.out)
     replace BK380 := aM (blk_drew BK380.out)
     replace BK396 := aM (blk_drew BK396.out)
     replace BK403 := aM (blk_drew BK403.out)
     replace HI384 := aM (IsS117.drew HI384.out)
     replace HB := aM (below_drew1 HB.out)
     refine start_ (n := 8) (S := fun w' => w'.cell? ⟨gb396, 0, none⟩ = some (.int .i64 t390) ∧ w'.cell? ⟨gb396, 1, none⟩ = some (.slice Ao25 t391.length co25)) (ds := []) #[false, false, false, false, false, false, false, false] (by kernel_rfl) rfl rfl ⟨(blk_cell BK396.out 0).trans rfl, (blk_cell BK396.out 1).trans rfl⟩ (fun hHeld => ?_); refine with_tabW spec_DrawHaveSameKey.tab6 spec_DrawHaveSameKey.bits6 (fun HT_ HW_ => ?_)
     generalize w34.drew = w35 at HO387 HO393 HO400 BK379 BK380 BK396 BK403 HI384 HB hHeld ⊢
     refine pU 0 21 ?_
     refine pU 3 24 ?_
     refine tU2 1 22 hHeld ?_
     refine tU2 4 25 hHeld ?_
     refine oU 2 23 (fun K hK => ?_)
     refine Kd.R_lit_step (Kd.int .i64) _ 3 ?hg (N := 23) ?hd (xs := ([] : List Int)) (inner := []) (ok := fun _ => True) (okp := fun _ => True) ?hr ?hp (fun _ hk => hk) trivial (Below.refl _ _) (Nat.le_refl _) (by simp) ?_; (case hd => rfl); (case hg => rfl); (case hr => first | (go_simp; done) | (go_simp; rfl)); (case hp => exact (Reps.none _ _))
     intro v408 w36 ho37 hb hg_ hnew_
     clear hg_ hnew_
     (first | rw [← Ny407.out] at ho37 | (simp only [Int.reduceToNat] at ho37; rw [← Ny407.out] at ho37))
     have n0_ := aM (Kd.R_below (aR HO387) hb)
     have n1_ := aM (Kd.R_elder' (aR HO393) (Kd.R_base ho37) hb)
     have n2_ := aM (Kd.R_elder' (aR HO400) (Kd.R_base ho37) hb)
     have n3_ := aM (Kd.R_lower (Kd.R_new' (Kd.R_new' ho37 (Kd.R_lt (aR HO393))) (Kd.R_lt (aR HO400))) (below_size (by repeat (first | (with_reducible first | exact HB.out | apply below_alloc | apply pw_below_drewN | apply below_drew1 | refine below_set ?_ (IsS117.ge HI384.out) | refine below_set ?_ GE379.out | refine below_set ?_ GE380.out | refine below_set ?_ GE396.out | refine below_set ?_ GE403.out) | exact HB.out))))
     have n4_ := aM (kB gb379 #[.int .i64 0, .slice none 0 0] 39 hb)
     have n5_ := aM (kB gb380 #[.int .i64 0, .slice none 0 0] 39 hb)
     have n6_ := aM (IsS117.below (by repeat (first | (with_reducible first | exact HI384.out | apply IsS117.alloc | apply IsS117.drewN | apply IsS117.drew | apply IsS117.set_1 | apply IsS117.set_2 | refine IsS117.far ?_ NB384_379.out _ | refine IsS117.far ?_ NB384_380.out _ | refine IsS117.far ?_ NB384_396.out _ | refine IsS117.far ?_ NB384_403.out _) | exact HI384.out)) hb)
     have n7_ := aM (kB gb396 #[.int .i64 t390, .slice Ao25 t391.length co25] 39 hb)
     have n8_ := aM (kB gb403 #[.int .i64 t397, .slice Ao33 t398.length co33] 39 hb)
     have n9_ := aM (below_step (by repeat (first | (with_reducible first | exact HB.out | apply below_alloc | apply pw_below_drewN | apply below_drew1 | refine below_set ?_ (IsS117.ge HI384.out) | refine below_set ?_ GE379.out | refine below_set ?_ GE380.out | refine below_set ?_ GE396.out | refine below_set ?_ GE403.out) | exact HB.out)) hb)
     clear HO387
     clear HO393
     clear HO400
     clear BK379
     clear BK380
     clear HI384
     clear BK396
     clear BK403
     clear HB
     have HO387 := n0_
     have HO393 := n1_
     have HO400 := n2_
     have HO409 := n3_
     have BK379 := n4_
     have BK380 := n5_
     have HI384 := n6_
     have BK396 := n7_
     have BK403 := n8_
     have HB := n9_
     clear n0_ n1_ n2_ n3_ n4_ n5_ n6_ n7_ n8_ n9_
     clear hb ho37
     refine hK.out _ _ ⟨(blk_cell BK396.out 0).trans rfl, (blk_cell BK396.out 1).trans rfl⟩ (fun hHeld => ?_)
     clear hK K
     refine nU 23 ?_
     refine oU 5 26 (fun K hK => ?_)
     refine Kd.R_append_rows_step (Kd.int .i64) (w0 := w) w.heap.size (by rfl) (.tmp 23) (.tmp 25) 37 3 (.int .i64 0) 8 rfl Tryd.underlying37 info3 rfl (by decide) (by omega) v408 y407 t391 _ _ _ (fun k_ => some k_ ≠ (.slice Ao25 t391.length co25 : Value).ownBlock ∧ some k_ ≠ (.slice Ao33 t398.length co33 : Value).ownBlock) (fun _ => False) rfl rfl ?aO ?aR (fun _ _ h => h) (fun _ h => h.elim) ?aF ?aB ?aS ?aL ?_
     (case aR => repeat (first | exact (Kd.R_reads' HO393.out).2.2 | (with_reducible refine pC ?_)))
     (case aB => exact (by repeat (first | (with_reducible first | exact HB.out | apply below_alloc | apply pw_below_drewN | apply below_drew1 | refine below_set ?_ (IsS117.ge HI384.out) | refine below_set ?_ GE379.out | refine below_set ?_ GE380.out | refine below_set ?_ GE396.out | refine below_set ?_ GE403.out) | exact HB.out)))
     (case aF => exact (fun k_ hk => ⟨Kd.fresh' (Kd.R_lt (aR HO393)) k_ hk, Kd.fresh' (Kd.R_lt (aR HO400)) k_ hk⟩))
     (case aO => exact (by (with_reducible repeat apply pR); exact Kd.R_mono HO409.out (fun _ hk => ⟨hk.1.2, hk.2⟩)))
     (case aS => exact (below_size (by repeat (first | (with_reducible first | exact HB.out | apply below_alloc | apply pw_below_drewN | apply below_drew1 | refine below_set ?_ (IsS117.ge HI384.out) | refine below_set ?_ GE379.out | refine below_set ?_ GE380.out | refine below_set ?_ GE396.out | refine below_set ?_ GE403.out) | exact HB.out))))
     (case aL => have := LMc8.out; omega)
     intro v411 w38 ho hb hg hat
     rw [← Ny410.out] at ho
     have n0_ := aM (blk_grown (g := gb379) (o := .cells #[.int .i64 0, .slice none 0 0] 39 (0, 0)) aK hg (Kd.R_ne HO409.out BK379.out (by decide)))
     have n1_ := aM (blk_grown (g := gb380) (o := .cells #[.int .i64 0, .slice none 0 0] 39 (0, 0)) aK hg (Kd.R_ne HO409.out BK380.out (by decide)))
     have n2_ := aM (IsS117.grown (by repeat (first | (with_reducible first | exact HI384.out | apply IsS117.alloc | apply IsS117.drewN | apply IsS117.drew | apply IsS117.set_1 | apply IsS117.set_2 | refine IsS117.far ?_ NB384_379.out _ | refine IsS117.far ?_ NB384_380.out _ | refine IsS117.far ?_ NB384_396.out _ | refine IsS117.far ?_ NB384_403.out _) | exact HI384.out)) hg (IsS117.own_ne HI384.out HO409.out (by decide)))
     have n3_ := aM (Kd.R_over' (aR HO387) (Kd.R_typed (aR HO409)) (by decide) hg)
     have n4_ := aM (Kd.R_after (ok := (fun k_ => some k_ ≠ (.slice Ao33 t398.length co33 : Value).ownBlock)) (by (with_reducible repeat apply pR); exact Kd.R_mono HO393.out (fun _ hk => ⟨hk.1.2, hk.2⟩)) hg hat)
     have n5_ := aM (blk_grown (g := gb396) (o := .cells #[.int .i64 t390, .slice Ao25 t391.length co25] 39 (0, 0)) aK hg (Kd.R_ne HO409.out BK396.out (by decide)))
     have n6_ := aM (Kd.R_after (ok := (fun k_ => some k_ ≠ (.slice Ao25 t391.length co25 : Value).ownBlock)) (by (with_reducible repeat apply pR); exact Kd.R_mono HO400.out (fun _ hk => ⟨hk.1.2, hk.2⟩)) hg hat)
     have n7_ := aM (blk_grown (g := gb403) (o := .cells #[.int .i64 t397, .slice Ao33 t398.length co33] 39 (0, 0)) aK hg (Kd.R_ne HO409.out BK403.out (by decide)))
     have n8_ := aM (hb)
     have n9_ := aM (ho)
     clear BK379
     clear BK380
     clear HI384
     clear HO387
     clear HO393
     clear BK396
     clear HO400
     clear BK403
     clear HB
     clear HO409
     have BK379 := n0_
     have BK380 := n1_
     have HI384 := n2_
     have HO387 := n3_
     have HO393 := n4_
     have BK396 := n5_
     have HO400 := n6_
     have BK403 := n7_
     have HB := n8_
     have HO412 := n9_
     clear n0_ n1_ n2_ n3_ n4_ n5_ n6_ n7_ n8_ n9_
     clear ho hb hg hat
     obtain ⟨Ao39, co39, eo39⟩ := Kd.R_slice HO412.out
     (first | subst eo39 | (injection eo39 with f1_ f2_ f3_; have f4_ := f1_.symm; have f5_ := f3_.symm; clear f1_ f2_ f3_; subst f4_; subst f5_))
     refine hK.out _ _ ⟨(blk_cell BK396.out 0).trans rfl, (blk_cell BK396.out 1).trans rfl⟩ (fun hHeld => ?_)
     clear hK K
     refine nU 26 ?_
     refine pU 6 27 ?_
     refine one_ (i := 7) (N := none) #[true, true, true, true, true, true, true, true] rfl rfl (one_of HT_.out (by kernel_rfl)) (by decide) (fun K hK => ?_)
     have hs40 : w38.cell? ⟨gb403, 0, none⟩ = some (.int .i64 t397) := (blk_cell BK403.out 0).trans rfl
     have hfs40 := blk_frozen BK403.out 0
     have hns40_0 := NB379_403.out
     have hns40_1 := NB380_403.out
     have hns40_2 := NB396_403.out
     have hms40_0 := NB403_379.out
     have hms40_1 := NB403_380.out
     have hms40_2 := NB403_396.out
     have hs41 : w38.cell? ⟨gb403, 1, none⟩ = some (.slice Ao33 t398.length co33) := (blk_cell BK403.out 1).trans rfl
     have hfs41 := blk_frozen BK403.out 1
     have hns41_0 := NB379_403.out
     have hns41_1 := NB380_403.out
     have hns41_2 := NB396_403.out
     have hms41_0 := NB403_379.out
     have hms41_1 := NB403_380.out
     have hms41_2 := NB403_396.out
     refine skip_ (w1 := ?_) (by rfl) rfl ?_ ?_
     rotate_left
     ·go_simp
      rfl
     refine hK.out _ _ ⟨((cell_far (p := ⟨gb403, _, none⟩) NB396_403.out _).trans (((cell_far (p := ⟨gb403, _, none⟩) NB396_403.out _).trans (hHeld.1)))), ((cell_far (p := ⟨gb403, _, none⟩) NB396_403.out _).trans (((cell_far (p := ⟨gb403, _, none⟩) NB396_403.out _).trans (hHeld.2))))⟩ (fun hHeld => ?_)
     clear hK K
     refine done_ (done_of HT_.out (by kernel_rfl)) ?_
     try go_wp2
     have n0_ : Aside0 (Kd.R k68 68 ((w38.setCell ⟨gb403, 0, none⟩ (.int .i64 t390)).setCell ⟨gb403, 1, none⟩ (.slice Ao39 y410.length co39)) w.heap.size (fun _ => True) (.slice Ao18 t385.length co18) t385) := ⟨by (with_reducible repeat apply pR); exact Kd.R_mono (Kd.R_far (p := ⟨gb403, 1, none⟩) (Kd.R_far (p := ⟨gb403, 0, none⟩) (Kd.R_types HO387.out BK403.out (by decide)) (fun _ hk => hk.2) (.int .i64 t390)) (fun _ hk => hk.2) (.slice Ao39 y410.length co39)) (fun _ hk => trivial)⟩
     have n1_ : Aside0 (Kd.R (Kd.int .i64) 3 ((w38.setCell ⟨gb403, 0, none⟩ (.int .i64 t390)).setCell ⟨gb403, 1, none⟩ (.slice Ao39 y410.length co39)) w.heap.size (fun k_ => some k_ ≠ (.slice Ao33 t398.length co33 : Value).ownBlock ∧ some k_ ≠ (.slice Ao39 y410.length co39 : Value).ownBlock) (.slice Ao25 t391.length co25) t391) := ⟨by (with_reducible repeat apply pR); exact Kd.R_mono (Kd.R_far (p := ⟨gb403, 1, none⟩) (Kd.R_far (p := ⟨gb403, 0, none⟩) (Kd.R_types HO393.out BK403.out (by decide)) (fun _ hk => hk.2) (.int .i64 t390)) (fun _ hk => hk.2) (.slice Ao39 y410.length co39)) (fun _ hk => ⟨hk.1.1, hk.1.2⟩)⟩
     have n2_ : Aside0 (Kd.R (Kd.int .i64) 3 ((w38.setCell ⟨gb403, 0, none⟩ (.int .i64 t390)).setCell ⟨gb403, 1, none⟩ (.slice Ao39 y410.length co39)) w.heap.size (fun k_ => some k_ ≠ (.slice Ao25 t391.length co25 : Value).ownBlock ∧ some k_ ≠ (.slice Ao39 y410.length co39 : Value).ownBlock) (.slice Ao33 t398.length co33) t398) := ⟨by (with_reducible repeat apply pR); exact Kd.R_mono (Kd.R_far (p := ⟨gb403, 1, none⟩) (Kd.R_far (p := ⟨gb403, 0, none⟩) (Kd.R_types HO400.out BK403.out (by decide)) (fun _ hk => hk.2) (.int .i64 t390)) (fun _ hk => hk.2) (.slice Ao39 y410.length co39)) (fun _ hk => ⟨hk.1.1, hk.1.2⟩)⟩
     have n3_ : Aside0 (Kd.R (Kd.int .i64) 3 ((w38.setCell ⟨gb403, 0, none⟩ (.int .i64 t390)).setCell ⟨gb403, 1, none⟩ (.slice Ao39 y410.length co39)) w.heap.size (fun k_ => some k_ ≠ (.slice Ao25 t391.length co25 : Value).ownBlock ∧ some k_ ≠ (.slice Ao33 t398.length co33 : Value).ownBlock) (.slice Ao39 y410.length co39) y410) := ⟨by (with_reducible repeat apply pR); exact Kd.R_mono (Kd.R_far (p := ⟨gb403, 1, none⟩) (Kd.R_far (p := ⟨gb403, 0, none⟩) (Kd.R_types HO412.out BK403.out (by decide)) (fun _ hk => hk.2) (.int .i64 t390)) (fun _ hk => hk.2) (.slice Ao39 y410.length co39)) (fun _ hk => ⟨hk.1.1, hk.1.2⟩)⟩
     have n4_ : Aside0 (((w38.setCell ⟨gb403, 0, none⟩ (.int .i64 t390)).setCell ⟨gb403, 1, none⟩ (.slice Ao39 y410.length co39)).heap[gb379]? = some (.cells #[.int .i64 0, .slice none 0 0] 39 (0, 0))) := ⟨by (with_reducible repeat refine pB ?_); refine blk_far ?_ NB379_403.out _; (with_reducible repeat refine pB ?_); refine blk_far ?_ NB379_403.out _; (with_reducible repeat refine pB ?_); exact BK379.out⟩
     have n5_ : Aside0 (((w38.setCell ⟨gb403, 0, none⟩ (.int .i64 t390)).setCell ⟨gb403, 1, none⟩ (.slice Ao39 y410.length co39)).heap[gb380]? = some (.cells #[.int .i64 0, .slice none 0 0] 39 (0, 0))) := ⟨by (with_reducible repeat refine pB ?_); refine blk_far ?_ NB380_403.out _; (with_reducible repeat refine pB ?_); refine blk_far ?_ NB380_403.out _; (with_reducible repeat refine pB ?_); exact BK380.out⟩
     have n6_ : Aside0 (((w38.setCell ⟨gb403, 0, none⟩ (.int .i64 t390)).setCell ⟨gb403, 1, none⟩ (.slice Ao39 y410.length co39)).heap[gb396]? = some (.cells #[.int .i64 t390, .slice Ao25 t391.length co25] 39 (0, 0))) := ⟨by (with_reducible repeat refine pB ?_); refine blk_far ?_ NB396_403.out _; (with_reducible repeat refine pB ?_); refine blk_far ?_ NB396_403.out _; (with_reducible repeat refine pB ?_); exact BK396.out⟩
     have n7_ : Aside0 (((w38.setCell ⟨gb403, 0, none⟩ (.int .i64 t390)).setCell ⟨gb403, 1, none⟩ (.slice Ao39 y410.length co39)).heap[gb403]? = some (.cells #[.int .i64 t390, .slice Ao39 y410.length co39] 39 (0, 0))) := ⟨by (with_reducible repeat refine pB ?_); refine blk_put (cs := #[.int .i64 t390, .slice Ao33 t398.length co33]) ?_ 1 _ rfl; (with_reducible repeat refine pB ?_); refine blk_put (cs := #[.int .i64 t397, .slice Ao33 t398.length co33]) ?_ 0 _ rfl; (with_reducible repeat refine pB ?_); exact BK403.out⟩
     have n8_ : Aside0 (IsS117 w ((w38.setCell ⟨gb403, 0, none⟩ (.int .i64 t390)).setCell ⟨gb403, 1, none⟩ (.slice Ao39 y410.length co39)) g384 t381 t405 t406) := ⟨by repeat (first | (with_reducible first | exact HI384.out | apply IsS117.alloc | apply IsS117.drewN | apply IsS117.drew | apply IsS117.set_1 | apply IsS117.set_2 | refine IsS117.far ?_ NB384_379.out _ | refine IsS117.far ?_ NB384_380.out _ | refine IsS117.far ?_ NB384_396.out _ | refine IsS117.far ?_ NB384_403.out _) | exact HI384.out)⟩
     have n9_ : Aside0 (Below w.heap.size w ((w38.setCell ⟨gb403, 0, none⟩ (.int .i64 t390)).setCell ⟨gb403, 1, none⟩ (.slice Ao39 y410.length co39))) := ⟨by repeat (first | (with_reducible first | exact HB.out | apply below_alloc | apply pw_below_drewN | apply below_drew1 | refine below_set ?_ (IsS117.ge HI384.out) | refine below_set ?_ GE379.out | refine below_set ?_ GE380.out | refine below_set ?_ GE396.out | refine below_set ?_ GE403.out) | exact HB.out)⟩
     (try clear HO387)
     (try clear HO393)
     (try clear HO400)
     (try clear HO412)
     (try clear BK379)
     (try clear BK380)
     (try clear BK396)
     (try clear BK403)
     (try clear HI384)
     (try clear HB)
     generalize ((w38.setCell ⟨gb403, 0, none⟩ (.int .i64 t390)).setCell ⟨gb403, 1, none⟩ (.slice Ao39 y410.length co39)) = w42 at n0_ n1_ n2_ n3_ n4_ n5_ n6_ n7_ n8_ n9_ ⊢
     have HO387 := n0_
     have HO393 := n1_
     have HO400 := n2_
     have HO412 := n3_
     have BK379 := n4_
     have BK380 := n5_
     have BK396 := n6_
     have BK403 := n7_
     have HI384 := n8_
     have HB := n9_
     clear n0_ n1_ n2_ n3_ n4_ n5_ n6_ n7_ n8_ n9_
     replace HO387 := aM (Kd.R_drew HO387.out)
     replace HO393 := aM (Kd.R_drew HO393.out)
     replace HO400 := aM (Kd.R_drew HO400.out)
     replace HO412 := aM (Kd.R_drew HO412.out)
     replace BK379 := aM (blk_drew BK379.out)
     replace BK380 := aM (blk_drew BK380.out)
     replace BK396 := aM (blk_drew BK396.out)
     replace BK403 := aM (blk_drew BK403.out)
     replace HI384 := aM (IsS117.drew HI384.out)
     replace HB := aM (below_drew1 HB.out)
     refine start_ (n := 10) (S := fun w' => w'.cell? ⟨gb403, 0, none⟩ = some (.int .i64 t390) ∧ w'.cell? ⟨gb403, 1, none⟩ = some (.slice Ao39 y410.length co39)) (ds := [9]) #[false, false, false, false, false, false, false, false, false, false] (by kernel_rfl) rfl rfl ⟨(blk_cell BK403.out 0).trans rfl, (blk_cell BK403.out 1).trans rfl⟩ (fun hHeld => ?_); refine with_tabW spec_DrawHaveSameKey.tab7 spec_DrawHaveSameKey.bits7 (fun HT_ HW_ => ?_)
     generalize w42.drew = w43 at HO387 HO393 HO400 HO412 BK379 BK380 BK396 BK403 HI384 HB hHeld ⊢
     refine pU 0 28 ?_
     refine pU 2 30 ?_
     refine pU 6 34 ?_
     refine tU2 1 29 hHeld ?_
     refine tU2 3 31 hHeld ?_
     refine pU 4 32 ?_
     refine pU 5 33 ?_
     refine oU 7 35 (fun K hK => ?_)
     refine goes_ Tryd.func62 (by kernel_rfl) rfl #[.pointer (some ⟨g384, 0, none⟩), .int .i64 4] (by rfl) rfl rfl aA ?_
     with_reducible refine (spec_l1Below.calls g384 t381 t405 t406 4 t413 t414 t415 w _ ?side1 ?side2 A9.out).mono ?_
     (case side1 => repeat (first | (with_reducible first | exact HI384.out | apply IsS117.alloc | apply IsS117.drewN | apply IsS117.drew | apply IsS117.set_1 | apply IsS117.set_2 | refine IsS117.far ?_ NB384_379.out _ | refine IsS117.far ?_ NB384_380.out _ | refine IsS117.far ?_ NB384_396.out _ | refine IsS117.far ?_ NB384_403.out _) | exact HI384.out))
     (case side2 => repeat (first | (with_reducible first | exact HB.out | apply below_alloc | apply pw_below_drewN | apply below_drew1 | refine below_set ?_ (IsS117.ge HI384.out) | refine below_set ?_ GE379.out | refine below_set ?_ GE380.out | refine below_set ?_ GE396.out | refine below_set ?_ GE403.out) | exact HB.out))
     rintro e w44 ⟨rfl, hi, hb, hk⟩
     refine ⟨_, rfl, ?_⟩
     have n0_ := aM (KeepBut.blk hk (g' := gb379) (o := .cells #[.int .i64 0, .slice none 0 0] 39 (0, 0)) aK NB379_384.out (by simp))
     have n1_ := aM (KeepBut.blk hk (g' := gb380) (o := .cells #[.int .i64 0, .slice none 0 0] 39 (0, 0)) aK NB380_384.out (by simp))
     have n2_ := aM (Kd.R_mono (Kd.R_keep (IsS117.apart (show IsS117 w _ g384 t381 t405 t406 from by repeat (first | (with_reducible first | exact HI384.out | apply IsS117.alloc | apply IsS117.drewN | apply IsS117.drew | apply IsS117.set_1 | apply IsS117.set_2 | refine IsS117.far ?_ NB384_379.out _ | refine IsS117.far ?_ NB384_380.out _ | refine IsS117.far ?_ NB384_396.out _ | refine IsS117.far ?_ NB384_403.out _) | exact HI384.out)) (aR HO387) (by decide)) hk (fun _ h => h.2)) (fun _ h => h.1))
     have n3_ := aM (Kd.R_mono (Kd.R_keep (IsS117.apart (show IsS117 w _ g384 t381 t405 t406 from by repeat (first | (with_reducible first | exact HI384.out | apply IsS117.alloc | apply IsS117.drewN | apply IsS117.drew | apply IsS117.set_1 | apply IsS117.set_2 | refine IsS117.far ?_ NB384_379.out _ | refine IsS117.far ?_ NB384_380.out _ | refine IsS117.far ?_ NB384_396.out _ | refine IsS117.far ?_ NB384_403.out _) | exact HI384.out)) (aR HO393) (by decide)) hk (fun _ h => h.2)) (fun _ h => h.1))
     have n4_ := aM (KeepBut.blk hk (g' := gb396) (o := .cells #[.int .i64 t390, .slice Ao25 t391.length co25] 39 (0, 0)) aK NB396_384.out (by simp))
     have n5_ := aM (Kd.R_mono (Kd.R_keep (IsS117.apart (show IsS117 w _ g384 t381 t405 t406 from by repeat (first | (with_reducible first | exact HI384.out | apply IsS117.alloc | apply IsS117.drewN | apply IsS117.drew | apply IsS117.set_1 | apply IsS117.set_2 | refine IsS117.far ?_ NB384_379.out _ | refine IsS117.far ?_ NB384_380.out _ | refine IsS117.far ?_ NB384_396.out _ | refine IsS117.far ?_ NB384_403.out _) | exact HI384.out)) (aR HO400) (by decide)) hk (fun _ h => h.2)) (fun _ h => h.1))
     have n6_ := aM (KeepBut.blk hk (g' := gb403) (o := .cells #[.int .i64 t390, .slice Ao39 y410.length co39] 39 (0, 0)) aK NB403_384.out (by simp))
     have n7_ := aM (Kd.R_mono (Kd.R_keep (IsS117.apart (show IsS117 w _ g384 t381 t405 t406 from by repeat (first | (with_reducible first | exact HI384.out | apply IsS117.alloc | apply IsS117.drewN | apply IsS117.drew | apply IsS117.set_1 | apply IsS117.set_2 | refine IsS117.far ?_ NB384_379.out _ | refine IsS117.far ?_ NB384_380.out _ | refine IsS117.far ?_ NB384_396.out _ | refine IsS117.far ?_ NB384_403.out _) | exact HI384.out)) (aR HO412) (by decide)) hk (fun _ h => h.2)) (fun _ h => h.1))
     have n8_ := aM (hb)
     have n9_ := aM (hi)
     clear BK379
     clear BK380
     clear HO387
     clear HO393
     clear BK396
     clear HO400
     clear BK403
     clear HO412
     clear HB
     clear HI384
     have BK379 := n0_
     have BK380 := n1_
     have HO387 := n2_
     have HO393 := n3_
     have BK396 := n4_
     have HO400 := n5_
     have BK403 := n6_
     have HO412 := n7_
     have HB := n8_
     have HI384 := n9_
     clear n0_ n1_ n2_ n3_ n4_ n5_ n6_ n7_ n8_ n9_
     (try clear hb)
     (try clear hb2)
     (try clear hk)
     (try clear hi)
     have p13 : 0 ≤ ((ji10) : Int) := aD
     have q13 : ((ji10) : Int) < ((y410.length : Int) : Int) := aD
     obtain ⟨go13, co13, eo13, gb13, gl13, cl13, HG13⟩ := Kd.R_form HO412.out (by omega)
     (first | cases eo13 | (injection eo13 with ea_ en_ ec_; (first | subst ea_ | (injection ea_ with ea_; subst ea_)); subst ec_; clear en_))
     have GB13 := aM gb13
     have GG13 := aM HG13
     clear gb13 gl13 HG13
     obtain ⟨hx13_0, hf13_0⟩ := Kd.R_celln 0 HO412.out ((ji10) : Int) p13 q13
     replace p13 := eq_true p13
     replace q13 := eq_true q13
     have HN384_go13 := aM (show g384 ≠ go13 from by have h_ := IsS117.own_ne HI384.out HO412.out (by decide); intro e_; exact h_ (by rw [e_]; rfl))
     have HP45 := Kd.R_putn HO412.out ((ji10) : Int) t413
     rw [← Ny416.out] at HP45
     have HQ45 := aM HP45
     clear HP45
     refine hK.out _ _ ⟨(blk_cell BK403.out 0).trans rfl, (blk_cell BK403.out 1).trans rfl⟩ (fun hHeld => ?_)
     clear hK K
     refine nU 35 ?_
     refine pU 8 36 ?_
     refine last_ (i := 9) (N := none) #[true, true, true, true, true, true, true, true, true, true] rfl rfl (one_of HT_.out (by kernel_rfl)) (by decide) (fun K hK => ?_)
     refine skip_ (w1 := ?_) (by rfl) rfl ?_ ?_
     rotate_left
     ·go_simp
      rfl
     refine hK.out _ _ ?_
     clear hK K
     refine done_ (done_of HT_.out (by kernel_rfl)) ?_
     have n0_ : Aside0 (Kd.R k68 68 (w44.setCell ⟨go13, ((ji10) : Int).toNat, none⟩ (.int .i64 t413)) w.heap.size (fun _ => True) (.slice Ao18 t385.length co18) t385) := ⟨by (with_reducible repeat apply pR); exact Kd.R_mono (Kd.R_far (p := ⟨go13, ((ji10) : Int).toNat, none⟩) (Kd.R_types HO387.out GG13.out (by decide)) (fun _ hk => hk.2) (.int .i64 t413)) (fun _ hk => trivial)⟩
     have n1_ : Aside0 (Kd.R (Kd.int .i64) 3 (w44.setCell ⟨go13, ((ji10) : Int).toNat, none⟩ (.int .i64 t413)) w.heap.size (fun k_ => some k_ ≠ (.slice Ao33 t398.length co33 : Value).ownBlock ∧ some k_ ≠ (.slice (some ⟨go13, 0, none⟩) y410.length co39 : Value).ownBlock) (.slice Ao25 t391.length co25) t391) := ⟨by (with_reducible repeat apply pR); exact Kd.R_mono (Kd.R_far (p := ⟨go13, ((ji10) : Int).toNat, none⟩) (Kd.R_mono HO393.out (fun k_ hk => (⟨hk, fun e_ => hk.2 (by rw [e_]; rfl)⟩ : _ ∧ k_ ≠ go13))) (fun _ hk => hk.2) (.int .i64 t413)) (fun _ hk => ⟨hk.1.1, hk.1.2⟩)⟩
     have n2_ : Aside0 (Kd.R (Kd.int .i64) 3 (w44.setCell ⟨go13, ((ji10) : Int).toNat, none⟩ (.int .i64 t413)) w.heap.size (fun k_ => some k_ ≠ (.slice Ao25 t391.length co25 : Value).ownBlock ∧ some k_ ≠ (.slice (some ⟨go13, 0, none⟩) y410.length co39 : Value).ownBlock) (.slice Ao33 t398.length co33) t398) := ⟨by (with_reducible repeat apply pR); exact Kd.R_mono (Kd.R_far (p := ⟨go13, ((ji10) : Int).toNat, none⟩) (Kd.R_mono HO400.out (fun k_ hk => (⟨hk, fun e_ => hk.2 (by rw [e_]; rfl)⟩ : _ ∧ k_ ≠ go13))) (fun _ hk => hk.2) (.int .i64 t413)) (fun _ hk => ⟨hk.1.1, hk.1.2⟩)⟩
     have n3_ : Aside0 (Kd.R (Kd.int .i64) 3 (w44.setCell ⟨go13, ((ji10) : Int).toNat, none⟩ (.int .i64 t413)) w.heap.size (fun k_ => some k_ ≠ (.slice Ao25 t391.length co25 : Value).ownBlock ∧ some k_ ≠ (.slice Ao33 t398.length co33 : Value).ownBlock) (.slice (some ⟨go13, 0, none⟩) y410.length co39) y416) := ⟨aR HQ45⟩
     have n4_ : Aside0 ((w44.setCell ⟨go13, ((ji10) : Int).toNat, none⟩ (.int .i64 t413)).heap[gb379]? = some (.cells #[.int .i64 0, .slice none 0 0] 39 (0, 0))) := ⟨by (with_reducible repeat refine pB ?_); refine blk_far ?_ (by have h_ := Kd.R_ne HO412.out BK379.out (by decide); intro e_; exact h_ (by rw [e_]; rfl)) _; (with_reducible repeat refine pB ?_); exact BK379.out⟩
     have n5_ : Aside0 ((w44.setCell ⟨go13, ((ji10) : Int).toNat, none⟩ (.int .i64 t413)).heap[gb380]? = some (.cells #[.int .i64 0, .slice none 0 0] 39 (0, 0))) := ⟨by (with_reducible repeat refine pB ?_); refine blk_far ?_ (by have h_ := Kd.R_ne HO412.out BK380.out (by decide); intro e_; exact h_ (by rw [e_]; rfl)) _; (with_reducible repeat refine pB ?_); exact BK380.out⟩
     have n6_ : Aside0 ((w44.setCell ⟨go13, ((ji10) : Int).toNat, none⟩ (.int .i64 t413)).heap[gb396]? = some (.cells #[.int .i64 t390, .slice Ao25 t391.length co25] 39 (0, 0))) := ⟨by (with_reducible repeat refine pB ?_); refine blk_far ?_ (by have h_ := Kd.R_ne HO412.out BK396.out (by decide); intro e_; exact h_ (by rw [e_]; rfl)) _; (with_reducible repeat refine pB ?_); exact BK396.out⟩
     have n7_ : Aside0 ((w44.setCell ⟨go13, ((ji10) : Int).toNat, none⟩ (.int .i64 t413)).heap[gb403]? = some (.cells #[.int .i64 t390, .slice (some ⟨go13, 0, none⟩) y410.length co39] 39 (0, 0))) := ⟨by (with_reducible repeat refine pB ?_); refine blk_far ?_ (by have h_ := Kd.R_ne HO412.out BK403.out (by decide); intro e_; exact h_ (by rw [e_]; rfl)) _; (with_reducible repeat refine pB ?_); exact BK403.out⟩
     have n8_ : Aside0 (IsS117 w (w44.setCell ⟨go13, ((ji10) : Int).toNat, none⟩ (.int .i64 t413)) g384 t381 t414 t415) := ⟨by repeat (first | (with_reducible first | exact HI384.out | apply IsS117.alloc | apply IsS117.drewN | apply IsS117.drew | apply IsS117.set_1 | apply IsS117.set_2 | refine IsS117.far ?_ HN384_go13.out _ | refine IsS117.far ?_ NB384_379.out _ | refine IsS117.far ?_ NB384_380.out _ | refine IsS117.far ?_ NB384_396.out _ | refine IsS117.far ?_ NB384_403.out _) | exact HI384.out)⟩
     have n9_ : Aside0 (Below w.heap.size w (w44.setCell ⟨go13, ((ji10) : Int).toNat, none⟩ (.int .i64 t413))) := ⟨by repeat (first | (with_reducible first | exact HB.out | apply below_alloc | apply pw_below_drewN | apply below_drew1 | refine below_set ?_ GB13.out | refine below_set ?_ (IsS117.ge HI384.out) | refine below_set ?_ GE379.out | refine below_set ?_ GE380.out | refine below_set ?_ GE396.out | refine below_set ?_ GE403.out) | exact HB.out)⟩
     (try clear HO387)
     (try clear HO393)
     (try clear HO400)
     (try clear HO412)
     (try clear BK379)
     (try clear BK380)
     (try clear BK396)
     (try clear BK403)
     (try clear HI384)
     (try clear HB)
     generalize (w44.setCell ⟨go13, ((ji10) : Int).toNat, none⟩ (.int .i64 t413)) = w46 at n0_ n1_ n2_ n3_ n4_ n5_ n6_ n7_ n8_ n9_ ⊢
     have HO387 := n0_
     have HO393 := n1_
     have HO400 := n2_
     have HO412 := n3_
     have BK379 := n4_
     have BK380 := n5_
     have BK396 := n6_
     have BK403 := n7_
     have HI384 := n8_
     have HB := n9_
     clear n0_ n1_ n2_ n3_ n4_ n5_ n6_ n7_ n8_ n9_
     try go_wp2
     replace HO387 := aM (Kd.R_drew HO387.out)
     replace HO393 := aM (Kd.R_drew HO393.out)
     replace HO400 := aM (Kd.R_drew HO400.out)
     replace HO412 := aM (Kd.R_drew HO412.out)
     replace BK379 := aM (blk_drew BK379.out)
     replace BK380 := aM (blk_drew BK380.out)
     replace BK396 := aM (blk_drew BK396.out)
     replace BK403 := aM (blk_drew BK403.out)
     replace HI384 := aM (IsS117.drew HI384.out)
     replace HB := aM (below_drew1 HB.out)
     refine start_ (n := 6) (S := fun w' => w'.cell? ⟨gb396, 0, none⟩ = some (.int .i64 t390) ∧ w'.cell? ⟨gb396, 1, none⟩ = some (.slice Ao25 t391.length co25) ∧ w'.cell? ⟨gb403, 0, none⟩ = some (.int .i64 t390) ∧ w'.cell? ⟨gb403, 1, none⟩ = some (.slice (some ⟨go13, 0, none⟩) y410.length co39)) (ds := []) #[false, false, false, false, false, false] (by kernel_rfl) rfl rfl ⟨(blk_cell BK396.out 0).trans rfl, (blk_cell BK396.out 1).trans rfl, (blk_cell BK403.out 0).trans rfl, (blk_cell BK403.out 1).trans rfl⟩ (fun hHeld => ?_)
     generalize w46.drew = w47 at HO387 HO393 HO400 HO412 BK379 BK380 BK396 BK403 HI384 HB hHeld ⊢
     refine pure_ (i := 0) (N := some 37) (v := ?_) (a' := ?_) #[true, false, false, false, false, false] rfl rfl (by kernel_rfl) (fun _ _ _ h => h) (Or.inl ⟨by rfl, ?_⟩) ?_ ?_
     rotate_left
     ·exact aI
     rotate_left
     ·exact aP
     refine pure_ (i := 3) (N := some 2) (v := ?_) (a' := ?_) #[true, false, false, true, false, false] rfl rfl (by kernel_rfl) (fun _ _ _ h => h) (Or.inl ⟨by rfl, ?_⟩) ?_ ?_
     rotate_left
     ·exact aI
     rotate_left
     ·exact aP
     refine take_ (i := 1) (N := some 38) (v := ?_) (a' := ?_) #[true, true, false, true, false, false] rfl rfl (by kernel_rfl) (fun _ _ _ h => h) (Or.inl ⟨by rfl, ?_⟩) hHeld ?_ ?_
     rotate_left
     ·rintro w' ⟨s0, s1, s2, s3⟩
      go_simp
      with_reducible rfl
     rotate_left
     ·exact aP
     refine take_ (i := 2) (N := some 39) (v := ?_) (a' := ?_) #[true, true, true, true, false, false] rfl rfl (by kernel_rfl) (fun _ _ _ h => h) (Or.inl ⟨by rfl, ?_⟩) hHeld ?_ ?_
     rotate_left
     ·rintro w' ⟨s0, s1, s2, s3⟩
      go_simp
      with_reducible rfl
     rotate_left
     ·exact aP
     refine one_ (i := 4) (N := none) #[true, true, true, true, true, false] rfl rfl (by kernel_rfl) (by decide) (fun K hK => ?_)
     have hs48 : w47.cell? ⟨gb379, 0, none⟩ = some (.int .i64 0) := (blk_cell BK379.out 0).trans rfl
     have hfs48 := blk_frozen BK379.out 0
     have hns48_1 := NB380_379.out
     have hns48_2 := NB396_379.out
     have hns48_3 := NB403_379.out
     have hms48_1 := NB379_380.out
     have hms48_2 := NB379_396.out
     have hms48_3 := NB379_403.out
     have hs49 : w47.cell? ⟨gb379, 1, none⟩ = some (.slice none 0 0) := (blk_cell BK379.out 1).trans rfl
     have hfs49 := blk_frozen BK379.out 1
     have hns49_1 := NB380_379.out
     have hns49_2 := NB396_379.out
     have hns49_3 := NB403_379.out
     have hms49_1 := NB379_380.out
     have hms49_2 := NB379_396.out
     have hms49_3 := NB379_403.out
     refine skip_ (w1 := ?_) (by rfl) rfl ?_ ?_
     rotate_left
     ·go_simp
      rfl
     refine hK.out _ _ ⟨((cell_far (p := ⟨gb379, _, none⟩) NB396_379.out _).trans (((cell_far (p := ⟨gb379, _, none⟩) NB396_379.out _).trans (hHeld.1)))), ((cell_far (p := ⟨gb379, _, none⟩) NB396_379.out _).trans (((cell_far (p := ⟨gb379, _, none⟩) NB396_379.out _).trans (hHeld.2.1)))), ((cell_far (p := ⟨gb379, _, none⟩) NB403_379.out _).trans (((cell_far (p := ⟨gb379, _, none⟩) NB403_379.out _).trans (hHeld.2.2.1)))), ((cell_far (p := ⟨gb379, _, none⟩) NB403_379.out _).trans (((cell_far (p := ⟨gb379, _, none⟩) NB403_379.out _).trans (hHeld.2.2.2))))⟩ (fun hHeld => ?_)
     clear hK K
     refine one_ (i := 5) (N := none) #[true, true, true, true, true, true] rfl rfl (by kernel_rfl) (by decide) (fun K hK => ?_)
     have hs50 : w47.cell? ⟨gb380, 0, none⟩ = some (.int .i64 0) := (blk_cell BK380.out 0).trans rfl
     have hfs50 := blk_frozen BK380.out 0
     have hns50_0 := NB379_380.out
     have hns50_2 := NB396_380.out
     have hns50_3 := NB403_380.out
     have hms50_0 := NB380_379.out
     have hms50_2 := NB380_396.out
     have hms50_3 := NB380_403.out
     have hs51 : w47.cell? ⟨gb380, 1, none⟩ = some (.slice none 0 0) := (blk_cell BK380.out 1).trans rfl
     have hfs51 := blk_frozen BK380.out 1
     have hns51_0 := NB379_380.out
     have hns51_2 := NB396_380.out
     have hns51_3 := NB403_380.out
     have hms51_0 := NB380_379.out
     have hms51_2 := NB380_396.out
     have hms51_3 := NB380_403.out
     refine skip_ (w1 := ?_) (by rfl) rfl ?_ ?_
     rotate_left
     ·go_simp
      rfl
     refine hK.out _ _ ⟨((cell_far (p := ⟨gb380, _, none⟩) NB396_380.out _).trans (((cell_far (p := ⟨gb380, _, none⟩) NB396_380.out _).trans (hHeld.1)))), ((cell_far (p := ⟨gb380, _, none⟩) NB396_380.out _).trans (((cell_far (p := ⟨gb380, _, none⟩) NB396_380.out _).trans (hHeld.2.1)))), ((cell_far (p := ⟨gb380, _, none⟩) NB403_380.out _).trans (((cell_far (p := ⟨gb380, _, none⟩) NB403_380.out _).trans (hHeld.2.2.1)))), ((cell_far (p := ⟨gb380, _, none⟩) NB403_380.out _).trans (((cell_far (p := ⟨gb380, _, none⟩) NB403_380.out _).trans (hHeld.2.2.2))))⟩ (fun hHeld => ?_)
     clear hK K
     refine done_ (by kernel_rfl) ?_
     try go_wp2
     refine bodyPost_ret (results_list (rs := [.tmp 2, .cell 3 39, .cell 4 39]) rfl (by simp) (.tmp (.cell gb379 39 #[.int .i64 t390, .slice Ao25 t391.length co25] (0, 0) _ rfl (by (with_reducible repeat refine pB ?_); refine blk_far ?_ NB379_380.out _; (with_reducible repeat refine pB ?_); refine blk_far ?_ NB379_380.out _; (with_reducible repeat refine pB ?_); refine blk_put (cs := #[.int .i64 t390, .slice none 0 0]) ?_ 1 _ rfl; (with_reducible repeat refine pB ?_); refine blk_put (cs := #[.int .i64 0, .slice none 0 0]) ?_ 0 _ rfl; (with_reducible repeat refine pB ?_); exact BK379.out) Tryd.underlying39 rfl (by kernel_rfl) (.cell gb380 39 #[.int .i64 t390, .slice (some ⟨go13, 0, none⟩) y410.length co39] (0, 0) _ rfl (by (with_reducible repeat refine pB ?_); refine blk_put (cs := #[.int .i64 t390, .slice none 0 0]) ?_ 1 _ rfl; (with_reducible repeat refine pB ?_); refine blk_put (cs := #[.int .i64 0, .slice none 0 0]) ?_ 0 _ rfl; (with_reducible repeat refine pB ?_); refine blk_far ?_ NB380_379.out _; (with_reducible repeat refine pB ?_); refine blk_far ?_ NB380_379.out _; (with_reducible repeat refine pB ?_); exact BK380.out) Tryd.underlying39 rfl (by kernel_rfl) .nil)))) rfl ?_
     exact ⟨_, _, _, by first | rfl | (simp [errW_none, errW_some] <;> rfl) | (simp only [← hji10]; first | rfl | (simp [errW_none, errW_some] <;> rfl)) | (simp [*, errW_none, errW_some] <;> rfl), by (with_reducible repeat apply pR); exact Kd.R_mono (Kd.R_far (p := ⟨gb380, 1, none⟩) (Kd.R_far (p := ⟨gb380, 0, none⟩) (Kd.R_far (p := ⟨gb379, 1, none⟩) (Kd.R_far (p := ⟨gb379, 0, none⟩) (Kd.R_types (Kd.R_types HO387.out BK379.out (by decide)) BK380.out (by decide)) (fun _ hk => hk.1.2) (.int .i64 t390)) (fun _ hk => hk.1.2) (.slice Ao25 t391.length co25)) (fun _ hk => hk.2) (.int .i64 t390)) (fun _ hk => hk.2) (.slice (some ⟨go13, 0, none⟩) y410.length co39)) (fun _ hk => trivial), by (with_reducible repeat apply pR); exact Kd.R_mono (Kd.R_far (p := ⟨gb380, 1, none⟩) (Kd.R_far (p := ⟨gb380, 0, none⟩) (Kd.R_far (p := ⟨gb379, 1, none⟩) (Kd.R_far (p := ⟨gb379, 0, none⟩) (Kd.R_types (Kd.R_types HO393.out BK379.out (by decide)) BK380.out (by decide)) (fun _ hk => hk.1.2) (.int .i64 t390)) (fun _ hk => hk.1.2) (.slice Ao25 t391.length co25)) (fun _ hk => hk.2) (.int .i64 t390)) (fun _ hk => hk.2) (.slice (some ⟨go13, 0, none⟩) y410.length co39)) (fun _ hk => hk.1.1.2), by (with_reducible repeat apply pR); exact Kd.R_mono (Kd.R_far (p := ⟨gb380, 1, none⟩) (Kd.R_far (p := ⟨gb380, 0, none⟩) (Kd.R_far (p := ⟨gb379, 1, none⟩) (Kd.R_far (p := ⟨gb379, 0, none⟩) (Kd.R_types (Kd.R_types HO412.out BK379.out (by decide)) BK380.out (by decide)) (fun _ hk => hk.1.2) (.int .i64 t390)) (fun _ hk => hk.1.2) (.slice Ao25 t391.length co25)) (fun _ hk => hk.2) (.int .i64 t390)) (fun _ hk => hk.2) (.slice (some ⟨go13, 0, none⟩) y410.length co39)) (fun _ hk => hk.1.1.1), by repeat (first | (with_reducible first | exact HB.out | apply below_alloc | apply pw_below_drewN | apply below_drew1 | refine below_set ?_ (IsS117.ge HI384.out) | refine below_set ?_ GE379.out | refine below_set ?_ GE380.out | refine below_set ?_ GE396.out | refine below_set ?_ GE403.out) | exact HB.out)⟩
    ·rw [if_neg c12] at H
     exact absurd H (by simp)
   ·rw [if_neg c11] at H
    exact absurd H (by simp)
  ·rw [if_neg c8] at H
   exact absurd H (by simp)
 ·replace c7 := Bool.eq_false_iff.mpr c7
  subst c7
  have H1 : (some (t385, t390, t391, t397, t398)) = some (r1, r2, r3, r4, r5) := by rw [if_neg (show ¬ (false = true) by decide)] at H; exact H
  clear H
  have H := H1
  clear H1
  simp only [Option.some.injEq, Prod.mk.injEq] at H
  obtain ⟨rfl, rfl, rfl, rfl, rfl⟩ := H
  go_enter Tryd.func19, Tryd.ntmps19
  try go_wp2_with (first | ((with_reducible refine gate_dst (N := 3) rfl ?_); refine bE 3 (cs := #[.int .i64 0, .slice none 0 0]) (t := 39) ?_; intro gb379 hg w52 hbox hb; have BK379 := aM (hbox); have GW379 := aM ((by rw [hg]; exact (below_size aB) : w.heap.size ≤ gb379)); have GE379 := aM ((by rw [hg]; exact (below_size aB) : w.heap.size ≤ gb379)); replace HB := aM (below_step aB hb); clear hb hbox hg) | ((with_reducible refine gate_dst (N := 4) rfl ?_); refine bE 4 (cs := #[.int .i64 0, .slice none 0 0]) (t := 39) ?_; intro gb380 hg w53 hbox hb; have BK380 := aM (hbox); have GW380 := aM ((by rw [hg]; exact (below_size aG) : w.heap.size ≤ gb380)); have GE380 := aM ((by rw [hg]; exact (below_size aG) : w.heap.size ≤ gb380)); have NB379_380 := aM ((by rw [hg]; exact Nat.ne_of_lt (blk_lt (g := gb379) (o := .cells #[.int .i64 0, .slice none 0 0] 39 (0, 0)) aK) : gb379 ≠ gb380)); have NB380_379 := aM ((by rw [hg]; exact Nat.ne_of_gt (blk_lt (g := gb379) (o := .cells #[.int .i64 0, .slice none 0 0] 39 (0, 0)) aK) : gb380 ≠ gb379)); replace BK379 := aM (kB gb379 #[.int .i64 0, .slice none 0 0] 39 hb); replace HB := aM (below_step aG hb); clear hb hbox hg) | ((with_reducible refine gate_callee (f := 53) rfl ?_); refine goesL_ (some 10) rfl rfl Tryd.func53 (by kernel_rfl) rfl #[.slice A0 l0.length c0] rfl aA ?_; (with_reducible refine (spec_l1New.calls k _ _ l0 t381 t382 t383 w _ ?side1 ?side2 ?side3 A2.out).mono ?_); (case side1 => exact aG); (case side2 => exact HR0.out); (case side3 => exact HC0.out); rintro e w54 ⟨g384, rfl, hi, hb, hb2⟩; refine ⟨_, rfl, ?_⟩; have n0_ := aM (blk_below (g := gb379) (o := .cells #[.int .i64 0, .slice none 0 0] 39 (0, 0)) aK hb2); have n1_ := aM (blk_below (g := gb380) (o := .cells #[.int .i64 0, .slice none 0 0] 39 (0, 0)) aK hb2); have n2_ := aM (hb); have n3_ := aM (hi); have n4_ := aM (IsS117.ne_blk hi (blk_below (g := gb379) (o := .cells #[.int .i64 0, .slice none 0 0] 39 (0, 0)) aK hb2) (by decide)); have n5_ := aM (Ne.symm (IsS117.ne_blk hi (blk_below (g := gb379) (o := .cells #[.int .i64 0, .slice none 0 0] 39 (0, 0)) aK hb2) (by decide))); have n6_ := aM (IsS117.ne_blk hi (blk_below (g := gb380) (o := .cells #[.int .i64 0, .slice none 0 0] 39 (0, 0)) aK hb2) (by decide)); have n7_ := aM (Ne.symm (IsS117.ne_blk hi (blk_below (g := gb380) (o := .cells #[.int .i64 0, .slice none 0 0] 39 (0, 0)) aK hb2) (by decide))); clear BK379; clear BK380; clear HB; have BK379 := n0_; have BK380 := n1_; have HB := n2_; have HI384 := n3_; have NB384_379 := n4_; have NB379_384 := n5_; have NB384_380 := n6_; have NB380_384 := n7_; clear n0_ n1_ n2_ n3_ n4_ n5_ n6_ n7_; (try clear hb); (try clear hb2); (try clear hk); (try clear hi)) | ((with_reducible refine gate_callee (f := 54) rfl ?_); refine goesL_ (some 12) rfl rfl Tryd.func54 (by kernel_rfl) rfl #[.pointer (some ⟨g384, 0, none⟩)] rfl aA ?_; (with_reducible refine (spec_l2Sigs.calls g384 t381 t382 t383 t385 t388 t389 w _ ?side1 ?side2 A3.out).mono ?_); (case side1 => repeat (first | (with_reducible first | exact HI384.out | apply IsS117.alloc | apply IsS117.drewN | apply IsS117.drew | apply IsS117.set_1 | apply IsS117.set_2 | refine IsS117.far ?_ NB384_379.out _ | refine IsS117.far ?_ NB384_380.out _) | exact HI384.out)); (case side2 => repeat (first | (with_reducible first | exact HB.out | apply below_alloc | apply pw_below_drewN | apply below_drew1 | refine below_set ?_ (IsS117.ge HI384.out) | refine below_set ?_ GE379.out | refine below_set ?_ GE380.out) | exact HB.out)); rintro e w55 ⟨v386, rfl, ho0, hi, hb, hk⟩; refine ⟨_, rfl, ?_⟩; have n0_ := aM (KeepBut.blk hk (g' := gb379) (o := .cells #[.int .i64 0, .slice none 0 0] 39 (0, 0)) aK NB379_384.out (by simp)); have n1_ := aM (KeepBut.blk hk (g' := gb380) (o := .cells #[.int .i64 0, .slice none 0 0] 39 (0, 0)) aK NB380_384.out (by simp)); have n2_ := aM (Kd.R_lower ho0 (below_size (by repeat (first | (with_reducible first | exact HB.out | apply below_alloc | apply pw_below_drewN | apply below_drew1 | refine below_set ?_ (IsS117.ge HI384.out) | refine below_set ?_ GE379.out | refine below_set ?_ GE380.out) | exact HB.out)))); have n3_ := aM (hb); have n4_ := aM (hi); clear BK379; clear BK380; clear HB; clear HI384; have BK379 := n0_; have BK380 := n1_; have HO387 := n2_; have HB := n3_; have HI384 := n4_; clear n0_ n1_ n2_ n3_ n4_; (try clear hb); (try clear hb2); (try clear hk); (try clear hi); (try clear ho0); obtain ⟨Ao56, co56, eo56⟩ := Kd.R_slice HO387.out; subst eo56) | ((with_reducible refine gate_callee (f := 61) rfl ?_); refine goesL_ (some 15) rfl rfl Tryd.func61 (by kernel_rfl) rfl #[.pointer (some ⟨g384, 0, none⟩), .slice Ao56 t385.length co56] rfl aA ?_; (with_reducible refine (spec_l3Any.calls k g384 t381 t388 t389 _ _ t385 t390 t391 t394 t395 w _ ?side1 ?side2 ?side3 ?side4 A4.out).mono ?_); (case side1 => repeat (first | (with_reducible first | exact HI384.out | apply IsS117.alloc | apply IsS117.drewN | apply IsS117.drew | apply IsS117.set_1 | apply IsS117.set_2 | refine IsS117.far ?_ NB384_379.out _ | refine IsS117.far ?_ NB384_380.out _) | exact HI384.out)); (case side2 => repeat (first | (with_reducible first | exact HB.out | apply below_alloc | apply pw_below_drewN | apply below_drew1 | refine below_set ?_ (IsS117.ge HI384.out) | refine below_set ?_ GE379.out | refine below_set ?_ GE380.out) | exact HB.out)); (case side3 => exact Kd.C_foot_own (IsS117.apart (show IsS117 w _ g384 t381 t388 t389 from by repeat (first | (with_reducible first | exact HI384.out | apply IsS117.alloc | apply IsS117.drewN | apply IsS117.drew | apply IsS117.set_1 | apply IsS117.set_2 | refine IsS117.far ?_ NB384_379.out _ | refine IsS117.far ?_ NB384_380.out _) | exact HI384.out)) (aR HO387) (by decide)) (fun _ h_ => h_.2)); (case side4 => exact (Kd.R_reads' HO387.out).2.1); rintro e w57 ⟨v392, rfl, ho0, hi, hb, hk⟩; refine ⟨_, rfl, ?_⟩; have n0_ := aM (KeepBut.blk hk (g' := gb379) (o := .cells #[.int .i64 0, .slice none 0 0] 39 (0, 0)) aK NB379_384.out (by simp)); have n1_ := aM (KeepBut.blk hk (g' := gb380) (o := .cells #[.int .i64 0, .slice none 0 0] 39 (0, 0)) aK NB380_384.out (by simp)); have n2_ := aM (Kd.R_mono (Kd.R_keep (IsS117.apart (show IsS117 w _ g384 t381 t388 t389 from by repeat (first | (with_reducible first | exact HI384.out | apply IsS117.alloc | apply IsS117.drewN | apply IsS117.drew | apply IsS117.set_1 | apply IsS117.set_2 | refine IsS117.far ?_ NB384_379.out _ | refine IsS117.far ?_ NB384_380.out _) | exact HI384.out)) (aR HO387) (by decide)) hk (fun _ h => h.2)) (fun _ h => h.1)); have n3_ := aM (Kd.R_lower ho0 (below_size (by repeat (first | (with_reducible first | exact HB.out | apply below_alloc | apply pw_below_drewN | apply below_drew1 | refine below_set ?_ (IsS117.ge HI384.out) | refine below_set ?_ GE379.out | refine below_set ?_ GE380.out) | exact HB.out)))); have n4_ := aM (hb); have n5_ := aM (hi); clear BK379; clear BK380; clear HO387; clear HB; clear HI384; have BK379 := n0_; have BK380 := n1_; have HO387 := n2_; have HO393 := n3_; have HB := n4_; have HI384 := n5_; clear n0_ n1_ n2_ n3_ n4_ n5_; (try clear hb); (try clear hb2); (try clear hk); (try clear hi); (try clear ho0)) | ((with_reducible refine gate_dst (N := 7) rfl ?_); refine bE 7 (cs := #[.int .i64 0, .slice none 0 0]) (t := 39) ?_; intro gb396 hg w58 hbox hb; have n0_ := aM (Kd.R_below (aR HO387) hb); have n1_ := aM (Kd.R_below (aR HO393) hb); have n2_ := aM (kB gb379 #[.int .i64 0, .slice none 0 0] 39 hb); have n3_ := aM (kB gb380 #[.int .i64 0, .slice none 0 0] 39 hb); have n4_ := aM (IsS117.below (by repeat (first | (with_reducible first | exact HI384.out | apply IsS117.alloc | apply IsS117.drewN | apply IsS117.drew | apply IsS117.set_1 | apply IsS117.set_2 | refine IsS117.far ?_ NB384_379.out _ | refine IsS117.far ?_ NB384_380.out _) | exact HI384.out)) hb); have n5_ := aM (below_step (by repeat (first | (with_reducible first | exact HB.out | apply below_alloc | apply pw_below_drewN | apply below_drew1 | refine below_set ?_ (IsS117.ge HI384.out) | refine below_set ?_ GE379.out | refine below_set ?_ GE380.out) | exact HB.out)) hb); have n6_ := aM (hbox); have n7_ := aM ((by rw [hg]; exact (below_size (by repeat (first | (with_reducible first | exact HB.out | apply below_alloc | apply pw_below_drewN | apply below_drew1 | refine below_set ?_ (IsS117.ge HI384.out) | refine below_set ?_ GE379.out | refine below_set ?_ GE380.out) | exact HB.out))) : w.heap.size ≤ gb396)); have n8_ := aM ((by rw [hg]; exact (below_size (by repeat (first | (with_reducible first | exact HB.out | apply below_alloc | apply pw_below_drewN | apply below_drew1 | refine below_set ?_ (IsS117.ge HI384.out) | refine below_set ?_ GE379.out | refine below_set ?_ GE380.out) | exact HB.out))) : w.heap.size ≤ gb396)); have n9_ := aM ((by rw [hg]; exact Nat.ne_of_lt (blk_lt (g := gb379) (o := .cells #[.int .i64 0, .slice none 0 0] 39 (0, 0)) aK) : gb379 ≠ gb396)); have n10_ := aM ((by rw [hg]; exact Nat.ne_of_gt (blk_lt (g := gb379) (o := .cells #[.int .i64 0, .slice none 0 0] 39 (0, 0)) aK) : gb396 ≠ gb379)); have n11_ := aM ((by rw [hg]; exact Nat.ne_of_lt (blk_lt (g := gb380) (o := .cells #[.int .i64 0, .slice none 0 0] 39 (0, 0)) aK) : gb380 ≠ gb396)); have n12_ := aM ((by rw [hg]; exact Nat.ne_of_gt (blk_lt (g := gb380) (o := .cells #[.int .i64 0, .slice none 0 0] 39 (0, 0)) aK) : gb396 ≠ gb380)); have n13_ := aM ((by rw [hg]; exact Nat.ne_of_lt (IsS117.lt (show IsS117 w _ g384 t381 t394 t395 from by repeat (first | (with_reducible first | exact HI384.out | apply IsS117.alloc | apply IsS117.drewN | apply IsS117.drew | apply IsS117.set_1 | apply IsS117.set_2 | refine IsS117.far ?_ NB384_379.out _ | refine IsS117.far ?_ NB384_380.out _) | exact HI384.out))) : g384 ≠ gb396)); have n14_ := aM ((by rw [hg]; exact Nat.ne_of_gt (IsS117.lt (show IsS117 w _ g384 t381 t394 t395 from by repeat (first | (with_reducible first | exact HI384.out | apply IsS117.alloc | apply IsS117.drewN | apply IsS117.drew | apply IsS117.set_1 | apply IsS117.set_2 | refine IsS117.far ?_ NB384_379.out _ | refine IsS117.far ?_ NB384_380.out _) | exact HI384.out))) : gb396 ≠ g384)); clear HO387; clear HO393; clear BK379; clear BK380; clear HI384; clear HB; have HO387 := n0_; have HO393 := n1_; have BK379 := n2_; have BK380 := n3_; have HI384 := n4_; have HB := n5_; have BK396 := n6_; have GW396 := n7_; have GE396 := n8_; have NB379_396 := n9_; have NB396_379 := n10_; have NB380_396 := n11_; have NB396_380 := n12_; have NB384_396 := n13_; have NB396_384 := n14_; clear n0_ n1_ n2_ n3_ n4_ n5_ n6_ n7_ n8_ n9_ n10_ n11_ n12_ n13_ n14_; clear hb hbox hg; have hnb59 := NB396_379.out; have hnc59 := NB379_396.out; have hnb60 := NB396_380.out; have hnc60 := NB380_396.out; have hnb61 := NB396_384.out; have hnc61 := NB384_396.out; have hcz62_0 : w58.cell? ⟨gb396, 0, none⟩ = some (.int .i64 0) := (blk_cell BK396.out 0).trans rfl; have hcz62_1 : w58.cell? ⟨gb396, 1, none⟩ = some (.slice none 0 0) := (blk_cell BK396.out 1).trans rfl; have hfz62_0 := blk_frozen BK396.out 0; have hfz62_1 := blk_frozen BK396.out 1; obtain ⟨Ao63, co63, eo63⟩ := Kd.R_slice HO393.out; subst eo63) | ((with_reducible refine gate_callee (f := 56) rfl ?_); refine goesL_ (some 18) rfl rfl Tryd.func56 (by kernel_rfl) rfl #[.pointer (some ⟨g384, 0, none⟩), .slice Ao56 t385.length co56, .int .i64 2] rfl aA ?_; (with_reducible refine (spec_l3Fact.calls k g384 t381 t394 t395 _ _ t385 2 t397 t398 t401 t402 w _ ?side1 ?side2 ?side3 ?side4 A5.out).mono ?_); (case side1 => repeat (first | (with_reducible first | exact HI384.out | apply IsS117.alloc | apply IsS117.drewN | apply IsS117.drew | apply IsS117.set_1 | apply IsS117.set_2 | refine IsS117.far ?_ NB384_379.out _ | refine IsS117.far ?_ NB384_380.out _ | refine IsS117.far ?_ NB384_396.out _) | exact HI384.out)); (case side2 => repeat (first | (with_reducible first | exact HB.out | apply below_alloc | apply pw_below_drewN | apply below_drew1 | refine below_set ?_ (IsS117.ge HI384.out) | refine below_set ?_ GE379.out | refine below_set ?_ GE380.out | refine below_set ?_ GE396.out) | exact HB.out)); (case side3 => exact Kd.C_foot_own (IsS117.apart (show IsS117 w _ g384 t381 t394 t395 from by repeat (first | (with_reducible first | exact HI384.out | apply IsS117.alloc | apply IsS117.drewN | apply IsS117.drew | apply IsS117.set_1 | apply IsS117.set_2 | refine IsS117.far ?_ NB384_379.out _ | refine IsS117.far ?_ NB384_380.out _ | refine IsS117.far ?_ NB384_396.out _) | exact HI384.out)) (by (with_reducible repeat apply pR); exact (Kd.R_mono (Kd.R_far (p := ⟨gb396, 1, none⟩) (Kd.R_far (p := ⟨gb396, 0, none⟩) (Kd.R_types HO387.out BK396.out (by decide)) (fun _ hk => hk.2) (.int .i64 t390)) (fun _ hk => hk.2) (.slice Ao63 t391.length co63)) (fun _ h_ => h_.1))) (by decide)) (fun _ h_ => h_.2)); (case side4 => exact (Kd.R_reads' HO387.out).2.1); rintro e w64 ⟨v399, rfl, ho0, hi, hb, hk⟩; refine ⟨_, rfl, ?_⟩; have HO400 := aM (Kd.R_lower (Kd.R_new' ho0 (Kd.R_lt (by (with_reducible repeat apply pR); exact (Kd.R_mono (Kd.R_far (p := ⟨gb396, 1, none⟩) (Kd.R_far (p := ⟨gb396, 0, none⟩) (Kd.R_types HO393.out BK396.out (by decide)) (fun _ hk => hk.2) (.int .i64 t390)) (fun _ hk => hk.2) (.slice Ao63 t391.length co63)) (fun _ h_ => h_.1))))) (below_size (by repeat (first | (with_reducible first | exact HB.out | apply below_alloc | apply pw_below_drewN | apply below_drew1 | refine below_set ?_ (IsS117.ge HI384.out) | refine below_set ?_ GE379.out | refine below_set ?_ GE380.out | refine below_set ?_ GE396.out) | exact HB.out)))); replace BK379 := aM (KeepBut.blk hk (g' := gb379) (o := .cells #[.int .i64 0, .slice none 0 0] 39 (0, 0)) (by (with_reducible repeat refine pB ?_); refine blk_far ?_ NB379_396.out _; (with_reducible repeat refine pB ?_); refine blk_far ?_ NB379_396.out _; (with_reducible repeat refine pB ?_); exact BK379.out) NB379_384.out (by simp)); replace BK380 := aM (KeepBut.blk hk (g' := gb380) (o := .cells #[.int .i64 0, .slice none 0 0] 39 (0, 0)) (by (with_reducible repeat refine pB ?_); refine blk_far ?_ NB380_396.out _; (with_reducible repeat refine pB ?_); refine blk_far ?_ NB380_396.out _; (with_reducible repeat refine pB ?_); exact BK380.out) NB380_384.out (by simp)); replace HO387 := aM (Kd.R_mono (Kd.R_keep (IsS117.apart (show IsS117 w _ g384 t381 t394 t395 from by repeat (first | (with_reducible first | exact HI384.out | apply IsS117.alloc | apply IsS117.drewN | apply IsS117.drew | apply IsS117.set_1 | apply IsS117.set_2 | refine IsS117.far ?_ NB384_379.out _ | refine IsS117.far ?_ NB384_380.out _ | refine IsS117.far ?_ NB384_396.out _) | exact HI384.out)) (by (with_reducible repeat apply pR); exact (Kd.R_mono (Kd.R_far (p := ⟨gb396, 1, none⟩) (Kd.R_far (p := ⟨gb396, 0, none⟩) (Kd.R_types HO387.out BK396.out (by decide)) (fun _ hk => hk.2) (.int .i64 t390)) (fun _ hk => hk.2) (.slice Ao63 t391.length co63)) (fun _ h_ => h_.1))) (by decide)) hk (fun _ h => h.2)) (fun _ h => h.1)); replace HO393 := aM (Kd.R_mono (Kd.R_told (Kd.R_oldK (IsS117.apart (show IsS117 w _ g384 t381 t394 t395 from by repeat (first | (with_reducible first | exact HI384.out | apply IsS117.alloc | apply IsS117.drewN | apply IsS117.drew | apply IsS117.set_1 | apply IsS117.set_2 | refine IsS117.far ?_ NB384_379.out _ | refine IsS117.far ?_ NB384_380.out _ | refine IsS117.far ?_ NB384_396.out _) | exact HI384.out)) (by (with_reducible repeat apply pR); exact (Kd.R_mono (Kd.R_far (p := ⟨gb396, 1, none⟩) (Kd.R_far (p := ⟨gb396, 0, none⟩) (Kd.R_types HO393.out BK396.out (by decide)) (fun _ hk => hk.2) (.int .i64 t390)) (fun _ hk => hk.2) (.slice Ao63 t391.length co63)) (fun _ h_ => h_.1))) (by decide)) hk) (Kd.R_base ho0)) (fun _ h_ => h_.1)); replace BK396 := aM (KeepBut.blk hk (g' := gb396) (o := .cells #[.int .i64 t390, .slice Ao63 t391.length co63] 39 (0, 0)) (by (with_reducible repeat refine pB ?_); refine blk_put (cs := #[.int .i64 t390, .slice none 0 0]) ?_ 1 _ rfl; (with_reducible repeat refine pB ?_); refine blk_put (cs := #[.int .i64 0, .slice none 0 0]) ?_ 0 _ rfl; (with_reducible repeat refine pB ?_); exact BK396.out) NB396_384.out (by simp)); replace HB := aM (hb); replace HI384 := aM (hi); (try clear hb); (try clear hb2); (try clear hk); (try clear hi); (try clear ho0)) | ((with_reducible refine gate_dst (N := 8) rfl ?_); refine bE 8 (cs := #[.int .i64 0, .slice none 0 0]) (t := 39) ?_; intro gb403 hg w65 hbox hb; have n0_ := aM (Kd.R_below (aR HO387) hb); have n1_ := aM (Kd.R_below (aR HO393) hb); have n2_ := aM (Kd.R_below (aR HO400) hb); have n3_ := aM (kB gb379 #[.int .i64 0, .slice none 0 0] 39 hb); have n4_ := aM (kB gb380 #[.int .i64 0, .slice none 0 0] 39 hb); have n5_ := aM (IsS117.below (by repeat (first | (with_reducible first | exact HI384.out | apply IsS117.alloc | apply IsS117.drewN | apply IsS117.drew | apply IsS117.set_1 | apply IsS117.set_2 | refine IsS117.far ?_ NB384_379.out _ | refine IsS117.far ?_ NB384_380.out _ | refine IsS117.far ?_ NB384_396.out _) | exact HI384.out)) hb); have n6_ := aM (kB gb396 #[.int .i64 t390, .slice Ao63 t391.length co63] 39 hb); have n7_ := aM (below_step (by repeat (first | (with_reducible first | exact HB.out | apply below_alloc | apply pw_below_drewN | apply below_drew1 | refine below_set ?_ (IsS117.ge HI384.out) | refine below_set ?_ GE379.out | refine below_set ?_ GE380.out | refine below_set ?_ GE396.out) | exact HB.out)) hb); have n8_ := aM (hbox); have n9_ := aM ((by rw [hg]; exact (below_size (by repeat (first | (with_reducible first | exact HB.out | apply below_alloc | apply pw_below_drewN | apply below_drew1 | refine below_set ?_ (IsS117.ge HI384.out) | refine below_set ?_ GE379.out | refine below_set ?_ GE380.out | refine below_set ?_ GE396.out) | exact HB.out))) : w.heap.size ≤ gb403)); have n10_ := aM ((by rw [hg]; exact (below_size (by repeat (first | (with_reducible first | exact HB.out | apply below_alloc | apply pw_below_drewN | apply below_drew1 | refine below_set ?_ (IsS117.ge HI384.out) | refine below_set ?_ GE379.out | refine below_set ?_ GE380.out | refine below_set ?_ GE396.out) | exact HB.out))) : w.heap.size ≤ gb403)); have n11_ := aM ((by rw [hg]; exact Nat.ne_of_lt (blk_lt (g := gb379) (o := .cells #[.int .i64 0, .slice none 0 0] 39 (0, 0)) aK) : gb379 ≠ gb403)); have n12_ := aM ((by rw [hg]; exact Nat.ne_of_gt (blk_lt (g := gb379) (o := .cells #[.int .i64 0, .slice none 0 0] 39 (0, 0)) aK) : gb403 ≠ gb379)); have n13_ := aM ((by rw [hg]; exact Nat.ne_of_lt (blk_lt (g := gb380) (o := .cells #[.int .i64 0, .slice none 0 0] 39 (0, 0)) aK) : gb380 ≠ gb403)); have n14_ := aM ((by rw [hg]; exact Nat.ne_of_gt (blk_lt (g := gb380) (o := .cells #[.int .i64 0, .slice none 0 0] 39 (0, 0)) aK) : gb403 ≠ gb380)); have n15_ := aM ((by rw [hg]; exact Nat.ne_of_lt (blk_lt (g := gb396) (o := .cells #[.int .i64 t390, .slice Ao63 t391.length co63] 39 (0, 0)) aK) : gb396 ≠ gb403)); have n16_ := aM ((by rw [hg]; exact Nat.ne_of_gt (blk_lt (g := gb396) (o := .cells #[.int .i64 t390, .slice Ao63 t391.length co63] 39 (0, 0)) aK) : gb403 ≠ gb396)); have n17_ := aM ((by rw [hg]; exact Nat.ne_of_lt (IsS117.lt (show IsS117 w _ g384 t381 t401 t402 from by repeat (first | (with_reducible first | exact HI384.out | apply IsS117.alloc | apply IsS117.drewN | apply IsS117.drew | apply IsS117.set_1 | apply IsS117.set_2 | refine IsS117.far ?_ NB384_379.out _ | refine IsS117.far ?_ NB384_380.out _ | refine IsS117.far ?_ NB384_396.out _) | exact HI384.out))) : g384 ≠ gb403)); have n18_ := aM ((by rw [hg]; exact Nat.ne_of_gt (IsS117.lt (show IsS117 w _ g384 t381 t401 t402 from by repeat (first | (with_reducible first | exact HI384.out | apply IsS117.alloc | apply IsS117.drewN | apply IsS117.drew | apply IsS117.set_1 | apply IsS117.set_2 | refine IsS117.far ?_ NB384_379.out _ | refine IsS117.far ?_ NB384_380.out _ | refine IsS117.far ?_ NB384_396.out _) | exact HI384.out))) : gb403 ≠ g384)); clear HO387; clear HO393; clear HO400; clear BK379; clear BK380; clear HI384; clear BK396; clear HB; have HO387 := n0_; have HO393 := n1_; have HO400 := n2_; have BK379 := n3_; have BK380 := n4_; have HI384 := n5_; have BK396 := n6_; have HB := n7_; have BK403 := n8_; have GW403 := n9_; have GE403 := n10_; have NB379_403 := n11_; have NB403_379 := n12_; have NB380_403 := n13_; have NB403_380 := n14_; have NB396_403 := n15_; have NB403_396 := n16_; have NB384_403 := n17_; have NB403_384 := n18_; clear n0_ n1_ n2_ n3_ n4_ n5_ n6_ n7_ n8_ n9_ n10_ n11_ n12_ n13_ n14_ n15_ n16_ n17_ n18_; clear hb hbox hg; have hnb66 := NB403_379.out; have hnc66 := NB379_403.out; have hnb67 := NB403_380.out; have hnc67 := NB380_403.out; have hnb68 := NB403_396.out; have hnc68 := NB396_403.out; have hnb69 := NB403_384.out; have hnc69 := NB384_403.out; have hcz70_0 : w65.cell? ⟨gb403, 0, none⟩ = some (.int .i64 0) := (blk_cell BK403.out 0).trans rfl; have hcz70_1 : w65.cell? ⟨gb403, 1, none⟩ = some (.slice none 0 0) := (blk_cell BK403.out 1).trans rfl; have hfz70_0 := blk_frozen BK403.out 0; have hfz70_1 := blk_frozen BK403.out 1; obtain ⟨Ao71, co71, eo71⟩ := Kd.R_slice HO400.out; subst eo71) | ((with_reducible refine gate_callee (f := 57) rfl ?_); refine goesL_ (some 20) rfl rfl Tryd.func57 (by kernel_rfl) rfl #[.pointer (some ⟨g384, 0, none⟩), .int .i64 2] rfl aA ?_; (with_reducible refine (spec_l1Once.calls g384 t381 t401 t402 2 false t405 t406 w _ ?side1 ?side2 A6.out).mono ?_); (case side1 => repeat (first | (with_reducible first | exact HI384.out | apply IsS117.alloc | apply IsS117.drewN | apply IsS117.drew | apply IsS117.set_1 | apply IsS117.set_2 | refine IsS117.far ?_ NB384_379.out _ | refine IsS117.far ?_ NB384_380.out _ | refine IsS117.far ?_ NB384_396.out _ | refine IsS117.far ?_ NB384_403.out _) | exact HI384.out)); (case side2 => repeat (first | (with_reducible first | exact HB.out | apply below_alloc | apply pw_below_drewN | apply below_drew1 | refine below_set ?_ (IsS117.ge HI384.out) | refine below_set ?_ GE379.out | refine below_set ?_ GE380.out | refine below_set ?_ GE396.out | refine below_set ?_ GE403.out) | exact HB.out)); rintro e w72 ⟨rfl, hi, hb, hk⟩; refine ⟨_, rfl, ?_⟩; replace BK379 := aM (KeepBut.blk hk (g' := gb379) (o := .cells #[.int .i64 0, .slice none 0 0] 39 (0, 0)) (by (with_reducible repeat refine pB ?_); refine blk_far ?_ NB379_403.out _; (with_reducible repeat refine pB ?_); refine blk_far ?_ NB379_403.out _; (with_reducible repeat refine pB ?_); exact BK379.out) NB379_384.out (by simp)); replace BK380 := aM (KeepBut.blk hk (g' := gb380) (o := .cells #[.int .i64 0, .slice none 0 0] 39 (0, 0)) (by (with_reducible repeat refine pB ?_); refine blk_far ?_ NB380_403.out _; (with_reducible repeat refine pB ?_); refine blk_far ?_ NB380_403.out _; (with_reducible repeat refine pB ?_); exact BK380.out) NB380_384.out (by simp)); replace HO387 := aM (Kd.R_mono (Kd.R_keep (IsS117.apart (show IsS117 w _ g384 t381 t401 t402 from by repeat (first | (with_reducible first | exact HI384.out | apply IsS117.alloc | apply IsS117.drewN | apply IsS117.drew | apply IsS117.set_1 | apply IsS117.set_2 | refine IsS117.far ?_ NB384_379.out _ | refine IsS117.far ?_ NB384_380.out _ | refine IsS117.far ?_ NB384_396.out _ | refine IsS117.far ?_ NB384_403.out _) | exact HI384.out)) (by (with_reducible repeat apply pR); exact (Kd.R_mono (Kd.R_far (p := ⟨gb403, 1, none⟩) (Kd.R_far (p := ⟨gb403, 0, none⟩) (Kd.R_types HO387.out BK403.out (by decide)) (fun _ hk => hk.2) (.int .i64 t397)) (fun _ hk => hk.2) (.slice Ao71 t398.length co71)) (fun _ h_ => h_.1))) (by decide)) hk (fun _ h => h.2)) (fun _ h => h.1)); replace HO393 := aM (Kd.R_mono (Kd.R_keep (IsS117.apart (show IsS117 w _ g384 t381 t401 t402 from by repeat (first | (with_reducible first | exact HI384.out | apply IsS117.alloc | apply IsS117.drewN | apply IsS117.drew | apply IsS117.set_1 | apply IsS117.set_2 | refine IsS117.far ?_ NB384_379.out _ | refine IsS117.far ?_ NB384_380.out _ | refine IsS117.far ?_ NB384_396.out _ | refine IsS117.far ?_ NB384_403.out _) | exact HI384.out)) (by (with_reducible repeat apply pR); exact (Kd.R_mono (Kd.R_far (p := ⟨gb403, 1, none⟩) (Kd.R_far (p := ⟨gb403, 0, none⟩) (Kd.R_types HO393.out BK403.out (by decide)) (fun _ hk => hk.2) (.int .i64 t397)) (fun _ hk => hk.2) (.slice Ao71 t398.length co71)) (fun _ h_ => h_.1))) (by decide)) hk (fun _ h => h.2)) (fun _ h => h.1)); replace BK396 := aM (KeepBut.blk hk (g' := gb396) (o := .cells #[.int .i64 t390, .slice Ao63 t391.length co63] 39 (0, 0)) (by (with_reducible repeat refine pB ?_); refine blk_far ?_ NB396_403.out _; (with_reducible repeat refine pB ?_); refine blk_far ?_ NB396_403.out _; (with_reducible repeat refine pB ?_); exact BK396.out) NB396_384.out (by simp)); replace HO400 := aM (Kd.R_mono (Kd.R_keep (IsS117.apart (show IsS117 w _ g384 t381 t401 t402 from by repeat (first | (with_reducible first | exact HI384.out | apply IsS117.alloc | apply IsS117.drewN | apply IsS117.drew | apply IsS117.set_1 | apply IsS117.set_2 | refine IsS117.far ?_ NB384_379.out _ | refine IsS117.far ?_ NB384_380.out _ | refine IsS117.far ?_ NB384_396.out _ | refine IsS117.far ?_ NB384_403.out _) | exact HI384.out)) (by (with_reducible repeat apply pR); exact (Kd.R_mono (Kd.R_far (p := ⟨gb403, 1, none⟩) (Kd.R_far (p := ⟨gb403, 0, none⟩) (Kd.R_types HO400.out BK403.out (by decide)) (fun _ hk => hk.2) (.int .i64 t397)) (fun _ hk => hk.2) (.slice Ao71 t398.length co71)) (fun _ h_ => h_.1))) (by decide)) hk (fun _ h => h.2)) (fun _ h => h.1)); replace BK403 := aM (KeepBut.blk hk (g' := gb403) (o := .cells #[.int .i64 t397, .slice Ao71 t398.length co71] 39 (0, 0)) (by (with_reducible repeat refine pB ?_); refine blk_put (cs := #[.int .i64 t397, .slice none 0 0]) ?_ 1 _ rfl; (with_reducible repeat refine pB ?_); refine blk_put (cs := #[.int .i64 0, .slice none 0 0]) ?_ 0 _ rfl; (with_reducible repeat refine pB ?_); exact BK403.out) NB403_384.out (by simp)); replace HB := aM (hb); replace HI384 := aM (hi); (try clear hb); (try clear hb2); (try clear hk); (try clear hi)))
  replace HO387 := aM (Kd.R_drew HO387.out)
  replace HO393 := aM (Kd.R_drew HO393.out)
  replace HO400 := aM (Kd.R_drew HO400.out)
  replace BK379 := aM (blk_drew BK379.out)
  replace BK380 := aM (blk_drew BK380.out)
  replace BK396 := aM (blk_drew BK396.out)
  replace BK403 := aM (blk_drew BK403.out)
  replace HI384 := aM (IsS117.drew HI384.out)
  replace HB := aM (below_drew1 HB.out)
  refine start_ (n := 6) (S := fun w' => w'.cell? ⟨gb396, 0, none⟩ = some (.int .i64 t390) ∧ w'.cell? ⟨gb396, 1, none⟩ = some (.slice Ao63 t391.length co63) ∧ w'.cell? ⟨gb403, 0, none⟩ = some (.int .i64 t397) ∧ w'.cell? ⟨gb403, 1, none⟩ = some (.slice Ao71 t398.length co71)) (ds := []) #[false, false, false, false, false, false] (by kernel_rfl) rfl rfl ⟨(blk_cell BK396.out 0).trans rfl, (blk_cell BK396.out 1).trans rfl, (blk_cell BK403.out 0).trans rfl, (blk_cell BK403.out 1).trans rfl⟩ (fun hHeld => ?_)
  generalize w72.drew = w73 at HO387 HO393 HO400 BK379 BK380 BK396 BK403 HI384 HB hHeld ⊢
  refine pure_ (i := 0) (N := some 37) (v := ?_) (a' := ?_) #[true, false, false, false, false, false] rfl rfl (by kernel_rfl) (fun _ _ _ h => h) (Or.inl ⟨by rfl, ?_⟩) ?_ ?_
  rotate_left
  ·exact aI
  rotate_left
  ·exact aP
  refine pure_ (i := 3) (N := some 2) (v := ?_) (a' := ?_) #[true, false, false, true, false, false] rfl rfl (by kernel_rfl) (fun _ _ _ h => h) (Or.inl ⟨by rfl, ?_⟩) ?_ ?_
  rotate_left
  ·exact aI
  rotate_left
  ·exact aP
  refine take_ (i := 1) (N := some 38) (v := ?_) (a' := ?_) #[true, true, false, true, false, false] rfl rfl (by kernel_rfl) (fun _ _ _ h => h) (Or.inl ⟨by rfl, ?_⟩) hHeld ?_ ?_
  rotate_left
  ·rintro w' ⟨s0, s1, s2, s3⟩
   go_simp
   with_reducible rfl
  rotate_left
  ·exact aP
  refine take_ (i := 2) (N := some 39) (v := ?_) (a' := ?_) #[true, true, true, true, false, false] rfl rfl (by kernel_rfl) (fun _ _ _ h => h) (Or.inl ⟨by rfl, ?_⟩) hHeld ?_ ?_
  rotate_left
  ·rintro w' ⟨s0, s1, s2, s3⟩
   go_simp
   with_reducible rfl
  rotate_left
  ·exact aP
  refine one_ (i := 4) (N := none) #[true, true, true, true, true, false] rfl rfl (by kernel_rfl) (by decide) (fun K hK => ?_)
  have hs74 : w73.cell? ⟨gb379, 0, none⟩ = some (.int .i64 0) := (blk_cell BK379.out 0).trans rfl
  have hfs74 := blk_frozen BK379.out 0
  have hns74_1 := NB380_379.out
  have hns74_2 := NB396_379.out
  have hns74_3 := NB403_379.out
  have hms74_1 := NB379_380.out
  have hms74_2 := NB379_396.out
  have hms74_3 := NB379_403.out
  have hs75 : w73.cell? ⟨gb379, 1, none⟩ = some (.slice none 0 0) := (blk_cell BK379.out 1).trans rfl
  have hfs75 := blk_frozen BK379.out 1
  have hns75_1 := NB380_379.out
  have hns75_2 := NB396_379.out
  have hns75_3 := NB403_379.out
  have hms75_1 := NB379_380.out
  have hms75_2 := NB379_396.out
  have hms75_3 := NB379_403.out
  refine skip_ (w1 := ?_) (by rfl) rfl ?_ ?_
  rotate_left
  ·go_simp
   rfl
  refine hK.out _ _ ⟨((cell_far (p := ⟨gb379, _, none⟩) NB396_379.out _).trans (((cell_far (p := ⟨gb379, _, none⟩) NB396_379.out _).trans (hHeld.1)))), ((cell_far (p := ⟨gb379, _, none⟩) NB396_379.out _).trans (((cell_far (p := ⟨gb379, _, none⟩) NB396_379.out _).trans (hHeld.2.1)))), ((cell_far (p := ⟨gb379, _, none⟩) NB403_379.out _).trans (((cell_far (p := ⟨gb379, _, none⟩) NB403_379.out _).trans (hHeld.2.2.1)))), ((cell_far (p := ⟨gb379, _, none⟩) NB403_379.out _).trans (((cell_far (p := ⟨gb379, _, none⟩) NB403_379.out _).trans (hHeld.2.2.2))))⟩ (fun hHeld => ?_)
  clear hK K
  refine one_ (i := 5) (N := none) #[true, true, true, true, true, true] rfl rfl (by kernel_rfl) (by decide) (fun K hK => ?_)
  have hs76 : w73.cell? ⟨gb380, 0, none⟩ = some (.int .i64 0) := (blk_cell BK380.out 0).trans rfl
  have hfs76 := blk_frozen BK380.out 0
  have hns76_0 := NB379_380.out
  have hns76_2 := NB396_380.out
  have hns76_3 := NB403_380.out
  have hms76_0 := NB380_379.out
  have hms76_2 := NB380_396.out
  have hms76_3 := NB380_403.out
  have hs77 : w73.cell? ⟨gb380, 1, none⟩ = some (.slice none 0 0) := (blk_cell BK380.out 1).trans rfl
  have hfs77 := blk_frozen BK380.out 1
  have hns77_0 := NB379_380.out
  have hns77_2 := NB396_380.out
  have hns77_3 := NB403_380.out
  have hms77_0 := NB380_379.out
  have hms77_2 := NB380_396.out
  have hms77_3 := NB380_403.out
  refine skip_ (w1 := ?_) (by rfl) rfl ?_ ?_
  rotate_left
  ·go_simp
   rfl
  refine hK.out _ _ ⟨((cell_far (p := ⟨gb380, _, none⟩) NB396_380.out _).trans (((cell_far (p := ⟨gb380, _, none⟩) NB396_380.out _).trans (hHeld.1)))), ((cell_far (p := ⟨gb380, _, none⟩) NB396_380.out _).trans (((cell_far (p := ⟨gb380, _, none⟩) NB396_380.out _).trans (hHeld.2.1)))), ((cell_far (p := ⟨gb380, _, none⟩) NB403_380.out _).trans (((cell_far (p := ⟨gb380, _, none⟩) NB403_380.out _).trans (hHeld.2.2.1)))), ((cell_far (p := ⟨gb380, _, none⟩) NB403_380.out _).trans (((cell_far (p := ⟨gb380, _, none⟩) NB403_380.out _).trans (hHeld.2.2.2))))⟩ (fun hHeld => ?_)
  clear hK K
  refine done_ (by kernel_rfl) ?_
  try go_wp2
  refine bodyPost_ret (results_list (rs := [.tmp 2, .cell 3 39, .cell 4 39]) rfl (by simp) (.tmp (.cell gb379 39 #[.int .i64 t390, .slice Ao63 t391.length co63] (0, 0) _ rfl (by (with_reducible repeat refine pB ?_); refine blk_far ?_ NB379_380.out _; (with_reducible repeat refine pB ?_); refine blk_far ?_ NB379_380.out _; (with_reducible repeat refine pB ?_); refine blk_put (cs := #[.int .i64 t390, .slice none 0 0]) ?_ 1 _ rfl; (with_reducible repeat refine pB ?_); refine blk_put (cs := #[.int .i64 0, .slice none 0 0]) ?_ 0 _ rfl; (with_reducible repeat refine pB ?_); exact BK379.out) Tryd.underlying39 rfl (by kernel_rfl) (.cell gb380 39 #[.int .i64 t397, .slice Ao71 t398.length co71] (0, 0) _ rfl (by (with_reducible repeat refine pB ?_); refine blk_put (cs := #[.int .i64 t397, .slice none 0 0]) ?_ 1 _ rfl; (with_reducible repeat refine pB ?_); refine blk_put (cs := #[.int .i64 0, .slice none 0 0]) ?_ 0 _ rfl; (with_reducible repeat refine pB ?_); refine blk_far ?_ NB380_379.out _; (with_reducible repeat refine pB ?_); refine blk_far ?_ NB380_379.out _; (with_reducible repeat refine pB ?_); exact BK380.out) Tryd.underlying39 rfl (by kernel_rfl) .nil)))) rfl ?_
  exact ⟨_, _, _, aE, by (with_reducible repeat apply pR); exact Kd.R_mono (Kd.R_far (p := ⟨gb380, 1, none⟩) (Kd.R_far (p := ⟨gb380, 0, none⟩) (Kd.R_far (p := ⟨gb379, 1, none⟩) (Kd.R_far (p := ⟨gb379, 0, none⟩) (Kd.R_types (Kd.R_types HO387.out BK379.out (by decide)) BK380.out (by decide)) (fun _ hk => hk.1.2) (.int .i64 t390)) (fun _ hk => hk.1.2) (.slice Ao63 t391.length co63)) (fun _ hk => hk.2) (.int .i64 t397)) (fun _ hk => hk.2) (.slice Ao71 t398.length co71)) (fun _ hk => trivial), by (with_reducible repeat apply pR); exact Kd.R_mono (Kd.R_far (p := ⟨gb380, 1, none⟩) (Kd.R_far (p := ⟨gb380, 0, none⟩) (Kd.R_far (p := ⟨gb379, 1, none⟩) (Kd.R_far (p := ⟨gb379, 0, none⟩) (Kd.R_types (Kd.R_types HO393.out BK379.out (by decide)) BK380.out (by decide)) (fun _ hk => hk.1.2) (.int .i64 t390)) (fun _ hk => hk.1.2) (.slice Ao63 t391.length co63)) (fun _ hk => hk.2) (.int .i64 t397)) (fun _ hk => hk.2) (.slice Ao71 t398.length co71)) (fun _ hk => hk.1.1.2), by (with_reducible repeat apply pR); exact Kd.R_mono (Kd.R_far (p := ⟨gb380, 1, none⟩) (Kd.R_far (p := ⟨gb380, 0, none⟩) (Kd.R_far (p := ⟨gb379, 1, none⟩) (Kd.R_far (p := ⟨gb379, 0, none⟩) (Kd.R_types (Kd.R_types HO400.out BK379.out (by decide)) BK380.out (by decide)) (fun _ hk => hk.1.2) (.int .i64 t390)) (fun _ hk => hk.1.2) (.slice Ao63 t391.length co63)) (fun _ hk => hk.2) (.int .i64 t397)) (fun _ hk => hk.2) (.slice Ao71 t398.length co71)) (fun _ hk => hk.1.1.2), by repeat (first | (with_reducible first | exact HB.out | apply below_alloc | apply pw_below_drewN | apply below_drew1 | refine below_set ?_ (IsS117.ge HI384.out) | refine below_set ?_ GE379.out | refine below_set ?_ GE380.out | refine below_set ?_ GE396.out | refine below_set ?_ GE403.out) | exact HB.out)⟩

/-! ### impl_compare: function 65 -/
def impl_compare.f (a0 : Int) (a1 : Int) : Option (Int) := if a0 < a1 then (some (-1)) else (if a0 > a1 then (some 1) else (some 0))
set_option maxHeartbeats 8000000 in
set_option maxRecDepth 100000 in
theorem impl_compare.calls (a0 : Int) (a1 : Int) (r : Int) (w : World) (h : impl_compare.f a0 a1 = some r) :
  Calls Tryd.prog 65 #[.int .i64 a0, .int .i64 a1] w fun e w' => e = .returned (.int .i64 r) ∧ Drawn0 w w' := by
 unfold impl_compare.f at h
 replace h := il h; rcases h with ⟨c0, c0a, h⟩ | ⟨c0, c0a, h⟩
 obtain rfl := si h
 rotate_left
 replace h := ig h; rcases h with ⟨c1, c1a, h⟩ | ⟨c1, c1a, h⟩
 obtain rfl := si h
 rotate_left
 obtain rfl := si h
 rotate_left
 all_goals (go_enter Tryd.func65, Tryd.ntmps65; go_wp2; go_ret; exact zE zD)

/-! ### cmp_isNaN_int: function 106 -/
def cmp_isNaN_int.f (a0 : Int) : Option (Bool) := some (a0 != a0)
set_option maxHeartbeats 8000000 in
set_option maxRecDepth 100000 in
theorem cmp_isNaN_int.calls (a0 : Int) (r : Bool) (w : World) (h : cmp_isNaN_int.f a0 = some r) :
  Calls Tryd.prog 106 #[.int .i64 a0] w fun e w' => e = .returned (.bool r) ∧ Drawn0 w w' := by
 unfold cmp_isNaN_int.f at h
 obtain rfl := si h
 rotate_left
 all_goals (go_enter Tryd.func106, Tryd.ntmps106; go_wp2; go_ret; exact zE zD)

/-! ### cmp_Compare_int: function 96 -/
def cmp_Compare_int.f (a0 : Int) (a1 : Int) : Option (Int) := (cmp_isNaN_int.f a0).bind fun t417 => ((cmp_isNaN_int.f a1).bind fun t418 => (if t417 = true then (if t418 = true then (some 0) else (some (-1))) else (if t418 = true then (some 1) else (if a0 < a1 then (some (-1)) else (if a0 > a1 then (some 1) else (some 0))))))
set_option maxHeartbeats 8000000 in
set_option maxRecDepth 100000 in
theorem cmp_Compare_int.calls (a0 : Int) (a1 : Int) (r : Int) (w : World) (h : cmp_Compare_int.f a0 a1 = some r) :
  Calls Tryd.prog 96 #[.int .i64 a0, .int .i64 a1] w fun e w' => e = .returned (.int .i64 r) ∧ Drawn0 w w' := by
 unfold cmp_Compare_int.f at h
 replace h := bs h; obtain ⟨t417, B0, h⟩ := h
 replace h := bs h; obtain ⟨t418, B1, h⟩ := h
 replace h := ib h; rcases h with ⟨rfl, h⟩ | ⟨rfl, h⟩
 replace h := ib h; rcases h with ⟨rfl, h⟩ | ⟨rfl, h⟩
 obtain rfl := si h
 rotate_left
 obtain rfl := si h
 rotate_left
 replace h := ib h; rcases h with ⟨rfl, h⟩ | ⟨rfl, h⟩
 obtain rfl := si h
 rotate_left
 replace h := il h; rcases h with ⟨c5, c5a, h⟩ | ⟨c5, c5a, h⟩
 obtain rfl := si h
 rotate_left
 replace h := ig h; rcases h with ⟨c6, c6a, h⟩ | ⟨c6, c6a, h⟩
 obtain rfl := si h
 rotate_left
 obtain rfl := si h
 rotate_left
 all_goals (go_enter Tryd.func96, Tryd.ntmps96; go_wp2_with (first | (go_at_call 106; refine (cmp_isNaN_int.calls _ ?_ _ ?h).mono ?_; (case h => exact zA); rintro e w1 ⟨rfl, hb⟩; have hd := hb; replace hb := hb.below; replace hb := aM hb; have HB : Below w.heap.size w w1 := zB)); go_ret; exact zE zD)

/-! ### slices_Compare_int_int: function 66 -/
def slices_Compare_int_int.l0 : Nat → List Int → List Int → List Int → Int → Int → Option (Int)
 | 0, _, _, _, _, _ => none
 | k + 1, x0, x1, x9, x10, x11 => if x11 < x10 then (if 0 ≤ x11 then (if x11 < (x9.length : Int) then (if x11 ≥ (x1.length : Int) then (some 1) else (if x11 < (x1.length : Int) then ((cmp_Compare_int.f (rd x9 x11) (rd x1 x11)).bind fun t421 => (if t421 = 0 then (slices_Compare_int_int.l0 k x0 x1 x9 x10 (wrap64 (x11 + 1))) else (some t421))) else (none))) else (none)) else (none)) else (if (x0.length : Int) < (x1.length : Int) then (some (-1)) else (some 0))
def slices_Compare_int_int.f (k : Nat) (l0 : List Int) (l1 : List Int) : Option (Int) := slices_Compare_int_int.l0 k l0 l1 l0 (l0.length : Int) 0
set_option maxHeartbeats 8000000 in
set_option maxRecDepth 100000 in
theorem slices_Compare_int_int.calls (k : Nat) (A0 : Option Addr) (c0 : Nat) (l0 : List Int) (A1 : Option Addr) (c1 : Nat) (l1 : List Int) (r : Int) (w : World) (hr0 : Kd.C (Kd.int .i64) w A0 l0.length l0) (hc0 : l0.length ≤ c0) (hr1 : Kd.C (Kd.int .i64) w A1 l1.length l1) (hc1 : l1.length ≤ c1) (h : slices_Compare_int_int.f k l0 l1 = some r) :
  Calls Tryd.prog 66 #[.slice A0 l0.length c0, .slice A1 l1.length c1] w fun e w' => e = .returned (.int .i64 r) ∧ Drawn0 w w' := by
 unfold slices_Compare_int_int.f at h
 ·go_enter Tryd.func66, Tryd.ntmps66
  go_wp2_with (first | (go_at_call 96; refine (cmp_Compare_int.calls _ _ ?_ _ ?h).mono ?_; (case h => exact zA); rintro e w1 ⟨rfl, hb⟩; have hd := hb; replace hb := hb.below; replace hb := aM hb; have HB : Below w.heap.size w w1 := zB))
  go_loopg [11] k (fun kq v11 w' => ∃ (x11_0 : Int), v11 = .int .i64 x11_0 ∧ slices_Compare_int_int.l0 kq l0 l1 l0 (l0.length : Int) x11_0 = some r ∧ Drawn0 w w')
  case atStart => exact ⟨_, zR, zA, zD⟩
  case round =>
   clear h
   obtain ⟨x11_0, rfl, h, hb⟩ := hrel
   have hd := hb
   replace hb := hb.below
   replace hb := aM hb
   have HB : Below w.heap.size w wr := zB
   rcases gk with _ | kk0
   exact absurd h (by simp [slices_Compare_int_int.l0])
   simp only [slices_Compare_int_int.l0] at h
   replace h := il h; rcases h with ⟨c1, c1a, h⟩ | ⟨c1, c1a, h⟩
   replace h := ie h; rcases h with ⟨c2, c2a, h⟩ | ⟨c2, c2a, h⟩
   replace h := il h; rcases h with ⟨c3, c3a, h⟩ | ⟨c3, c3a, h⟩
   replace h := ih h; rcases h with ⟨c4, c4a, h⟩ | ⟨c4, c4a, h⟩
   obtain rfl := si h
   obtain ⟨ad419, e419, hx419_0⟩ := Kd.at_int hr0 (x11_0 : Int) aD aD
   have p419 := eq_true (aD : 0 ≤ (x11_0 : Int))
   have q419 := eq_true (aD : x11_0 < (l0.length : Int))
   cases e419
   replace hx419_0 := qa hx419_0
   rotate_left
   replace h := il h; rcases h with ⟨c5, c5a, h⟩ | ⟨c5, c5a, h⟩
   replace h := bs h; obtain ⟨t421, B6, h⟩ := h
   replace h := iq h; rcases h with ⟨c7, ⟨c7a, c7b⟩, h⟩ | ⟨c7, ⟨c7a, c7b⟩, h⟩
   obtain ⟨kf, hkf⟩ : ∃ kf, kf = kk0 := ⟨_, rfl⟩; rw [← hkf] at h
   obtain ⟨ad419, e419, hx419_0⟩ := Kd.at_int hr0 (x11_0 : Int) aD aD
   have p419 := eq_true (aD : 0 ≤ (x11_0 : Int))
   have q419 := eq_true (aD : x11_0 < (l0.length : Int))
   cases e419
   replace hx419_0 := qa hx419_0
   obtain ⟨ad420, e420, hx420_0⟩ := Kd.at_int hr1 (x11_0 : Int) aD aD
   have p420 := eq_true (aD : 0 ≤ (x11_0 : Int))
   have q420 := eq_true (aD : x11_0 < (l1.length : Int))
   cases e420
   replace hx420_0 := qa hx420_0
   rotate_left
   obtain rfl := si h
   obtain ⟨ad419, e419, hx419_0⟩ := Kd.at_int hr0 (x11_0 : Int) aD aD
   have p419 := eq_true (aD : 0 ≤ (x11_0 : Int))
   have q419 := eq_true (aD : x11_0 < (l0.length : Int))
   cases e419
   replace hx419_0 := qa hx419_0
   obtain ⟨ad420, e420, hx420_0⟩ := Kd.at_int hr1 (x11_0 : Int) aD aD
   have p420 := eq_true (aD : 0 ≤ (x11_0 : Int))
   have q420 := eq_true (aD : x11_0 < (l1.length : Int))
   cases e420
   replace hx420_0 := qa hx420_0
   rotate_left
   exact absurd h (by simp)
   exact absurd h (by simp)
   exact absurd h (by simp)
   replace h := il h; rcases h with ⟨c8, c8a, h⟩ | ⟨c8, c8a, h⟩
   have cz := c8.out
   have c8x1 : decide (l0.length < l1.length) = true := decide_eq_true (Int.ofNat_lt.mp cz)
   clear cz
   obtain rfl := si h
   rotate_left
   have cz := c8.out
   have c8x1 : decide (l0.length < l1.length) = false := decide_eq_false (fun h => cz (Int.ofNat_lt.mpr h))
   clear cz
   obtain rfl := si h
   rotate_left
   all_goals (go_wp2_with (first | (go_at_call 96; refine (cmp_Compare_int.calls _ _ ?_ _ ?h).mono ?_; (case h => exact zA); rintro e w1 ⟨rfl, hb⟩; have hd := hb; replace hb := hb.below; replace hb := aM hb; have HB : Below w.heap.size w w1 := zB)); first | (go_ret; exact zE zD) | (go_roundg kf; (case measure => omega); (case rel => exact ⟨_, zR, zA, zD⟩)))

end Go.Proofs.YtckpikfbhlhhjaaDoor.PFnFactFormat
