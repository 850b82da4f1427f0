import Derived.Test.YteddnlklfjpgoaaPFnInsertDeletex0
import Derived.Test.YteddnlklfjpgoaaPFnInsertDeletex12
import Derived.Test.YteddnlklfjpgoaaPFnInsertDeletex13
namespace Go.Proofs.Yteddnlklfjpgoaa.PFnInsertDelete
open Go.RowKit Go.Proofs.YteddnlklfjpgoaaW.PrintWords Go.Proofs.YteddnlklfjpgoaaW.PrintLast Go.Proofs.YteddnlklfjpgoaaW.PrintMore
attribute [local go_sem] max2_int min2_int max_two min_two max_three min_three max_four min_four
set_option linter.unusedVariables false
set_option linter.unusedSimpArgs false

/-! ### spec_l3Any: function 84 -/
def spec_l3Any.f (k : Nat) (s0_0 : List Int) (s0_1 : Int) (s0_2 : Int) (l1 : List (S74)) : Option (Int × List Int × Int × Int) := (spec_l3Fact.f k s0_0 s0_1 s0_2 l1 4).bind fun bt386 => ((spec_l1Below.f s0_0 bt386.2.2.1 bt386.2.2.2 10).bind fun bt393 => (if bt393.1 = 0 then ((spec_l1Below.f s0_0 bt393.2.1 bt393.2.2 6).bind fun bt396 => (some (wrap64 (bt396.1 - 1), bt386.2.1, bt396.2.1, bt396.2.2))) else (if bt393.1 = 1 then (if bt386.2.1.length < 17592186044416 then (some (bt386.1, (bt386.2.1 ++ [1]), bt393.2.1, bt393.2.2)) else (none)) else (if bt393.1 = 2 then ((spec_l1PickInt.f s0_0 bt393.2.1 bt393.2.2 (([(-1), 10, 9] : List Int))).bind fun bt405 => (if 0 < (bt386.2.1.length : Int) then (some (bt386.1, (bt386.2.1.set (0 : Int).toNat bt405.1), bt405.2.1, bt405.2.2)) else (none))) else (some (bt386.1, bt386.2.1, bt393.2.1, bt393.2.2))))))
set_option maxHeartbeats 8000000 in
set_option maxRecDepth 100000 in
theorem spec_l3Any.calls (k : Nat) (g : Nat) (s0_0 : List Int) (s0_1 : Int) (s0_2 : Int) (A1 : Option Addr) (c1 : Nat) (l1 : List (S74)) (r1 : Int) (r2 : List Int) (r3 : Int) (r4 : Int) (w0 w : World) (hI : IsS95 w0 w g s0_0 s0_1 s0_2) (hB : Below w0.heap.size w0 w) (hr1 : ∀ W_, KeepBut w W_ g none → Kd.C k74 W_ A1 l1.length l1) (hc1 : l1.length ≤ c1) (h : spec_l3Any.f k s0_0 s0_1 s0_2 l1 = some (r1, r2, r3, r4)) :
  Calls Try.prog 84 #[.pointer (some ⟨g, 0, none⟩), .slice A1 l1.length c1] w fun e w' => ∃ v1_ : Value, e = .returned (.agg #[.int .i64 r1, v1_]) ∧ Kd.R (Kd.int .i64) 3 w' w.heap.size (fun _ => True) v1_ r2 ∧ IsS95 w0 w' g s0_0 r3 r4 ∧ Below w0.heap.size w0 w' ∧ KeepBut w w' g none := by
 have hu45 := Try.underlying45
 have HR1 := aM hr1
 have HC1 := aM hc1
 clear hr1 hc1
 have HI0 := aM hI
 have HK := aM (KeepBut.refl w g none)
 have HL := aM hB.size
 clear hI
 have HW0 := aM hB.size
 have HB := aM hB
 clear hB
 have H : ((spec_l3Fact.f k s0_0 s0_1 s0_2 l1 4).bind fun bt386 => ((spec_l1Below.f s0_0 bt386.2.2.1 bt386.2.2.2 10).bind fun bt393 => (if bt393.1 = 0 then ((spec_l1Below.f s0_0 bt393.2.1 bt393.2.2 6).bind fun bt396 => (some (wrap64 (bt396.1 - 1), bt386.2.1, bt396.2.1, bt396.2.2))) else (if bt393.1 = 1 then (if bt386.2.1.length < 17592186044416 then (some (bt386.1, (bt386.2.1 ++ [1]), bt393.2.1, bt393.2.2)) else (none)) else (if bt393.1 = 2 then ((spec_l1PickInt.f s0_0 bt393.2.1 bt393.2.2 (([(-1), 10, 9] : List Int))).bind fun bt405 => (if 0 < (bt386.2.1.length : Int) then (some (bt386.1, (bt386.2.1.set (0 : Int).toNat bt405.1), bt405.2.1, bt405.2.2)) else (none))) else (some (bt386.1, bt386.2.1, bt393.2.1, bt393.2.2))))))) = some (r1, r2, r3, r4) := h
 clear h
 replace H := bM H
 obtain ⟨⟨t386, t387, t390, t391⟩, A30, H⟩ := H
 dsimp only at H
 have A3 := aM A30
 clear A30
 replace H := bM H
 obtain ⟨⟨t393, t394, t395⟩, A40, H⟩ := H
 dsimp only at H
 have A4 := aM A40
 clear A40
 by_cases c5 : t393 = 0
 ·rw [if_pos c5] at H
  have c5b0 : (t393 == 0) = true := beq_iff_eq.mpr c5
  have c5b1 : (t393 != 0) = false := bne_eq_false_iff_eq.mpr c5
  clear c5
  replace H := bM H
  obtain ⟨⟨t396, t397, t398⟩, A60, H⟩ := H
  dsimp only at H
  have A6 := aM A60
  clear A60
  simp only [Option.some.injEq, Prod.mk.injEq] at H
  obtain ⟨rfl, rfl, rfl, rfl⟩ := H
  go_enter Try.func84, Try.ntmps84
  go_wp2_with (first | ((with_reducible refine gate_dst (N := 4) rfl ?_); refine bE 4 (cs := #[.int .i64 0, .slice none 0 0]) (t := 45) ?_; intro gb385 hg w7 hbox hb; have BK385 := aM (hbox); have GW385 := aM ((by rw [hg]; exact (kS (w := w) (g := g)) : w.heap.size ≤ gb385)); have GE385 := aM ((Nat.le_trans HW0.out (by rw [hg]; exact (kS (w := w) (g := g)) : w.heap.size ≤ gb385) : w0.heap.size ≤ gb385)); have NB0_385 := aM ((by rw [hg]; exact Nat.ne_of_lt (IsS95.lt (show IsS95 w0 _ g s0_0 s0_1 s0_2 from aZ)) : g ≠ gb385)); have NB385_0 := aM ((by rw [hg]; exact Nat.ne_of_gt (IsS95.lt (show IsS95 w0 _ g s0_0 s0_1 s0_2 from aZ)) : gb385 ≠ g)); replace HK := aM (KeepBut.trans aQ (KeepBut.of_below hb g none) (.inl rfl)); replace HB := aM (below_step aY hb); replace HI0 := aM (IsS95.below aZ hb); clear hb hbox hg) | ((with_reducible refine gate_callee (f := 92) rfl ?_); refine goesL_ (some 8) rfl rfl Try.func92 (by kernel_rfl) rfl #[.pointer (some ⟨g, 0, none⟩), .slice A1 l1.length c1, .int .i64 4] rfl aA ?_; (with_reducible refine (spec_l3Fact.calls k g s0_0 s0_1 s0_2 _ _ l1 4 t386 t387 t390 t391 w0 _ ?side1 ?side2 ?side3 ?side4 A3.out).mono ?_); (case side1 => exact aZ); (case side2 => exact aY); (case side3 => exact Kd.C_foot_step HR1.out aQ); (case side4 => exact HC1.out); rintro e w8 ⟨v388, rfl, ho0, hi, hb, hk⟩; refine ⟨_, rfl, ?_⟩; have HO389 := aM (Kd.R_lower ho0 (kS (w := w) (g := g))); replace BK385 := aM (KeepBut.blk hk (g' := gb385) aK NB385_0.out (by simp)); replace HK := aM (KeepBut.trans aQ hk (.inl rfl)); replace HB := aM (hb); replace HI0 := aM (hi); (try clear hb); (try clear hb2); (try clear hk); (try clear hi); (try clear ho0)) | ((with_reducible refine gate_dst (N := 5) rfl ?_); refine bE 5 (cs := #[.int .i64 0, .slice none 0 0]) (t := 45) ?_; intro gb392 hg w9 hbox hb; have BK392 := aM (hbox); have GW392 := aM ((by rw [hg]; exact (kS (w := w) (g := g)) : w.heap.size ≤ gb392)); have GE392 := aM ((Nat.le_trans HW0.out (by rw [hg]; exact (kS (w := w) (g := g)) : w.heap.size ≤ gb392) : w0.heap.size ≤ gb392)); have NB385_392 := aM ((by rw [hg]; exact Nat.ne_of_lt (blk_lt (g := gb385) aK) : gb385 ≠ gb392)); have NB392_385 := aM ((by rw [hg]; exact Nat.ne_of_gt (blk_lt (g := gb385) aK) : gb392 ≠ gb385)); have NB0_392 := aM ((by rw [hg]; exact Nat.ne_of_lt (IsS95.lt (show IsS95 w0 _ g s0_0 t390 t391 from aZ)) : g ≠ gb392)); have NB392_0 := aM ((by rw [hg]; exact Nat.ne_of_gt (IsS95.lt (show IsS95 w0 _ g s0_0 t390 t391 from aZ)) : gb392 ≠ g)); replace HO389 := aM (Kd.R_below (aR HO389) hb); replace BK385 := aM (kB gb385 #[.int .i64 0, .slice none 0 0] 45 hb); replace HK := aM (KeepBut.trans aQ (KeepBut.of_below hb g none) (.inl rfl)); replace HB := aM (below_step aY hb); replace HI0 := aM (IsS95.below aZ hb); clear hb hbox hg; have hnb10 := NB392_385.out; have hnc10 := NB385_392.out; have hnb11 := NB392_0.out; have hnc11 := NB0_392.out; have hcz12_0 : w9.cell? ⟨gb392, 0, none⟩ = some (.int .i64 0) := (blk_cell BK392.out 0).trans rfl; have hcz12_1 : w9.cell? ⟨gb392, 1, none⟩ = some (.slice none 0 0) := (blk_cell BK392.out 1).trans rfl; have hfz12_0 := blk_frozen BK392.out 0; have hfz12_1 := blk_frozen BK392.out 1; obtain ⟨Ao13, co13, eo13⟩ := Kd.R_slice HO389.out; subst eo13) | ((with_reducible refine gate_callee (f := 83) rfl ?_); refine goesL_ (some 10) rfl rfl Try.func83 (by kernel_rfl) rfl #[.pointer (some ⟨g, 0, none⟩), .int .i64 10] rfl aA ?_; (with_reducible refine (spec_l1Below.calls g s0_0 t390 t391 10 t393 t394 t395 w0 _ ?side1 ?side2 A4.out).mono ?_); (case side1 => exact aZ); (case side2 => exact aY); rintro e w14 ⟨rfl, hi, hb, hk⟩; refine ⟨_, rfl, ?_⟩; replace BK385 := aM (KeepBut.blk hk (g' := gb385) (bF2 NB385_392.out BK385.out) NB385_0.out (by simp)); replace HO389 := aM (Kd.R_mono (Kd.R_keep (IsS95.apart (show IsS95 w0 _ g s0_0 t390 t391 from aZ) (by (with_reducible repeat apply pR); exact (rF1 HO389.out BK392.out (.int .i64 t386) (.slice Ao13 t387.length co13))) (by decide)) hk (fun _ h => h.2)) (fun _ h => h.1)); replace BK392 := aM (KeepBut.blk hk (g' := gb392) (bP2 BK392.out) NB392_0.out (by simp)); replace HK := aM (KeepBut.trans aQ hk (.inl rfl)); replace HB := aM (hb); replace HI0 := aM (hi); (try clear hb); (try clear hb2); (try clear hk); (try clear hi)) | ((with_reducible refine gate_callee (f := 83) rfl ?_); refine goesL_ (some 14) rfl rfl Try.func83 (by kernel_rfl) rfl #[.pointer (some ⟨g, 0, none⟩), .int .i64 6] rfl aA ?_; (with_reducible refine (spec_l1Below.calls g s0_0 t394 t395 6 t396 t397 t398 w0 _ ?side1 ?side2 A6.out).mono ?_); (case side1 => exact aZ); (case side2 => exact aY); rintro e w15 ⟨rfl, hi, hb, hk⟩; refine ⟨_, rfl, ?_⟩; have n0_ := aM (KeepBut.blk hk (g' := gb385) aK NB385_0.out (by simp)); have n1_ := aM (Kd.R_mono (Kd.R_keep (IsS95.apart (show IsS95 w0 _ g s0_0 t394 t395 from aZ) (aR HO389) (by decide)) hk (fun _ h => h.2)) (fun _ h => h.1)); have n2_ := aM (KeepBut.blk hk (g' := gb392) aK NB392_0.out (by simp)); have n3_ := aM (KeepBut.trans aQ hk (.inl rfl)); have n4_ := aM (hb); have n5_ := aM (hi); clear BK385; clear HO389; clear BK392; clear HK; clear HB; clear HI0; have BK385 := n0_; have HO389 := n1_; have BK392 := n2_; have HK := n3_; have HB := n4_; have HI0 := n5_; clear n0_ n1_ n2_ n3_ n4_ n5_; (try clear hb); (try clear hb2); (try clear hk); (try clear hi); have hcz16_0 : w15.cell? ⟨gb392, 0, none⟩ = some (.int .i64 t386) := (blk_cell BK392.out 0).trans rfl; have hcz16_1 : w15.cell? ⟨gb392, 1, none⟩ = some (.slice Ao13 t387.length co13) := (blk_cell BK392.out 1).trans rfl; have hfz16_0 := blk_frozen BK392.out 0; have hfz16_1 := blk_frozen BK392.out 1; have hnb17 := NB385_0.out; have hnc17 := NB0_385.out; have hcz18_0 : w15.cell? ⟨gb385, 0, none⟩ = some (.int .i64 0) := (blk_cell BK385.out 0).trans rfl; have hcz18_1 : w15.cell? ⟨gb385, 1, none⟩ = some (.slice none 0 0) := (blk_cell BK385.out 1).trans rfl; have hfz18_0 := blk_frozen BK385.out 0; have hfz18_1 := blk_frozen BK385.out 1))
  refine bodyPost_ret (results_cell_row rfl _ _ gb385 45 #[.int .i64 (wrap64 (t396 - 1)), .slice Ao13 t387.length co13] (0, 0) _ rfl (by (with_reducible repeat refine pB ?_); refine blk_put (cs := #[.int .i64 (wrap64 (t396 - 1)), .slice none 0 0]) ?_ 1 _ rfl; (with_reducible repeat refine pB ?_); refine blk_put (cs := #[.int .i64 0, .slice none 0 0]) ?_ 0 _ rfl; (with_reducible repeat refine pB ?_); refine blk_far ?_ NB385_392.out _; (with_reducible repeat refine pB ?_); exact BK385.out) Try.underlying45 rfl (by kernel_rfl)) rfl ?_
  exact ⟨_, aE, by (with_reducible repeat apply pR); exact Kd.R_mono (Kd.R_far (p := ⟨gb385, 1, none⟩) (Kd.R_far (p := ⟨gb385, 0, none⟩) (Kd.R_far (p := ⟨gb392, 0, none⟩) (Kd.R_types (Kd.R_types HO389.out BK392.out (by decide)) BK385.out (by decide)) (fun _ hk => hk.1.2) (.int .i64 (wrap64 (t396 - 1)))) (fun _ hk => hk.2) (.int .i64 (wrap64 (t396 - 1)))) (fun _ hk => hk.2) (.slice Ao13 t387.length co13)) (fun _ hk => trivial), aZ, aY, aQ⟩
 ·rw [if_neg c5] at H
  have c5b0 : (t393 == 0) = false := beq_eq_false_iff_ne.mpr c5
  have c5b1 : (t393 != 0) = true := bne_iff_ne.mpr c5
  by_cases c19 : t393 = 1
  ·rw [if_pos c19] at H
   have c19b0 : (t393 == 1) = true := beq_iff_eq.mpr c19
   have c19b1 : (t393 != 1) = false := bne_eq_false_iff_eq.mpr c19
   clear c19
   by_cases c20 : t387.length < 17592186044416
   ·rw [if_pos c20] at H
    have LMc20 := aM c20
    clear c20
    obtain ⟨y399, hy399⟩ : ∃ y_ : List Int, y_ = (t387 ++ [1]) := ⟨_, rfl⟩
    first | replace H := bY hy399 H | rw [← hy399] at H
    have Ny399 := aM hy399
    clear hy399
    simp only [Option.some.injEq, Prod.mk.injEq] at H
    obtain ⟨rfl, rfl, rfl, rfl⟩ := H
    go_enter Try.func84, Try.ntmps84
    go_wp2_with (first | ((with_reducible refine gate_dst (N := 4) rfl ?_); refine bE 4 (cs := #[.int .i64 0, .slice none 0 0]) (t := 45) ?_; intro gb385 hg w21 hbox hb; have BK385 := aM (hbox); have GW385 := aM ((by rw [hg]; exact (kS (w := w) (g := g)) : w.heap.size ≤ gb385)); have GE385 := aM ((Nat.le_trans HW0.out (by rw [hg]; exact (kS (w := w) (g := g)) : w.heap.size ≤ gb385) : w0.heap.size ≤ gb385)); have NB0_385 := aM ((by rw [hg]; exact Nat.ne_of_lt (IsS95.lt (show IsS95 w0 _ g s0_0 s0_1 s0_2 from aZ)) : g ≠ gb385)); have NB385_0 := aM ((by rw [hg]; exact Nat.ne_of_gt (IsS95.lt (show IsS95 w0 _ g s0_0 s0_1 s0_2 from aZ)) : gb385 ≠ g)); replace HK := aM (KeepBut.trans aQ (KeepBut.of_below hb g none) (.inl rfl)); replace HB := aM (below_step aY hb); replace HI0 := aM (IsS95.below aZ hb); clear hb hbox hg) | ((with_reducible refine gate_callee (f := 92) rfl ?_); refine goesL_ (some 8) rfl rfl Try.func92 (by kernel_rfl) rfl #[.pointer (some ⟨g, 0, none⟩), .slice A1 l1.length c1, .int .i64 4] rfl aA ?_; (with_reducible refine (spec_l3Fact.calls k g s0_0 s0_1 s0_2 _ _ l1 4 t386 t387 t390 t391 w0 _ ?side1 ?side2 ?side3 ?side4 A3.out).mono ?_); (case side1 => exact aZ); (case side2 => exact aY); (case side3 => exact Kd.C_foot_step HR1.out aQ); (case side4 => exact HC1.out); rintro e w22 ⟨v388, rfl, ho0, hi, hb, hk⟩; refine ⟨_, rfl, ?_⟩; have HO389 := aM (Kd.R_lower ho0 (kS (w := w) (g := g))); replace BK385 := aM (KeepBut.blk hk (g' := gb385) aK NB385_0.out (by simp)); replace HK := aM (KeepBut.trans aQ hk (.inl rfl)); replace HB := aM (hb); replace HI0 := aM (hi); (try clear hb); (try clear hb2); (try clear hk); (try clear hi); (try clear ho0)) | ((with_reducible refine gate_dst (N := 5) rfl ?_); refine bE 5 (cs := #[.int .i64 0, .slice none 0 0]) (t := 45) ?_; intro gb392 hg w23 hbox hb; have BK392 := aM (hbox); have GW392 := aM ((by rw [hg]; exact (kS (w := w) (g := g)) : w.heap.size ≤ gb392)); have GE392 := aM ((Nat.le_trans HW0.out (by rw [hg]; exact (kS (w := w) (g := g)) : w.heap.size ≤ gb392) : w0.heap.size ≤ gb392)); have NB385_392 := aM ((by rw [hg]; exact Nat.ne_of_lt (blk_lt (g := gb385) aK) : gb385 ≠ gb392)); have NB392_385 := aM ((by rw [hg]; exact Nat.ne_of_gt (blk_lt (g := gb385) aK) : gb392 ≠ gb385)); have NB0_392 := aM ((by rw [hg]; exact Nat.ne_of_lt (IsS95.lt (show IsS95 w0 _ g s0_0 t390 t391 from aZ)) : g ≠ gb392)); have NB392_0 := aM ((by rw [hg]; exact Nat.ne_of_gt (IsS95.lt (show IsS95 w0 _ g s0_0 t390 t391 from aZ)) : gb392 ≠ g)); replace HO389 := aM (Kd.R_below (aR HO389) hb); replace BK385 := aM (kB gb385 #[.int .i64 0, .slice none 0 0] 45 hb); replace HK := aM (KeepBut.trans aQ (KeepBut.of_below hb g none) (.inl rfl)); replace HB := aM (below_step aY hb); replace HI0 := aM (IsS95.below aZ hb); clear hb hbox hg; have hnb24 := NB392_385.out; have hnc24 := NB385_392.out; have hnb25 := NB392_0.out; have hnc25 := NB0_392.out; have hcz26_0 : w23.cell? ⟨gb392, 0, none⟩ = some (.int .i64 0) := (blk_cell BK392.out 0).trans rfl; have hcz26_1 : w23.cell? ⟨gb392, 1, none⟩ = some (.slice none 0 0) := (blk_cell BK392.out 1).trans rfl; have hfz26_0 := blk_frozen BK392.out 0; have hfz26_1 := blk_frozen BK392.out 1; obtain ⟨Ao27, co27, eo27⟩ := Kd.R_slice HO389.out; subst eo27) | ((with_reducible refine gate_callee (f := 83) rfl ?_); refine goesL_ (some 10) rfl rfl Try.func83 (by kernel_rfl) rfl #[.pointer (some ⟨g, 0, none⟩), .int .i64 10] rfl aA ?_; (with_reducible refine (spec_l1Below.calls g s0_0 t390 t391 10 t393 t394 t395 w0 _ ?side1 ?side2 A4.out).mono ?_); (case side1 => exact aZ); (case side2 => exact aY); rintro e w28 ⟨rfl, hi, hb, hk⟩; refine ⟨_, rfl, ?_⟩; replace BK385 := aM (KeepBut.blk hk (g' := gb385) (bF2 NB385_392.out BK385.out) NB385_0.out (by simp)); replace HO389 := aM (Kd.R_mono (Kd.R_keep (IsS95.apart (show IsS95 w0 _ g s0_0 t390 t391 from aZ) (by (with_reducible repeat apply pR); exact (rF1 HO389.out BK392.out (.int .i64 t386) (.slice Ao27 t387.length co27))) (by decide)) hk (fun _ h => h.2)) (fun _ h => h.1)); replace BK392 := aM (KeepBut.blk hk (g' := gb392) (bP2 BK392.out) NB392_0.out (by simp)); replace HK := aM (KeepBut.trans aQ hk (.inl rfl)); replace HB := aM (hb); replace HI0 := aM (hi); (try clear hb); (try clear hb2); (try clear hk); (try clear hi); have hcz29_0 : w28.cell? ⟨gb392, 0, none⟩ = some (.int .i64 t386) := (blk_cell BK392.out 0).trans rfl; have hcz29_1 : w28.cell? ⟨gb392, 1, none⟩ = some (.slice Ao27 t387.length co27) := (blk_cell BK392.out 1).trans rfl; have hfz29_0 := blk_frozen BK392.out 0; have hfz29_1 := blk_frozen BK392.out 1) | ((with_reducible refine gate_builtin (b := .append) (xs := #[.tmp 20, .tmp 21]) rfl ?_); at_builtin; refine Kd.R_append (Kd.int .i64) w.heap.size rfl (.tmp 20) (.tmp 21) 26 3 (.int .i64 0) 8 rfl Try.underlying26 info3 rfl (by decide) (by omega) (.slice Ao27 t387.length co27) t387 1 [.int .i64 1] (fun _ => True) (fun _ => False) rfl rfl ?aP (fun _ hk => hk.elim) ?aF ?aO (Below.refl _ _) ?aS ?aL ?_; (case aP => exact rfl); (case aF => exact (fun _ _ => trivial)); (case aO => exact (aR HO389)); (case aS => exact (kS (w := w) (g := g))); (case aL => have := LMc20.out; omega); intro v400 w30 ho hb hg hat; rw [← Ny399.out] at ho; have n0_ := aM (IsS95.grown aZ hg (IsS95.own_ne HI0.out HO389.out (by decide))); have n1_ := aM (blk_grown (g := gb385) aK hg (Kd.R_ne HO389.out BK385.out (by decide))); have n2_ := aM (blk_grown (g := gb392) aK hg (Kd.R_ne HO389.out BK392.out (by decide))); have n3_ := aM (below_weaken aY HL.out hb); have n4_ := aM (KeepBut.trans aQ (KeepBut.of_grown hg g) (Kd.R_base2 HO389.out)); have n5_ := aM (ho); clear HI0; clear BK385; clear BK392; clear HB; clear HK; clear HO389; have HI0 := n0_; have BK385 := n1_; have BK392 := n2_; have HB := n3_; have HK := n4_; have HO401 := n5_; clear n0_ n1_ n2_ n3_ n4_ n5_; clear ho hb hg hat; obtain ⟨Ao31, co31, eo31⟩ := Kd.R_slice HO401.out; subst eo31; have hcz32_0 : w30.cell? ⟨gb392, 0, none⟩ = some (.int .i64 t386) := (blk_cell BK392.out 0).trans rfl; have hcz32_1 : w30.cell? ⟨gb392, 1, none⟩ = some (.slice Ao27 t387.length co27) := (blk_cell BK392.out 1).trans rfl; have hfz32_0 := blk_frozen BK392.out 0; have hfz32_1 := blk_frozen BK392.out 1; have hnb33 := NB385_0.out; have hnc33 := NB0_385.out; have hcz34_0 : w30.cell? ⟨gb385, 0, none⟩ = some (.int .i64 0) := (blk_cell BK385.out 0).trans rfl; have hcz34_1 : w30.cell? ⟨gb385, 1, none⟩ = some (.slice none 0 0) := (blk_cell BK385.out 1).trans rfl; have hfz34_0 := blk_frozen BK385.out 0; have hfz34_1 := blk_frozen BK385.out 1))
    refine bodyPost_ret (results_cell_row rfl _ _ gb385 45 #[.int .i64 t386, .slice Ao31 y399.length co31] (0, 0) _ rfl (by (with_reducible repeat refine pB ?_); refine blk_put (cs := #[.int .i64 t386, .slice none 0 0]) ?_ 1 _ rfl; (with_reducible repeat refine pB ?_); refine blk_put (cs := #[.int .i64 0, .slice none 0 0]) ?_ 0 _ rfl; (with_reducible repeat refine pB ?_); refine blk_far ?_ NB385_392.out _; (with_reducible repeat refine pB ?_); exact BK385.out) Try.underlying45 rfl (by kernel_rfl)) rfl ?_
    exact ⟨_, aE, by (with_reducible repeat apply pR); exact Kd.R_mono (Kd.R_far (p := ⟨gb385, 1, none⟩) (Kd.R_far (p := ⟨gb385, 0, none⟩) (Kd.R_far (p := ⟨gb392, 1, none⟩) (Kd.R_types (Kd.R_types HO401.out BK392.out (by decide)) BK385.out (by decide)) (fun _ hk => hk.1.2) (.slice Ao31 y399.length co31)) (fun _ hk => hk.2) (.int .i64 t386)) (fun _ hk => hk.2) (.slice Ao31 y399.length co31)) (fun _ hk => trivial), aZ, aY, aQ⟩
   ·rw [if_neg c20] at H
    exact absurd H (by simp)
  ·rw [if_neg c19] at H
   have c19b0 : (t393 == 1) = false := beq_eq_false_iff_ne.mpr c19
   have c19b1 : (t393 != 1) = true := bne_iff_ne.mpr c19
   by_cases c35 : t393 = 2
   ·rw [if_pos c35] at H
    have c35b0 : (t393 == 2) = true := beq_iff_eq.mpr c35
    have c35b1 : (t393 != 2) = false := bne_eq_false_iff_eq.mpr c35
    clear c35
    obtain ⟨y402, hy402⟩ : ∃ y_ : List Int, y_ = (([(-1), 10, 9] : List Int)) := ⟨_, rfl⟩
    first | replace H := bY hy402 H | rw [← hy402] at H
    have Ny402 := aM hy402
    clear hy402
    replace H := bM H
    obtain ⟨⟨t405, t406, t407⟩, A360, H⟩ := H
    dsimp only at H
    have A36 := aM A360
    clear A360
    by_cases c37 : 0 < (t387.length : Int)
    ·rw [if_pos c37] at H
     have c37b0 : decide (0 < (t387.length : Int)) = true := decide_eq_true c37
     have c37b1 : decide (0 < t387.length) = true := decide_eq_true (by omega)
     clear c37
     obtain ⟨y408, hy408⟩ : ∃ y_ : List Int, y_ = (t387.set (0 : Int).toNat t405) := ⟨_, rfl⟩
     first | replace H := bY hy408 H | rw [← hy408] at H
     have Ny408 := aM hy408
     clear hy408
     simp only [Option.some.injEq, Prod.mk.injEq] at H
     obtain ⟨rfl, rfl, rfl, rfl⟩ := H
     go_enter Try.func84, Try.ntmps84
     try go_wp2_with (first | ((with_reducible refine gate_dst (N := 4) rfl ?_); refine bE 4 (cs := #[.int .i64 0, .slice none 0 0]) (t := 45) ?_; intro gb385 hg w39 hbox hb; have BK385 := aM (hbox); have GW385 := aM ((by rw [hg]; exact (kS (w := w) (g := g)) : w.heap.size ≤ gb385)); have GE385 := aM ((Nat.le_trans HW0.out (by rw [hg]; exact (kS (w := w) (g := g)) : w.heap.size ≤ gb385) : w0.heap.size ≤ gb385)); have NB0_385 := aM ((by rw [hg]; exact Nat.ne_of_lt (IsS95.lt (show IsS95 w0 _ g s0_0 s0_1 s0_2 from aZ)) : g ≠ gb385)); have NB385_0 := aM ((by rw [hg]; exact Nat.ne_of_gt (IsS95.lt (show IsS95 w0 _ g s0_0 s0_1 s0_2 from aZ)) : gb385 ≠ g)); replace HK := aM (KeepBut.trans aQ (KeepBut.of_below hb g none) (.inl rfl)); replace HB := aM (below_step aY hb); replace HI0 := aM (IsS95.below aZ hb); clear hb hbox hg) | ((with_reducible refine gate_callee (f := 92) rfl ?_); refine goesL_ (some 8) rfl rfl Try.func92 (by kernel_rfl) rfl #[.pointer (some ⟨g, 0, none⟩), .slice A1 l1.length c1, .int .i64 4] rfl aA ?_; (with_reducible refine (spec_l3Fact.calls k g s0_0 s0_1 s0_2 _ _ l1 4 t386 t387 t390 t391 w0 _ ?side1 ?side2 ?side3 ?side4 A3.out).mono ?_); (case side1 => exact aZ); (case side2 => exact aY); (case side3 => exact Kd.C_foot_step HR1.out aQ); (case side4 => exact HC1.out); rintro e w40 ⟨v388, rfl, ho0, hi, hb, hk⟩; refine ⟨_, rfl, ?_⟩; have HO389 := aM (Kd.R_lower ho0 (kS (w := w) (g := g))); replace BK385 := aM (KeepBut.blk hk (g' := gb385) aK NB385_0.out (by simp)); replace HK := aM (KeepBut.trans aQ hk (.inl rfl)); replace HB := aM (hb); replace HI0 := aM (hi); (try clear hb); (try clear hb2); (try clear hk); (try clear hi); (try clear ho0)) | ((with_reducible refine gate_dst (N := 5) rfl ?_); refine bE 5 (cs := #[.int .i64 0, .slice none 0 0]) (t := 45) ?_; intro gb392 hg w41 hbox hb; have BK392 := aM (hbox); have GW392 := aM ((by rw [hg]; exact (kS (w := w) (g := g)) : w.heap.size ≤ gb392)); have GE392 := aM ((Nat.le_trans HW0.out (by rw [hg]; exact (kS (w := w) (g := g)) : w.heap.size ≤ gb392) : w0.heap.size ≤ gb392)); have NB385_392 := aM ((by rw [hg]; exact Nat.ne_of_lt (blk_lt (g := gb385) aK) : gb385 ≠ gb392)); have NB392_385 := aM ((by rw [hg]; exact Nat.ne_of_gt (blk_lt (g := gb385) aK) : gb392 ≠ gb385)); have NB0_392 := aM ((by rw [hg]; exact Nat.ne_of_lt (IsS95.lt (show IsS95 w0 _ g s0_0 t390 t391 from aZ)) : g ≠ gb392)); have NB392_0 := aM ((by rw [hg]; exact Nat.ne_of_gt (IsS95.lt (show IsS95 w0 _ g s0_0 t390 t391 from aZ)) : gb392 ≠ g)); replace HO389 := aM (Kd.R_below (aR HO389) hb); replace BK385 := aM (kB gb385 #[.int .i64 0, .slice none 0 0] 45 hb); replace HK := aM (KeepBut.trans aQ (KeepBut.of_below hb g none) (.inl rfl)); replace HB := aM (below_step aY hb); replace HI0 := aM (IsS95.below aZ hb); clear hb hbox hg; have hnb42 := NB392_385.out; have hnc42 := NB385_392.out; have hnb43 := NB392_0.out; have hnc43 := NB0_392.out; have hcz44_0 : w41.cell? ⟨gb392, 0, none⟩ = some (.int .i64 0) := (blk_cell BK392.out 0).trans rfl; have hcz44_1 : w41.cell? ⟨gb392, 1, none⟩ = some (.slice none 0 0) := (blk_cell BK392.out 1).trans rfl; have hfz44_0 := blk_frozen BK392.out 0; have hfz44_1 := blk_frozen BK392.out 1; obtain ⟨Ao45, co45, eo45⟩ := Kd.R_slice HO389.out; subst eo45) | ((with_reducible refine gate_callee (f := 83) rfl ?_); refine goesL_ (some 10) rfl rfl Try.func83 (by kernel_rfl) rfl #[.pointer (some ⟨g, 0, none⟩), .int .i64 10] rfl aA ?_; (with_reducible refine (spec_l1Below.calls g s0_0 t390 t391 10 t393 t394 t395 w0 _ ?side1 ?side2 A4.out).mono ?_); (case side1 => exact aZ); (case side2 => exact aY); rintro e w46 ⟨rfl, hi, hb, hk⟩; refine ⟨_, rfl, ?_⟩; replace BK385 := aM (KeepBut.blk hk (g' := gb385) (bF2 NB385_392.out BK385.out) NB385_0.out (by simp)); replace HO389 := aM (Kd.R_mono (Kd.R_keep (IsS95.apart (show IsS95 w0 _ g s0_0 t390 t391 from aZ) (by (with_reducible repeat apply pR); exact (rF1 HO389.out BK392.out (.int .i64 t386) (.slice Ao45 t387.length co45))) (by decide)) hk (fun _ h => h.2)) (fun _ h => h.1)); replace BK392 := aM (KeepBut.blk hk (g' := gb392) (bP2 BK392.out) NB392_0.out (by simp)); replace HK := aM (KeepBut.trans aQ hk (.inl rfl)); replace HB := aM (hb); replace HI0 := aM (hi); (try clear hb); (try clear hb2); (try clear hk); (try clear hi)))
     replace HO389 := aM (Kd.R_drew HO389.out)
     replace BK385 := aM (blk_drew BK385.out)
     replace BK392 := aM (blk_drew BK392.out)
     replace HI0 := aM (IsS95.drew HI0.out)
     replace HK := aM (keep_drew HK.out)
     replace HB := aM (below_drew1 HB.out)
     refine start_ (n := 7) (S := fun w' => w'.cell? ⟨gb392, 0, none⟩ = some (.int .i64 t386) ∧ w'.cell? ⟨gb392, 1, none⟩ = some (.slice Ao45 t387.length co45)) (ds := [6]) #[false, false, false, false, false, false, false] (by kernel_rfl) rfl rfl ⟨(blk_cell BK392.out 0).trans rfl, (blk_cell BK392.out 1).trans rfl⟩ (fun hHeld => ?_)
     generalize w46.drew = w47 at HO389 BK385 BK392 HI0 HK HB hHeld ⊢
     refine pure_ (i := 0) (N := some 26) (v := ?_) (a' := ?_) #[true, false, false, false, false, false, false] rfl rfl (by kernel_rfl) (fun _ _ _ h => h) (Or.inl ⟨by rfl, ?_⟩) ?_ ?_
     rotate_left
     ·exact aI
     rotate_left
     ·exact aP
     refine pure_ (i := 2) (N := some 28) (v := ?_) (a' := ?_) #[true, false, true, false, false, false, false] rfl rfl (by kernel_rfl) (fun _ _ _ h => h) (Or.inl ⟨by rfl, ?_⟩) ?_ ?_
     rotate_left
     ·exact aI
     rotate_left
     ·exact aP
     refine take_ (i := 1) (N := some 27) (v := ?_) (a' := ?_) #[true, true, true, false, false, false, false] rfl rfl (by kernel_rfl) (fun _ _ _ h => h) (Or.inl ⟨by rfl, ?_⟩) hHeld ?_ ?_
     rotate_left
     ·rintro w' ⟨s0, s1⟩
      go_simp
      with_reducible rfl
     rotate_left
     ·exact aP
     refine one_ (i := 3) (N := some 29) #[true, true, true, true, false, false, false] rfl rfl (by kernel_rfl) (by decide) (fun K hK => ?_)
     refine Kd.R_lit_step (Kd.int .i64) _ 3 ?hg (N := 29) ?hd (xs := ([(-1), 10, 9] : List Int)) (inner := [.int .i64 (-1), .int .i64 10, .int .i64 9]) (ok := fun _ => True) (okp := fun _ => True) ?hr ?hp (fun _ hk => hk) trivial (Below.refl _ _) (Nat.le_refl _) (by simp) ?_; (case hd => rfl); (case hg => rfl); (case hr => first | (go_simp; done) | (go_simp; rfl)); (case hp => exact (Reps.one (show Kd.M (Kd.int .i64) _ _ _ (-1) [.int .i64 (-1)] from rfl) (Reps.one (show Kd.M (Kd.int .i64) _ _ _ 10 [.int .i64 10] from rfl) (Reps.one (show Kd.M (Kd.int .i64) _ _ _ 9 [.int .i64 9] from rfl) (Reps.none _ _)))))
     intro v403 w48 ho49 hb hg_ hnew_
     clear hg_ hnew_
     (first | rw [← Ny402.out] at ho49 | (simp only [Int.reduceToNat] at ho49; rw [← Ny402.out] at ho49))
     have n0_ := aM (Kd.R_elder' (aR HO389) (Kd.R_base ho49) hb)
     have n1_ := aM (Kd.R_lower (Kd.R_new' ho49 (Kd.R_lt (aR HO389))) (kS (w := w) (g := g)))
     have n2_ := aM (IsS95.below aZ hb)
     have n3_ := aM (kB gb385 #[.int .i64 0, .slice none 0 0] 45 hb)
     have n4_ := aM (kB gb392 #[.int .i64 t386, .slice Ao45 t387.length co45] 45 hb)
     have n5_ := aM (KeepBut.trans aQ (KeepBut.of_below hb g none) (.inl rfl))
     have n6_ := aM (below_step aY hb)
     clear HO389
     clear HI0
     clear BK385
     clear BK392
     clear HK
     clear HB
     have HO389 := n0_
     have HO404 := n1_
     have HI0 := n2_
     have BK385 := n3_
     have BK392 := n4_
     have HK := n5_
     have HB := n6_
     clear n0_ n1_ n2_ n3_ n4_ n5_ n6_
     clear hb ho49
     obtain ⟨Ao50, co50, eo50⟩ := Kd.R_slice HO404.out
     (first | subst eo50 | (injection eo50 with f1_ f2_ f3_; have f4_ := f1_.symm; have f5_ := f3_.symm; clear f1_ f2_ f3_; subst f4_; subst f5_))
     refine hK.out _ _ ⟨(blk_cell BK392.out 0).trans rfl, (blk_cell BK392.out 1).trans rfl⟩ (fun hHeld => ?_)
     clear hK K
     refine nU 29 ?_
     refine one_ (i := 4) (N := some 30) #[true, true, true, true, true, false, false] rfl rfl (by kernel_rfl) (by decide) (fun K hK => ?_)
     refine goes_ Try.func91 (by kernel_rfl) rfl #[.pointer (some ⟨g, 0, none⟩), .slice Ao50 y402.length co50] (by rfl) rfl rfl aA ?_
     with_reducible refine (spec_l1PickInt.calls g s0_0 t394 t395 _ _ y402 t405 t406 t407 w0 _ ?side1 ?side2 ?side3 ?side4 ?side5 A36.out).mono ?_
     (case side1 => exact aZ)
     (case side2 => exact aY)
     (case side3 => repeat (first | exact (Kd.R_reads' HO404.out).2.2 | (with_reducible refine pC ?_)))
     (case side4 => exact (Kd.R_reads' HO404.out).2.1)
     (case side5 => exact far_slice (IsS95.own_ne HI0.out HO404.out (by decide)))
     rintro e w51 ⟨rfl, hi, hb, hk⟩
     refine ⟨_, rfl, ?_⟩
     have n0_ := aM (KeepBut.blk hk (g' := gb385) aK NB385_0.out (by simp))
     have n1_ := aM (Kd.R_mono (Kd.R_keep (IsS95.apart (show IsS95 w0 _ g s0_0 t394 t395 from aZ) (aR HO389) (by decide)) hk (fun _ h => h.2)) (fun _ h => h.1))
     have n2_ := aM (KeepBut.blk hk (g' := gb392) aK NB392_0.out (by simp))
     have n3_ := aM (Kd.R_mono (Kd.R_keep (IsS95.apart (show IsS95 w0 _ g s0_0 t394 t395 from aZ) (aR HO404) (by decide)) hk (fun _ h => h.2)) (fun _ h => h.1))
     have n4_ := aM (KeepBut.trans aQ hk (.inl rfl))
     have n5_ := aM (hb)
     have n6_ := aM (hi)
     clear BK385
     clear HO389
     clear BK392
     clear HO404
     clear HK
     clear HB
     clear HI0
     have BK385 := n0_
     have HO389 := n1_
     have BK392 := n2_
     have HO404 := n3_
     have HK := n4_
     have HB := n5_
     have HI0 := n6_
     clear n0_ n1_ n2_ n3_ n4_ n5_ n6_
     (try clear hb)
     (try clear hb2)
     (try clear hk)
     (try clear hi)
     have p38 : 0 ≤ (0 : Int) := (by omega)
     have q38 : (0 : Int) < ((t387.length : Int) : Int) := aD
     have qi38 : (0 < t387.length) = True := eq_true (by omega)
     obtain ⟨go38, co38, eo38, gb38, gl38, cl38, HG38⟩ := Kd.R_form HO389.out (by omega)
     (first | cases eo38 | (injection eo38 with ea_ en_ ec_; (first | subst ea_ | (injection ea_ with ea_; subst ea_)); subst ec_; clear en_))
     have GB38 := aM gb38
     have GG38 := aM HG38
     clear gb38 gl38 HG38
     obtain ⟨hx38_0, hf38_0⟩ := Kd.R_celln 0 HO389.out (0 : Int) p38 q38
     (try rw [show ((0 : Int)).toNat = 0 from rfl] at hx38_0)
     (try simp only [Nat.reduceMul, Nat.zero_mul, Nat.zero_add, Nat.reduceAdd] at hx38_0)
     (try rw [show ((0 : Int)).toNat = 0 from rfl] at hf38_0)
     (try simp only [Nat.reduceMul, Nat.zero_mul, Nat.zero_add, Nat.reduceAdd] at hf38_0)
     replace p38 := eq_true p38
     replace q38 := eq_true q38
     have HN0_go38 := aM (show g ≠ go38 from by have h_ := IsS95.own_ne HI0.out HO389.out (by decide); intro e_; exact h_ (by rw [e_]; rfl))
     have HP52 := Kd.R_putn HO389.out (0 : Int) t405
     rw [← Ny408.out] at HP52
     have HQ52 := aM HP52
     clear HP52
     refine hK.out _ _ ⟨(blk_cell BK392.out 0).trans rfl, (blk_cell BK392.out 1).trans rfl⟩ (fun hHeld => ?_)
     clear hK K
     refine nU 30 ?_
     refine pure_ (i := 5) (N := some 31) (v := ?_) (a' := ?_) #[true, true, true, true, true, true, false] rfl rfl (by kernel_rfl) (fun _ _ _ h => h) (Or.inl ⟨by rfl, ?_⟩) ?_ ?_
     rotate_left
     ·exact aI
     rotate_left
     ·exact aP
     refine last_ (i := 6) (N := none) #[true, true, true, true, true, true, true] rfl rfl (by kernel_rfl) (by decide) (fun K hK => ?_)
     refine skip_ (w1 := ?_) (by rfl) rfl ?_ ?_
     rotate_left
     ·go_simp
      rfl
     refine hK.out _ _ ?_
     clear hK K
     refine done_ (by kernel_rfl) ?_
     have n0_ : Aside0 (Kd.R (Kd.int .i64) 3 (w51.setCell ⟨go38, 0, none⟩ (.int .i64 t405)) w.heap.size (fun k_ => some k_ ≠ (.slice Ao50 y402.length co50 : Value).ownBlock) (.slice (some ⟨go38, 0, none⟩) t387.length co45) y408) := ⟨by (with_reducible repeat apply pR); exact Kd.R_mono HQ52.out (fun _ hk => hk.2)⟩
     have n1_ : Aside0 (Kd.R (Kd.int .i64) 3 (w51.setCell ⟨go38, 0, none⟩ (.int .i64 t405)) w.heap.size (fun k_ => some k_ ≠ (.slice (some ⟨go38, 0, none⟩) t387.length co45 : Value).ownBlock) (.slice Ao50 y402.length co50) y402) := ⟨by (with_reducible repeat apply pR); exact Kd.R_mono (Kd.R_far (p := ⟨go38, 0, none⟩) (Kd.R_mono HO404.out (fun k_ hk => (⟨hk, fun e_ => hk.2 (by rw [e_]; rfl)⟩ : _ ∧ k_ ≠ go38))) (fun _ hk => hk.2) (.int .i64 t405)) (fun _ hk => hk.1.2)⟩
     have n2_ : Aside0 ((w51.setCell ⟨go38, 0, none⟩ (.int .i64 t405)).heap[gb385]? = some (.cells #[.int .i64 0, .slice none 0 0] 45 (0, 0))) := ⟨by (with_reducible repeat refine pB ?_); refine blk_far ?_ (by have h_ := Kd.R_ne HO389.out BK385.out (by decide); intro e_; exact h_ (by rw [e_]; rfl)) _; (with_reducible repeat refine pB ?_); exact BK385.out⟩
     have n3_ : Aside0 ((w51.setCell ⟨go38, 0, none⟩ (.int .i64 t405)).heap[gb392]? = some (.cells #[.int .i64 t386, .slice (some ⟨go38, 0, none⟩) t387.length co45] 45 (0, 0))) := ⟨by (with_reducible repeat refine pB ?_); refine blk_far ?_ (by have h_ := Kd.R_ne HO389.out BK392.out (by decide); intro e_; exact h_ (by rw [e_]; rfl)) _; (with_reducible repeat refine pB ?_); exact BK392.out⟩
     have n4_ : Aside0 (IsS95 w0 (w51.setCell ⟨go38, 0, none⟩ (.int .i64 t405)) g s0_0 t406 t407) := ⟨by repeat (first | (with_reducible first | exact HI0.out | apply IsS95.alloc | apply IsS95.drewN | apply IsS95.drew | apply IsS95.set_1 | apply IsS95.set_2 | refine IsS95.far ?_ HN0_go38.out _ | refine IsS95.far ?_ NB0_385.out _ | refine IsS95.far ?_ NB0_392.out _) | exact HI0.out)⟩
     have n5_ : Aside0 (KeepBut w (w51.setCell ⟨go38, 0, none⟩ (.int .i64 t405)) g none) := ⟨by repeat (first | (with_reducible first | exact HK.out | apply KeepBut.set_ | apply keep_drewN | apply keep_drew | apply keep_alloc | refine keep_far ?_ GB38.out _ | refine keep_far ?_ GW385.out _ | refine keep_far ?_ GW392.out _) | exact HK.out)⟩
     have n6_ : Aside0 (Below w0.heap.size w0 (w51.setCell ⟨go38, 0, none⟩ (.int .i64 t405))) := ⟨by repeat (first | (with_reducible first | exact HB.out | apply below_alloc | apply pw_below_drewN | apply below_drew1 | refine below_set ?_ (Nat.le_trans HL.out GB38.out) | refine below_set ?_ (IsS95.ge HI0.out) | refine below_set ?_ GE385.out | refine below_set ?_ GE392.out) | exact HB.out)⟩
     (try clear HO389)
     (try clear HO404)
     (try clear BK385)
     (try clear BK392)
     (try clear HI0)
     (try clear HK)
     (try clear HB)
     generalize (w51.setCell ⟨go38, 0, none⟩ (.int .i64 t405)) = w53 at n0_ n1_ n2_ n3_ n4_ n5_ n6_ ⊢
     have HO389 := n0_
     have HO404 := n1_
     have BK385 := n2_
     have BK392 := n3_
     have HI0 := n4_
     have HK := n5_
     have HB := n6_
     clear n0_ n1_ n2_ n3_ n4_ n5_ n6_
     have hcz54_0 : w53.cell? ⟨gb392, 0, none⟩ = some (.int .i64 t386) := (blk_cell BK392.out 0).trans rfl
     have hcz54_1 : w53.cell? ⟨gb392, 1, none⟩ = some (.slice (some ⟨go38, 0, none⟩) t387.length co45) := (blk_cell BK392.out 1).trans rfl
     have hfz54_0 := blk_frozen BK392.out 0
     have hfz54_1 := blk_frozen BK392.out 1
     have hnb55 := NB385_0.out
     have hnc55 := NB0_385.out
     have hcz56_0 : w53.cell? ⟨gb385, 0, none⟩ = some (.int .i64 0) := (blk_cell BK385.out 0).trans rfl
     have hcz56_1 : w53.cell? ⟨gb385, 1, none⟩ = some (.slice none 0 0) := (blk_cell BK385.out 1).trans rfl
     have hfz56_0 := blk_frozen BK385.out 0
     have hfz56_1 := blk_frozen BK385.out 1
     try go_wp2
     refine bodyPost_ret (results_cell_row rfl _ _ gb385 45 #[.int .i64 t386, .slice (some ⟨go38, 0, none⟩) t387.length co45] (0, 0) _ rfl (bP2 BK385.out) Try.underlying45 rfl (by kernel_rfl)) rfl ?_
     exact ⟨_, aE, by (with_reducible repeat apply pR); exact Kd.R_mono (Kd.R_far (p := ⟨gb385, 1, none⟩) (Kd.R_far (p := ⟨gb385, 0, none⟩) (Kd.R_types HO389.out BK385.out (by decide)) (fun _ hk => hk.2) (.int .i64 t386)) (fun _ hk => hk.2) (.slice (some ⟨go38, 0, none⟩) t387.length co45)) (fun _ hk => trivial), aZ, aY, aQ⟩
    ·rw [if_neg c37] at H
     exact absurd H (by simp)
   ·rw [if_neg c35] at H
    have c35b0 : (t393 == 2) = false := beq_eq_false_iff_ne.mpr c35
    have c35b1 : (t393 != 2) = true := bne_iff_ne.mpr c35
    simp only [Option.some.injEq, Prod.mk.injEq] at H
    obtain ⟨rfl, rfl, rfl, rfl⟩ := H
    go_enter Try.func84, Try.ntmps84
    go_wp2_with (first | ((with_reducible refine gate_dst (N := 4) rfl ?_); refine bE 4 (cs := #[.int .i64 0, .slice none 0 0]) (t := 45) ?_; intro gb385 hg w57 hbox hb; have BK385 := aM (hbox); have GW385 := aM ((by rw [hg]; exact (kS (w := w) (g := g)) : w.heap.size ≤ gb385)); have GE385 := aM ((Nat.le_trans HW0.out (by rw [hg]; exact (kS (w := w) (g := g)) : w.heap.size ≤ gb385) : w0.heap.size ≤ gb385)); have NB0_385 := aM ((by rw [hg]; exact Nat.ne_of_lt (IsS95.lt (show IsS95 w0 _ g s0_0 s0_1 s0_2 from aZ)) : g ≠ gb385)); have NB385_0 := aM ((by rw [hg]; exact Nat.ne_of_gt (IsS95.lt (show IsS95 w0 _ g s0_0 s0_1 s0_2 from aZ)) : gb385 ≠ g)); replace HK := aM (KeepBut.trans aQ (KeepBut.of_below hb g none) (.inl rfl)); replace HB := aM (below_step aY hb); replace HI0 := aM (IsS95.below aZ hb); clear hb hbox hg) | ((with_reducible refine gate_callee (f := 92) rfl ?_); refine goesL_ (some 8) rfl rfl Try.func92 (by kernel_rfl) rfl #[.pointer (some ⟨g, 0, none⟩), .slice A1 l1.length c1, .int .i64 4] rfl aA ?_; (with_reducible refine (spec_l3Fact.calls k g s0_0 s0_1 s0_2 _ _ l1 4 t386 t387 t390 t391 w0 _ ?side1 ?side2 ?side3 ?side4 A3.out).mono ?_); (case side1 => exact aZ); (case side2 => exact aY); (case side3 => exact Kd.C_foot_step HR1.out aQ); (case side4 => exact HC1.out); rintro e w58 ⟨v388, rfl, ho0, hi, hb, hk⟩; refine ⟨_, rfl, ?_⟩; have HO389 := aM (Kd.R_lower ho0 (kS (w := w) (g := g))); replace BK385 := aM (KeepBut.blk hk (g' := gb385) aK NB385_0.out (by simp)); replace HK := aM (KeepBut.trans aQ hk (.inl rfl)); replace HB := aM (hb); replace HI0 := aM (hi); (try clear hb); (try clear hb2); (try clear hk); (try clear hi); (try clear ho0)) | ((with_reducible refine gate_dst (N := 5) rfl ?_); refine bE 5 (cs := #[.int .i64 0, .slice none 0 0]) (t := 45) ?_; intro gb392 hg w59 hbox hb; have BK392 := aM (hbox); have GW392 := aM ((by rw [hg]; exact (kS (w := w) (g := g)) : w.heap.size ≤ gb392)); have GE392 := aM ((Nat.le_trans HW0.out (by rw [hg]; exact (kS (w := w) (g := g)) : w.heap.size ≤ gb392) : w0.heap.size ≤ gb392)); have NB385_392 := aM ((by rw [hg]; exact Nat.ne_of_lt (blk_lt (g := gb385) aK) : gb385 ≠ gb392)); have NB392_385 := aM ((by rw [hg]; exact Nat.ne_of_gt (blk_lt (g := gb385) aK) : gb392 ≠ gb385)); have NB0_392 := aM ((by rw [hg]; exact Nat.ne_of_lt (IsS95.lt (show IsS95 w0 _ g s0_0 t390 t391 from aZ)) : g ≠ gb392)); have NB392_0 := aM ((by rw [hg]; exact Nat.ne_of_gt (IsS95.lt (show IsS95 w0 _ g s0_0 t390 t391 from aZ)) : gb392 ≠ g)); replace HO389 := aM (Kd.R_below (aR HO389) hb); replace BK385 := aM (kB gb385 #[.int .i64 0, .slice none 0 0] 45 hb); replace HK := aM (KeepBut.trans aQ (KeepBut.of_below hb g none) (.inl rfl)); replace HB := aM (below_step aY hb); replace HI0 := aM (IsS95.below aZ hb); clear hb hbox hg; have hnb60 := NB392_385.out; have hnc60 := NB385_392.out; have hnb61 := NB392_0.out; have hnc61 := NB0_392.out; have hcz62_0 : w59.cell? ⟨gb392, 0, none⟩ = some (.int .i64 0) := (blk_cell BK392.out 0).trans rfl; have hcz62_1 : w59.cell? ⟨gb392, 1, none⟩ = some (.slice none 0 0) := (blk_cell BK392.out 1).trans rfl; have hfz62_0 := blk_frozen BK392.out 0; have hfz62_1 := blk_frozen BK392.out 1; obtain ⟨Ao63, co63, eo63⟩ := Kd.R_slice HO389.out; subst eo63) | ((with_reducible refine gate_callee (f := 83) rfl ?_); refine goesL_ (some 10) rfl rfl Try.func83 (by kernel_rfl) rfl #[.pointer (some ⟨g, 0, none⟩), .int .i64 10] rfl aA ?_; (with_reducible refine (spec_l1Below.calls g s0_0 t390 t391 10 t393 t394 t395 w0 _ ?side1 ?side2 A4.out).mono ?_); (case side1 => exact aZ); (case side2 => exact aY); rintro e w64 ⟨rfl, hi, hb, hk⟩; refine ⟨_, rfl, ?_⟩; replace BK385 := aM (KeepBut.blk hk (g' := gb385) (bF2 NB385_392.out BK385.out) NB385_0.out (by simp)); replace HO389 := aM (Kd.R_mono (Kd.R_keep (IsS95.apart (show IsS95 w0 _ g s0_0 t390 t391 from aZ) (by (with_reducible repeat apply pR); exact (rF1 HO389.out BK392.out (.int .i64 t386) (.slice Ao63 t387.length co63))) (by decide)) hk (fun _ h => h.2)) (fun _ h => h.1)); replace BK392 := aM (KeepBut.blk hk (g' := gb392) (bP2 BK392.out) NB392_0.out (by simp)); replace HK := aM (KeepBut.trans aQ hk (.inl rfl)); replace HB := aM (hb); replace HI0 := aM (hi); (try clear hb); (try clear hb2); (try clear hk); (try clear hi); have hcz65_0 : w64.cell? ⟨gb392, 0, none⟩ = some (.int .i64 t386) := (blk_cell BK392.out 0).trans rfl; have hcz65_1 : w64.cell? ⟨gb392, 1, none⟩ = some (.slice Ao63 t387.length co63) := (blk_cell BK392.out 1).trans rfl; have hfz65_0 := blk_frozen BK392.out 0; have hfz65_1 := blk_frozen BK392.out 1; have hnb66 := NB385_0.out; have hnc66 := NB0_385.out; have hcz67_0 : w64.cell? ⟨gb385, 0, none⟩ = some (.int .i64 0) := (blk_cell BK385.out 0).trans rfl; have hcz67_1 : w64.cell? ⟨gb385, 1, none⟩ = some (.slice none 0 0) := (blk_cell BK385.out 1).trans rfl; have hfz67_0 := blk_frozen BK385.out 0; have hfz67_1 := blk_frozen BK385.out 1))
    refine bodyPost_ret (results_cell_row rfl _ _ gb385 45 #[.int .i64 t386, .slice Ao63 t387.length co63] (0, 0) _ rfl (bP2 BK385.out) Try.underlying45 rfl (by kernel_rfl)) rfl ?_
    exact ⟨_, aE, by (with_reducible repeat apply pR); exact Kd.R_mono (Kd.R_far (p := ⟨gb385, 1, none⟩) (Kd.R_far (p := ⟨gb385, 0, none⟩) (Kd.R_types HO389.out BK385.out (by decide)) (fun _ hk => hk.2) (.int .i64 t386)) (fun _ hk => hk.2) (.slice Ao63 t387.length co63)) (fun _ hk => trivial), aZ, aY, aQ⟩

/-! ### spec_l1Pick: function 94 -/
def spec_l1Pick.f (s0_0 : List Int) (s0_1 : Int) (s0_2 : Int) (l1 : List ByteArray) : Option (ByteArray × Int × Int) := (spec_l1Below.f s0_0 s0_1 s0_2 (l1.length : Int)).bind fun bt409 => (if 0 ≤ bt409.1 then (if bt409.1 < (l1.length : Int) then (some (rdOf ByteArray.empty l1 bt409.1, bt409.2.1, bt409.2.2)) else (none)) else (none))
set_option maxHeartbeats 8000000 in
set_option maxRecDepth 100000 in
theorem spec_l1Pick.calls (g : Nat) (s0_0 : List Int) (s0_1 : Int) (s0_2 : Int) (A1 : Option Addr) (c1 : Nat) (l1 : List ByteArray) (r1 : ByteArray) (r2 : Int) (r3 : Int) (w0 w : World) (hI : IsS95 w0 w g s0_0 s0_1 s0_2) (hB : Below w0.heap.size w0 w) (hr1 : Kd.C Kd.string w A1 l1.length l1) (hc1 : l1.length ≤ c1) (hf1 : ∀ ad, A1 = some ad → 0 < l1.length → ad.block ≠ g) (h : spec_l1Pick.f s0_0 s0_1 s0_2 l1 = some (r1, r2, r3)) :
  Calls Try.prog 94 #[.pointer (some ⟨g, 0, none⟩), .slice A1 l1.length c1] w fun e w' => e = .returned (.string r1) ∧ IsS95 w0 w' g s0_0 r2 r3 ∧ Below w0.heap.size w0 w' ∧ KeepBut w w' g none := by
 have HR1 := aM hr1
 have HC1 := aM hc1
 clear hr1 hc1
 have HI0 := aM hI
 have HK := aM (KeepBut.refl w g none)
 have HL := aM hB.size
 clear hI
 have HW0 := aM hB.size
 have HB := aM hB
 clear hB
 have H : ((spec_l1Below.f s0_0 s0_1 s0_2 (l1.length : Int)).bind fun bt409 => (if 0 ≤ bt409.1 then (if bt409.1 < (l1.length : Int) then (some (rdOf ByteArray.empty l1 bt409.1, bt409.2.1, bt409.2.2)) else (none)) else (none))) = some (r1, r2, r3) := h
 clear h
 replace H := bM H
 obtain ⟨⟨t409, t410, t411⟩, A30, H⟩ := H
 dsimp only at H
 have A3 := aM A30
 clear A30
 by_cases c4 : 0 ≤ t409
 ·rw [if_pos c4] at H
  have c4b0 : decide (0 ≤ t409) = true := decide_eq_true c4
  clear c4
  by_cases c5 : t409 < (l1.length : Int)
  ·rw [if_pos c5] at H
   have c5b0 : decide (t409 < (l1.length : Int)) = true := decide_eq_true c5
   clear c5
   simp only [Option.some.injEq, Prod.mk.injEq] at H
   obtain ⟨rfl, rfl, rfl⟩ := H
   go_enter Try.func94, Try.ntmps94
   go_wp2_with (first | ((with_reducible refine gate_callee (f := 83) rfl ?_); refine goesL_ (some 9) rfl rfl Try.func83 (by kernel_rfl) rfl #[.pointer (some ⟨g, 0, none⟩), .int .i64 (l1.length : Int)] rfl aA ?_; (with_reducible refine (spec_l1Below.calls g s0_0 s0_1 s0_2 (l1.length : Int) t409 t410 t411 w0 _ ?side1 ?side2 A3.out).mono ?_); (case side1 => exact aZ); (case side2 => exact aY); rintro e w6 ⟨rfl, hi, hb, hk⟩; refine ⟨_, rfl, ?_⟩; replace HK := aM (KeepBut.trans aQ hk (.inl rfl)); replace HB := aM (hb); replace HI0 := aM (hi); (try clear hb); (try clear hb2); (try clear hk); (try clear hi); have p412 : 0 ≤ (t409 : Int) := aD; have q412 : t409 < (l1.length : Int) := aD; obtain ⟨ad412, e412, hx412_0⟩ := Kd.at_string HR1.out t409 p412 q412; cases e412; replace hx412_0 := keep_cell HK.out hx412_0 (by first | (rw [add_block]; exact hf1 _ rfl (by omega)) | exact hf1 _ rfl (by omega) | exact hf1 ad412 rfl (by omega)); replace p412 := eq_true p412; replace q412 := eq_true q412))
   go_ret
   exact ⟨aE, aZ, aY, aQ⟩
  ·rw [if_neg c5] at H
   exact absurd H (by simp)
 ·rw [if_neg c4] at H
  exact absurd H (by simp)

/-! ### spec_l2Any: function 85 -/
def spec_l2Any.f (s0_0 : List Int) (s0_1 : Int) (s0_2 : Int) : Option (ByteArray × Int × Int × Int × Int) := (spec_l1Pick.f s0_0 s0_1 s0_2 (([(⟨#[114]⟩ : ByteArray), (⟨#[122]⟩ : ByteArray), (⟨#[97]⟩ : ByteArray), (⟨#[]⟩ : ByteArray), (⟨#[82]⟩ : ByteArray), (⟨#[97, 98]⟩ : ByteArray)] : List ByteArray))).bind fun bt417 => ((spec_l1Below.f s0_0 bt417.2.1 bt417.2.2 6).bind fun bt420 => ((spec_l1Below.f s0_0 bt420.2.1 bt420.2.2 5).bind fun bt423 => (some (bt417.1, wrap64 (bt420.1 - 1), wrap64 (bt423.1 - 1), bt423.2.1, bt423.2.2))))
set_option maxHeartbeats 8000000 in
set_option maxRecDepth 100000 in
theorem spec_l2Any.calls (g : Nat) (s0_0 : List Int) (s0_1 : Int) (s0_2 : Int) (r1 : ByteArray) (r2 : Int) (r3 : Int) (r4 : Int) (r5 : Int) (w0 w : World) (hI : IsS95 w0 w g s0_0 s0_1 s0_2) (hB : Below w0.heap.size w0 w) (h : spec_l2Any.f s0_0 s0_1 s0_2 = some (r1, r2, r3, r4, r5)) :
  Calls Try.prog 85 #[.pointer (some ⟨g, 0, none⟩)] w fun e w' => e = .returned (.agg #[.string r1, .int .i64 r2, .int .i64 r3]) ∧ IsS95 w0 w' g s0_0 r4 r5 ∧ Below w0.heap.size w0 w' ∧ KeepBut w w' g none := by
 have hu74 := Try.underlying74
 have HI0 := aM hI
 have HK := aM (KeepBut.refl w g none)
 have HL := aM hB.size
 clear hI
 have HW0 := aM hB.size
 have HB := aM hB
 clear hB
 have H : ((spec_l1Pick.f s0_0 s0_1 s0_2 (([(⟨#[114]⟩ : ByteArray), (⟨#[122]⟩ : ByteArray), (⟨#[97]⟩ : ByteArray), (⟨#[]⟩ : ByteArray), (⟨#[82]⟩ : ByteArray), (⟨#[97, 98]⟩ : ByteArray)] : List ByteArray))).bind fun bt417 => ((spec_l1Below.f s0_0 bt417.2.1 bt417.2.2 6).bind fun bt420 => ((spec_l1Below.f s0_0 bt420.2.1 bt420.2.2 5).bind fun bt423 => (some (bt417.1, wrap64 (bt420.1 - 1), wrap64 (bt423.1 - 1), bt423.2.1, bt423.2.2))))) = some (r1, r2, r3, r4, r5) := h
 clear h
 obtain ⟨y414, hy414⟩ : ∃ y_ : List ByteArray, y_ = (([(⟨#[114]⟩ : ByteArray), (⟨#[122]⟩ : ByteArray), (⟨#[97]⟩ : ByteArray), (⟨#[]⟩ : ByteArray), (⟨#[82]⟩ : ByteArray), (⟨#[97, 98]⟩ : ByteArray)] : List ByteArray)) := ⟨_, rfl⟩
 first | replace H := bY hy414 H | rw [← hy414] at H
 have Ny414 := aM hy414
 clear hy414
 replace H := bM H
 obtain ⟨⟨t417, t418, t419⟩, A20, H⟩ := H
 dsimp only at H
 have A2 := aM A20
 clear A20
 replace H := bM H
 obtain ⟨⟨t420, t421, t422⟩, A30, H⟩ := H
 dsimp only at H
 have A3 := aM A30
 clear A30
 replace H := bM H
 obtain ⟨⟨t423, t424, t425⟩, A40, H⟩ := H
 dsimp only at H
 have A4 := aM A40
 clear A40
 simp only [Option.some.injEq, Prod.mk.injEq] at H
 obtain ⟨rfl, rfl, rfl, rfl, rfl⟩ := H
 go_enter Try.func85, Try.ntmps85
 go_wp2_with (first | ((with_reducible refine gate_dst (N := 2) rfl ?_); refine bE 2 (cs := #[.string (⟨#[]⟩ : ByteArray), .int .i64 0, .int .i64 0]) (t := 74) ?_; intro gb413 hg w5 hbox hb; have BK413 := aM (hbox); have GW413 := aM ((by rw [hg]; exact (kS (w := w) (g := g)) : w.heap.size ≤ gb413)); have GE413 := aM ((Nat.le_trans HW0.out (by rw [hg]; exact (kS (w := w) (g := g)) : w.heap.size ≤ gb413) : w0.heap.size ≤ gb413)); have NB0_413 := aM ((by rw [hg]; exact Nat.ne_of_lt (IsS95.lt (show IsS95 w0 _ g s0_0 s0_1 s0_2 from aZ)) : g ≠ gb413)); have NB413_0 := aM ((by rw [hg]; exact Nat.ne_of_gt (IsS95.lt (show IsS95 w0 _ g s0_0 s0_1 s0_2 from aZ)) : gb413 ≠ g)); replace HK := aM (KeepBut.trans aQ (KeepBut.of_below hb g none) (.inl rfl)); replace HB := aM (below_step aY hb); replace HI0 := aM (IsS95.below aZ hb); clear hb hbox hg) | ((with_reducible refine gate_dst (N := 4) rfl ?_); refine Kd.R_lit Kd.string _ 9 ?hg (N := 4) ?hd (xs := ([(⟨#[114]⟩ : ByteArray), (⟨#[122]⟩ : ByteArray), (⟨#[97]⟩ : ByteArray), (⟨#[]⟩ : ByteArray), (⟨#[82]⟩ : ByteArray), (⟨#[97, 98]⟩ : ByteArray)] : List ByteArray)) (inner := [.string (⟨#[114]⟩ : ByteArray), .string (⟨#[122]⟩ : ByteArray), .string (⟨#[97]⟩ : ByteArray), .string (⟨#[]⟩ : ByteArray), .string (⟨#[82]⟩ : ByteArray), .string (⟨#[97, 98]⟩ : ByteArray)]) (ok := fun _ => True) (okp := fun _ => True) ?hr ?hp (fun _ hk => hk) trivial (Below.refl _ _) (Nat.le_refl _) (by simp) ?_; (case hd => rfl); (case hg => rfl); (case hr => first | (go_simp; done) | (go_simp; rfl)); (case hp => exact (Reps.one (show Kd.M Kd.string _ _ _ (⟨#[114]⟩ : ByteArray) [.string (⟨#[114]⟩ : ByteArray)] from rfl) (Reps.one (show Kd.M Kd.string _ _ _ (⟨#[122]⟩ : ByteArray) [.string (⟨#[122]⟩ : ByteArray)] from rfl) (Reps.one (show Kd.M Kd.string _ _ _ (⟨#[97]⟩ : ByteArray) [.string (⟨#[97]⟩ : ByteArray)] from rfl) (Reps.one (show Kd.M Kd.string _ _ _ (⟨#[]⟩ : ByteArray) [.string (⟨#[]⟩ : ByteArray)] from rfl) (Reps.one (show Kd.M Kd.string _ _ _ (⟨#[82]⟩ : ByteArray) [.string (⟨#[82]⟩ : ByteArray)] from rfl) (Reps.one (show Kd.M Kd.string _ _ _ (⟨#[97, 98]⟩ : ByteArray) [.string (⟨#[97, 98]⟩ : ByteArray)] from rfl) (Reps.none _ _)))))))); intro v415 w6 ho7 hb hg_ hnew_; clear hg_ hnew_; (first | rw [← Ny414.out] at ho7 | (simp only [Int.reduceToNat] at ho7; rw [← Ny414.out] at ho7)); have HO416 := aM (Kd.R_lower ho7 (kS (w := w) (g := g))); replace BK413 := aM (blk_below (g := gb413) (o := .cells #[.string (⟨#[]⟩ : ByteArray), .int .i64 0, .int .i64 0] 74 (0, 0)) aK hb); replace HK := aM (KeepBut.trans aQ (KeepBut.of_below hb g none) (.inl rfl)); replace HB := aM (below_step aY hb); replace HI0 := aM (IsS95.below aZ hb); clear hb ho7; obtain ⟨Ao8, co8, eo8⟩ := Kd.R_slice HO416.out; subst eo8) | ((with_reducible refine gate_callee (f := 94) rfl ?_); refine goesL_ (some 5) rfl rfl Try.func94 (by kernel_rfl) rfl #[.pointer (some ⟨g, 0, none⟩), .slice Ao8 y414.length co8] rfl aA ?_; (with_reducible refine (spec_l1Pick.calls g s0_0 s0_1 s0_2 _ _ y414 t417 t418 t419 w0 _ ?side1 ?side2 ?side3 ?side4 ?side5 A2.out).mono ?_); (case side1 => exact aZ); (case side2 => exact aY); (case side3 => repeat (first | exact (Kd.R_reads' HO416.out).2.2 | (with_reducible refine pC ?_))); (case side4 => exact (Kd.R_reads' HO416.out).2.1); (case side5 => exact far_slice (IsS95.own_ne HI0.out HO416.out (by decide))); rintro e w9 ⟨rfl, hi, hb, hk⟩; refine ⟨_, rfl, ?_⟩; replace BK413 := aM (KeepBut.blk hk (g' := gb413) (o := .cells #[.string (⟨#[]⟩ : ByteArray), .int .i64 0, .int .i64 0] 74 (0, 0)) aK NB413_0.out (by simp)); replace HO416 := aM (Kd.R_mono (Kd.R_keep (IsS95.apart (show IsS95 w0 _ g s0_0 s0_1 s0_2 from aZ) (aR HO416) (by decide)) hk (fun _ h => h.2)) (fun _ h => h.1)); replace HK := aM (KeepBut.trans aQ hk (.inl rfl)); replace HB := aM (hb); replace HI0 := aM (hi); (try clear hb); (try clear hb2); (try clear hk); (try clear hi)) | ((with_reducible refine gate_callee (f := 83) rfl ?_); refine goesL_ (some 7) rfl rfl Try.func83 (by kernel_rfl) rfl #[.pointer (some ⟨g, 0, none⟩), .int .i64 6] rfl aA ?_; (with_reducible refine (spec_l1Below.calls g s0_0 t418 t419 6 t420 t421 t422 w0 _ ?side1 ?side2 A3.out).mono ?_); (case side1 => exact aZ); (case side2 => exact aY); rintro e w10 ⟨rfl, hi, hb, hk⟩; refine ⟨_, rfl, ?_⟩; replace BK413 := aM (KeepBut.blk hk (g' := gb413) (o := .cells #[.string (⟨#[]⟩ : ByteArray), .int .i64 0, .int .i64 0] 74 (0, 0)) aK NB413_0.out (by simp)); replace HO416 := aM (Kd.R_mono (Kd.R_keep (IsS95.apart (show IsS95 w0 _ g s0_0 t418 t419 from aZ) (aR HO416) (by decide)) hk (fun _ h => h.2)) (fun _ h => h.1)); replace HK := aM (KeepBut.trans aQ hk (.inl rfl)); replace HB := aM (hb); replace HI0 := aM (hi); (try clear hb); (try clear hb2); (try clear hk); (try clear hi)) | ((with_reducible refine gate_callee (f := 83) rfl ?_); refine goesL_ (some 10) rfl rfl Try.func83 (by kernel_rfl) rfl #[.pointer (some ⟨g, 0, none⟩), .int .i64 5] rfl aA ?_; (with_reducible refine (spec_l1Below.calls g s0_0 t421 t422 5 t423 t424 t425 w0 _ ?side1 ?side2 A4.out).mono ?_); (case side1 => exact aZ); (case side2 => exact aY); rintro e w11 ⟨rfl, hi, hb, hk⟩; refine ⟨_, rfl, ?_⟩; replace BK413 := aM (KeepBut.blk hk (g' := gb413) (o := .cells #[.string (⟨#[]⟩ : ByteArray), .int .i64 0, .int .i64 0] 74 (0, 0)) aK NB413_0.out (by simp)); replace HO416 := aM (Kd.R_mono (Kd.R_keep (IsS95.apart (show IsS95 w0 _ g s0_0 t421 t422 from aZ) (aR HO416) (by decide)) hk (fun _ h => h.2)) (fun _ h => h.1)); replace HK := aM (KeepBut.trans aQ hk (.inl rfl)); replace HB := aM (hb); replace HI0 := aM (hi); (try clear hb); (try clear hb2); (try clear hk); (try clear hi); have hnb12 := NB413_0.out; have hnc12 := NB0_413.out; have hcz13_0 : w11.cell? ⟨gb413, 0, none⟩ = some (.string (⟨#[]⟩ : ByteArray)) := (blk_cell BK413.out 0).trans rfl; have hcz13_1 : w11.cell? ⟨gb413, 1, none⟩ = some (.int .i64 0) := (blk_cell BK413.out 1).trans rfl; have hcz13_2 : w11.cell? ⟨gb413, 2, none⟩ = some (.int .i64 0) := (blk_cell BK413.out 2).trans rfl; have hfz13_0 := blk_frozen BK413.out 0; have hfz13_1 := blk_frozen BK413.out 1; have hfz13_2 := blk_frozen BK413.out 2))
 refine bodyPost_ret (results_cell_row rfl _ _ gb413 74 #[.string t417, .int .i64 (wrap64 (t420 - 1)), .int .i64 (wrap64 (t423 - 1))] (0, 0) _ rfl (by (with_reducible repeat refine pB ?_); refine blk_put (cs := #[.string t417, .int .i64 (wrap64 (t420 - 1)), .int .i64 0]) ?_ 2 _ rfl; (with_reducible repeat refine pB ?_); refine blk_put (cs := #[.string t417, .int .i64 0, .int .i64 0]) ?_ 1 _ rfl; (with_reducible repeat refine pB ?_); refine blk_put (cs := #[.string (⟨#[]⟩ : ByteArray), .int .i64 0, .int .i64 0]) ?_ 0 _ rfl; (with_reducible repeat refine pB ?_); exact BK413.out) Try.underlying74 rfl (by kernel_rfl)) rfl ?_
 exact ⟨aE, aZ, aY, aQ⟩

end Go.Proofs.Yteddnlklfjpgoaa.PFnInsertDelete
