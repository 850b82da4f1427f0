import Derived.Test.YtbdeimhlohhhiaaPFnRepairEnumerationx0
import Derived.Test.YtbdeimhlohhhiaaPFnRepairEnumerationx10
import Derived.Test.YtbdeimhlohhhiaaPFnRepairEnumerationx13
import Derived.Test.YtbdeimhlohhhiaaPFnRepairEnumerationx14
namespace Go.Proofs.Ytbdeimhlohhhiaa.PFnRepairEnumeration
open Go.RowKit Go.Proofs.YtbdeimhlohhhiaaW.PrintWords Go.Proofs.YtbdeimhlohhhiaaW.PrintLast Go.Proofs.YtbdeimhlohhhiaaW.PrintMore
attribute [local go_sem] max2_int min2_int max_two min_two max_three min_three max_four min_four
set_option linter.unusedVariables false
set_option linter.unusedSimpArgs false

/-! ### spec_l3Any: function 76 -/
def spec_l3Any.f (k : Nat) (s0_0 : List Int) (s0_1 : Int) (s0_2 : Int) (l1 : List (S70)) : Option (Int × List Int × Int × Int) := (spec_l3Fact.f k s0_0 s0_1 s0_2 l1 4).bind fun bt483 => ((spec_l1Below.f s0_0 bt483.2.2.1 bt483.2.2.2 10).bind fun bt490 => (if bt490.1 = 0 then ((spec_l1Below.f s0_0 bt490.2.1 bt490.2.2 6).bind fun bt493 => (some (wrap64 (bt493.1 - 1), bt483.2.1, bt493.2.1, bt493.2.2))) else (if bt490.1 = 1 then (if bt483.2.1.length < 17592186044416 then (some (bt483.1, (bt483.2.1 ++ [1]), bt490.2.1, bt490.2.2)) else (none)) else (if bt490.1 = 2 then ((spec_l1PickInt.f s0_0 bt490.2.1 bt490.2.2 (([(-1), 10, 9] : List Int))).bind fun bt502 => (if 0 < (bt483.2.1.length : Int) then (some (bt483.1, (bt483.2.1.set (0 : Int).toNat bt502.1), bt502.2.1, bt502.2.2)) else (none))) else (some (bt483.1, bt483.2.1, bt490.2.1, bt490.2.2))))))
set_option maxHeartbeats 8000000 in
set_option maxRecDepth 100000 in
theorem spec_l3Any.calls (k : Nat) (g : Nat) (s0_0 : List Int) (s0_1 : Int) (s0_2 : Int) (A1 : Option Addr) (c1 : Nat) (l1 : List (S70)) (r1 : Int) (r2 : List Int) (r3 : Int) (r4 : Int) (w0 w : World) (hI : IsS83 w0 w g s0_0 s0_1 s0_2) (hB : Below w0.heap.size w0 w) (hr1 : ∀ W_, KeepBut w W_ g none → Kd.C k70 W_ A1 l1.length l1) (hc1 : l1.length ≤ c1) (h : spec_l3Any.f k s0_0 s0_1 s0_2 l1 = some (r1, r2, r3, r4)) :
  Calls Try.prog 76 #[.pointer (some ⟨g, 0, none⟩), .slice A1 l1.length c1] w fun e w' => ∃ v1_ : Value, e = .returned (.agg #[.int .i64 r1, v1_]) ∧ Kd.R (Kd.int .i64) 3 w' w.heap.size (fun _ => True) v1_ r2 ∧ IsS83 w0 w' g s0_0 r3 r4 ∧ Below w0.heap.size w0 w' ∧ KeepBut w w' g none := by
 have hu35 := Try.underlying35
 have HR1 := aM hr1
 have HC1 := aM hc1
 clear hr1 hc1
 have HI0 := aM hI
 have HK := aM (KeepBut.refl w g none)
 have HL := aM hB.size
 clear hI
 have HW0 := aM hB.size
 have HB := aM hB
 clear hB
 have H : ((spec_l3Fact.f k s0_0 s0_1 s0_2 l1 4).bind fun bt483 => ((spec_l1Below.f s0_0 bt483.2.2.1 bt483.2.2.2 10).bind fun bt490 => (if bt490.1 = 0 then ((spec_l1Below.f s0_0 bt490.2.1 bt490.2.2 6).bind fun bt493 => (some (wrap64 (bt493.1 - 1), bt483.2.1, bt493.2.1, bt493.2.2))) else (if bt490.1 = 1 then (if bt483.2.1.length < 17592186044416 then (some (bt483.1, (bt483.2.1 ++ [1]), bt490.2.1, bt490.2.2)) else (none)) else (if bt490.1 = 2 then ((spec_l1PickInt.f s0_0 bt490.2.1 bt490.2.2 (([(-1), 10, 9] : List Int))).bind fun bt502 => (if 0 < (bt483.2.1.length : Int) then (some (bt483.1, (bt483.2.1.set (0 : Int).toNat bt502.1), bt502.2.1, bt502.2.2)) else (none))) else (some (bt483.1, bt483.2.1, bt490.2.1, bt490.2.2))))))) = some (r1, r2, r3, r4) := h
 clear h
 replace H := bM H
 obtain ⟨⟨t483, t484, t487, t488⟩, A30, H⟩ := H
 dsimp only at H
 have A3 := aM A30
 clear A30
 replace H := bM H
 obtain ⟨⟨t490, t491, t492⟩, A40, H⟩ := H
 dsimp only at H
 have A4 := aM A40
 clear A40
 by_cases c5 : t490 = 0
 ·rw [if_pos c5] at H
  have c5b0 : (t490 == 0) = true := beq_iff_eq.mpr c5
  have c5b1 : (t490 != 0) = false := bne_eq_false_iff_eq.mpr c5
  clear c5
  replace H := bM H
  obtain ⟨⟨t493, t494, t495⟩, A60, H⟩ := H
  dsimp only at H
  have A6 := aM A60
  clear A60
  simp only [Option.some.injEq, Prod.mk.injEq] at H
  obtain ⟨rfl, rfl, rfl, rfl⟩ := H
  go_enter Try.func76, Try.ntmps76
  go_wp2_with (first | ((with_reducible refine gate_dst (N := 4) rfl ?_); refine bE 4 (cs := #[.int .i64 0, .slice none 0 0]) (t := 35) ?_; intro gb482 hg w7 hbox hb; have BK482 := aM (hbox); have GW482 := aM ((by rw [hg]; exact (kS (w := w) (g := g)) : w.heap.size ≤ gb482)); have GE482 := aM ((Nat.le_trans HW0.out (by rw [hg]; exact (kS (w := w) (g := g)) : w.heap.size ≤ gb482) : w0.heap.size ≤ gb482)); have NB0_482 := aM ((by rw [hg]; exact Nat.ne_of_lt (IsS83.lt (show IsS83 w0 _ g s0_0 s0_1 s0_2 from aZ)) : g ≠ gb482)); have NB482_0 := aM ((by rw [hg]; exact Nat.ne_of_gt (IsS83.lt (show IsS83 w0 _ g s0_0 s0_1 s0_2 from aZ)) : gb482 ≠ g)); replace HK := aM (KeepBut.trans aQ (KeepBut.of_below hb g none) (.inl rfl)); replace HB := aM (below_step aY hb); replace HI0 := aM (IsS83.below aZ hb); clear hb hbox hg) | ((with_reducible refine gate_callee (f := 95) rfl ?_); refine goesL_ (some 8) rfl rfl Try.func95 (by kernel_rfl) rfl #[.pointer (some ⟨g, 0, none⟩), .slice A1 l1.length c1, .int .i64 4] rfl aA ?_; (with_reducible refine (spec_l3Fact.calls k g s0_0 s0_1 s0_2 _ _ l1 4 t483 t484 t487 t488 w0 _ ?side1 ?side2 ?side3 ?side4 A3.out).mono ?_); (case side1 => exact aZ); (case side2 => exact aY); (case side3 => exact Kd.C_foot_step HR1.out aQ); (case side4 => exact HC1.out); rintro e w8 ⟨v485, rfl, ho0, hi, hb, hk⟩; refine ⟨_, rfl, ?_⟩; have HO486 := aM (Kd.R_lower ho0 (kS (w := w) (g := g))); replace BK482 := aM (KeepBut.blk hk (g' := gb482) (o := .cells #[.int .i64 0, .slice none 0 0] 35 (0, 0)) aK NB482_0.out (by simp)); replace HK := aM (KeepBut.trans aQ hk (.inl rfl)); replace HB := aM (hb); replace HI0 := aM (hi); (try clear hb); (try clear hb2); (try clear hk); (try clear hi); (try clear ho0)) | ((with_reducible refine gate_dst (N := 5) rfl ?_); refine bE 5 (cs := #[.int .i64 0, .slice none 0 0]) (t := 35) ?_; intro gb489 hg w9 hbox hb; have BK489 := aM (hbox); have GW489 := aM ((by rw [hg]; exact (kS (w := w) (g := g)) : w.heap.size ≤ gb489)); have GE489 := aM ((Nat.le_trans HW0.out (by rw [hg]; exact (kS (w := w) (g := g)) : w.heap.size ≤ gb489) : w0.heap.size ≤ gb489)); have NB482_489 := aM ((by rw [hg]; exact Nat.ne_of_lt (blk_lt (g := gb482) (o := .cells #[.int .i64 0, .slice none 0 0] 35 (0, 0)) aK) : gb482 ≠ gb489)); have NB489_482 := aM ((by rw [hg]; exact Nat.ne_of_gt (blk_lt (g := gb482) (o := .cells #[.int .i64 0, .slice none 0 0] 35 (0, 0)) aK) : gb489 ≠ gb482)); have NB0_489 := aM ((by rw [hg]; exact Nat.ne_of_lt (IsS83.lt (show IsS83 w0 _ g s0_0 t487 t488 from aZ)) : g ≠ gb489)); have NB489_0 := aM ((by rw [hg]; exact Nat.ne_of_gt (IsS83.lt (show IsS83 w0 _ g s0_0 t487 t488 from aZ)) : gb489 ≠ g)); replace HO486 := aM (Kd.R_below (aR HO486) hb); replace BK482 := aM (kB gb482 #[.int .i64 0, .slice none 0 0] 35 hb); replace HK := aM (KeepBut.trans aQ (KeepBut.of_below hb g none) (.inl rfl)); replace HB := aM (below_step aY hb); replace HI0 := aM (IsS83.below aZ hb); clear hb hbox hg; have hnb10 := NB489_482.out; have hnc10 := NB482_489.out; have hnb11 := NB489_0.out; have hnc11 := NB0_489.out; have hcz12_0 : w9.cell? ⟨gb489, 0, none⟩ = some (.int .i64 0) := (blk_cell BK489.out 0).trans rfl; have hcz12_1 : w9.cell? ⟨gb489, 1, none⟩ = some (.slice none 0 0) := (blk_cell BK489.out 1).trans rfl; have hfz12_0 := blk_frozen BK489.out 0; have hfz12_1 := blk_frozen BK489.out 1; obtain ⟨Ao13, co13, eo13⟩ := Kd.R_slice HO486.out; subst eo13) | ((with_reducible refine gate_callee (f := 66) rfl ?_); refine goesL_ (some 10) rfl rfl Try.func66 (by kernel_rfl) rfl #[.pointer (some ⟨g, 0, none⟩), .int .i64 10] rfl aA ?_; (with_reducible refine (spec_l1Below.calls g s0_0 t487 t488 10 t490 t491 t492 w0 _ ?side1 ?side2 A4.out).mono ?_); (case side1 => exact aZ); (case side2 => exact aY); rintro e w14 ⟨rfl, hi, hb, hk⟩; refine ⟨_, rfl, ?_⟩; replace BK482 := aM (KeepBut.blk hk (g' := gb482) (o := .cells #[.int .i64 0, .slice none 0 0] 35 (0, 0)) (by (with_reducible repeat refine pB ?_); refine blk_far ?_ NB482_489.out _; (with_reducible repeat refine pB ?_); refine blk_far ?_ NB482_489.out _; (with_reducible repeat refine pB ?_); exact BK482.out) NB482_0.out (by simp)); replace HO486 := aM (Kd.R_mono (Kd.R_keep (IsS83.apart (show IsS83 w0 _ g s0_0 t487 t488 from aZ) (by (with_reducible repeat apply pR); exact (Kd.R_mono (Kd.R_far (p := ⟨gb489, 1, none⟩) (Kd.R_far (p := ⟨gb489, 0, none⟩) (Kd.R_types HO486.out BK489.out (by decide)) (fun _ hk => hk.2) (.int .i64 t483)) (fun _ hk => hk.2) (.slice Ao13 t484.length co13)) (fun _ h_ => h_.1))) (by decide)) hk (fun _ h => h.2)) (fun _ h => h.1)); replace BK489 := aM (KeepBut.blk hk (g' := gb489) (o := .cells #[.int .i64 t483, .slice Ao13 t484.length co13] 35 (0, 0)) (by (with_reducible repeat refine pB ?_); refine blk_put (cs := #[.int .i64 t483, .slice none 0 0]) ?_ 1 _ rfl; (with_reducible repeat refine pB ?_); refine blk_put (cs := #[.int .i64 0, .slice none 0 0]) ?_ 0 _ rfl; (with_reducible repeat refine pB ?_); exact BK489.out) NB489_0.out (by simp)); replace HK := aM (KeepBut.trans aQ hk (.inl rfl)); replace HB := aM (hb); replace HI0 := aM (hi); (try clear hb); (try clear hb2); (try clear hk); (try clear hi)) | ((with_reducible refine gate_callee (f := 66) rfl ?_); refine goesL_ (some 14) rfl rfl Try.func66 (by kernel_rfl) rfl #[.pointer (some ⟨g, 0, none⟩), .int .i64 6] rfl aA ?_; (with_reducible refine (spec_l1Below.calls g s0_0 t491 t492 6 t493 t494 t495 w0 _ ?side1 ?side2 A6.out).mono ?_); (case side1 => exact aZ); (case side2 => exact aY); rintro e w15 ⟨rfl, hi, hb, hk⟩; refine ⟨_, rfl, ?_⟩; have n0_ := aM (KeepBut.blk hk (g' := gb482) (o := .cells #[.int .i64 0, .slice none 0 0] 35 (0, 0)) aK NB482_0.out (by simp)); have n1_ := aM (Kd.R_mono (Kd.R_keep (IsS83.apart (show IsS83 w0 _ g s0_0 t491 t492 from aZ) (aR HO486) (by decide)) hk (fun _ h => h.2)) (fun _ h => h.1)); have n2_ := aM (KeepBut.blk hk (g' := gb489) (o := .cells #[.int .i64 t483, .slice Ao13 t484.length co13] 35 (0, 0)) aK NB489_0.out (by simp)); have n3_ := aM (KeepBut.trans aQ hk (.inl rfl)); have n4_ := aM (hb); have n5_ := aM (hi); clear BK482; clear HO486; clear BK489; clear HK; clear HB; clear HI0; have BK482 := n0_; have HO486 := n1_; have BK489 := n2_; have HK := n3_; have HB := n4_; have HI0 := n5_; clear n0_ n1_ n2_ n3_ n4_ n5_; (try clear hb); (try clear hb2); (try clear hk); (try clear hi); have hcz16_0 : w15.cell? ⟨gb489, 0, none⟩ = some (.int .i64 t483) := (blk_cell BK489.out 0).trans rfl; have hcz16_1 : w15.cell? ⟨gb489, 1, none⟩ = some (.slice Ao13 t484.length co13) := (blk_cell BK489.out 1).trans rfl; have hfz16_0 := blk_frozen BK489.out 0; have hfz16_1 := blk_frozen BK489.out 1; have hnb17 := NB482_0.out; have hnc17 := NB0_482.out; have hcz18_0 : w15.cell? ⟨gb482, 0, none⟩ = some (.int .i64 0) := (blk_cell BK482.out 0).trans rfl; have hcz18_1 : w15.cell? ⟨gb482, 1, none⟩ = some (.slice none 0 0) := (blk_cell BK482.out 1).trans rfl; have hfz18_0 := blk_frozen BK482.out 0; have hfz18_1 := blk_frozen BK482.out 1))
  refine bodyPost_ret (results_cell_row rfl _ _ gb482 35 #[.int .i64 (wrap64 (t493 - 1)), .slice Ao13 t484.length co13] (0, 0) _ rfl (by (with_reducible repeat refine pB ?_); refine blk_put (cs := #[.int .i64 (wrap64 (t493 - 1)), .slice none 0 0]) ?_ 1 _ rfl; (with_reducible repeat refine pB ?_); refine blk_put (cs := #[.int .i64 0, .slice none 0 0]) ?_ 0 _ rfl; (with_reducible repeat refine pB ?_); refine blk_far ?_ NB482_489.out _; (with_reducible repeat refine pB ?_); exact BK482.out) Try.underlying35 rfl (by kernel_rfl)) rfl ?_
  exact ⟨_, aE, by (with_reducible repeat apply pR); exact Kd.R_mono (Kd.R_far (p := ⟨gb482, 1, none⟩) (Kd.R_far (p := ⟨gb482, 0, none⟩) (Kd.R_far (p := ⟨gb489, 0, none⟩) (Kd.R_types (Kd.R_types HO486.out BK489.out (by decide)) BK482.out (by decide)) (fun _ hk => hk.1.2) (.int .i64 (wrap64 (t493 - 1)))) (fun _ hk => hk.2) (.int .i64 (wrap64 (t493 - 1)))) (fun _ hk => hk.2) (.slice Ao13 t484.length co13)) (fun _ hk => trivial), aZ, aY, aQ⟩
 ·rw [if_neg c5] at H
  have c5b0 : (t490 == 0) = false := beq_eq_false_iff_ne.mpr c5
  have c5b1 : (t490 != 0) = true := bne_iff_ne.mpr c5
  by_cases c19 : t490 = 1
  ·rw [if_pos c19] at H
   have c19b0 : (t490 == 1) = true := beq_iff_eq.mpr c19
   have c19b1 : (t490 != 1) = false := bne_eq_false_iff_eq.mpr c19
   clear c19
   by_cases c20 : t484.length < 17592186044416
   ·rw [if_pos c20] at H
    have LMc20 := aM c20
    clear c20
    obtain ⟨y496, hy496⟩ : ∃ y_ : List Int, y_ = (t484 ++ [1]) := ⟨_, rfl⟩
    first | replace H := bY hy496 H | rw [← hy496] at H
    have Ny496 := aM hy496
    clear hy496
    simp only [Option.some.injEq, Prod.mk.injEq] at H
    obtain ⟨rfl, rfl, rfl, rfl⟩ := H
    go_enter Try.func76, Try.ntmps76
    go_wp2_with (first | ((with_reducible refine gate_dst (N := 4) rfl ?_); refine bE 4 (cs := #[.int .i64 0, .slice none 0 0]) (t := 35) ?_; intro gb482 hg w21 hbox hb; have BK482 := aM (hbox); have GW482 := aM ((by rw [hg]; exact (kS (w := w) (g := g)) : w.heap.size ≤ gb482)); have GE482 := aM ((Nat.le_trans HW0.out (by rw [hg]; exact (kS (w := w) (g := g)) : w.heap.size ≤ gb482) : w0.heap.size ≤ gb482)); have NB0_482 := aM ((by rw [hg]; exact Nat.ne_of_lt (IsS83.lt (show IsS83 w0 _ g s0_0 s0_1 s0_2 from aZ)) : g ≠ gb482)); have NB482_0 := aM ((by rw [hg]; exact Nat.ne_of_gt (IsS83.lt (show IsS83 w0 _ g s0_0 s0_1 s0_2 from aZ)) : gb482 ≠ g)); replace HK := aM (KeepBut.trans aQ (KeepBut.of_below hb g none) (.inl rfl)); replace HB := aM (below_step aY hb); replace HI0 := aM (IsS83.below aZ hb); clear hb hbox hg) | ((with_reducible refine gate_callee (f := 95) rfl ?_); refine goesL_ (some 8) rfl rfl Try.func95 (by kernel_rfl) rfl #[.pointer (some ⟨g, 0, none⟩), .slice A1 l1.length c1, .int .i64 4] rfl aA ?_; (with_reducible refine (spec_l3Fact.calls k g s0_0 s0_1 s0_2 _ _ l1 4 t483 t484 t487 t488 w0 _ ?side1 ?side2 ?side3 ?side4 A3.out).mono ?_); (case side1 => exact aZ); (case side2 => exact aY); (case side3 => exact Kd.C_foot_step HR1.out aQ); (case side4 => exact HC1.out); rintro e w22 ⟨v485, rfl, ho0, hi, hb, hk⟩; refine ⟨_, rfl, ?_⟩; have HO486 := aM (Kd.R_lower ho0 (kS (w := w) (g := g))); replace BK482 := aM (KeepBut.blk hk (g' := gb482) (o := .cells #[.int .i64 0, .slice none 0 0] 35 (0, 0)) aK NB482_0.out (by simp)); replace HK := aM (KeepBut.trans aQ hk (.inl rfl)); replace HB := aM (hb); replace HI0 := aM (hi); (try clear hb); (try clear hb2); (try clear hk); (try clear hi); (try clear ho0)) | ((with_reducible refine gate_dst (N := 5) rfl ?_); refine bE 5 (cs := #[.int .i64 0, .slice none 0 0]) (t := 35) ?_; intro gb489 hg w23 hbox hb; have BK489 := aM (hbox); have GW489 := aM ((by rw [hg]; exact (kS (w := w) (g := g)) : w.heap.size ≤ gb489)); have GE489 := aM ((Nat.le_trans HW0.out (by rw [hg]; exact (kS (w := w) (g := g)) : w.heap.size ≤ gb489) : w0.heap.size ≤ gb489)); have NB482_489 := aM ((by rw [hg]; exact Nat.ne_of_lt (blk_lt (g := gb482) (o := .cells #[.int .i64 0, .slice none 0 0] 35 (0, 0)) aK) : gb482 ≠ gb489)); have NB489_482 := aM ((by rw [hg]; exact Nat.ne_of_gt (blk_lt (g := gb482) (o := .cells #[.int .i64 0, .slice none 0 0] 35 (0, 0)) aK) : gb489 ≠ gb482)); have NB0_489 := aM ((by rw [hg]; exact Nat.ne_of_lt (IsS83.lt (show IsS83 w0 _ g s0_0 t487 t488 from aZ)) : g ≠ gb489)); have NB489_0 := aM ((by rw [hg]; exact Nat.ne_of_gt (IsS83.lt (show IsS83 w0 _ g s0_0 t487 t488 from aZ)) : gb489 ≠ g)); replace HO486 := aM (Kd.R_below (aR HO486) hb); replace BK482 := aM (kB gb482 #[.int .i64 0, .slice none 0 0] 35 hb); replace HK := aM (KeepBut.trans aQ (KeepBut.of_below hb g none) (.inl rfl)); replace HB := aM (below_step aY hb); replace HI0 := aM (IsS83.below aZ hb); clear hb hbox hg; have hnb24 := NB489_482.out; have hnc24 := NB482_489.out; have hnb25 := NB489_0.out; have hnc25 := NB0_489.out; have hcz26_0 : w23.cell? ⟨gb489, 0, none⟩ = some (.int .i64 0) := (blk_cell BK489.out 0).trans rfl; have hcz26_1 : w23.cell? ⟨gb489, 1, none⟩ = some (.slice none 0 0) := (blk_cell BK489.out 1).trans rfl; have hfz26_0 := blk_frozen BK489.out 0; have hfz26_1 := blk_frozen BK489.out 1; obtain ⟨Ao27, co27, eo27⟩ := Kd.R_slice HO486.out; subst eo27) | ((with_reducible refine gate_callee (f := 66) rfl ?_); refine goesL_ (some 10) rfl rfl Try.func66 (by kernel_rfl) rfl #[.pointer (some ⟨g, 0, none⟩), .int .i64 10] rfl aA ?_; (with_reducible refine (spec_l1Below.calls g s0_0 t487 t488 10 t490 t491 t492 w0 _ ?side1 ?side2 A4.out).mono ?_); (case side1 => exact aZ); (case side2 => exact aY); rintro e w28 ⟨rfl, hi, hb, hk⟩; refine ⟨_, rfl, ?_⟩; replace BK482 := aM (KeepBut.blk hk (g' := gb482) (o := .cells #[.int .i64 0, .slice none 0 0] 35 (0, 0)) (by (with_reducible repeat refine pB ?_); refine blk_far ?_ NB482_489.out _; (with_reducible repeat refine pB ?_); refine blk_far ?_ NB482_489.out _; (with_reducible repeat refine pB ?_); exact BK482.out) NB482_0.out (by simp)); replace HO486 := aM (Kd.R_mono (Kd.R_keep (IsS83.apart (show IsS83 w0 _ g s0_0 t487 t488 from aZ) (by (with_reducible repeat apply pR); exact (Kd.R_mono (Kd.R_far (p := ⟨gb489, 1, none⟩) (Kd.R_far (p := ⟨gb489, 0, none⟩) (Kd.R_types HO486.out BK489.out (by decide)) (fun _ hk => hk.2) (.int .i64 t483)) (fun _ hk => hk.2) (.slice Ao27 t484.length co27)) (fun _ h_ => h_.1))) (by decide)) hk (fun _ h => h.2)) (fun _ h => h.1)); replace BK489 := aM (KeepBut.blk hk (g' := gb489) (o := .cells #[.int .i64 t483, .slice Ao27 t484.length co27] 35 (0, 0)) (by (with_reducible repeat refine pB ?_); refine blk_put (cs := #[.int .i64 t483, .slice none 0 0]) ?_ 1 _ rfl; (with_reducible repeat refine pB ?_); refine blk_put (cs := #[.int .i64 0, .slice none 0 0]) ?_ 0 _ rfl; (with_reducible repeat refine pB ?_); exact BK489.out) NB489_0.out (by simp)); replace HK := aM (KeepBut.trans aQ hk (.inl rfl)); replace HB := aM (hb); replace HI0 := aM (hi); (try clear hb); (try clear hb2); (try clear hk); (try clear hi); have hcz29_0 : w28.cell? ⟨gb489, 0, none⟩ = some (.int .i64 t483) := (blk_cell BK489.out 0).trans rfl; have hcz29_1 : w28.cell? ⟨gb489, 1, none⟩ = some (.slice Ao27 t484.length co27) := (blk_cell BK489.out 1).trans rfl; have hfz29_0 := blk_frozen BK489.out 0; have hfz29_1 := blk_frozen BK489.out 1) | ((with_reducible refine gate_builtin (b := .append) (xs := #[.tmp 20, .tmp 21]) rfl ?_); at_builtin; refine Kd.R_append (Kd.int .i64) w.heap.size rfl (.tmp 20) (.tmp 21) 32 3 (.int .i64 0) 8 rfl Try.underlying32 info3 rfl (by decide) (by omega) (.slice Ao27 t484.length co27) t484 1 [.int .i64 1] (fun _ => True) (fun _ => False) rfl rfl ?aP (fun _ hk => hk.elim) ?aF ?aO (Below.refl _ _) ?aS ?aL ?_; (case aP => exact rfl); (case aF => exact (fun _ _ => trivial)); (case aO => exact (aR HO486)); (case aS => exact (kS (w := w) (g := g))); (case aL => have := LMc20.out; omega); intro v497 w30 ho hb hg hat; rw [← Ny496.out] at ho; have n0_ := aM (IsS83.grown aZ hg (IsS83.own_ne HI0.out HO486.out (by decide))); have n1_ := aM (blk_grown (g := gb482) (o := .cells #[.int .i64 0, .slice none 0 0] 35 (0, 0)) aK hg (Kd.R_ne HO486.out BK482.out (by decide))); have n2_ := aM (blk_grown (g := gb489) (o := .cells #[.int .i64 t483, .slice Ao27 t484.length co27] 35 (0, 0)) aK hg (Kd.R_ne HO486.out BK489.out (by decide))); have n3_ := aM (below_weaken aY HL.out hb); have n4_ := aM (KeepBut.trans aQ (KeepBut.of_grown hg g) (Kd.R_base2 HO486.out)); have n5_ := aM (ho); clear HI0; clear BK482; clear BK489; clear HB; clear HK; clear HO486; have HI0 := n0_; have BK482 := n1_; have BK489 := n2_; have HB := n3_; have HK := n4_; have HO498 := n5_; clear n0_ n1_ n2_ n3_ n4_ n5_; clear ho hb hg hat; obtain ⟨Ao31, co31, eo31⟩ := Kd.R_slice HO498.out; subst eo31; have hcz32_0 : w30.cell? ⟨gb489, 0, none⟩ = some (.int .i64 t483) := (blk_cell BK489.out 0).trans rfl; have hcz32_1 : w30.cell? ⟨gb489, 1, none⟩ = some (.slice Ao27 t484.length co27) := (blk_cell BK489.out 1).trans rfl; have hfz32_0 := blk_frozen BK489.out 0; have hfz32_1 := blk_frozen BK489.out 1; have hnb33 := NB482_0.out; have hnc33 := NB0_482.out; have hcz34_0 : w30.cell? ⟨gb482, 0, none⟩ = some (.int .i64 0) := (blk_cell BK482.out 0).trans rfl; have hcz34_1 : w30.cell? ⟨gb482, 1, none⟩ = some (.slice none 0 0) := (blk_cell BK482.out 1).trans rfl; have hfz34_0 := blk_frozen BK482.out 0; have hfz34_1 := blk_frozen BK482.out 1))
    refine bodyPost_ret (results_cell_row rfl _ _ gb482 35 #[.int .i64 t483, .slice Ao31 y496.length co31] (0, 0) _ rfl (by (with_reducible repeat refine pB ?_); refine blk_put (cs := #[.int .i64 t483, .slice none 0 0]) ?_ 1 _ rfl; (with_reducible repeat refine pB ?_); refine blk_put (cs := #[.int .i64 0, .slice none 0 0]) ?_ 0 _ rfl; (with_reducible repeat refine pB ?_); refine blk_far ?_ NB482_489.out _; (with_reducible repeat refine pB ?_); exact BK482.out) Try.underlying35 rfl (by kernel_rfl)) rfl ?_
    exact ⟨_, aE, by (with_reducible repeat apply pR); exact Kd.R_mono (Kd.R_far (p := ⟨gb482, 1, none⟩) (Kd.R_far (p := ⟨gb482, 0, none⟩) (Kd.R_far (p := ⟨gb489, 1, none⟩) (Kd.R_types (Kd.R_types HO498.out BK489.out (by decide)) BK482.out (by decide)) (fun _ hk => hk.1.2) (.slice Ao31 y496.length co31)) (fun _ hk => hk.2) (.int .i64 t483)) (fun _ hk => hk.2) (.slice Ao31 y496.length co31)) (fun _ hk => trivial), aZ, aY, aQ⟩
   ·rw [if_neg c20] at H
    exact absurd H (by simp)
  ·rw [if_neg c19] at H
   have c19b0 : (t490 == 1) = false := beq_eq_false_iff_ne.mpr c19
   have c19b1 : (t490 != 1) = true := bne_iff_ne.mpr c19
   by_cases c35 : t490 = 2
   ·rw [if_pos c35] at H
    have c35b0 : (t490 == 2) = true := beq_iff_eq.mpr c35
    have c35b1 : (t490 != 2) = false := bne_eq_false_iff_eq.mpr c35
    clear c35
    obtain ⟨y499, hy499⟩ : ∃ y_ : List Int, y_ = (([(-1), 10, 9] : List Int)) := ⟨_, rfl⟩
    first | replace H := bY hy499 H | rw [← hy499] at H
    have Ny499 := aM hy499
    clear hy499
    replace H := bM H
    obtain ⟨⟨t502, t503, t504⟩, A360, H⟩ := H
    dsimp only at H
    have A36 := aM A360
    clear A360
    by_cases c37 : 0 < (t484.length : Int)
    ·rw [if_pos c37] at H
     have c37b0 : decide (0 < (t484.length : Int)) = true := decide_eq_true c37
     have c37b1 : decide (0 < t484.length) = true := decide_eq_true (by omega)
     clear c37
     obtain ⟨y505, hy505⟩ : ∃ y_ : List Int, y_ = (t484.set (0 : Int).toNat t502) := ⟨_, rfl⟩
     first | replace H := bY hy505 H | rw [← hy505] at H
     have Ny505 := aM hy505
     clear hy505
     simp only [Option.some.injEq, Prod.mk.injEq] at H
     obtain ⟨rfl, rfl, rfl, rfl⟩ := H
     go_enter Try.func76, Try.ntmps76
     try go_wp2_with (first | ((with_reducible refine gate_dst (N := 4) rfl ?_); refine bE 4 (cs := #[.int .i64 0, .slice none 0 0]) (t := 35) ?_; intro gb482 hg w39 hbox hb; have BK482 := aM (hbox); have GW482 := aM ((by rw [hg]; exact (kS (w := w) (g := g)) : w.heap.size ≤ gb482)); have GE482 := aM ((Nat.le_trans HW0.out (by rw [hg]; exact (kS (w := w) (g := g)) : w.heap.size ≤ gb482) : w0.heap.size ≤ gb482)); have NB0_482 := aM ((by rw [hg]; exact Nat.ne_of_lt (IsS83.lt (show IsS83 w0 _ g s0_0 s0_1 s0_2 from aZ)) : g ≠ gb482)); have NB482_0 := aM ((by rw [hg]; exact Nat.ne_of_gt (IsS83.lt (show IsS83 w0 _ g s0_0 s0_1 s0_2 from aZ)) : gb482 ≠ g)); replace HK := aM (KeepBut.trans aQ (KeepBut.of_below hb g none) (.inl rfl)); replace HB := aM (below_step aY hb); replace HI0 := aM (IsS83.below aZ hb); clear hb hbox hg) | ((with_reducible refine gate_callee (f := 95) rfl ?_); refine goesL_ (some 8) rfl rfl Try.func95 (by kernel_rfl) rfl #[.pointer (some ⟨g, 0, none⟩), .slice A1 l1.length c1, .int .i64 4] rfl aA ?_; (with_reducible refine (spec_l3Fact.calls k g s0_0 s0_1 s0_2 _ _ l1 4 t483 t484 t487 t488 w0 _ ?side1 ?side2 ?side3 ?side4 A3.out).mono ?_); (case side1 => exact aZ); (case side2 => exact aY); (case side3 => exact Kd.C_foot_step HR1.out aQ); (case side4 => exact HC1.out); rintro e w40 ⟨v485, rfl, ho0, hi, hb, hk⟩; refine ⟨_, rfl, ?_⟩; have HO486 := aM (Kd.R_lower ho0 (kS (w := w) (g := g))); replace BK482 := aM (KeepBut.blk hk (g' := gb482) (o := .cells #[.int .i64 0, .slice none 0 0] 35 (0, 0)) aK NB482_0.out (by simp)); replace HK := aM (KeepBut.trans aQ hk (.inl rfl)); replace HB := aM (hb); replace HI0 := aM (hi); (try clear hb); (try clear hb2); (try clear hk); (try clear hi); (try clear ho0)) | ((with_reducible refine gate_dst (N := 5) rfl ?_); refine bE 5 (cs := #[.int .i64 0, .slice none 0 0]) (t := 35) ?_; intro gb489 hg w41 hbox hb; have BK489 := aM (hbox); have GW489 := aM ((by rw [hg]; exact (kS (w := w) (g := g)) : w.heap.size ≤ gb489)); have GE489 := aM ((Nat.le_trans HW0.out (by rw [hg]; exact (kS (w := w) (g := g)) : w.heap.size ≤ gb489) : w0.heap.size ≤ gb489)); have NB482_489 := aM ((by rw [hg]; exact Nat.ne_of_lt (blk_lt (g := gb482) (o := .cells #[.int .i64 0, .slice none 0 0] 35 (0, 0)) aK) : gb482 ≠ gb489)); have NB489_482 := aM ((by rw [hg]; exact Nat.ne_of_gt (blk_lt (g := gb482) (o := .cells #[.int .i64 0, .slice none 0 0] 35 (0, 0)) aK) : gb489 ≠ gb482)); have NB0_489 := aM ((by rw [hg]; exact Nat.ne_of_lt (IsS83.lt (show IsS83 w0 _ g s0_0 t487 t488 from aZ)) : g ≠ gb489)); have NB489_0 := aM ((by rw [hg]; exact Nat.ne_of_gt (IsS83.lt (show IsS83 w0 _ g s0_0 t487 t488 from aZ)) : gb489 ≠ g)); replace HO486 := aM (Kd.R_below (aR HO486) hb); replace BK482 := aM (kB gb482 #[.int .i64 0, .slice none 0 0] 35 hb); replace HK := aM (KeepBut.trans aQ (KeepBut.of_below hb g none) (.inl rfl)); replace HB := aM (below_step aY hb); replace HI0 := aM (IsS83.below aZ hb); clear hb hbox hg; have hnb42 := NB489_482.out; have hnc42 := NB482_489.out; have hnb43 := NB489_0.out; have hnc43 := NB0_489.out; have hcz44_0 : w41.cell? ⟨gb489, 0, none⟩ = some (.int .i64 0) := (blk_cell BK489.out 0).trans rfl; have hcz44_1 : w41.cell? ⟨gb489, 1, none⟩ = some (.slice none 0 0) := (blk_cell BK489.out 1).trans rfl; have hfz44_0 := blk_frozen BK489.out 0; have hfz44_1 := blk_frozen BK489.out 1; obtain ⟨Ao45, co45, eo45⟩ := Kd.R_slice HO486.out; subst eo45) | ((with_reducible refine gate_callee (f := 66) rfl ?_); refine goesL_ (some 10) rfl rfl Try.func66 (by kernel_rfl) rfl #[.pointer (some ⟨g, 0, none⟩), .int .i64 10] rfl aA ?_; (with_reducible refine (spec_l1Below.calls g s0_0 t487 t488 10 t490 t491 t492 w0 _ ?side1 ?side2 A4.out).mono ?_); (case side1 => exact aZ); (case side2 => exact aY); rintro e w46 ⟨rfl, hi, hb, hk⟩; refine ⟨_, rfl, ?_⟩; replace BK482 := aM (KeepBut.blk hk (g' := gb482) (o := .cells #[.int .i64 0, .slice none 0 0] 35 (0, 0)) (by (with_reducible repeat refine pB ?_); refine blk_far ?_ NB482_489.out _; (with_reducible repeat refine pB ?_); refine blk_far ?_ NB482_489.out _; (with_reducible repeat refine pB ?_); exact BK482.out) NB482_0.out (by simp)); replace HO486 := aM (Kd.R_mono (Kd.R_keep (IsS83.apart (show IsS83 w0 _ g s0_0 t487 t488 from aZ) (by (with_reducible repeat apply pR); exact (Kd.R_mono (Kd.R_far (p := ⟨gb489, 1, none⟩) (Kd.R_far (p := ⟨gb489, 0, none⟩) (Kd.R_types HO486.out BK489.out (by decide)) (fun _ hk => hk.2) (.int .i64 t483)) (fun _ hk => hk.2) (.slice Ao45 t484.length co45)) (fun _ h_ => h_.1))) (by decide)) hk (fun _ h => h.2)) (fun _ h => h.1)); replace BK489 := aM (KeepBut.blk hk (g' := gb489) (o := .cells #[.int .i64 t483, .slice Ao45 t484.length co45] 35 (0, 0)) (by (with_reducible repeat refine pB ?_); refine blk_put (cs := #[.int .i64 t483, .slice none 0 0]) ?_ 1 _ rfl; (with_reducible repeat refine pB ?_); refine blk_put (cs := #[.int .i64 0, .slice none 0 0]) ?_ 0 _ rfl; (with_reducible repeat refine pB ?_); exact BK489.out) NB489_0.out (by simp)); replace HK := aM (KeepBut.trans aQ hk (.inl rfl)); replace HB := aM (hb); replace HI0 := aM (hi); (try clear hb); (try clear hb2); (try clear hk); (try clear hi)))
     replace HO486 := aM (Kd.R_drew HO486.out)
     replace BK482 := aM (blk_drew BK482.out)
     replace BK489 := aM (blk_drew BK489.out)
     replace HI0 := aM (IsS83.drew HI0.out)
     replace HK := aM (keep_drew HK.out)
     replace HB := aM (below_drew1 HB.out)
     refine start_ (n := 7) (S := fun w' => w'.cell? ⟨gb489, 0, none⟩ = some (.int .i64 t483) ∧ w'.cell? ⟨gb489, 1, none⟩ = some (.slice Ao45 t484.length co45)) (ds := [6]) #[false, false, false, false, false, false, false] (by kernel_rfl) rfl rfl ⟨(blk_cell BK489.out 0).trans rfl, (blk_cell BK489.out 1).trans rfl⟩ (fun hHeld => ?_)
     generalize w46.drew = w47 at HO486 BK482 BK489 HI0 HK HB hHeld ⊢
     refine pure_ (i := 0) (N := some 26) (v := ?_) (a' := ?_) #[true, false, false, false, false, false, false] rfl rfl (by kernel_rfl) (fun _ _ _ h => h) (Or.inl ⟨by rfl, ?_⟩) ?_ ?_
     rotate_left
     ·exact aI
     rotate_left
     ·exact aP
     refine pure_ (i := 2) (N := some 28) (v := ?_) (a' := ?_) #[true, false, true, false, false, false, false] rfl rfl (by kernel_rfl) (fun _ _ _ h => h) (Or.inl ⟨by rfl, ?_⟩) ?_ ?_
     rotate_left
     ·exact aI
     rotate_left
     ·exact aP
     refine take_ (i := 1) (N := some 27) (v := ?_) (a' := ?_) #[true, true, true, false, false, false, false] rfl rfl (by kernel_rfl) (fun _ _ _ h => h) (Or.inl ⟨by rfl, ?_⟩) hHeld ?_ ?_
     rotate_left
     ·rintro w' ⟨s0, s1⟩
      go_simp
      with_reducible rfl
     rotate_left
     ·exact aP
     refine one_ (i := 3) (N := some 29) #[true, true, true, true, false, false, false] rfl rfl (by kernel_rfl) (by decide) (fun K hK => ?_)
     refine Kd.R_lit_step (Kd.int .i64) _ 3 ?hg (N := 29) ?hd (xs := ([(-1), 10, 9] : List Int)) (inner := [.int .i64 (-1), .int .i64 10, .int .i64 9]) (ok := fun _ => True) (okp := fun _ => True) ?hr ?hp (fun _ hk => hk) trivial (Below.refl _ _) (Nat.le_refl _) (by simp) ?_; (case hd => rfl); (case hg => rfl); (case hr => first | (go_simp; done) | (go_simp; rfl)); (case hp => exact (Reps.one (show Kd.M (Kd.int .i64) _ _ _ (-1) [.int .i64 (-1)] from rfl) (Reps.one (show Kd.M (Kd.int .i64) _ _ _ 10 [.int .i64 10] from rfl) (Reps.one (show Kd.M (Kd.int .i64) _ _ _ 9 [.int .i64 9] from rfl) (Reps.none _ _)))))
     intro v500 w48 ho49 hb hg_ hnew_
     clear hg_ hnew_
     (first | rw [← Ny499.out] at ho49 | (simp only [Int.reduceToNat] at ho49; rw [← Ny499.out] at ho49))
     have n0_ := aM (Kd.R_elder' (aR HO486) (Kd.R_base ho49) hb)
     have n1_ := aM (Kd.R_lower (Kd.R_new' ho49 (Kd.R_lt (aR HO486))) (kS (w := w) (g := g)))
     have n2_ := aM (IsS83.below aZ hb)
     have n3_ := aM (kB gb482 #[.int .i64 0, .slice none 0 0] 35 hb)
     have n4_ := aM (kB gb489 #[.int .i64 t483, .slice Ao45 t484.length co45] 35 hb)
     have n5_ := aM (KeepBut.trans aQ (KeepBut.of_below hb g none) (.inl rfl))
     have n6_ := aM (below_step aY hb)
     clear HO486
     clear HI0
     clear BK482
     clear BK489
     clear HK
     clear HB
     have HO486 := n0_
     have HO501 := n1_
     have HI0 := n2_
     have BK482 := n3_
     have BK489 := n4_
     have HK := n5_
     have HB := n6_
     clear n0_ n1_ n2_ n3_ n4_ n5_ n6_
     clear hb ho49
     obtain ⟨Ao50, co50, eo50⟩ := Kd.R_slice HO501.out
     (first | subst eo50 | (injection eo50 with f1_ f2_ f3_; have f4_ := f1_.symm; have f5_ := f3_.symm; clear f1_ f2_ f3_; subst f4_; subst f5_))
     refine hK.out _ _ ⟨(blk_cell BK489.out 0).trans rfl, (blk_cell BK489.out 1).trans rfl⟩ (fun hHeld => ?_)
     clear hK K
     refine nU 29 ?_
     refine one_ (i := 4) (N := some 30) #[true, true, true, true, true, false, false] rfl rfl (by kernel_rfl) (by decide) (fun K hK => ?_)
     refine goes_ Try.func94 (by kernel_rfl) rfl #[.pointer (some ⟨g, 0, none⟩), .slice Ao50 y499.length co50] (by rfl) rfl rfl aA ?_
     with_reducible refine (spec_l1PickInt.calls g s0_0 t491 t492 _ _ y499 t502 t503 t504 w0 _ ?side1 ?side2 ?side3 ?side4 ?side5 A36.out).mono ?_
     (case side1 => exact aZ)
     (case side2 => exact aY)
     (case side3 => repeat (first | exact (Kd.R_reads' HO501.out).2.2 | (with_reducible refine pC ?_)))
     (case side4 => exact (Kd.R_reads' HO501.out).2.1)
     (case side5 => exact far_slice (IsS83.own_ne HI0.out HO501.out (by decide)))
     rintro e w51 ⟨rfl, hi, hb, hk⟩
     refine ⟨_, rfl, ?_⟩
     have n0_ := aM (KeepBut.blk hk (g' := gb482) (o := .cells #[.int .i64 0, .slice none 0 0] 35 (0, 0)) aK NB482_0.out (by simp))
     have n1_ := aM (Kd.R_mono (Kd.R_keep (IsS83.apart (show IsS83 w0 _ g s0_0 t491 t492 from aZ) (aR HO486) (by decide)) hk (fun _ h => h.2)) (fun _ h => h.1))
     have n2_ := aM (KeepBut.blk hk (g' := gb489) (o := .cells #[.int .i64 t483, .slice Ao45 t484.length co45] 35 (0, 0)) aK NB489_0.out (by simp))
     have n3_ := aM (Kd.R_mono (Kd.R_keep (IsS83.apart (show IsS83 w0 _ g s0_0 t491 t492 from aZ) (aR HO501) (by decide)) hk (fun _ h => h.2)) (fun _ h => h.1))
     have n4_ := aM (KeepBut.trans aQ hk (.inl rfl))
     have n5_ := aM (hb)
     have n6_ := aM (hi)
     clear BK482
     clear HO486
     clear BK489
     clear HO501
     clear HK
     clear HB
     clear HI0
     have BK482 := n0_
     have HO486 := n1_
     have BK489 := n2_
     have HO501 := n3_
     have HK := n4_
     have HB := n5_
     have HI0 := n6_
     clear n0_ n1_ n2_ n3_ n4_ n5_ n6_
     (try clear hb)
     (try clear hb2)
     (try clear hk)
     (try clear hi)
     have p38 : 0 ≤ (0 : Int) := (by omega)
     have q38 : (0 : Int) < ((t484.length : Int) : Int) := aD
     have qi38 : (0 < t484.length) = True := eq_true (by omega)
     obtain ⟨go38, co38, eo38, gb38, gl38, cl38, HG38⟩ := Kd.R_form HO486.out (by omega)
     (first | cases eo38 | (injection eo38 with ea_ en_ ec_; (first | subst ea_ | (injection ea_ with ea_; subst ea_)); subst ec_; clear en_))
     have GB38 := aM gb38
     have GG38 := aM HG38
     clear gb38 gl38 HG38
     obtain ⟨hx38_0, hf38_0⟩ := Kd.R_celln 0 HO486.out (0 : Int) p38 q38
     (try rw [show ((0 : Int)).toNat = 0 from rfl] at hx38_0)
     (try simp only [Nat.reduceMul, Nat.zero_mul, Nat.zero_add, Nat.reduceAdd] at hx38_0)
     (try rw [show ((0 : Int)).toNat = 0 from rfl] at hf38_0)
     (try simp only [Nat.reduceMul, Nat.zero_mul, Nat.zero_add, Nat.reduceAdd] at hf38_0)
     replace p38 := eq_true p38
     replace q38 := eq_true q38
     have HN0_go38 := aM (show g ≠ go38 from by have h_ := IsS83.own_ne HI0.out HO486.out (by decide); intro e_; exact h_ (by rw [e_]; rfl))
     have HP52 := Kd.R_putn HO486.out (0 : Int) t502
     rw [← Ny505.out] at HP52
     have HQ52 := aM HP52
     clear HP52
     refine hK.out _ _ ⟨(blk_cell BK489.out 0).trans rfl, (blk_cell BK489.out 1).trans rfl⟩ (fun hHeld => ?_)
     clear hK K
     refine nU 30 ?_
     refine pure_ (i := 5) (N := some 31) (v := ?_) (a' := ?_) #[true, true, true, true, true, true, false] rfl rfl (by kernel_rfl) (fun _ _ _ h => h) (Or.inl ⟨by rfl, ?_⟩) ?_ ?_
     rotate_left
     ·exact aI
     rotate_left
     ·exact aP
     refine last_ (i := 6) (N := none) #[true, true, true, true, true, true, true] rfl rfl (by kernel_rfl) (by decide) (fun K hK => ?_)
     refine skip_ (w1 := ?_) (by rfl) rfl ?_ ?_
     rotate_left
     ·go_simp
      rfl
     refine hK.out _ _ ?_
     clear hK K
     refine done_ (by kernel_rfl) ?_
     have n0_ : Aside0 (Kd.R (Kd.int .i64) 3 (w51.setCell ⟨go38, 0, none⟩ (.int .i64 t502)) w.heap.size (fun k_ => some k_ ≠ (.slice Ao50 y499.length co50 : Value).ownBlock) (.slice (some ⟨go38, 0, none⟩) t484.length co45) y505) := ⟨by (with_reducible repeat apply pR); exact Kd.R_mono HQ52.out (fun _ hk => hk.2)⟩
     have n1_ : Aside0 (Kd.R (Kd.int .i64) 3 (w51.setCell ⟨go38, 0, none⟩ (.int .i64 t502)) w.heap.size (fun k_ => some k_ ≠ (.slice (some ⟨go38, 0, none⟩) t484.length co45 : Value).ownBlock) (.slice Ao50 y499.length co50) y499) := ⟨by (with_reducible repeat apply pR); exact Kd.R_mono (Kd.R_far (p := ⟨go38, 0, none⟩) (Kd.R_mono HO501.out (fun k_ hk => (⟨hk, fun e_ => hk.2 (by rw [e_]; rfl)⟩ : _ ∧ k_ ≠ go38))) (fun _ hk => hk.2) (.int .i64 t502)) (fun _ hk => hk.1.2)⟩
     have n2_ : Aside0 ((w51.setCell ⟨go38, 0, none⟩ (.int .i64 t502)).heap[gb482]? = some (.cells #[.int .i64 0, .slice none 0 0] 35 (0, 0))) := ⟨by (with_reducible repeat refine pB ?_); refine blk_far ?_ (by have h_ := Kd.R_ne HO486.out BK482.out (by decide); intro e_; exact h_ (by rw [e_]; rfl)) _; (with_reducible repeat refine pB ?_); exact BK482.out⟩
     have n3_ : Aside0 ((w51.setCell ⟨go38, 0, none⟩ (.int .i64 t502)).heap[gb489]? = some (.cells #[.int .i64 t483, .slice (some ⟨go38, 0, none⟩) t484.length co45] 35 (0, 0))) := ⟨by (with_reducible repeat refine pB ?_); refine blk_far ?_ (by have h_ := Kd.R_ne HO486.out BK489.out (by decide); intro e_; exact h_ (by rw [e_]; rfl)) _; (with_reducible repeat refine pB ?_); exact BK489.out⟩
     have n4_ : Aside0 (IsS83 w0 (w51.setCell ⟨go38, 0, none⟩ (.int .i64 t502)) g s0_0 t503 t504) := ⟨by repeat (first | (with_reducible first | exact HI0.out | apply IsS83.alloc | apply IsS83.drewN | apply IsS83.drew | apply IsS83.set_1 | apply IsS83.set_2 | refine IsS83.far ?_ HN0_go38.out _ | refine IsS83.far ?_ NB0_482.out _ | refine IsS83.far ?_ NB0_489.out _) | exact HI0.out)⟩
     have n5_ : Aside0 (KeepBut w (w51.setCell ⟨go38, 0, none⟩ (.int .i64 t502)) g none) := ⟨by repeat (first | (with_reducible first | exact HK.out | apply KeepBut.set_ | apply keep_drewN | apply keep_drew | apply keep_alloc | refine keep_far ?_ GB38.out _ | refine keep_far ?_ GW482.out _ | refine keep_far ?_ GW489.out _) | exact HK.out)⟩
     have n6_ : Aside0 (Below w0.heap.size w0 (w51.setCell ⟨go38, 0, none⟩ (.int .i64 t502))) := ⟨by repeat (first | (with_reducible first | exact HB.out | apply below_alloc | apply pw_below_drewN | apply below_drew1 | refine below_set ?_ (Nat.le_trans HL.out GB38.out) | refine below_set ?_ (IsS83.ge HI0.out) | refine below_set ?_ GE482.out | refine below_set ?_ GE489.out) | exact HB.out)⟩
     (try clear HO486)
     (try clear HO501)
     (try clear BK482)
     (try clear BK489)
     (try clear HI0)
     (try clear HK)
     (try clear HB)
     generalize (w51.setCell ⟨go38, 0, none⟩ (.int .i64 t502)) = w53 at n0_ n1_ n2_ n3_ n4_ n5_ n6_ ⊢
     have HO486 := n0_
     have HO501 := n1_
     have BK482 := n2_
     have BK489 := n3_
     have HI0 := n4_
     have HK := n5_
     have HB := n6_
     clear n0_ n1_ n2_ n3_ n4_ n5_ n6_
     have hcz54_0 : w53.cell? ⟨gb489, 0, none⟩ = some (.int .i64 t483) := (blk_cell BK489.out 0).trans rfl
     have hcz54_1 : w53.cell? ⟨gb489, 1, none⟩ = some (.slice (some ⟨go38, 0, none⟩) t484.length co45) := (blk_cell BK489.out 1).trans rfl
     have hfz54_0 := blk_frozen BK489.out 0
     have hfz54_1 := blk_frozen BK489.out 1
     have hnb55 := NB482_0.out
     have hnc55 := NB0_482.out
     have hcz56_0 : w53.cell? ⟨gb482, 0, none⟩ = some (.int .i64 0) := (blk_cell BK482.out 0).trans rfl
     have hcz56_1 : w53.cell? ⟨gb482, 1, none⟩ = some (.slice none 0 0) := (blk_cell BK482.out 1).trans rfl
     have hfz56_0 := blk_frozen BK482.out 0
     have hfz56_1 := blk_frozen BK482.out 1
     try go_wp2
     refine bodyPost_ret (results_cell_row rfl _ _ gb482 35 #[.int .i64 t483, .slice (some ⟨go38, 0, none⟩) t484.length co45] (0, 0) _ rfl (by (with_reducible repeat refine pB ?_); refine blk_put (cs := #[.int .i64 t483, .slice none 0 0]) ?_ 1 _ rfl; (with_reducible repeat refine pB ?_); refine blk_put (cs := #[.int .i64 0, .slice none 0 0]) ?_ 0 _ rfl; (with_reducible repeat refine pB ?_); exact BK482.out) Try.underlying35 rfl (by kernel_rfl)) rfl ?_
     exact ⟨_, aE, by (with_reducible repeat apply pR); exact Kd.R_mono (Kd.R_far (p := ⟨gb482, 1, none⟩) (Kd.R_far (p := ⟨gb482, 0, none⟩) (Kd.R_types HO486.out BK482.out (by decide)) (fun _ hk => hk.2) (.int .i64 t483)) (fun _ hk => hk.2) (.slice (some ⟨go38, 0, none⟩) t484.length co45)) (fun _ hk => trivial), aZ, aY, aQ⟩
    ·rw [if_neg c37] at H
     exact absurd H (by simp)
   ·rw [if_neg c35] at H
    have c35b0 : (t490 == 2) = false := beq_eq_false_iff_ne.mpr c35
    have c35b1 : (t490 != 2) = true := bne_iff_ne.mpr c35
    simp only [Option.some.injEq, Prod.mk.injEq] at H
    obtain ⟨rfl, rfl, rfl, rfl⟩ := H
    go_enter Try.func76, Try.ntmps76
    go_wp2_with (first | ((with_reducible refine gate_dst (N := 4) rfl ?_); refine bE 4 (cs := #[.int .i64 0, .slice none 0 0]) (t := 35) ?_; intro gb482 hg w57 hbox hb; have BK482 := aM (hbox); have GW482 := aM ((by rw [hg]; exact (kS (w := w) (g := g)) : w.heap.size ≤ gb482)); have GE482 := aM ((Nat.le_trans HW0.out (by rw [hg]; exact (kS (w := w) (g := g)) : w.heap.size ≤ gb482) : w0.heap.size ≤ gb482)); have NB0_482 := aM ((by rw [hg]; exact Nat.ne_of_lt (IsS83.lt (show IsS83 w0 _ g s0_0 s0_1 s0_2 from aZ)) : g ≠ gb482)); have NB482_0 := aM ((by rw [hg]; exact Nat.ne_of_gt (IsS83.lt (show IsS83 w0 _ g s0_0 s0_1 s0_2 from aZ)) : gb482 ≠ g)); replace HK := aM (KeepBut.trans aQ (KeepBut.of_below hb g none) (.inl rfl)); replace HB := aM (below_step aY hb); replace HI0 := aM (IsS83.below aZ hb); clear hb hbox hg) | ((with_reducible refine gate_callee (f := 95) rfl ?_); refine goesL_ (some 8) rfl rfl Try.func95 (by kernel_rfl) rfl #[.pointer (some ⟨g, 0, none⟩), .slice A1 l1.length c1, .int .i64 4] rfl aA ?_; (with_reducible refine (spec_l3Fact.calls k g s0_0 s0_1 s0_2 _ _ l1 4 t483 t484 t487 t488 w0 _ ?side1 ?side2 ?side3 ?side4 A3.out).mono ?_); (case side1 => exact aZ); (case side2 => exact aY); (case side3 => exact Kd.C_foot_step HR1.out aQ); (case side4 => exact HC1.out); rintro e w58 ⟨v485, rfl, ho0, hi, hb, hk⟩; refine ⟨_, rfl, ?_⟩; have HO486 := aM (Kd.R_lower ho0 (kS (w := w) (g := g))); replace BK482 := aM (KeepBut.blk hk (g' := gb482) (o := .cells #[.int .i64 0, .slice none 0 0] 35 (0, 0)) aK NB482_0.out (by simp)); replace HK := aM (KeepBut.trans aQ hk (.inl rfl)); replace HB := aM (hb); replace HI0 := aM (hi); (try clear hb); (try clear hb2); (try clear hk); (try clear hi); (try clear ho0)) | ((with_reducible refine gate_dst (N := 5) rfl ?_); refine bE 5 (cs := #[.int .i64 0, .slice none 0 0]) (t := 35) ?_; intro gb489 hg w59 hbox hb; have BK489 := aM (hbox); have GW489 := aM ((by rw [hg]; exact (kS (w := w) (g := g)) : w.heap.size ≤ gb489)); have GE489 := aM ((Nat.le_trans HW0.out (by rw [hg]; exact (kS (w := w) (g := g)) : w.heap.size ≤ gb489) : w0.heap.size ≤ gb489)); have NB482_489 := aM ((by rw [hg]; exact Nat.ne_of_lt (blk_lt (g := gb482) (o := .cells #[.int .i64 0, .slice none 0 0] 35 (0, 0)) aK) : gb482 ≠ gb489)); have NB489_482 := aM ((by rw [hg]; exact Nat.ne_of_gt (blk_lt (g := gb482) (o := .cells #[.int .i64 0, .slice none 0 0] 35 (0, 0)) aK) : gb489 ≠ gb482)); have NB0_489 := aM ((by rw [hg]; exact Nat.ne_of_lt (IsS83.lt (show IsS83 w0 _ g s0_0 t487 t488 from aZ)) : g ≠ gb489)); have NB489_0 := aM ((by rw [hg]; exact Nat.ne_of_gt (IsS83.lt (show IsS83 w0 _ g s0_0 t487 t488 from aZ)) : gb489 ≠ g)); replace HO486 := aM (Kd.R_below (aR HO486) hb); replace BK482 := aM (kB gb482 #[.int .i64 0, .slice none 0 0] 35 hb); replace HK := aM (KeepBut.trans aQ (KeepBut.of_below hb g none) (.inl rfl)); replace HB := aM (below_step aY hb); replace HI0 := aM (IsS83.below aZ hb); clear hb hbox hg; have hnb60 := NB489_482.out; have hnc60 := NB482_489.out; have hnb61 := NB489_0.out; have hnc61 := NB0_489.out; have hcz62_0 : w59.cell? ⟨gb489, 0, none⟩ = some (.int .i64 0) := (blk_cell BK489.out 0).trans rfl; have hcz62_1 : w59.cell? ⟨gb489, 1, none⟩ = some (.slice none 0 0) := (blk_cell BK489.out 1).trans rfl; have hfz62_0 := blk_frozen BK489.out 0; have hfz62_1 := blk_frozen BK489.out 1; obtain ⟨Ao63, co63, eo63⟩ := Kd.R_slice HO486.out; subst eo63) | ((with_reducible refine gate_callee (f := 66) rfl ?_); refine goesL_ (some 10) rfl rfl Try.func66 (by kernel_rfl) rfl #[.pointer (some ⟨g, 0, none⟩), .int .i64 10] rfl aA ?_; (with_reducible refine (spec_l1Below.calls g s0_0 t487 t488 10 t490 t491 t492 w0 _ ?side1 ?side2 A4.out).mono ?_); (case side1 => exact aZ); (case side2 => exact aY); rintro e w64 ⟨rfl, hi, hb, hk⟩; refine ⟨_, rfl, ?_⟩; replace BK482 := aM (KeepBut.blk hk (g' := gb482) (o := .cells #[.int .i64 0, .slice none 0 0] 35 (0, 0)) (by (with_reducible repeat refine pB ?_); refine blk_far ?_ NB482_489.out _; (with_reducible repeat refine pB ?_); refine blk_far ?_ NB482_489.out _; (with_reducible repeat refine pB ?_); exact BK482.out) NB482_0.out (by simp)); replace HO486 := aM (Kd.R_mono (Kd.R_keep (IsS83.apart (show IsS83 w0 _ g s0_0 t487 t488 from aZ) (by (with_reducible repeat apply pR); exact (Kd.R_mono (Kd.R_far (p := ⟨gb489, 1, none⟩) (Kd.R_far (p := ⟨gb489, 0, none⟩) (Kd.R_types HO486.out BK489.out (by decide)) (fun _ hk => hk.2) (.int .i64 t483)) (fun _ hk => hk.2) (.slice Ao63 t484.length co63)) (fun _ h_ => h_.1))) (by decide)) hk (fun _ h => h.2)) (fun _ h => h.1)); replace BK489 := aM (KeepBut.blk hk (g' := gb489) (o := .cells #[.int .i64 t483, .slice Ao63 t484.length co63] 35 (0, 0)) (by (with_reducible repeat refine pB ?_); refine blk_put (cs := #[.int .i64 t483, .slice none 0 0]) ?_ 1 _ rfl; (with_reducible repeat refine pB ?_); refine blk_put (cs := #[.int .i64 0, .slice none 0 0]) ?_ 0 _ rfl; (with_reducible repeat refine pB ?_); exact BK489.out) NB489_0.out (by simp)); replace HK := aM (KeepBut.trans aQ hk (.inl rfl)); replace HB := aM (hb); replace HI0 := aM (hi); (try clear hb); (try clear hb2); (try clear hk); (try clear hi); have hcz65_0 : w64.cell? ⟨gb489, 0, none⟩ = some (.int .i64 t483) := (blk_cell BK489.out 0).trans rfl; have hcz65_1 : w64.cell? ⟨gb489, 1, none⟩ = some (.slice Ao63 t484.length co63) := (blk_cell BK489.out 1).trans rfl; have hfz65_0 := blk_frozen BK489.out 0; have hfz65_1 := blk_frozen BK489.out 1; have hnb66 := NB482_0.out; have hnc66 := NB0_482.out; have hcz67_0 : w64.cell? ⟨gb482, 0, none⟩ = some (.int .i64 0) := (blk_cell BK482.out 0).trans rfl; have hcz67_1 : w64.cell? ⟨gb482, 1, none⟩ = some (.slice none 0 0) := (blk_cell BK482.out 1).trans rfl; have hfz67_0 := blk_frozen BK482.out 0; have hfz67_1 := blk_frozen BK482.out 1))
    refine bodyPost_ret (results_cell_row rfl _ _ gb482 35 #[.int .i64 t483, .slice Ao63 t484.length co63] (0, 0) _ rfl (by (with_reducible repeat refine pB ?_); refine blk_put (cs := #[.int .i64 t483, .slice none 0 0]) ?_ 1 _ rfl; (with_reducible repeat refine pB ?_); refine blk_put (cs := #[.int .i64 0, .slice none 0 0]) ?_ 0 _ rfl; (with_reducible repeat refine pB ?_); exact BK482.out) Try.underlying35 rfl (by kernel_rfl)) rfl ?_
    exact ⟨_, aE, by (with_reducible repeat apply pR); exact Kd.R_mono (Kd.R_far (p := ⟨gb482, 1, none⟩) (Kd.R_far (p := ⟨gb482, 0, none⟩) (Kd.R_types HO486.out BK482.out (by decide)) (fun _ hk => hk.2) (.int .i64 t483)) (fun _ hk => hk.2) (.slice Ao63 t484.length co63)) (fun _ hk => trivial), aZ, aY, aQ⟩

/-! ### spec_l1Pick: function 96 -/
def spec_l1Pick.f (s0_0 : List Int) (s0_1 : Int) (s0_2 : Int) (l1 : List ByteArray) : Option (ByteArray × Int × Int) := (spec_l1Below.f s0_0 s0_1 s0_2 (l1.length : Int)).bind fun bt506 => (if 0 ≤ bt506.1 then (if bt506.1 < (l1.length : Int) then (some (rdOf ByteArray.empty l1 bt506.1, bt506.2.1, bt506.2.2)) else (none)) else (none))
set_option maxHeartbeats 8000000 in
set_option maxRecDepth 100000 in
theorem spec_l1Pick.calls (g : Nat) (s0_0 : List Int) (s0_1 : Int) (s0_2 : Int) (A1 : Option Addr) (c1 : Nat) (l1 : List ByteArray) (r1 : ByteArray) (r2 : Int) (r3 : Int) (w0 w : World) (hI : IsS83 w0 w g s0_0 s0_1 s0_2) (hB : Below w0.heap.size w0 w) (hr1 : Kd.C Kd.string w A1 l1.length l1) (hc1 : l1.length ≤ c1) (hf1 : ∀ ad, A1 = some ad → 0 < l1.length → ad.block ≠ g) (h : spec_l1Pick.f s0_0 s0_1 s0_2 l1 = some (r1, r2, r3)) :
  Calls Try.prog 96 #[.pointer (some ⟨g, 0, none⟩), .slice A1 l1.length c1] w fun e w' => e = .returned (.string r1) ∧ IsS83 w0 w' g s0_0 r2 r3 ∧ Below w0.heap.size w0 w' ∧ KeepBut w w' g none := by
 have HR1 := aM hr1
 have HC1 := aM hc1
 clear hr1 hc1
 have HI0 := aM hI
 have HK := aM (KeepBut.refl w g none)
 have HL := aM hB.size
 clear hI
 have HW0 := aM hB.size
 have HB := aM hB
 clear hB
 have H : ((spec_l1Below.f s0_0 s0_1 s0_2 (l1.length : Int)).bind fun bt506 => (if 0 ≤ bt506.1 then (if bt506.1 < (l1.length : Int) then (some (rdOf ByteArray.empty l1 bt506.1, bt506.2.1, bt506.2.2)) else (none)) else (none))) = some (r1, r2, r3) := h
 clear h
 replace H := bM H
 obtain ⟨⟨t506, t507, t508⟩, A30, H⟩ := H
 dsimp only at H
 have A3 := aM A30
 clear A30
 by_cases c4 : 0 ≤ t506
 ·rw [if_pos c4] at H
  have c4b0 : decide (0 ≤ t506) = true := decide_eq_true c4
  clear c4
  by_cases c5 : t506 < (l1.length : Int)
  ·rw [if_pos c5] at H
   have c5b0 : decide (t506 < (l1.length : Int)) = true := decide_eq_true c5
   clear c5
   simp only [Option.some.injEq, Prod.mk.injEq] at H
   obtain ⟨rfl, rfl, rfl⟩ := H
   go_enter Try.func96, Try.ntmps96
   go_wp2_with (first | ((with_reducible refine gate_callee (f := 66) rfl ?_); refine goesL_ (some 9) rfl rfl Try.func66 (by kernel_rfl) rfl #[.pointer (some ⟨g, 0, none⟩), .int .i64 (l1.length : Int)] rfl aA ?_; (with_reducible refine (spec_l1Below.calls g s0_0 s0_1 s0_2 (l1.length : Int) t506 t507 t508 w0 _ ?side1 ?side2 A3.out).mono ?_); (case side1 => exact aZ); (case side2 => exact aY); rintro e w6 ⟨rfl, hi, hb, hk⟩; refine ⟨_, rfl, ?_⟩; replace HK := aM (KeepBut.trans aQ hk (.inl rfl)); replace HB := aM (hb); replace HI0 := aM (hi); (try clear hb); (try clear hb2); (try clear hk); (try clear hi); have p509 : 0 ≤ (t506 : Int) := aD; have q509 : t506 < (l1.length : Int) := aD; obtain ⟨ad509, e509, hx509_0⟩ := Kd.at_string HR1.out t506 p509 q509; cases e509; replace hx509_0 := keep_cell HK.out hx509_0 (by first | (rw [add_block]; exact hf1 _ rfl (by omega)) | exact hf1 _ rfl (by omega) | exact hf1 ad509 rfl (by omega)); replace p509 := eq_true p509; replace q509 := eq_true q509))
   go_ret
   exact ⟨aE, aZ, aY, aQ⟩
  ·rw [if_neg c5] at H
   exact absurd H (by simp)
 ·rw [if_neg c4] at H
  exact absurd H (by simp)

/-! ### spec_l2Any: function 77 -/
def spec_l2Any.f (s0_0 : List Int) (s0_1 : Int) (s0_2 : Int) : Option (ByteArray × Int × Int × Int × Int) := (spec_l1Pick.f s0_0 s0_1 s0_2 (([(⟨#[114]⟩ : ByteArray), (⟨#[122]⟩ : ByteArray), (⟨#[97]⟩ : ByteArray), (⟨#[]⟩ : ByteArray), (⟨#[82]⟩ : ByteArray), (⟨#[97, 98]⟩ : ByteArray)] : List ByteArray))).bind fun bt514 => ((spec_l1Below.f s0_0 bt514.2.1 bt514.2.2 6).bind fun bt517 => ((spec_l1Below.f s0_0 bt517.2.1 bt517.2.2 5).bind fun bt520 => (some (bt514.1, wrap64 (bt517.1 - 1), wrap64 (bt520.1 - 1), bt520.2.1, bt520.2.2))))
set_option maxHeartbeats 8000000 in
set_option maxRecDepth 100000 in
theorem spec_l2Any.calls (g : Nat) (s0_0 : List Int) (s0_1 : Int) (s0_2 : Int) (r1 : ByteArray) (r2 : Int) (r3 : Int) (r4 : Int) (r5 : Int) (w0 w : World) (hI : IsS83 w0 w g s0_0 s0_1 s0_2) (hB : Below w0.heap.size w0 w) (h : spec_l2Any.f s0_0 s0_1 s0_2 = some (r1, r2, r3, r4, r5)) :
  Calls Try.prog 77 #[.pointer (some ⟨g, 0, none⟩)] w fun e w' => e = .returned (.agg #[.string r1, .int .i64 r2, .int .i64 r3]) ∧ IsS83 w0 w' g s0_0 r4 r5 ∧ Below w0.heap.size w0 w' ∧ KeepBut w w' g none := by
 have hu70 := Try.underlying70
 have HI0 := aM hI
 have HK := aM (KeepBut.refl w g none)
 have HL := aM hB.size
 clear hI
 have HW0 := aM hB.size
 have HB := aM hB
 clear hB
 have H : ((spec_l1Pick.f s0_0 s0_1 s0_2 (([(⟨#[114]⟩ : ByteArray), (⟨#[122]⟩ : ByteArray), (⟨#[97]⟩ : ByteArray), (⟨#[]⟩ : ByteArray), (⟨#[82]⟩ : ByteArray), (⟨#[97, 98]⟩ : ByteArray)] : List ByteArray))).bind fun bt514 => ((spec_l1Below.f s0_0 bt514.2.1 bt514.2.2 6).bind fun bt517 => ((spec_l1Below.f s0_0 bt517.2.1 bt517.2.2 5).bind fun bt520 => (some (bt514.1, wrap64 (bt517.1 - 1), wrap64 (bt520.1 - 1), bt520.2.1, bt520.2.2))))) = some (r1, r2, r3, r4, r5) := h
 clear h
 obtain ⟨y511, hy511⟩ : ∃ y_ : List ByteArray, y_ = (([(⟨#[114]⟩ : ByteArray), (⟨#[122]⟩ : ByteArray), (⟨#[97]⟩ : ByteArray), (⟨#[]⟩ : ByteArray), (⟨#[82]⟩ : ByteArray), (⟨#[97, 98]⟩ : ByteArray)] : List ByteArray)) := ⟨_, rfl⟩
 first | replace H := bY hy511 H | rw [← hy511] at H
 have Ny511 := aM hy511
 clear hy511
 replace H := bM H
 obtain ⟨⟨t514, t515, t516⟩, A20, H⟩ := H
 dsimp only at H
 have A2 := aM A20
 clear A20
 replace H := bM H
 obtain ⟨⟨t517, t518, t519⟩, A30, H⟩ := H
 dsimp only at H
 have A3 := aM A30
 clear A30
 replace H := bM H
 obtain ⟨⟨t520, t521, t522⟩, A40, H⟩ := H
 dsimp only at H
 have A4 := aM A40
 clear A40
 simp only [Option.some.injEq, Prod.mk.injEq] at H
 obtain ⟨rfl, rfl, rfl, rfl, rfl⟩ := H
 go_enter Try.func77, Try.ntmps77
 go_wp2_with (first | ((with_reducible refine gate_dst (N := 2) rfl ?_); refine bE 2 (cs := #[.string (⟨#[]⟩ : ByteArray), .int .i64 0, .int .i64 0]) (t := 70) ?_; intro gb510 hg w5 hbox hb; have BK510 := aM (hbox); have GW510 := aM ((by rw [hg]; exact (kS (w := w) (g := g)) : w.heap.size ≤ gb510)); have GE510 := aM ((Nat.le_trans HW0.out (by rw [hg]; exact (kS (w := w) (g := g)) : w.heap.size ≤ gb510) : w0.heap.size ≤ gb510)); have NB0_510 := aM ((by rw [hg]; exact Nat.ne_of_lt (IsS83.lt (show IsS83 w0 _ g s0_0 s0_1 s0_2 from aZ)) : g ≠ gb510)); have NB510_0 := aM ((by rw [hg]; exact Nat.ne_of_gt (IsS83.lt (show IsS83 w0 _ g s0_0 s0_1 s0_2 from aZ)) : gb510 ≠ g)); replace HK := aM (KeepBut.trans aQ (KeepBut.of_below hb g none) (.inl rfl)); replace HB := aM (below_step aY hb); replace HI0 := aM (IsS83.below aZ hb); clear hb hbox hg) | ((with_reducible refine gate_dst (N := 4) rfl ?_); refine Kd.R_lit Kd.string _ 9 ?hg (N := 4) ?hd (xs := ([(⟨#[114]⟩ : ByteArray), (⟨#[122]⟩ : ByteArray), (⟨#[97]⟩ : ByteArray), (⟨#[]⟩ : ByteArray), (⟨#[82]⟩ : ByteArray), (⟨#[97, 98]⟩ : ByteArray)] : List ByteArray)) (inner := [.string (⟨#[114]⟩ : ByteArray), .string (⟨#[122]⟩ : ByteArray), .string (⟨#[97]⟩ : ByteArray), .string (⟨#[]⟩ : ByteArray), .string (⟨#[82]⟩ : ByteArray), .string (⟨#[97, 98]⟩ : ByteArray)]) (ok := fun _ => True) (okp := fun _ => True) ?hr ?hp (fun _ hk => hk) trivial (Below.refl _ _) (Nat.le_refl _) (by simp) ?_; (case hd => rfl); (case hg => rfl); (case hr => first | (go_simp; done) | (go_simp; rfl)); (case hp => exact (Reps.one (show Kd.M Kd.string _ _ _ (⟨#[114]⟩ : ByteArray) [.string (⟨#[114]⟩ : ByteArray)] from rfl) (Reps.one (show Kd.M Kd.string _ _ _ (⟨#[122]⟩ : ByteArray) [.string (⟨#[122]⟩ : ByteArray)] from rfl) (Reps.one (show Kd.M Kd.string _ _ _ (⟨#[97]⟩ : ByteArray) [.string (⟨#[97]⟩ : ByteArray)] from rfl) (Reps.one (show Kd.M Kd.string _ _ _ (⟨#[]⟩ : ByteArray) [.string (⟨#[]⟩ : ByteArray)] from rfl) (Reps.one (show Kd.M Kd.string _ _ _ (⟨#[82]⟩ : ByteArray) [.string (⟨#[82]⟩ : ByteArray)] from rfl) (Reps.one (show Kd.M Kd.string _ _ _ (⟨#[97, 98]⟩ : ByteArray) [.string (⟨#[97, 98]⟩ : ByteArray)] from rfl) (Reps.none _ _)))))))); intro v512 w6 ho7 hb hg_ hnew_; clear hg_ hnew_; (first | rw [← Ny511.out] at ho7 | (simp only [Int.reduceToNat] at ho7; rw [← Ny511.out] at ho7)); have HO513 := aM (Kd.R_lower ho7 (kS (w := w) (g := g))); replace BK510 := aM (blk_below (g := gb510) (o := .cells #[.string (⟨#[]⟩ : ByteArray), .int .i64 0, .int .i64 0] 70 (0, 0)) aK hb); replace HK := aM (KeepBut.trans aQ (KeepBut.of_below hb g none) (.inl rfl)); replace HB := aM (below_step aY hb); replace HI0 := aM (IsS83.below aZ hb); clear hb ho7; obtain ⟨Ao8, co8, eo8⟩ := Kd.R_slice HO513.out; subst eo8) | ((with_reducible refine gate_callee (f := 96) rfl ?_); refine goesL_ (some 5) rfl rfl Try.func96 (by kernel_rfl) rfl #[.pointer (some ⟨g, 0, none⟩), .slice Ao8 y511.length co8] rfl aA ?_; (with_reducible refine (spec_l1Pick.calls g s0_0 s0_1 s0_2 _ _ y511 t514 t515 t516 w0 _ ?side1 ?side2 ?side3 ?side4 ?side5 A2.out).mono ?_); (case side1 => exact aZ); (case side2 => exact aY); (case side3 => repeat (first | exact (Kd.R_reads' HO513.out).2.2 | (with_reducible refine pC ?_))); (case side4 => exact (Kd.R_reads' HO513.out).2.1); (case side5 => exact far_slice (IsS83.own_ne HI0.out HO513.out (by decide))); rintro e w9 ⟨rfl, hi, hb, hk⟩; refine ⟨_, rfl, ?_⟩; replace BK510 := aM (KeepBut.blk hk (g' := gb510) (o := .cells #[.string (⟨#[]⟩ : ByteArray), .int .i64 0, .int .i64 0] 70 (0, 0)) aK NB510_0.out (by simp)); replace HO513 := aM (Kd.R_mono (Kd.R_keep (IsS83.apart (show IsS83 w0 _ g s0_0 s0_1 s0_2 from aZ) (aR HO513) (by decide)) hk (fun _ h => h.2)) (fun _ h => h.1)); replace HK := aM (KeepBut.trans aQ hk (.inl rfl)); replace HB := aM (hb); replace HI0 := aM (hi); (try clear hb); (try clear hb2); (try clear hk); (try clear hi)) | ((with_reducible refine gate_callee (f := 66) rfl ?_); refine goesL_ (some 7) rfl rfl Try.func66 (by kernel_rfl) rfl #[.pointer (some ⟨g, 0, none⟩), .int .i64 6] rfl aA ?_; (with_reducible refine (spec_l1Below.calls g s0_0 t515 t516 6 t517 t518 t519 w0 _ ?side1 ?side2 A3.out).mono ?_); (case side1 => exact aZ); (case side2 => exact aY); rintro e w10 ⟨rfl, hi, hb, hk⟩; refine ⟨_, rfl, ?_⟩; replace BK510 := aM (KeepBut.blk hk (g' := gb510) (o := .cells #[.string (⟨#[]⟩ : ByteArray), .int .i64 0, .int .i64 0] 70 (0, 0)) aK NB510_0.out (by simp)); replace HO513 := aM (Kd.R_mono (Kd.R_keep (IsS83.apart (show IsS83 w0 _ g s0_0 t515 t516 from aZ) (aR HO513) (by decide)) hk (fun _ h => h.2)) (fun _ h => h.1)); replace HK := aM (KeepBut.trans aQ hk (.inl rfl)); replace HB := aM (hb); replace HI0 := aM (hi); (try clear hb); (try clear hb2); (try clear hk); (try clear hi)) | ((with_reducible refine gate_callee (f := 66) rfl ?_); refine goesL_ (some 10) rfl rfl Try.func66 (by kernel_rfl) rfl #[.pointer (some ⟨g, 0, none⟩), .int .i64 5] rfl aA ?_; (with_reducible refine (spec_l1Below.calls g s0_0 t518 t519 5 t520 t521 t522 w0 _ ?side1 ?side2 A4.out).mono ?_); (case side1 => exact aZ); (case side2 => exact aY); rintro e w11 ⟨rfl, hi, hb, hk⟩; refine ⟨_, rfl, ?_⟩; replace BK510 := aM (KeepBut.blk hk (g' := gb510) (o := .cells #[.string (⟨#[]⟩ : ByteArray), .int .i64 0, .int .i64 0] 70 (0, 0)) aK NB510_0.out (by simp)); replace HO513 := aM (Kd.R_mono (Kd.R_keep (IsS83.apart (show IsS83 w0 _ g s0_0 t518 t519 from aZ) (aR HO513) (by decide)) hk (fun _ h => h.2)) (fun _ h => h.1)); replace HK := aM (KeepBut.trans aQ hk (.inl rfl)); replace HB := aM (hb); replace HI0 := aM (hi); (try clear hb); (try clear hb2); (try clear hk); (try clear hi); have hnb12 := NB510_0.out; have hnc12 := NB0_510.out; have hcz13_0 : w11.cell? ⟨gb510, 0, none⟩ = some (.string (⟨#[]⟩ : ByteArray)) := (blk_cell BK510.out 0).trans rfl; have hcz13_1 : w11.cell? ⟨gb510, 1, none⟩ = some (.int .i64 0) := (blk_cell BK510.out 1).trans rfl; have hcz13_2 : w11.cell? ⟨gb510, 2, none⟩ = some (.int .i64 0) := (blk_cell BK510.out 2).trans rfl; have hfz13_0 := blk_frozen BK510.out 0; have hfz13_1 := blk_frozen BK510.out 1; have hfz13_2 := blk_frozen BK510.out 2))
 refine bodyPost_ret (results_cell_row rfl _ _ gb510 70 #[.string t514, .int .i64 (wrap64 (t517 - 1)), .int .i64 (wrap64 (t520 - 1))] (0, 0) _ rfl (by (with_reducible repeat refine pB ?_); refine blk_put (cs := #[.string t514, .int .i64 (wrap64 (t517 - 1)), .int .i64 0]) ?_ 2 _ rfl; (with_reducible repeat refine pB ?_); refine blk_put (cs := #[.string t514, .int .i64 0, .int .i64 0]) ?_ 1 _ rfl; (with_reducible repeat refine pB ?_); refine blk_put (cs := #[.string (⟨#[]⟩ : ByteArray), .int .i64 0, .int .i64 0]) ?_ 0 _ rfl; (with_reducible repeat refine pB ?_); exact BK510.out) Try.underlying70 rfl (by kernel_rfl)) rfl ?_
 exact ⟨aE, aZ, aY, aQ⟩

end Go.Proofs.Ytbdeimhlohhhiaa.PFnRepairEnumeration
