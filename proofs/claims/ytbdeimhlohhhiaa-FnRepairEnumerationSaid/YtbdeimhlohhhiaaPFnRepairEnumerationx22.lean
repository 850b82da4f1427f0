import Derived.Test.YtbdeimhlohhhiaaPFnRepairEnumerationx0
import Derived.Test.YtbdeimhlohhhiaaPFnRepairEnumerationx1
import Derived.Test.YtbdeimhlohhhiaaPFnRepairEnumerationx4
import Derived.Test.YtbdeimhlohhhiaaPFnRepairEnumerationx6
import Derived.Test.YtbdeimhlohhhiaaPFnRepairEnumerationx7
import Derived.Test.YtbdeimhlohhhiaaPFnRepairEnumerationx9
import Derived.Test.YtbdeimhlohhhiaaPFnRepairEnumerationx10
import Derived.Test.YtbdeimhlohhhiaaPFnRepairEnumerationx18
import Derived.Test.YtbdeimhlohhhiaaPFnRepairEnumerationx19
import Derived.Test.YtbdeimhlohhhiaaPFnRepairEnumerationx21
namespace Go.Proofs.Ytbdeimhlohhhiaa.PFnRepairEnumeration
open Go.RowKit Go.Proofs.YtbdeimhlohhhiaaW.PrintWords Go.Proofs.YtbdeimhlohhhiaaW.PrintLast Go.Proofs.YtbdeimhlohhhiaaW.PrintMore
attribute [local go_sem] max2_int min2_int max_two min_two max_three min_three max_four min_four
set_option linter.unusedVariables false
set_option linter.unusedSimpArgs false

/-! ### impl_RepairRank: function 38 -/
def impl_RepairRank.l0 : Nat → List Int → Int → List (List Int) → Int → Int → Option (Int × Bool)
 | 0, _, _, _, _, _ => none
 | k + 1, x1, x6, x14, x15, x16 => if x16 < x15 then (if 0 ≤ x16 then (if x16 < (x14.length : Int) then (if x16 < (x1.length : Int) then ((slices_Index_int_int.f k (rd_L4 x14 x16) (rd x1 x16)).bind fun t692 => (impl_RepairRank.l0 k x1 (wrap64 ((wrap64 (x6 * ((rd_L4 x14 x16).length : Int))) + t692)) x14 x15 (wrap64 (x16 + 1)))) else (none)) else (none)) else (none)) else (some (x6, true))
def impl_RepairRank.f (k : Nat) (l0_0 : List (S70)) (l0_1 : List (S35)) (l1 : List Int) : Option (Int × Bool) := (impl_IsRepair.f k l0_0 l0_1 l1).bind fun t686 => (if t686 = true then ((impl_blocks.f k l0_0 l0_1).bind fun t687 => (impl_RepairRank.l0 k l1 0 t687 (t687.length : Int) 0)) else (some (0, false)))
set_option maxHeartbeats 8000000 in
set_option maxRecDepth 100000 in
theorem impl_RepairRank.calls (k : Nat) (A0_0 : Option Addr) (c0_0 : Nat) (l0_0 : List (S70)) (A0_1 : Option Addr) (c0_1 : Nat) (l0_1 : List (S35)) (A1 : Option Addr) (c1 : Nat) (l1 : List Int) (r1 : Int) (r2 : Bool) (w : World) (hr0_0 : Kd.C k70 w A0_0 l0_0.length l0_0) (hc0_0 : l0_0.length ≤ c0_0) (hr0_1 : Kd.C k35 w A0_1 l0_1.length l0_1) (hc0_1 : l0_1.length ≤ c0_1) (hr1 : Kd.C (Kd.int .i64) w A1 l1.length l1) (hc1 : l1.length ≤ c1) (h : impl_RepairRank.f k l0_0 l0_1 l1 = some (r1, r2)) :
  Calls Try.prog 38 #[.agg #[.slice A0_0 l0_0.length c0_0, .slice A0_1 l0_1.length c0_1], .slice A1 l1.length c1] w fun e w' => e = .returned (.tuple #[.int .i64 r1, .bool r2]) ∧ Below w.heap.size w w' := by
 have hu27 := Try.underlying27
 have HR0_0 := aM hr0_0
 have HC0_0 := aM hc0_0
 clear hr0_0 hc0_0
 have HR0_1 := aM hr0_1
 have HC0_1 := aM hc0_1
 clear hr0_1 hc0_1
 have HR1 := aM hr1
 have HC1 := aM hc1
 clear hr1 hc1
 have HB := aM (Below.refl w.heap.size w)
 have H : ((impl_IsRepair.f k l0_0 l0_1 l1).bind fun t686 => (if t686 = true then ((impl_blocks.f k l0_0 l0_1).bind fun t687 => (impl_RepairRank.l0 k l1 0 t687 (t687.length : Int) 0)) else (some (0, false)))) = some (r1, r2) := h
 clear h
 replace H := bM H
 obtain ⟨t686, A30, H⟩ := H
 have A3 := aM A30
 clear A30
 by_cases c4 : t686 = true
 ·subst c4
  replace H := iT H
  replace H := bM H
  obtain ⟨t687, A50, H⟩ := H
  have A5 := aM A50
  clear A50
  have H' := aM H
  clear H
  go_enter Try.func38, Try.ntmps38
  go_wp2_with (first | ((with_reducible refine gate_dst (N := 2) rfl ?_); refine bE 2 (cs := #[.slice A0_0 l0_0.length c0_0, .slice A0_1 l0_1.length c0_1]) (t := 27) ?_; intro gb685 hg w6 hbox hb; have BK685 := aM (hbox); have GW685 := aM ((by rw [hg]; exact (below_size aB) : w.heap.size ≤ gb685)); have GE685 := aM ((by rw [hg]; exact (below_size aB) : w.heap.size ≤ gb685)); replace HB := aM (below_step aB hb); clear hb hbox hg; have hcz7_0 : w6.cell? ⟨gb685, 0, none⟩ = some (.slice A0_0 l0_0.length c0_0) := (blk_cell BK685.out 0).trans rfl; have hcz7_1 : w6.cell? ⟨gb685, 1, none⟩ = some (.slice A0_1 l0_1.length c0_1) := (blk_cell BK685.out 1).trans rfl; have hfz7_0 := blk_frozen BK685.out 0; have hfz7_1 := blk_frozen BK685.out 1) | ((with_reducible refine gate_callee (f := 31) rfl ?_); refine goesL_ (some 11) rfl rfl Try.func31 (by kernel_rfl) rfl #[.agg #[.slice A0_0 l0_0.length c0_0, .slice A0_1 l0_1.length c0_1], .slice A1 l1.length c1] rfl aA ?_; (with_reducible refine (impl_IsRepair.calls k _ _ l0_0 _ _ l0_1 _ _ l1 true _ ?side1 ?side2 ?side3 ?side4 ?side5 ?side6 A3.out).mono ?_); (case side1 => exact aC); (case side2 => exact HC0_0.out); (case side3 => exact aC); (case side4 => exact HC0_1.out); (case side5 => exact aC); (case side6 => exact HC1.out); rintro e w8 ⟨rfl, hb⟩; refine ⟨_, rfl, ?_⟩; replace BK685 := aM (kB gb685 #[.slice A0_0 l0_0.length c0_0, .slice A0_1 l0_1.length c0_1] 27 hb); replace HB := aM (below_step aG hb); (try clear hb); (try clear hb2); (try clear hk); (try clear hi); have hcz9_0 : w8.cell? ⟨gb685, 0, none⟩ = some (.slice A0_0 l0_0.length c0_0) := (blk_cell BK685.out 0).trans rfl; have hcz9_1 : w8.cell? ⟨gb685, 1, none⟩ = some (.slice A0_1 l0_1.length c0_1) := (blk_cell BK685.out 1).trans rfl; have hfz9_0 := blk_frozen BK685.out 0; have hfz9_1 := blk_frozen BK685.out 1) | ((with_reducible refine gate_callee (f := 44) rfl ?_); refine goesL_ (some 14) rfl rfl Try.func44 (by kernel_rfl) rfl #[.agg #[.slice A0_0 l0_0.length c0_0, .slice A0_1 l0_1.length c0_1]] rfl aA ?_; (with_reducible refine (impl_blocks.calls k _ _ l0_0 _ _ l0_1 t687 _ ?side1 ?side2 ?side3 ?side4 A5.out).mono ?_); (case side1 => exact aC); (case side2 => exact HC0_0.out); (case side3 => exact aC); (case side4 => exact HC0_1.out); rintro e w10 ⟨v688, rfl, ho0, hb⟩; refine ⟨_, rfl, ?_⟩; have HO689 := aM (Kd.S_lower ho0 (below_size aG)); replace BK685 := aM (kB gb685 #[.slice A0_0 l0_0.length c0_0, .slice A0_1 l0_1.length c0_1] 27 hb); replace HB := aM (below_step aG hb); (try clear hb); (try clear hb2); (try clear hk); (try clear hi); (try clear ho0); obtain ⟨Ao11, co11, eo11⟩ := Kd.S_slice HO689.out; subst eo11))
  go_loopg [6, 16] k (fun kq v6 v16 w' => ∃ (x6_1 : Int) (x16_1 : Int), v6 = .int .i64 x6_1 ∧ v16 = .int .i64 x16_1 ∧ Aside0 (impl_RepairRank.l0 kq l1 x6_1 t687 (t687.length : Int) x16_1 = some (r1, r2)) ∧ Aside0 (kq ≤ k) ∧ Aside0 (Kd.S (Kd.slice 3 (Kd.int .i64)) 32 w' w.heap.size (fun _ => True) (.slice Ao11 t687.length co11) t687) ∧ Aside0 (w'.heap[gb685]? = some (.cells #[(.slice A0_0 l0_0.length c0_0), (.slice A0_1 l0_1.length c0_1)] 27 (0, 0))) ∧ Aside0 (Below w.heap.size w w'))
  case atStart => exact ⟨(0), (0), aX, aX, H', ⟨Nat.le_refl _⟩, ⟨aS HO689⟩, ⟨aK⟩, ⟨aG⟩⟩
  case round =>
   clear H'
   try clear c1
   try clear p2
   try clear c3
   try clear c4
   try clear hcz7_0
   try clear hcz7_1
   try clear hcz9_0
   try clear hcz9_1
   try clear hfz7_0
   try clear hfz7_1
   try clear hfz9_0
   try clear hfz9_1
   obtain ⟨x6_1, x16_1, rfl, rfl, HA, HK1, HO_14, BK685, HB⟩ := hrel
   cases gk with
   | zero => exact absurd HA.out (by simp [impl_RepairRank.l0])
   | succ k1 =>
    have H := HA.out
    clear HA
    simp only [impl_RepairRank.l0] at H
    by_cases c12 : x16_1 < (t687.length : Int)
    ·rw [if_pos c12] at H
     have c12b0 : decide (x16_1 < (t687.length : Int)) = true := decide_eq_true c12
     clear c12
     by_cases c13 : 0 ≤ x16_1
     ·rw [if_pos c13] at H
      have c13b0 : decide (0 ≤ x16_1) = true := decide_eq_true c13
      clear c13
      by_cases c14 : x16_1 < (t687.length : Int)
      ·rw [if_pos c14] at H
       have c14b0 : decide (x16_1 < (t687.length : Int)) = true := decide_eq_true c14
       clear c14
       by_cases c15 : x16_1 < (l1.length : Int)
       ·rw [if_pos c15] at H
        have c15b0 : decide (x16_1 < (l1.length : Int)) = true := decide_eq_true c15
        clear c15
        replace H := bM H
        obtain ⟨t692, A160, H⟩ := H
        have A16 := aM A160
        clear A160
        have H' := aM H
        clear H
        have p690 : 0 ≤ (x16_1 : Int) := aD
        have q690 : x16_1 < (t687.length : Int) := aD
        obtain ⟨ad690, A690_0, c690_0, e690, hx690_0, hl690_0, hi690_0⟩ := at_L4 (Kd.S_reads' HO_14.out).2.2 x16_1 p690 q690
        cases e690
        obtain ⟨ce690, hce690, hMe690, hcc690⟩ := Kd.S_get HO_14.out [] x16_1 p690 (by first | exact q690 | exact aD | (have e_ := (Kd.S_reads' HO_14.out).1; omega))
        obtain ⟨ve690_0, rfl, ge690_0⟩ := hMe690
        have hv690_0 := hcc690 0 _ rfl
        rw [Nat.add_zero, show ((Kd.slice 3 (Kd.int .i64))).sz = 1 from rfl, Nat.mul_one] at hv690_0
        replace hv690_0 := Option.some.inj (hv690_0.symm.trans hx690_0)
        rw [hv690_0] at ge690_0
        have HL690_0 := aM (show Kd.R (Kd.int .i64) 3 _ _ _ _ (rd_L4 t687 x16_1) from ge690_0)
        clear hv690_0 ge690_0
        clear hcc690 hce690
        have HR690_0 := aM hi690_0
        have HC690_0 := aM hl690_0
        clear hi690_0 hl690_0
        replace p690 := eq_true p690
        replace q690 := eq_true q690
        have p691 : 0 ≤ (x16_1 : Int) := aD
        have q691 : x16_1 < (l1.length : Int) := aD
        obtain ⟨ad691, e691, hx691_0⟩ := Kd.at_int HR1.out x16_1 p691 q691
        cases e691
        replace hx691_0 := (HB.out.cell (World.block_lt_of_cell? w _ hx691_0)).trans hx691_0
        replace p691 := eq_true p691
        replace q691 := eq_true q691
        go_wp2_with (first | ((with_reducible refine gate_callee (f := 73) rfl ?_); refine goesL_ (some 30) rfl rfl Try.func73 (by kernel_rfl) rfl #[.slice A690_0 (rd_L4 t687 x16_1).length c690_0, .int .i64 (rd l1 x16_1)] rfl aA ?_; (with_reducible refine (slices_Index_int_int.calls k1 _ _ (rd_L4 t687 x16_1) (rd l1 x16_1) t692 _ ?side1 ?side2 A16.out).mono ?_); (case side1 => repeat (first | exact (by repeat (first | (with_reducible exact HR690_0.out) | (with_reducible refine pC ?_) | exact HR690_0.out)) | (with_reducible refine pC ?_))); (case side2 => exact HC690_0.out); rintro e w' ⟨rfl, ⟨nd, rfl⟩⟩; refine ⟨_, rfl, ?_⟩))
        go_roundg k1
        case measure => have := HK1.out; omega
        case rel => exact ⟨(wrap64 ((wrap64 (x6_1 * ((rd_L4 t687 x16_1).length : Int))) + t692)), (wrap64 (x16_1 + 1)), aX, aX, H', ⟨by have := HK1.out; omega⟩, ⟨aS HO_14⟩, ⟨aK⟩, ⟨aG⟩⟩
       ·rw [if_neg c15] at H
        exact absurd H (by simp)
      ·rw [if_neg c14] at H
       exact absurd H (by simp)
     ·rw [if_neg c13] at H
      exact absurd H (by simp)
    ·rw [if_neg c12] at H
     have c12b0 : decide (x16_1 < (t687.length : Int)) = false := decide_eq_false c12
     clear c12
     simp only [Option.some.injEq, Prod.mk.injEq] at H
     obtain ⟨rfl, rfl⟩ := H
     go_wp2
     go_ret2
     exact ⟨aE, aG⟩
 ·replace c4 := Bool.eq_false_iff.mpr c4
  subst c4
  have H1 : (some (0, false)) = some (r1, r2) := by rw [if_neg (show ¬ (false = true) by decide)] at H; exact H
  clear H
  have H := H1
  clear H1
  simp only [Option.some.injEq, Prod.mk.injEq] at H
  obtain ⟨rfl, rfl⟩ := H
  go_enter Try.func38, Try.ntmps38
  go_wp2_with (first | ((with_reducible refine gate_dst (N := 2) rfl ?_); refine bE 2 (cs := #[.slice A0_0 l0_0.length c0_0, .slice A0_1 l0_1.length c0_1]) (t := 27) ?_; intro gb685 hg w17 hbox hb; have BK685 := aM (hbox); have GW685 := aM ((by rw [hg]; exact (below_size aB) : w.heap.size ≤ gb685)); have GE685 := aM ((by rw [hg]; exact (below_size aB) : w.heap.size ≤ gb685)); replace HB := aM (below_step aB hb); clear hb hbox hg; have hcz18_0 : w17.cell? ⟨gb685, 0, none⟩ = some (.slice A0_0 l0_0.length c0_0) := (blk_cell BK685.out 0).trans rfl; have hcz18_1 : w17.cell? ⟨gb685, 1, none⟩ = some (.slice A0_1 l0_1.length c0_1) := (blk_cell BK685.out 1).trans rfl; have hfz18_0 := blk_frozen BK685.out 0; have hfz18_1 := blk_frozen BK685.out 1) | ((with_reducible refine gate_callee (f := 31) rfl ?_); refine goesL_ (some 11) rfl rfl Try.func31 (by kernel_rfl) rfl #[.agg #[.slice A0_0 l0_0.length c0_0, .slice A0_1 l0_1.length c0_1], .slice A1 l1.length c1] rfl aA ?_; (with_reducible refine (impl_IsRepair.calls k _ _ l0_0 _ _ l0_1 _ _ l1 false _ ?side1 ?side2 ?side3 ?side4 ?side5 ?side6 A3.out).mono ?_); (case side1 => exact aC); (case side2 => exact HC0_0.out); (case side3 => exact aC); (case side4 => exact HC0_1.out); (case side5 => exact aC); (case side6 => exact HC1.out); rintro e w19 ⟨rfl, hb⟩; refine ⟨_, rfl, ?_⟩; replace BK685 := aM (kB gb685 #[.slice A0_0 l0_0.length c0_0, .slice A0_1 l0_1.length c0_1] 27 hb); replace HB := aM (below_step aG hb); (try clear hb); (try clear hb2); (try clear hk); (try clear hi)))
  go_ret2
  exact ⟨aE, aG⟩

/-! ### impl_NextRepair: function 39 -/
def impl_NextRepair.f (k : Nat) (l0_0 : List (S70)) (l0_1 : List (S35)) (l1 : List Int) : Option (List Int × Bool) := (impl_RepairRank.f k l0_0 l0_1 l1).bind fun bt694 => (if bt694.2 = true then ((impl_NthRepair.f k l0_0 l0_1 (wrap64 (bt694.1 + 1))).bind fun bt696 => (some (bt696.1, bt696.2))) else (some (([] : List Int), false)))
set_option maxHeartbeats 8000000 in
set_option maxRecDepth 100000 in
theorem impl_NextRepair.calls (k : Nat) (A0_0 : Option Addr) (c0_0 : Nat) (l0_0 : List (S70)) (A0_1 : Option Addr) (c0_1 : Nat) (l0_1 : List (S35)) (A1 : Option Addr) (c1 : Nat) (l1 : List Int) (r1 : List Int) (r2 : Bool) (w : World) (hr0_0 : Kd.C k70 w A0_0 l0_0.length l0_0) (hc0_0 : l0_0.length ≤ c0_0) (hr0_1 : Kd.C k35 w A0_1 l0_1.length l0_1) (hc0_1 : l0_1.length ≤ c0_1) (hr1 : Kd.C (Kd.int .i64) w A1 l1.length l1) (hc1 : l1.length ≤ c1) (h : impl_NextRepair.f k l0_0 l0_1 l1 = some (r1, r2)) :
  Calls Try.prog 39 #[.agg #[.slice A0_0 l0_0.length c0_0, .slice A0_1 l0_1.length c0_1], .slice A1 l1.length c1] w fun e w' => ∃ v0_ : Value, e = .returned (.tuple #[v0_, .bool r2]) ∧ Kd.R (Kd.int .i64) 3 w' w.heap.size (fun _ => True) v0_ r1 ∧ Below w.heap.size w w' := by
 have hu27 := Try.underlying27
 have HR0_0 := aM hr0_0
 have HC0_0 := aM hc0_0
 clear hr0_0 hc0_0
 have HR0_1 := aM hr0_1
 have HC0_1 := aM hc0_1
 clear hr0_1 hc0_1
 have HR1 := aM hr1
 have HC1 := aM hc1
 clear hr1 hc1
 have HB := aM (Below.refl w.heap.size w)
 have H : ((impl_RepairRank.f k l0_0 l0_1 l1).bind fun bt694 => (if bt694.2 = true then ((impl_NthRepair.f k l0_0 l0_1 (wrap64 (bt694.1 + 1))).bind fun bt696 => (some (bt696.1, bt696.2))) else (some (([] : List Int), false)))) = some (r1, r2) := h
 clear h
 replace H := bM H
 obtain ⟨⟨t694, t695⟩, A30, H⟩ := H
 dsimp only at H
 have A3 := aM A30
 clear A30
 by_cases c4 : t695 = true
 ·subst c4
  replace H := iT H
  replace H := bM H
  obtain ⟨⟨t696, t699⟩, A50, H⟩ := H
  dsimp only at H
  have A5 := aM A50
  clear A50
  simp only [Option.some.injEq, Prod.mk.injEq] at H
  obtain ⟨rfl, rfl⟩ := H
  go_enter Try.func39, Try.ntmps39
  go_wp2_with (first | ((with_reducible refine gate_dst (N := 2) rfl ?_); refine bE 2 (cs := #[.slice A0_0 l0_0.length c0_0, .slice A0_1 l0_1.length c0_1]) (t := 27) ?_; intro gb693 hg w6 hbox hb; have BK693 := aM (hbox); have GW693 := aM ((by rw [hg]; exact (below_size aB) : w.heap.size ≤ gb693)); have GE693 := aM ((by rw [hg]; exact (below_size aB) : w.heap.size ≤ gb693)); replace HB := aM (below_step aB hb); clear hb hbox hg; have hcz7_0 : w6.cell? ⟨gb693, 0, none⟩ = some (.slice A0_0 l0_0.length c0_0) := (blk_cell BK693.out 0).trans rfl; have hcz7_1 : w6.cell? ⟨gb693, 1, none⟩ = some (.slice A0_1 l0_1.length c0_1) := (blk_cell BK693.out 1).trans rfl; have hfz7_0 := blk_frozen BK693.out 0; have hfz7_1 := blk_frozen BK693.out 1) | ((with_reducible refine gate_callee (f := 38) rfl ?_); refine goesL_ (some 11) rfl rfl Try.func38 (by kernel_rfl) rfl #[.agg #[.slice A0_0 l0_0.length c0_0, .slice A0_1 l0_1.length c0_1], .slice A1 l1.length c1] rfl aA ?_; (with_reducible refine (impl_RepairRank.calls k _ _ l0_0 _ _ l0_1 _ _ l1 t694 true _ ?side1 ?side2 ?side3 ?side4 ?side5 ?side6 A3.out).mono ?_); (case side1 => exact aC); (case side2 => exact HC0_0.out); (case side3 => exact aC); (case side4 => exact HC0_1.out); (case side5 => exact aC); (case side6 => exact HC1.out); rintro e w8 ⟨rfl, hb⟩; refine ⟨_, rfl, ?_⟩; replace BK693 := aM (kB gb693 #[.slice A0_0 l0_0.length c0_0, .slice A0_1 l0_1.length c0_1] 27 hb); replace HB := aM (below_step aG hb); (try clear hb); (try clear hb2); (try clear hk); (try clear hi); have hcz9_0 : w8.cell? ⟨gb693, 0, none⟩ = some (.slice A0_0 l0_0.length c0_0) := (blk_cell BK693.out 0).trans rfl; have hcz9_1 : w8.cell? ⟨gb693, 1, none⟩ = some (.slice A0_1 l0_1.length c0_1) := (blk_cell BK693.out 1).trans rfl; have hfz9_0 := blk_frozen BK693.out 0; have hfz9_1 := blk_frozen BK693.out 1) | ((with_reducible refine gate_callee (f := 35) rfl ?_); refine goesL_ (some 19) rfl rfl Try.func35 (by kernel_rfl) rfl #[.agg #[.slice A0_0 l0_0.length c0_0, .slice A0_1 l0_1.length c0_1], .int .i64 (wrap64 (t694 + 1))] rfl aA ?_; (with_reducible refine (impl_NthRepair.calls k _ _ l0_0 _ _ l0_1 (wrap64 (t694 + 1)) t696 t699 _ ?side1 ?side2 ?side3 ?side4 A5.out).mono ?_); (case side1 => exact aC); (case side2 => exact HC0_0.out); (case side3 => exact aC); (case side4 => exact HC0_1.out); rintro e w10 ⟨v697, rfl, ho0, hb⟩; refine ⟨_, rfl, ?_⟩; have HO698 := aM (Kd.R_lower ho0 (below_size aG)); replace BK693 := aM (kB gb693 #[.slice A0_0 l0_0.length c0_0, .slice A0_1 l0_1.length c0_1] 27 hb); replace HB := aM (below_step aG hb); (try clear hb); (try clear hb2); (try clear hk); (try clear hi); (try clear ho0)))
  go_ret2
  exact ⟨_, aE, aR HO698, aG⟩
 ·replace c4 := Bool.eq_false_iff.mpr c4
  subst c4
  have H1 : (some (([] : List Int), false)) = some (r1, r2) := by rw [if_neg (show ¬ (false = true) by decide)] at H; exact H
  clear H
  have H := H1
  clear H1
  simp only [Option.some.injEq, Prod.mk.injEq] at H
  obtain ⟨rfl, rfl⟩ := H
  go_enter Try.func39, Try.ntmps39
  go_wp2_with (first | ((with_reducible refine gate_dst (N := 2) rfl ?_); refine bE 2 (cs := #[.slice A0_0 l0_0.length c0_0, .slice A0_1 l0_1.length c0_1]) (t := 27) ?_; intro gb693 hg w11 hbox hb; have BK693 := aM (hbox); have GW693 := aM ((by rw [hg]; exact (below_size aB) : w.heap.size ≤ gb693)); have GE693 := aM ((by rw [hg]; exact (below_size aB) : w.heap.size ≤ gb693)); replace HB := aM (below_step aB hb); clear hb hbox hg; have hcz12_0 : w11.cell? ⟨gb693, 0, none⟩ = some (.slice A0_0 l0_0.length c0_0) := (blk_cell BK693.out 0).trans rfl; have hcz12_1 : w11.cell? ⟨gb693, 1, none⟩ = some (.slice A0_1 l0_1.length c0_1) := (blk_cell BK693.out 1).trans rfl; have hfz12_0 := blk_frozen BK693.out 0; have hfz12_1 := blk_frozen BK693.out 1) | ((with_reducible refine gate_callee (f := 38) rfl ?_); refine goesL_ (some 11) rfl rfl Try.func38 (by kernel_rfl) rfl #[.agg #[.slice A0_0 l0_0.length c0_0, .slice A0_1 l0_1.length c0_1], .slice A1 l1.length c1] rfl aA ?_; (with_reducible refine (impl_RepairRank.calls k _ _ l0_0 _ _ l0_1 _ _ l1 t694 false _ ?side1 ?side2 ?side3 ?side4 ?side5 ?side6 A3.out).mono ?_); (case side1 => exact aC); (case side2 => exact HC0_0.out); (case side3 => exact aC); (case side4 => exact HC0_1.out); (case side5 => exact aC); (case side6 => exact HC1.out); rintro e w13 ⟨rfl, hb⟩; refine ⟨_, rfl, ?_⟩; replace BK693 := aM (kB gb693 #[.slice A0_0 l0_0.length c0_0, .slice A0_1 l0_1.length c0_1] 27 hb); replace HB := aM (below_step aG hb); (try clear hb); (try clear hb2); (try clear hk); (try clear hi)))
  go_ret2
  exact ⟨_, aE, by first | exact Kd.R_nil _ _ _ _ _ | exact Kd.N_nil _ _ _ _ _ | exact Kd.V_nil _ _ _ _ _ | exact Kd.Q_nil _ _ _ _ _ | exact Kd.S_nil _ _ _ _ _, aG⟩

/-! ### spec_IsConsistent: function 41 -/
def spec_IsConsistent.f (k : Nat) (l0_0 : List (S70)) (l0_1 : List (S35)) : Option (Bool) := (spec_IsValidDatabase.f k l0_0 l0_1).bind fun t701 => (if t701 = true then ((spec_Blocks.f k l0_0 l0_1).bind fun t702 => (some ((t702.length : Int) == (l0_1.length : Int)))) else (some false))
set_option maxHeartbeats 8000000 in
set_option maxRecDepth 100000 in
theorem spec_IsConsistent.calls (k : Nat) (A0_0 : Option Addr) (c0_0 : Nat) (l0_0 : List (S70)) (A0_1 : Option Addr) (c0_1 : Nat) (l0_1 : List (S35)) (r : Bool) (w : World) (hr0_0 : Kd.C k70 w A0_0 l0_0.length l0_0) (hc0_0 : l0_0.length ≤ c0_0) (hr0_1 : Kd.C k35 w A0_1 l0_1.length l0_1) (hc0_1 : l0_1.length ≤ c0_1) (h : spec_IsConsistent.f k l0_0 l0_1 = some r) :
  Calls Try.prog 41 #[.agg #[.slice A0_0 l0_0.length c0_0, .slice A0_1 l0_1.length c0_1]] w fun e w' => e = .returned (.bool r) ∧ Below w.heap.size w w' := by
 have hu27 := Try.underlying27
 obtain ⟨W, hW⟩ : ∃ W, w.alloc (.cells #[.slice A0_0 l0_0.length c0_0, .slice A0_1 l0_1.length c0_1] 27) = W := ⟨_, rfl⟩
 have q0 := qa (w := W) (p := ⟨w.heap.size, 0, none⟩) (v := .slice A0_0 l0_0.length c0_0) (by subst hW; go_simp)
 have q1 := qa (w := W) (p := ⟨w.heap.size, 1, none⟩) (v := .slice A0_1 l0_1.length c0_1) (by subst hW; go_simp)
 have HB : Below w.heap.size w W := by subst hW; exact zB
 have HW := Below.refl W.heap.size W
 have hb := aM HB
 have rg_ := @bcl w
 have rd_ := @bdr w
 have rG_ := @bcl W
 have rD_ := @bdr W
 unfold spec_IsConsistent.f at h
 replace h := bs h; obtain ⟨t701, B0, h⟩ := h
 replace h := ib h; rcases h with ⟨rfl, h⟩ | ⟨rfl, h⟩
 replace h := bs h; obtain ⟨t702, B2, h⟩ := h
 obtain rfl := si h
 rotate_left
 obtain rfl := si h
 rotate_left
 all_goals (go_enter Try.func41, Try.ntmps41; go_wp2; (repeat ((refine nw (w0 := w) zB ?_; intro W1 HB hb hd; have HW : Below W.heap.size W W1 := zB; (first | (refine Txt.rg (id := 1) [0, 1, 2, 3, 6, 7, 8, 4, 5, 9, 10, 11] (by kernel_rfl) (by kernel_rfl) ?_; simp only [List.map_cons, List.map_nil, List.getD_cons_zero, List.getD_cons_succ])); (repeat (first | (refine Txt.off rfl ?_; simp only [Act.put, List.setIfInBounds_toArray, List.set_cons_zero, List.set_cons_succ]) | (refine Txt.take rfl rfl ?_; intro K hK; go_big_quiet_op; go_big_quiet_on) | (refine Txt.call rfl rfl Try.func10 (by kernel_rfl) rfl (spec_IsValidDatabase.calls ?_ _ _ _ _ _ _ ?_ _ ?_ ?_ ?_ ?_ ?h) rfl ?_; (case h => exact zA); (iterate 4 (first | exact zC | exact zA)); rintro e w1 ⟨rfl, hb⟩; replace hb := aM hb; have HW : Below W.heap.size W w1 := zB; have HB : Below w.heap.size w w1 := zB; refine ⟨_, rfl, zS, ?_⟩; simp only [Act.put, List.setIfInBounds_toArray, List.set_cons_zero, List.set_cons_succ]) | (refine Txt.call rfl rfl Try.func65 (by kernel_rfl) rfl (spec_Blocks.calls ?_ _ _ _ _ _ _ ?_ _ ?_ ?_ ?_ ?_ ?h) rfl ?_; (case h => exact zA); (iterate 4 (first | exact zC | exact zA)); rintro e w1 ⟨v0, rfl, ho0, hb⟩; obtain ⟨A0, c0, rfl, hc0, hC0⟩ := Kd.R_reads (Kd.S_R ho0); replace hb := aM hb; have HW : Below W.heap.size W w1 := zB; have HB : Below w.heap.size w w1 := zB; refine ⟨_, rfl, zS, ?_⟩; simp only [Act.put, List.setIfInBounds_toArray, List.set_cons_zero, List.set_cons_succ]))); refine Txt.nil ?_); (try go_wp2))); go_ret; exact zE zB)

/-! ### laws_FnRepairEnumeration: function 6 -/
def laws_FnRepairEnumeration.j0 : Nat → Int → Int → List Int → Bool → Bool → List (S70) → List (S35) → Option (Bool)
 | 0, _, _, _, _, _, _, _ => none
 | k + 1, x4, x5, x6, x7, x64, x714000, x714001 => if x64 = true then (some false) else (if x7 = true then ((impl_RepairRank.f k x714000 x714001 x6).bind fun bt725 => ((impl_NextRepair.f k x714000 x714001 x6).bind fun bt727 => ((spec_NthRepair.f k x714000 x714001 (wrap64 (x4 + 1))).bind fun bt731 => ((impl_SelectFacts.f k x714000 x714001 x6).bind fun bt735 => ((impl_IsRepair.f k x714000 x714001 x6).bind fun t743 => (if t743 = true then ((spec_IsConsistent.f k bt735.1 bt735.2.1).bind fun t744 => (if t744 = true then (if bt725.2 = true then (if bt725.1 = x4 then (if (bt727.2 == (decide ((wrap64 (x4 + 1)) < x5))) = true then ((laws_sameInts.f k bt727.1 bt731.1).bind fun t745 => (some t745)) else (some false)) else (some false)) else (some false)) else (some false))) else (some false))))))) else (some ((x6.length : Int) == 0)))
def laws_FnRepairEnumeration.f (k : Nat) (l0 : List Int) : Option (Bool) := (laws_big.f l0).bind fun t705 => (if t705 = true then (some true) else ((spec_DrawNthRepair.f k l0).bind fun bt706 => ((impl_CountRepairs.f k bt706.1 bt706.2.1).bind fun t714 => ((impl_NthRepair.f k bt706.1 bt706.2.1 bt706.2.2).bind fun bt715 => ((spec_NthRepair.f k bt706.1 bt706.2.1 bt706.2.2).bind fun bt719 => ((spec_CountRepairs.f k bt706.1 bt706.2.1).bind fun t723 => (if t714 = t723 then (if (bt715.2 != bt719.2) = true then (laws_FnRepairEnumeration.j0 k bt706.2.2 t714 bt715.1 bt715.2 true bt706.1 bt706.2.1) else ((laws_sameInts.f k bt715.1 bt719.1).bind fun t724 => (if t724 = true then (if bt706.2.2 ≥ 0 then (laws_FnRepairEnumeration.j0 k bt706.2.2 t714 bt715.1 bt715.2 (bt715.2 != (decide (bt706.2.2 < t714))) bt706.1 bt706.2.1) else (laws_FnRepairEnumeration.j0 k bt706.2.2 t714 bt715.1 bt715.2 (bt715.2 != false) bt706.1 bt706.2.1)) else (laws_FnRepairEnumeration.j0 k bt706.2.2 t714 bt715.1 bt715.2 true bt706.1 bt706.2.1)))) else (laws_FnRepairEnumeration.j0 k bt706.2.2 t714 bt715.1 bt715.2 true bt706.1 bt706.2.1))))))))
set_option maxHeartbeats 8000000 in
set_option maxRecDepth 100000 in
theorem laws_FnRepairEnumeration.calls (k : Nat) (A0 : Option Addr) (c0 : Nat) (l0 : List Int) (r : Bool) (w : World) (hr0 : Kd.C (Kd.int .u8) w A0 l0.length l0) (hc0 : l0.length ≤ c0) (h : laws_FnRepairEnumeration.f k l0 = some r) (hr_ : r = true) :
  Calls Try.prog 6 #[.slice A0 l0.length c0] w fun e w' => e = .returned (.bool r) ∧ Below w.heap.size w w' := by
 have HRT_ := aM hr_
 clear hr_
 have hu27 := Try.underlying27
 have HR0 := aM hr0
 have HC0 := aM hc0
 clear hr0 hc0
 have HB := aM (Below.refl w.heap.size w)
 have H : ((laws_big.f l0).bind fun t705 => (if t705 = true then (some true) else ((spec_DrawNthRepair.f k l0).bind fun bt706 => ((impl_CountRepairs.f k bt706.1 bt706.2.1).bind fun t714 => ((impl_NthRepair.f k bt706.1 bt706.2.1 bt706.2.2).bind fun bt715 => ((spec_NthRepair.f k bt706.1 bt706.2.1 bt706.2.2).bind fun bt719 => ((spec_CountRepairs.f k bt706.1 bt706.2.1).bind fun t723 => (if t714 = t723 then (if (bt715.2 != bt719.2) = true then (laws_FnRepairEnumeration.j0 k bt706.2.2 t714 bt715.1 bt715.2 true bt706.1 bt706.2.1) else ((laws_sameInts.f k bt715.1 bt719.1).bind fun t724 => (if t724 = true then (if bt706.2.2 ≥ 0 then (laws_FnRepairEnumeration.j0 k bt706.2.2 t714 bt715.1 bt715.2 (bt715.2 != (decide (bt706.2.2 < t714))) bt706.1 bt706.2.1) else (laws_FnRepairEnumeration.j0 k bt706.2.2 t714 bt715.1 bt715.2 (bt715.2 != false) bt706.1 bt706.2.1)) else (laws_FnRepairEnumeration.j0 k bt706.2.2 t714 bt715.1 bt715.2 true bt706.1 bt706.2.1)))) else (laws_FnRepairEnumeration.j0 k bt706.2.2 t714 bt715.1 bt715.2 true bt706.1 bt706.2.1))))))))) = some r := h
 clear h
 replace H := bM H
 obtain ⟨t705, A20, H⟩ := H
 have A2 := aM A20
 clear A20
 by_cases c3 : t705 = true
 ·subst c3
  replace H := iT H
  obtain rfl := Option.some.inj H
  go_enter Try.func6, Try.ntmps6
  go_wp2_with (first | ((with_reducible refine gate_callee (f := 7) rfl ?_); refine goesL_ (some 19) rfl rfl Try.func7 (by kernel_rfl) rfl #[.slice A0 l0.length c0] rfl aA ?_; (with_reducible refine (laws_big.calls _ _ l0 true _ ?side1 ?side2 A2.out).mono ?_); (case side1 => repeat (first | exact HR0.out | (with_reducible refine pC ?_))); (case side2 => exact HC0.out); rintro e w' ⟨rfl, ⟨nd, rfl⟩⟩; refine ⟨_, rfl, ?_⟩))
  go_ret
  exact ⟨aE, aB⟩
 ·replace c3 := Bool.eq_false_iff.mpr c3
  subst c3
  have H1 : ((spec_DrawNthRepair.f k l0).bind fun bt706 => ((impl_CountRepairs.f k bt706.1 bt706.2.1).bind fun t714 => ((impl_NthRepair.f k bt706.1 bt706.2.1 bt706.2.2).bind fun bt715 => ((spec_NthRepair.f k bt706.1 bt706.2.1 bt706.2.2).bind fun bt719 => ((spec_CountRepairs.f k bt706.1 bt706.2.1).bind fun t723 => (if t714 = t723 then (if (bt715.2 != bt719.2) = true then (laws_FnRepairEnumeration.j0 k bt706.2.2 t714 bt715.1 bt715.2 true bt706.1 bt706.2.1) else ((laws_sameInts.f k bt715.1 bt719.1).bind fun t724 => (if t724 = true then (if bt706.2.2 ≥ 0 then (laws_FnRepairEnumeration.j0 k bt706.2.2 t714 bt715.1 bt715.2 (bt715.2 != (decide (bt706.2.2 < t714))) bt706.1 bt706.2.1) else (laws_FnRepairEnumeration.j0 k bt706.2.2 t714 bt715.1 bt715.2 (bt715.2 != false) bt706.1 bt706.2.1)) else (laws_FnRepairEnumeration.j0 k bt706.2.2 t714 bt715.1 bt715.2 true bt706.1 bt706.2.1)))) else (laws_FnRepairEnumeration.j0 k bt706.2.2 t714 bt715.1 bt715.2 true bt706.1 bt706.2.1))))))) = some r := by rw [if_neg (show ¬ (false = true) by decide)] at H; exact H
  clear H
  have H := H1
  clear H1
  replace H := bM H
  obtain ⟨⟨t706, t709, t712⟩, A40, H⟩ := H
  dsimp only at H
  have A4 := aM A40
  clear A40
  replace H := bM H
  obtain ⟨t714, A50, H⟩ := H
  have A5 := aM A50
  clear A50
  replace H := bM H
  obtain ⟨⟨t715, t718⟩, A60, H⟩ := H
  dsimp only at H
  have A6 := aM A60
  clear A60
  replace H := bM H
  obtain ⟨⟨t719, t722⟩, A70, H⟩ := H
  dsimp only at H
  have A7 := aM A70
  clear A70
  have HC8 := aM H
  clear H
  go_enter Try.func6, Try.ntmps6
  go_upto_region 7 with (first | ((with_reducible refine gate_callee (f := 7) rfl ?_); refine goesL_ (some 19) rfl rfl Try.func7 (by kernel_rfl) rfl #[.slice A0 l0.length c0] rfl aA ?_; (with_reducible refine (laws_big.calls _ _ l0 false _ ?side1 ?side2 A2.out).mono ?_); (case side1 => repeat (first | exact HR0.out | (with_reducible refine pC ?_))); (case side2 => exact HC0.out); rintro e w' ⟨rfl, ⟨nd, rfl⟩⟩; refine ⟨_, rfl, ?_⟩) | ((with_reducible refine gate_callee (f := 33) rfl ?_); refine goesL_ (some 22) rfl rfl Try.func33 (by kernel_rfl) rfl #[.slice A0 l0.length c0] rfl aA ?_; (with_reducible refine (spec_DrawNthRepair.calls k _ _ l0 t706 t709 t712 _ ?side1 ?side2 A4.out).mono ?_); (case side1 => repeat (first | exact HR0.out | (with_reducible refine pC ?_))); (case side2 => exact HC0.out); rintro e w9 ⟨v707, v710, rfl, ho0, ho1, hb⟩; refine ⟨_, rfl, ?_⟩; have HO708 := aM (Kd.R_lower (Kd.R_mono (ok' := fun k_ => True) ho0 (fun _ hk_ => trivial)) (below_size aB)); have HO711 := aM (Kd.N_lower (Kd.N_mono (ok' := fun k_ => some k_ ≠ (v707 : Value).ownBlock) ho1 (fun k_ hk_ => hk_.2)) (below_size aB)); replace HB := aM (below_step aB hb); (try clear hb); (try clear hb2); (try clear hk); (try clear hi); (try clear ho0); (try clear ho1)) | ((with_reducible refine gate_dst (N := 3) rfl ?_); refine bE 3 (cs := #[.slice none 0 0, .slice none 0 0]) (t := 27) ?_; intro gb713 hg w10 hbox hb; have BK713 := aM (hbox); have GW713 := aM ((by rw [hg]; exact (below_size aB) : w.heap.size ≤ gb713)); have GE713 := aM ((by rw [hg]; exact (below_size aB) : w.heap.size ≤ gb713)); replace HO708 := aM (Kd.R_below (aR HO708) hb); replace HO711 := aM (Kd.N_below (Kd.N_elderB (aN HO711) gb713 (Nat.le_of_eq hg.symm)) hb); replace HB := aM (below_step aB hb); clear hb hbox hg; obtain ⟨Ao11, co11, eo11⟩ := Kd.R_slice HO708.out; subst eo11; have hcz12_0 : w10.cell? ⟨gb713, 0, none⟩ = some (.slice none 0 0) := (blk_cell BK713.out 0).trans rfl; have hcz12_1 : w10.cell? ⟨gb713, 1, none⟩ = some (.slice none 0 0) := (blk_cell BK713.out 1).trans rfl; have hfz12_0 := blk_frozen BK713.out 0; have hfz12_1 := blk_frozen BK713.out 1; obtain ⟨Ao13, co13, eo13⟩ := Kd.N_slice HO711.out; subst eo13) | ((with_reducible refine gate_callee (f := 34) rfl ?_); refine goesL_ (some 26) rfl rfl Try.func34 (by kernel_rfl) rfl #[.agg #[.slice Ao11 t706.length co11, .slice Ao13 t709.length co13]] rfl aA ?_; (with_reducible refine (impl_CountRepairs.calls k _ _ t706 _ _ t709 t714 _ ?side1 ?side2 ?side3 ?side4 A5.out).mono ?_); (case side1 => refine (Kd.R_reads' (e := 70) (base := w.heap.size) (ok := fun k_ => True) (n := t706.length) (c := co11) ?_).2.2; exact (by (with_reducible repeat apply pR); exact (Kd.R_mono (Kd.R_far (p := ⟨gb713, 1, none⟩) (Kd.R_far (p := ⟨gb713, 0, none⟩) (Kd.R_types HO708.out BK713.out (by decide)) (fun _ hk => hk.2) (.slice Ao11 t706.length co11)) (fun _ hk => hk.2) (.slice Ao13 t709.length co13)) (fun _ h_ => h_.1)))); (case side2 => exact (Kd.R_reads' HO708.out).2.1); (case side3 => refine (Kd.N_reads' (e := 35) (base := w.heap.size) (ok := fun k_ => (some k_ ≠ (.slice Ao11 t706.length co11 : Value).ownBlock ∧ k_ ≠ gb713)) (n := t709.length) (c := co13) ?_).2.2; exact (by (with_reducible repeat apply pN); exact (Kd.N_mono (Kd.N_far (p := ⟨gb713, 1, none⟩) (Kd.N_far (p := ⟨gb713, 0, none⟩) (Kd.N_mono HO711.out (fun k_ hk => (⟨hk, hk.2⟩ : _ ∧ k_ ≠ gb713))) (fun _ hk => hk.2) (.slice Ao11 t706.length co11)) (fun _ hk => hk.2) (.slice Ao13 t709.length co13)) (fun _ h_ => h_.1)))); (case side4 => exact (Kd.N_reads' HO711.out).2.1); rintro e w14 ⟨rfl, hb⟩; refine ⟨_, rfl, ?_⟩; replace HO708 := aM (Kd.R_below (by (with_reducible repeat apply pR); exact (Kd.R_mono (Kd.R_far (p := ⟨gb713, 1, none⟩) (Kd.R_far (p := ⟨gb713, 0, none⟩) (Kd.R_types HO708.out BK713.out (by decide)) (fun _ hk => hk.2) (.slice Ao11 t706.length co11)) (fun _ hk => hk.2) (.slice Ao13 t709.length co13)) (fun _ h_ => h_.1))) hb); replace HO711 := aM (Kd.N_below (by (with_reducible repeat apply pN); exact (Kd.N_mono (Kd.N_far (p := ⟨gb713, 1, none⟩) (Kd.N_far (p := ⟨gb713, 0, none⟩) (Kd.N_mono HO711.out (fun k_ hk => (⟨hk, hk.2⟩ : _ ∧ k_ ≠ gb713))) (fun _ hk => hk.2) (.slice Ao11 t706.length co11)) (fun _ hk => hk.2) (.slice Ao13 t709.length co13)) (fun _ h_ => h_.1))) hb); replace BK713 := aM (blk_below (g := gb713) (o := .cells #[.slice Ao11 t706.length co11, .slice Ao13 t709.length co13] 27 (0, 0)) (by (with_reducible repeat refine pB ?_); refine blk_put (cs := #[.slice Ao11 t706.length co11, .slice none 0 0]) ?_ 1 _ rfl; (with_reducible repeat refine pB ?_); refine blk_put (cs := #[.slice none 0 0, .slice none 0 0]) ?_ 0 _ rfl; (with_reducible repeat refine pB ?_); exact BK713.out) hb); replace HB := aM (below_step aG hb); (try clear hb); (try clear hb2); (try clear hk); (try clear hi); have hcz15_0 : w14.cell? ⟨gb713, 0, none⟩ = some (.slice Ao11 t706.length co11) := (blk_cell BK713.out 0).trans rfl; have hcz15_1 : w14.cell? ⟨gb713, 1, none⟩ = some (.slice Ao13 t709.length co13) := (blk_cell BK713.out 1).trans rfl; have hfz15_0 := blk_frozen BK713.out 0; have hfz15_1 := blk_frozen BK713.out 1) | ((with_reducible refine gate_callee (f := 35) rfl ?_); refine goesL_ (some 30) rfl rfl Try.func35 (by kernel_rfl) rfl #[.agg #[.slice Ao11 t706.length co11, .slice Ao13 t709.length co13], .int .i64 t712] rfl aA ?_; (with_reducible refine (impl_NthRepair.calls k _ _ t706 _ _ t709 t712 t715 t718 _ ?side1 ?side2 ?side3 ?side4 A6.out).mono ?_); (case side1 => repeat (first | exact (Kd.R_reads' HO708.out).2.2 | (with_reducible refine pC ?_))); (case side2 => exact (Kd.R_reads' HO708.out).2.1); (case side3 => repeat (first | exact (Kd.N_reads' HO711.out).2.2 | (with_reducible refine pC ?_))); (case side4 => exact (Kd.N_reads' HO711.out).2.1); rintro e w16 ⟨v716, rfl, ho0, hb⟩; refine ⟨_, rfl, ?_⟩; have HO717 := aM (Kd.R_lower ho0 (below_size aG)); replace HO708 := aM (Kd.R_below (aR HO708) hb); replace HO711 := aM (Kd.N_elder' (aN HO711) (Kd.R_base ho0) hb); replace BK713 := aM (kB gb713 #[.slice Ao11 t706.length co11, .slice Ao13 t709.length co13] 27 hb); replace HB := aM (below_step aG hb); (try clear hb); (try clear hb2); (try clear hk); (try clear hi); (try clear ho0); have hcz17_0 : w16.cell? ⟨gb713, 0, none⟩ = some (.slice Ao11 t706.length co11) := (blk_cell BK713.out 0).trans rfl; have hcz17_1 : w16.cell? ⟨gb713, 1, none⟩ = some (.slice Ao13 t709.length co13) := (blk_cell BK713.out 1).trans rfl; have hfz17_0 := blk_frozen BK713.out 0; have hfz17_1 := blk_frozen BK713.out 1) | ((with_reducible refine gate_callee (f := 36) rfl ?_); refine goesL_ (some 36) rfl rfl Try.func36 (by kernel_rfl) rfl #[.agg #[.slice Ao11 t706.length co11, .slice Ao13 t709.length co13], .int .i64 t712] rfl aA ?_; (with_reducible refine (spec_NthRepair.calls k _ _ t706 _ _ t709 t712 t719 t722 _ ?side1 ?side2 ?side3 ?side4 A7.out).mono ?_); (case side1 => repeat (first | exact (Kd.R_reads' HO708.out).2.2 | (with_reducible refine pC ?_))); (case side2 => exact (Kd.R_reads' HO708.out).2.1); (case side3 => repeat (first | exact (Kd.N_reads' HO711.out).2.2 | (with_reducible refine pC ?_))); (case side4 => exact (Kd.N_reads' HO711.out).2.1); rintro e w18 ⟨v720, rfl, ho0, hb⟩; refine ⟨_, rfl, ?_⟩; have HO721 := aM (Kd.R_lower (Kd.R_new' ho0 (Kd.R_lt (aR HO717))) (below_size aG)); replace HO708 := aM (Kd.R_below (aR HO708) hb); replace HO711 := aM (Kd.N_elder' (aN HO711) (Kd.R_base ho0) hb); replace HO717 := aM (Kd.R_elder' (aR HO717) (Kd.R_base ho0) hb); replace BK713 := aM (kB gb713 #[.slice Ao11 t706.length co11, .slice Ao13 t709.length co13] 27 hb); replace HB := aM (below_step aG hb); (try clear hb); (try clear hb2); (try clear hk); (try clear hi); (try clear ho0)))
  (try simp only [Act.put, List.setIfInBounds_toArray, List.set_cons_zero, List.set_cons_succ])
  go_cut [64] (fun v64 wc => ∃ (kq : Nat) (x64_7 : Bool), v64 = .bool x64_7 ∧ Aside0 (laws_FnRepairEnumeration.j0 kq t712 t714 t715 t718 x64_7 t706 t709 = some r) ∧ Aside0 (kq ≤ k) ∧ Aside0 (Kd.R (Kd.int .i64) 3 wc w.heap.size (fun _ => True) v716 t715) ∧ Aside0 (Kd.R k70 70 wc w.heap.size (fun _ => True) (.slice Ao11 t706.length co11) t706) ∧ Aside0 (Kd.N k35 35 wc w.heap.size (fun k_ => some k_ ≠ (v716 : Value).ownBlock ∧ some k_ ≠ ((.slice Ao11 t706.length co11) : Value).ownBlock ∧ k_ ≠ gb713) (.slice Ao13 t709.length co13) t709) ∧ Aside0 (wc.heap[gb713]? = some (.cells #[(.slice Ao11 t706.length co11), (.slice Ao13 t709.length co13)] 27 (0, 0))) ∧ Aside0 (Below w.heap.size w wc))
  case first =>
   have H := HC8.out
   clear HC8
   replace H := bM H
   obtain ⟨t723, A190, H⟩ := H
   have A19 := aM A190
   clear A190
   by_cases c20 : t714 = t723
   ·rw [if_pos c20] at H
    have c20b0 : (t714 == t723) = true := beq_iff_eq.mpr c20
    have c20b1 : (t714 != t723) = false := bne_eq_false_iff_eq.mpr c20
    clear c20
    (first | rw [c20b0] | (simp only [i64_w, i32_w]; rw [c20b0]) | skip)
    by_cases c21 : (t718 != t722) = true
    ·rw [if_pos c21] at H
     have c21b0 : (t718 != t722) = true := c21
     (try (have c21b1 : decide (t718 = t722) = false := by simpa using c21))
     (try (have c21b2 : (t718 == t722) = false := by simpa using c21))
     (try (have c21b3 : ¬ (t718 = t722) := by simpa using c21))
     clear c21
     have H' := aM H
     clear H
     have hcz22_0 : w18.cell? ⟨gb713, 0, none⟩ = some (.slice Ao11 t706.length co11) := (blk_cell BK713.out 0).trans rfl
     have hcz22_1 : w18.cell? ⟨gb713, 1, none⟩ = some (.slice Ao13 t709.length co13) := (blk_cell BK713.out 1).trans rfl
     have hfz22_0 := blk_frozen BK713.out 0
     have hfz22_1 := blk_frozen BK713.out 1
     go_wp2_with (first | ((with_reducible refine gate_callee (f := 37) rfl ?_); refine goesL_ (some 41) rfl rfl Try.func37 (by kernel_rfl) rfl #[.agg #[.slice Ao11 t706.length co11, .slice Ao13 t709.length co13]] rfl aA ?_; (with_reducible refine (spec_CountRepairs.calls k _ _ t706 _ _ t709 t723 _ ?side1 ?side2 ?side3 ?side4 A19.out).mono ?_); (case side1 => repeat (first | exact (Kd.R_reads' HO708.out).2.2 | (with_reducible refine pC ?_))); (case side2 => exact (Kd.R_reads' HO708.out).2.1); (case side3 => repeat (first | exact (Kd.N_reads' HO711.out).2.2 | (with_reducible refine pC ?_))); (case side4 => exact (Kd.N_reads' HO711.out).2.1); rintro e w23 ⟨rfl, hb⟩; refine ⟨_, rfl, ?_⟩; replace HO708 := aM (Kd.R_below (aR HO708) hb); replace HO711 := aM (Kd.N_below (aN HO711) hb); replace HO717 := aM (Kd.R_below (aR HO717) hb); replace HO721 := aM (Kd.R_below (aR HO721) hb); replace BK713 := aM (kB gb713 #[.slice Ao11 t706.length co11, .slice Ao13 t709.length co13] 27 hb); replace HB := aM (below_step aG hb); (try clear hb); (try clear hb2); (try clear hk); (try clear hi)))
     go_meet
     case rel => exact ⟨_, (true), aX, H', ⟨by first | omega | exact Nat.le_refl _⟩, ⟨by (with_reducible repeat apply pR); exact Kd.R_mono HO717.out (fun _ hk => trivial)⟩, ⟨aR HO708⟩, ⟨by (with_reducible repeat apply pN); exact Kd.N_mono HO711.out (fun _ hk => ⟨hk.1.2, ⟨hk.1.1.1, hk.1.1.2⟩⟩)⟩, ⟨aK⟩, ⟨aG⟩⟩
    ·rw [if_neg c21] at H
     have c21b0 : (t718 != t722) = false := by simpa using c21
     (try (have c21b1 : decide (t718 = t722) = true := by simpa using c21))
     (try (have c21b2 : (t718 == t722) = true := by simpa using c21))
     clear c21
     replace H := bM H
     obtain ⟨t724, A240, H⟩ := H
     have A24 := aM A240
     clear A240
     by_cases c25 : t724 = true
     ·subst c25
      replace H := iT H
      by_cases c26 : t712 ≥ 0
      ·rw [if_pos c26] at H
       have c26b0 : decide (0 ≤ t712) = true := decide_eq_true c26
       clear c26
       have H' := aM H
       clear H
       have hcz27_0 : w18.cell? ⟨gb713, 0, none⟩ = some (.slice Ao11 t706.length co11) := (blk_cell BK713.out 0).trans rfl
       have hcz27_1 : w18.cell? ⟨gb713, 1, none⟩ = some (.slice Ao13 t709.length co13) := (blk_cell BK713.out 1).trans rfl
       have hfz27_0 := blk_frozen BK713.out 0
       have hfz27_1 := blk_frozen BK713.out 1
       go_wp2_with (first | ((with_reducible refine gate_callee (f := 37) rfl ?_); refine goesL_ (some 41) rfl rfl Try.func37 (by kernel_rfl) rfl #[.agg #[.slice Ao11 t706.length co11, .slice Ao13 t709.length co13]] rfl aA ?_; (with_reducible refine (spec_CountRepairs.calls k _ _ t706 _ _ t709 t723 _ ?side1 ?side2 ?side3 ?side4 A19.out).mono ?_); (case side1 => repeat (first | exact (Kd.R_reads' HO708.out).2.2 | (with_reducible refine pC ?_))); (case side2 => exact (Kd.R_reads' HO708.out).2.1); (case side3 => repeat (first | exact (Kd.N_reads' HO711.out).2.2 | (with_reducible refine pC ?_))); (case side4 => exact (Kd.N_reads' HO711.out).2.1); rintro e w28 ⟨rfl, hb⟩; refine ⟨_, rfl, ?_⟩; replace HO708 := aM (Kd.R_below (aR HO708) hb); replace HO711 := aM (Kd.N_below (aN HO711) hb); replace HO717 := aM (Kd.R_below (aR HO717) hb); replace HO721 := aM (Kd.R_below (aR HO721) hb); replace BK713 := aM (kB gb713 #[.slice Ao11 t706.length co11, .slice Ao13 t709.length co13] 27 hb); replace HB := aM (below_step aG hb); (try clear hb); (try clear hb2); (try clear hk); (try clear hi); obtain ⟨Ao29, co29, eo29⟩ := Kd.R_slice HO717.out; subst eo29; obtain ⟨Ao30, co30, eo30⟩ := Kd.R_slice HO721.out; subst eo30) | (go_at_call 12; (with_reducible refine (laws_sameInts.calls k _ _ t715 _ _ t719 true _ ?side1 ?side2 ?side3 ?side4 A24.out).mono ?_); (case side1 => repeat (first | exact (Kd.R_reads' HO717.out).2.2 | (with_reducible refine pC ?_))); (case side2 => exact (Kd.R_reads' HO717.out).2.1); (case side3 => repeat (first | exact (Kd.R_reads' HO721.out).2.2 | (with_reducible refine pC ?_))); (case side4 => exact (Kd.R_reads' HO721.out).2.1); rintro e w' ⟨rfl, ⟨nd, rfl⟩⟩))
       go_meet
       case rel => exact ⟨_, ((t718 != (decide (t712 < t714)))), aX, H', ⟨by first | omega | exact Nat.le_refl _⟩, ⟨by (with_reducible repeat apply pR); exact Kd.R_mono HO717.out (fun _ hk => trivial)⟩, ⟨aR HO708⟩, ⟨by (with_reducible repeat apply pN); exact Kd.N_mono HO711.out (fun _ hk => ⟨hk.1.2, ⟨hk.1.1.1, hk.1.1.2⟩⟩)⟩, ⟨aK⟩, ⟨aG⟩⟩
      ·rw [if_neg c26] at H
       have c26b0 : decide (0 ≤ t712) = false := decide_eq_false c26
       clear c26
       have H' := aM H
       clear H
       have hcz31_0 : w18.cell? ⟨gb713, 0, none⟩ = some (.slice Ao11 t706.length co11) := (blk_cell BK713.out 0).trans rfl
       have hcz31_1 : w18.cell? ⟨gb713, 1, none⟩ = some (.slice Ao13 t709.length co13) := (blk_cell BK713.out 1).trans rfl
       have hfz31_0 := blk_frozen BK713.out 0
       have hfz31_1 := blk_frozen BK713.out 1
       go_wp2_with (first | ((with_reducible refine gate_callee (f := 37) rfl ?_); refine goesL_ (some 41) rfl rfl Try.func37 (by kernel_rfl) rfl #[.agg #[.slice Ao11 t706.length co11, .slice Ao13 t709.length co13]] rfl aA ?_; (with_reducible refine (spec_CountRepairs.calls k _ _ t706 _ _ t709 t723 _ ?side1 ?side2 ?side3 ?side4 A19.out).mono ?_); (case side1 => repeat (first | exact (Kd.R_reads' HO708.out).2.2 | (with_reducible refine pC ?_))); (case side2 => exact (Kd.R_reads' HO708.out).2.1); (case side3 => repeat (first | exact (Kd.N_reads' HO711.out).2.2 | (with_reducible refine pC ?_))); (case side4 => exact (Kd.N_reads' HO711.out).2.1); rintro e w32 ⟨rfl, hb⟩; refine ⟨_, rfl, ?_⟩; replace HO708 := aM (Kd.R_below (aR HO708) hb); replace HO711 := aM (Kd.N_below (aN HO711) hb); replace HO717 := aM (Kd.R_below (aR HO717) hb); replace HO721 := aM (Kd.R_below (aR HO721) hb); replace BK713 := aM (kB gb713 #[.slice Ao11 t706.length co11, .slice Ao13 t709.length co13] 27 hb); replace HB := aM (below_step aG hb); (try clear hb); (try clear hb2); (try clear hk); (try clear hi); obtain ⟨Ao33, co33, eo33⟩ := Kd.R_slice HO717.out; subst eo33; obtain ⟨Ao34, co34, eo34⟩ := Kd.R_slice HO721.out; subst eo34) | (go_at_call 12; (with_reducible refine (laws_sameInts.calls k _ _ t715 _ _ t719 true _ ?side1 ?side2 ?side3 ?side4 A24.out).mono ?_); (case side1 => repeat (first | exact (Kd.R_reads' HO717.out).2.2 | (with_reducible refine pC ?_))); (case side2 => exact (Kd.R_reads' HO717.out).2.1); (case side3 => repeat (first | exact (Kd.R_reads' HO721.out).2.2 | (with_reducible refine pC ?_))); (case side4 => exact (Kd.R_reads' HO721.out).2.1); rintro e w' ⟨rfl, ⟨nd, rfl⟩⟩))
       go_meet
       case rel => exact ⟨_, ((t718 != false)), aX, H', ⟨by first | omega | exact Nat.le_refl _⟩, ⟨by (with_reducible repeat apply pR); exact Kd.R_mono HO717.out (fun _ hk => trivial)⟩, ⟨aR HO708⟩, ⟨by (with_reducible repeat apply pN); exact Kd.N_mono HO711.out (fun _ hk => ⟨hk.1.2, ⟨hk.1.1.1, hk.1.1.2⟩⟩)⟩, ⟨aK⟩, ⟨aG⟩⟩
     ·replace c25 := Bool.eq_false_iff.mpr c25
      subst c25
      have H1 : (laws_FnRepairEnumeration.j0 k t712 t714 t715 t718 true t706 t709) = some r := by rw [if_neg (show ¬ (false = true) by decide)] at H; exact H
      clear H
      have H := H1
      clear H1
      have H' := aM H
      clear H
      have hcz35_0 : w18.cell? ⟨gb713, 0, none⟩ = some (.slice Ao11 t706.length co11) := (blk_cell BK713.out 0).trans rfl
      have hcz35_1 : w18.cell? ⟨gb713, 1, none⟩ = some (.slice Ao13 t709.length co13) := (blk_cell BK713.out 1).trans rfl
      have hfz35_0 := blk_frozen BK713.out 0
      have hfz35_1 := blk_frozen BK713.out 1
      go_wp2_with (first | ((with_reducible refine gate_callee (f := 37) rfl ?_); refine goesL_ (some 41) rfl rfl Try.func37 (by kernel_rfl) rfl #[.agg #[.slice Ao11 t706.length co11, .slice Ao13 t709.length co13]] rfl aA ?_; (with_reducible refine (spec_CountRepairs.calls k _ _ t706 _ _ t709 t723 _ ?side1 ?side2 ?side3 ?side4 A19.out).mono ?_); (case side1 => repeat (first | exact (Kd.R_reads' HO708.out).2.2 | (with_reducible refine pC ?_))); (case side2 => exact (Kd.R_reads' HO708.out).2.1); (case side3 => repeat (first | exact (Kd.N_reads' HO711.out).2.2 | (with_reducible refine pC ?_))); (case side4 => exact (Kd.N_reads' HO711.out).2.1); rintro e w36 ⟨rfl, hb⟩; refine ⟨_, rfl, ?_⟩; replace HO708 := aM (Kd.R_below (aR HO708) hb); replace HO711 := aM (Kd.N_below (aN HO711) hb); replace HO717 := aM (Kd.R_below (aR HO717) hb); replace HO721 := aM (Kd.R_below (aR HO721) hb); replace BK713 := aM (kB gb713 #[.slice Ao11 t706.length co11, .slice Ao13 t709.length co13] 27 hb); replace HB := aM (below_step aG hb); (try clear hb); (try clear hb2); (try clear hk); (try clear hi); obtain ⟨Ao37, co37, eo37⟩ := Kd.R_slice HO717.out; subst eo37; obtain ⟨Ao38, co38, eo38⟩ := Kd.R_slice HO721.out; subst eo38) | (go_at_call 12; (with_reducible refine (laws_sameInts.calls k _ _ t715 _ _ t719 false _ ?side1 ?side2 ?side3 ?side4 A24.out).mono ?_); (case side1 => repeat (first | exact (Kd.R_reads' HO717.out).2.2 | (with_reducible refine pC ?_))); (case side2 => exact (Kd.R_reads' HO717.out).2.1); (case side3 => repeat (first | exact (Kd.R_reads' HO721.out).2.2 | (with_reducible refine pC ?_))); (case side4 => exact (Kd.R_reads' HO721.out).2.1); rintro e w' ⟨rfl, ⟨nd, rfl⟩⟩))
      go_meet
      case rel => exact ⟨_, (true), aX, H', ⟨by first | omega | exact Nat.le_refl _⟩, ⟨by (with_reducible repeat apply pR); exact Kd.R_mono HO717.out (fun _ hk => trivial)⟩, ⟨aR HO708⟩, ⟨by (with_reducible repeat apply pN); exact Kd.N_mono HO711.out (fun _ hk => ⟨hk.1.2, ⟨hk.1.1.1, hk.1.1.2⟩⟩)⟩, ⟨aK⟩, ⟨aG⟩⟩
   ·rw [if_neg c20] at H
    have c20b0 : (t714 == t723) = false := beq_eq_false_iff_ne.mpr c20
    have c20b1 : (t714 != t723) = true := bne_iff_ne.mpr c20
    (first | rw [c20b0] | (simp only [i64_w, i32_w]; rw [c20b0]) | skip)
    have H' := aM H
    clear H
    have hcz39_0 : w18.cell? ⟨gb713, 0, none⟩ = some (.slice Ao11 t706.length co11) := (blk_cell BK713.out 0).trans rfl
    have hcz39_1 : w18.cell? ⟨gb713, 1, none⟩ = some (.slice Ao13 t709.length co13) := (blk_cell BK713.out 1).trans rfl
    have hfz39_0 := blk_frozen BK713.out 0
    have hfz39_1 := blk_frozen BK713.out 1
    go_wp2_with (first | ((with_reducible refine gate_callee (f := 37) rfl ?_); refine goesL_ (some 41) rfl rfl Try.func37 (by kernel_rfl) rfl #[.agg #[.slice Ao11 t706.length co11, .slice Ao13 t709.length co13]] rfl aA ?_; (with_reducible refine (spec_CountRepairs.calls k _ _ t706 _ _ t709 t723 _ ?side1 ?side2 ?side3 ?side4 A19.out).mono ?_); (case side1 => repeat (first | exact (Kd.R_reads' HO708.out).2.2 | (with_reducible refine pC ?_))); (case side2 => exact (Kd.R_reads' HO708.out).2.1); (case side3 => repeat (first | exact (Kd.N_reads' HO711.out).2.2 | (with_reducible refine pC ?_))); (case side4 => exact (Kd.N_reads' HO711.out).2.1); rintro e w40 ⟨rfl, hb⟩; refine ⟨_, rfl, ?_⟩; replace HO708 := aM (Kd.R_below (aR HO708) hb); replace HO711 := aM (Kd.N_below (aN HO711) hb); replace HO717 := aM (Kd.R_below (aR HO717) hb); replace HO721 := aM (Kd.R_below (aR HO721) hb); replace BK713 := aM (kB gb713 #[.slice Ao11 t706.length co11, .slice Ao13 t709.length co13] 27 hb); replace HB := aM (below_step aG hb); (try clear hb); (try clear hb2); (try clear hk); (try clear hi)))
    go_meet
    case rel => exact ⟨_, (true), aX, H', ⟨by first | omega | exact Nat.le_refl _⟩, ⟨by (with_reducible repeat apply pR); exact Kd.R_mono HO717.out (fun _ hk => trivial)⟩, ⟨aR HO708⟩, ⟨by (with_reducible repeat apply pN); exact Kd.N_mono HO711.out (fun _ hk => ⟨hk.1.2, ⟨hk.1.1.1, hk.1.1.2⟩⟩)⟩, ⟨aK⟩, ⟨aG⟩⟩
  case rest =>
   clear HC8
   try clear c2
   try clear p2
   try clear c3
   try clear c6
   try clear c7
   try clear c20
   try clear c20b0
   try clear c20b1
   try clear c21
   try clear c21b0
   try clear c21b1
   try clear c21b2
   try clear c25
   try clear c26
   try clear c26b0
   try clear c33
   try clear c34
   try clear c35
   try clear c36
   try clear c37
   try clear hcz12_0
   try clear hcz12_1
   try clear hcz15_0
   try clear hcz15_1
   try clear hcz17_0
   try clear hcz17_1
   try clear hcz22_0
   try clear hcz22_1
   try clear hcz27_0
   try clear hcz27_1
   try clear hcz31_0
   try clear hcz31_1
   try clear hcz35_0
   try clear hcz35_1
   try clear hcz39_0
   try clear hcz39_1
   try clear hfz12_0
   try clear hfz12_1
   try clear hfz15_0
   try clear hfz15_1
   try clear hfz17_0
   try clear hfz17_1
   try clear hfz22_0
   try clear hfz22_1
   try clear hfz27_0
   try clear hfz27_1
   try clear hfz31_0
   try clear hfz31_1
   try clear hfz35_0
   try clear hfz35_1
   try clear hfz39_0
   try clear hfz39_1
   obtain ⟨kq, x64_7, rfl, HA, HJ7, HO_6, HO_714000, HO_714001, BK713, HB⟩ := hcut
   cases kq with
   | zero => exact absurd HA.out (by simp [laws_FnRepairEnumeration.j0])
   | succ kj7 =>
    have H := HA.out
    clear HA
    simp only [laws_FnRepairEnumeration.j0] at H
    by_cases c41 : x64_7 = true
    ·subst c41
     replace H := iT H
     exact absurd (Option.some.inj (H.trans (congrArg some HRT_.out))) (by decide)
    ·replace c41 := Bool.eq_false_iff.mpr c41
     subst c41
     have H1 : (if t718 = true then ((impl_RepairRank.f kj7 t706 t709 t715).bind fun bt725 => ((impl_NextRepair.f kj7 t706 t709 t715).bind fun bt727 => ((spec_NthRepair.f kj7 t706 t709 (wrap64 (t712 + 1))).bind fun bt731 => ((impl_SelectFacts.f kj7 t706 t709 t715).bind fun bt735 => ((impl_IsRepair.f kj7 t706 t709 t715).bind fun t743 => (if t743 = true then ((spec_IsConsistent.f kj7 bt735.1 bt735.2.1).bind fun t744 => (if t744 = true then (if bt725.2 = true then (if bt725.1 = t712 then (if (bt727.2 == (decide ((wrap64 (t712 + 1)) < t714))) = true then ((laws_sameInts.f kj7 bt727.1 bt731.1).bind fun t745 => (some t745)) else (some false)) else (some false)) else (some false)) else (some false))) else (some false))))))) else (some ((t715.length : Int) == 0))) = some r := by rw [if_neg (show ¬ (false = true) by decide)] at H; exact H
     clear H
     have H := H1
     clear H1
     by_cases c42 : t718 = true
     ·subst c42
      replace H := iT H
      replace H := bM H
      obtain ⟨⟨t725, t726⟩, A430, H⟩ := H
      dsimp only at H
      have A43 := aM A430
      clear A430
      replace H := bM H
      obtain ⟨⟨t727, t730⟩, A440, H⟩ := H
      dsimp only at H
      have A44 := aM A440
      clear A440
      replace H := bM H
      obtain ⟨⟨t731, t734⟩, A450, H⟩ := H
      dsimp only at H
      have A45 := aM A450
      clear A450
      replace H := bM H
      obtain ⟨⟨t735, t738, t741⟩, A460, H⟩ := H
      dsimp only at H
      have A46 := aM A460
      clear A460
      replace H := bM H
      obtain ⟨t743, A470, H⟩ := H
      have A47 := aM A470
      clear A470
      by_cases c48 : t743 = true
      ·subst c48
       replace H := iT H
       replace H := bM H
       obtain ⟨t744, A490, H⟩ := H
       have A49 := aM A490
       clear A490
       by_cases c50 : t744 = true
       ·subst c50
        replace H := iT H
        by_cases c51 : t726 = true
        ·subst c51
         replace H := iT H
         by_cases c52 : t725 = t712
         ·rw [if_pos c52] at H
          have c52b0 : (t725 == t712) = true := beq_iff_eq.mpr c52
          have c52b1 : (t725 != t712) = false := bne_eq_false_iff_eq.mpr c52
          clear c52
          by_cases c53 : (t730 == (decide ((wrap64 (t712 + 1)) < t714))) = true
          ·rw [if_pos c53] at H
           have c53b0 : (t730 == (decide ((wrap64 (t712 + 1)) < t714))) = true := c53
           (try (have c53b1 : decide (t730 = (decide ((wrap64 (t712 + 1)) < t714))) = true := by simpa using c53))
           (try (have c53b2 : (t730 == (decide ((wrap64 (t712 + 1)) < t714))) = true := by simpa using c53))
           clear c53
           replace H := bM H
           obtain ⟨t745, A540, H⟩ := H
           have A54 := aM A540
           clear A540
           obtain rfl := Option.some.inj H
           have hcz55_0 : wc.cell? ⟨gb713, 0, none⟩ = some (.slice Ao11 t706.length co11) := (blk_cell BK713.out 0).trans rfl
           have hcz55_1 : wc.cell? ⟨gb713, 1, none⟩ = some (.slice Ao13 t709.length co13) := (blk_cell BK713.out 1).trans rfl
           have hfz55_0 := blk_frozen BK713.out 0
           have hfz55_1 := blk_frozen BK713.out 1
           obtain ⟨Ao56, co56, eo56⟩ := Kd.R_slice HO_6.out
           subst eo56
           go_wp2_with (first | ((with_reducible refine gate_callee (f := 38) rfl ?_); refine goesL_ (some 73) rfl rfl Try.func38 (by kernel_rfl) rfl #[.agg #[.slice Ao11 t706.length co11, .slice Ao13 t709.length co13], .slice Ao56 t715.length co56] rfl aA ?_; (with_reducible refine (impl_RepairRank.calls kj7 _ _ t706 _ _ t709 _ _ t715 t725 true _ ?side1 ?side2 ?side3 ?side4 ?side5 ?side6 A43.out).mono ?_); (case side1 => repeat (first | exact (Kd.R_reads' HO_714000.out).2.2 | (with_reducible refine pC ?_))); (case side2 => exact (Kd.R_reads' HO_714000.out).2.1); (case side3 => repeat (first | exact (Kd.N_reads' HO_714001.out).2.2 | (with_reducible refine pC ?_))); (case side4 => exact (Kd.N_reads' HO_714001.out).2.1); (case side5 => repeat (first | exact (Kd.R_reads' HO_6.out).2.2 | (with_reducible refine pC ?_))); (case side6 => exact (Kd.R_reads' HO_6.out).2.1); rintro e w57 ⟨rfl, hb⟩; refine ⟨_, rfl, ?_⟩; replace HO_6 := aM (Kd.R_below (aR HO_6) hb); replace HO_714000 := aM (Kd.R_below (aR HO_714000) hb); replace HO_714001 := aM (Kd.N_below (aN HO_714001) hb); replace BK713 := aM (kB gb713 #[.slice Ao11 t706.length co11, .slice Ao13 t709.length co13] 27 hb); replace HB := aM (below_step aG hb); (try clear hb); (try clear hb2); (try clear hk); (try clear hi); have hcz58_0 : w57.cell? ⟨gb713, 0, none⟩ = some (.slice Ao11 t706.length co11) := (blk_cell BK713.out 0).trans rfl; have hcz58_1 : w57.cell? ⟨gb713, 1, none⟩ = some (.slice Ao13 t709.length co13) := (blk_cell BK713.out 1).trans rfl; have hfz58_0 := blk_frozen BK713.out 0; have hfz58_1 := blk_frozen BK713.out 1) | ((with_reducible refine gate_callee (f := 39) rfl ?_); refine goesL_ (some 79) rfl rfl Try.func39 (by kernel_rfl) rfl #[.agg #[.slice Ao11 t706.length co11, .slice Ao13 t709.length co13], .slice Ao56 t715.length co56] rfl aA ?_; (with_reducible refine (impl_NextRepair.calls kj7 _ _ t706 _ _ t709 _ _ t715 t727 t730 _ ?side1 ?side2 ?side3 ?side4 ?side5 ?side6 A44.out).mono ?_); (case side1 => repeat (first | exact (Kd.R_reads' HO_714000.out).2.2 | (with_reducible refine pC ?_))); (case side2 => exact (Kd.R_reads' HO_714000.out).2.1); (case side3 => repeat (first | exact (Kd.N_reads' HO_714001.out).2.2 | (with_reducible refine pC ?_))); (case side4 => exact (Kd.N_reads' HO_714001.out).2.1); (case side5 => repeat (first | exact (Kd.R_reads' HO_6.out).2.2 | (with_reducible refine pC ?_))); (case side6 => exact (Kd.R_reads' HO_6.out).2.1); rintro e w59 ⟨v728, rfl, ho0, hb⟩; refine ⟨_, rfl, ?_⟩; have HO729 := aM (Kd.R_lower (Kd.R_new' ho0 (Kd.R_lt (aR HO_6))) (below_size aG)); replace HO_6 := aM (Kd.R_elder' (aR HO_6) (Kd.R_base ho0) hb); replace HO_714000 := aM (Kd.R_below (aR HO_714000) hb); replace HO_714001 := aM (Kd.N_elder' (aN HO_714001) (Kd.R_base ho0) hb); replace BK713 := aM (kB gb713 #[.slice Ao11 t706.length co11, .slice Ao13 t709.length co13] 27 hb); replace HB := aM (below_step aG hb); (try clear hb); (try clear hb2); (try clear hk); (try clear hi); (try clear ho0); have hcz60_0 : w59.cell? ⟨gb713, 0, none⟩ = some (.slice Ao11 t706.length co11) := (blk_cell BK713.out 0).trans rfl; have hcz60_1 : w59.cell? ⟨gb713, 1, none⟩ = some (.slice Ao13 t709.length co13) := (blk_cell BK713.out 1).trans rfl; have hfz60_0 := blk_frozen BK713.out 0; have hfz60_1 := blk_frozen BK713.out 1) | ((with_reducible refine gate_callee (f := 36) rfl ?_); refine goesL_ (some 86) rfl rfl Try.func36 (by kernel_rfl) rfl #[.agg #[.slice Ao11 t706.length co11, .slice Ao13 t709.length co13], .int .i64 (wrap64 (t712 + 1))] rfl aA ?_; (with_reducible refine (spec_NthRepair.calls kj7 _ _ t706 _ _ t709 (wrap64 (t712 + 1)) t731 t734 _ ?side1 ?side2 ?side3 ?side4 A45.out).mono ?_); (case side1 => repeat (first | exact (Kd.R_reads' HO_714000.out).2.2 | (with_reducible refine pC ?_))); (case side2 => exact (Kd.R_reads' HO_714000.out).2.1); (case side3 => repeat (first | exact (Kd.N_reads' HO_714001.out).2.2 | (with_reducible refine pC ?_))); (case side4 => exact (Kd.N_reads' HO_714001.out).2.1); rintro e w61 ⟨v732, rfl, ho0, hb⟩; refine ⟨_, rfl, ?_⟩; have HO733 := aM (Kd.R_lower (Kd.R_new' (Kd.R_new' ho0 (Kd.R_lt (aR HO_6))) (Kd.R_lt (aR HO729))) (below_size aG)); replace HO_6 := aM (Kd.R_elder' (aR HO_6) (Kd.R_base ho0) hb); replace HO_714000 := aM (Kd.R_below (aR HO_714000) hb); replace HO_714001 := aM (Kd.N_elder' (aN HO_714001) (Kd.R_base ho0) hb); replace HO729 := aM (Kd.R_elder' (aR HO729) (Kd.R_base ho0) hb); replace BK713 := aM (kB gb713 #[.slice Ao11 t706.length co11, .slice Ao13 t709.length co13] 27 hb); replace HB := aM (below_step aG hb); (try clear hb); (try clear hb2); (try clear hk); (try clear hi); (try clear ho0); have hcz62_0 : w61.cell? ⟨gb713, 0, none⟩ = some (.slice Ao11 t706.length co11) := (blk_cell BK713.out 0).trans rfl; have hcz62_1 : w61.cell? ⟨gb713, 1, none⟩ = some (.slice Ao13 t709.length co13) := (blk_cell BK713.out 1).trans rfl; have hfz62_0 := blk_frozen BK713.out 0; have hfz62_1 := blk_frozen BK713.out 1) | ((with_reducible refine gate_callee (f := 40) rfl ?_); refine goesL_ (some 92) rfl rfl Try.func40 (by kernel_rfl) rfl #[.agg #[.slice Ao11 t706.length co11, .slice Ao13 t709.length co13], .slice Ao56 t715.length co56] rfl aA ?_; (with_reducible refine (impl_SelectFacts.calls kj7 _ _ t706 _ _ t709 _ _ t715 t735 t738 t741 _ ?side1 ?side2 ?side3 ?side4 ?side5 ?side6 A46.out).mono ?_); (case side1 => repeat (first | exact (Kd.R_reads' HO_714000.out).2.2 | (with_reducible refine pC ?_))); (case side2 => exact (Kd.R_reads' HO_714000.out).2.1); (case side3 => repeat (first | exact (Kd.N_reads' HO_714001.out).2.2 | (with_reducible refine pC ?_))); (case side4 => exact (Kd.N_reads' HO_714001.out).2.1); (case side5 => repeat (first | exact (Kd.R_reads' HO_6.out).2.2 | (with_reducible refine pC ?_))); (case side6 => exact (Kd.R_reads' HO_6.out).2.1); rintro e w63 ⟨v736, v739, rfl, ho0, ho1, hb⟩; refine ⟨_, rfl, ?_⟩; have HO737 := aM (Kd.R_lower (Kd.R_new' (Kd.R_mono (ok' := fun k_ => True) ho0 (fun _ hk_ => trivial)) (Kd.R_lt (aR HO_714000))) (below_size aG)); have HO740 := aM (Kd.N_lower (Kd.N_mono (ok' := fun k_ => some k_ ≠ (v736 : Value).ownBlock ∧ some k_ ≠ (.slice Ao56 t715.length co56 : Value).ownBlock ∧ some k_ ≠ (.slice Ao11 t706.length co11 : Value).ownBlock ∧ some k_ ≠ (.slice Ao13 t709.length co13 : Value).ownBlock ∧ some k_ ≠ (v728 : Value).ownBlock ∧ some k_ ≠ (v732 : Value).ownBlock ∧ k_ ≠ gb713) ho1 (fun k_ hk_ => ⟨hk_.2, (Kd.fresh' (Kd.R_lt (aR HO_6)) k_ hk_.1), (Kd.fresh' (Kd.R_lt (aR HO_714000)) k_ hk_.1), (Kd.fresh' (Kd.N_lt (aN HO_714001)) k_ hk_.1), (Kd.fresh' (Kd.R_lt (aR HO729)) k_ hk_.1), (Kd.fresh' (Kd.R_lt (aR HO733)) k_ hk_.1), (Kd.freshB (g := gb713) (o := .cells #[.slice Ao11 t706.length co11, .slice Ao13 t709.length co13] 27 (0, 0)) aK k_ hk_.1)⟩)) (below_size aG)); replace HO_6 := aM (Kd.R_below (aR HO_6) hb); replace HO_714000 := aM (Kd.R_elder' (aR HO_714000) (Kd.R_base ho0) hb); replace HO_714001 := aM (Kd.N_mono (Kd.N_told (Kd.N_told (Kd.N_old (aN HO_714001) hb) (Kd.R_base ho0)) (Kd.N_base ho1)) (fun _ h_ => h_.1)); replace HO729 := aM (Kd.R_below (aR HO729) hb); replace HO733 := aM (Kd.R_below (aR HO733) hb); replace BK713 := aM (kB gb713 #[.slice Ao11 t706.length co11, .slice Ao13 t709.length co13] 27 hb); replace HB := aM (below_step aG hb); (try clear hb); (try clear hb2); (try clear hk); (try clear hi); (try clear ho0); (try clear ho1)) | ((with_reducible refine gate_dst (N := 16) rfl ?_); refine bE 16 (cs := #[.slice none 0 0, .slice none 0 0]) (t := 27) ?_; intro gb742 hg w64 hbox hb; have BK742 := aM (hbox); have GW742 := aM ((by rw [hg]; exact (below_size aG) : w.heap.size ≤ gb742)); have GE742 := aM ((by rw [hg]; exact (below_size aG) : w.heap.size ≤ gb742)); have NB713_742 := aM ((by rw [hg]; exact Nat.ne_of_lt (blk_lt (g := gb713) (o := .cells #[.slice Ao11 t706.length co11, .slice Ao13 t709.length co13] 27 (0, 0)) aK) : gb713 ≠ gb742)); have NB742_713 := aM ((by rw [hg]; exact Nat.ne_of_gt (blk_lt (g := gb713) (o := .cells #[.slice Ao11 t706.length co11, .slice Ao13 t709.length co13] 27 (0, 0)) aK) : gb742 ≠ gb713)); replace HO_6 := aM (Kd.R_below (aR HO_6) hb); replace HO_714000 := aM (Kd.R_below (aR HO_714000) hb); replace HO_714001 := aM (Kd.N_below (Kd.N_elderB (aN HO_714001) gb742 (Nat.le_of_eq hg.symm)) hb); replace HO729 := aM (Kd.R_below (aR HO729) hb); replace HO733 := aM (Kd.R_below (aR HO733) hb); replace HO737 := aM (Kd.R_below (aR HO737) hb); replace HO740 := aM (Kd.N_below (Kd.N_elderB (aN HO740) gb742 (Nat.le_of_eq hg.symm)) hb); replace BK713 := aM (kB gb713 #[.slice Ao11 t706.length co11, .slice Ao13 t709.length co13] 27 hb); replace HB := aM (below_step aG hb); clear hb hbox hg; obtain ⟨Ao65, co65, eo65⟩ := Kd.R_slice HO737.out; subst eo65; have hnb66 := NB742_713.out; have hnc66 := NB713_742.out; have hcz67_0 : w64.cell? ⟨gb742, 0, none⟩ = some (.slice none 0 0) := (blk_cell BK742.out 0).trans rfl; have hcz67_1 : w64.cell? ⟨gb742, 1, none⟩ = some (.slice none 0 0) := (blk_cell BK742.out 1).trans rfl; have hfz67_0 := blk_frozen BK742.out 0; have hfz67_1 := blk_frozen BK742.out 1; obtain ⟨Ao68, co68, eo68⟩ := Kd.N_slice HO740.out; subst eo68; have hcz69_0 : w64.cell? ⟨gb713, 0, none⟩ = some (.slice Ao11 t706.length co11) := (blk_cell BK713.out 0).trans rfl; have hcz69_1 : w64.cell? ⟨gb713, 1, none⟩ = some (.slice Ao13 t709.length co13) := (blk_cell BK713.out 1).trans rfl; have hfz69_0 := blk_frozen BK713.out 0; have hfz69_1 := blk_frozen BK713.out 1) | ((with_reducible refine gate_callee (f := 31) rfl ?_); refine goesL_ (some 97) rfl rfl Try.func31 (by kernel_rfl) rfl #[.agg #[.slice Ao11 t706.length co11, .slice Ao13 t709.length co13], .slice Ao56 t715.length co56] rfl aA ?_; (with_reducible refine (impl_IsRepair.calls kj7 _ _ t706 _ _ t709 _ _ t715 true _ ?side1 ?side2 ?side3 ?side4 ?side5 ?side6 A47.out).mono ?_); (case side1 => refine (Kd.R_reads' (e := 70) (base := w.heap.size) (ok := fun k_ => (True ∧ some k_ ≠ (.slice Ao65 t735.length co65 : Value).ownBlock)) (n := t706.length) (c := co11) ?_).2.2; exact (by (with_reducible repeat apply pR); exact (Kd.R_mono (Kd.R_far (p := ⟨gb742, 1, none⟩) (Kd.R_far (p := ⟨gb742, 0, none⟩) (Kd.R_types HO_714000.out BK742.out (by decide)) (fun _ hk => hk.2) (.slice Ao65 t735.length co65)) (fun _ hk => hk.2) (.slice Ao68 t738.length co68)) (fun _ h_ => h_.1)))); (case side2 => exact (Kd.R_reads' HO_714000.out).2.1); (case side3 => refine (Kd.N_reads' (e := 35) (base := w.heap.size) (ok := fun k_ => ((((((some k_ ≠ (.slice Ao56 t715.length co56 : Value).ownBlock ∧ (some k_ ≠ (.slice Ao11 t706.length co11 : Value).ownBlock ∧ k_ ≠ gb713)) ∧ some k_ ≠ (v728 : Value).ownBlock) ∧ some k_ ≠ (v732 : Value).ownBlock) ∧ some k_ ≠ (.slice Ao65 t735.length co65 : Value).ownBlock) ∧ some k_ ≠ (.slice Ao68 t738.length co68 : Value).ownBlock) ∧ k_ ≠ gb742)) (n := t709.length) (c := co13) ?_).2.2; exact (by (with_reducible repeat apply pN); exact (Kd.N_mono (Kd.N_far (p := ⟨gb742, 1, none⟩) (Kd.N_far (p := ⟨gb742, 0, none⟩) (Kd.N_mono HO_714001.out (fun k_ hk => (⟨hk, hk.2⟩ : _ ∧ k_ ≠ gb742))) (fun _ hk => hk.2) (.slice Ao65 t735.length co65)) (fun _ hk => hk.2) (.slice Ao68 t738.length co68)) (fun _ h_ => h_.1)))); (case side4 => exact (Kd.N_reads' HO_714001.out).2.1); (case side5 => refine (Kd.R_reads' (e := 3) (base := w.heap.size) (ok := fun k_ => ((True ∧ some k_ ≠ (v728 : Value).ownBlock) ∧ some k_ ≠ (v732 : Value).ownBlock)) (n := t715.length) (c := co56) ?_).2.2; exact (by (with_reducible repeat apply pR); exact (Kd.R_mono (Kd.R_far (p := ⟨gb742, 1, none⟩) (Kd.R_far (p := ⟨gb742, 0, none⟩) (Kd.R_types HO_6.out BK742.out (by decide)) (fun _ hk => hk.2) (.slice Ao65 t735.length co65)) (fun _ hk => hk.2) (.slice Ao68 t738.length co68)) (fun _ h_ => h_.1)))); (case side6 => exact (Kd.R_reads' HO_6.out).2.1); rintro e w70 ⟨rfl, hb⟩; refine ⟨_, rfl, ?_⟩; replace HO_6 := aM (Kd.R_below (by (with_reducible repeat apply pR); exact (Kd.R_mono (Kd.R_far (p := ⟨gb742, 1, none⟩) (Kd.R_far (p := ⟨gb742, 0, none⟩) (Kd.R_types HO_6.out BK742.out (by decide)) (fun _ hk => hk.2) (.slice Ao65 t735.length co65)) (fun _ hk => hk.2) (.slice Ao68 t738.length co68)) (fun _ h_ => h_.1))) hb); replace HO_714000 := aM (Kd.R_below (by (with_reducible repeat apply pR); exact (Kd.R_mono (Kd.R_far (p := ⟨gb742, 1, none⟩) (Kd.R_far (p := ⟨gb742, 0, none⟩) (Kd.R_types HO_714000.out BK742.out (by decide)) (fun _ hk => hk.2) (.slice Ao65 t735.length co65)) (fun _ hk => hk.2) (.slice Ao68 t738.length co68)) (fun _ h_ => h_.1))) hb); replace HO_714001 := aM (Kd.N_below (by (with_reducible repeat apply pN); exact (Kd.N_mono (Kd.N_far (p := ⟨gb742, 1, none⟩) (Kd.N_far (p := ⟨gb742, 0, none⟩) (Kd.N_mono HO_714001.out (fun k_ hk => (⟨hk, hk.2⟩ : _ ∧ k_ ≠ gb742))) (fun _ hk => hk.2) (.slice Ao65 t735.length co65)) (fun _ hk => hk.2) (.slice Ao68 t738.length co68)) (fun _ h_ => h_.1))) hb); replace HO729 := aM (Kd.R_below (by (with_reducible repeat apply pR); exact (Kd.R_mono (Kd.R_far (p := ⟨gb742, 1, none⟩) (Kd.R_far (p := ⟨gb742, 0, none⟩) (Kd.R_types HO729.out BK742.out (by decide)) (fun _ hk => hk.2) (.slice Ao65 t735.length co65)) (fun _ hk => hk.2) (.slice Ao68 t738.length co68)) (fun _ h_ => h_.1))) hb); replace HO733 := aM (Kd.R_below (by (with_reducible repeat apply pR); exact (Kd.R_mono (Kd.R_far (p := ⟨gb742, 1, none⟩) (Kd.R_far (p := ⟨gb742, 0, none⟩) (Kd.R_types HO733.out BK742.out (by decide)) (fun _ hk => hk.2) (.slice Ao65 t735.length co65)) (fun _ hk => hk.2) (.slice Ao68 t738.length co68)) (fun _ h_ => h_.1))) hb); replace HO737 := aM (Kd.R_below (by (with_reducible repeat apply pR); exact (Kd.R_mono (Kd.R_far (p := ⟨gb742, 1, none⟩) (Kd.R_far (p := ⟨gb742, 0, none⟩) (Kd.R_types HO737.out BK742.out (by decide)) (fun _ hk => hk.2) (.slice Ao65 t735.length co65)) (fun _ hk => hk.2) (.slice Ao68 t738.length co68)) (fun _ h_ => h_.1))) hb); replace HO740 := aM (Kd.N_below (by (with_reducible repeat apply pN); exact (Kd.N_mono (Kd.N_far (p := ⟨gb742, 1, none⟩) (Kd.N_far (p := ⟨gb742, 0, none⟩) (Kd.N_mono HO740.out (fun k_ hk => (⟨hk, hk.2⟩ : _ ∧ k_ ≠ gb742))) (fun _ hk => hk.2) (.slice Ao65 t735.length co65)) (fun _ hk => hk.2) (.slice Ao68 t738.length co68)) (fun _ h_ => h_.1))) hb); replace BK713 := aM (blk_below (g := gb713) (o := .cells #[.slice Ao11 t706.length co11, .slice Ao13 t709.length co13] 27 (0, 0)) (by (with_reducible repeat refine pB ?_); refine blk_far ?_ NB713_742.out _; (with_reducible repeat refine pB ?_); refine blk_far ?_ NB713_742.out _; (with_reducible repeat refine pB ?_); exact BK713.out) hb); replace BK742 := aM (blk_below (g := gb742) (o := .cells #[.slice Ao65 t735.length co65, .slice Ao68 t738.length co68] 27 (0, 0)) (by (with_reducible repeat refine pB ?_); refine blk_put (cs := #[.slice Ao65 t735.length co65, .slice none 0 0]) ?_ 1 _ rfl; (with_reducible repeat refine pB ?_); refine blk_put (cs := #[.slice none 0 0, .slice none 0 0]) ?_ 0 _ rfl; (with_reducible repeat refine pB ?_); exact BK742.out) hb); replace HB := aM (below_step aG hb); (try clear hb); (try clear hb2); (try clear hk); (try clear hi); have hcz71_0 : w70.cell? ⟨gb742, 0, none⟩ = some (.slice Ao65 t735.length co65) := (blk_cell BK742.out 0).trans rfl; have hcz71_1 : w70.cell? ⟨gb742, 1, none⟩ = some (.slice Ao68 t738.length co68) := (blk_cell BK742.out 1).trans rfl; have hfz71_0 := blk_frozen BK742.out 0; have hfz71_1 := blk_frozen BK742.out 1) | (go_at_call 41; (with_reducible refine (spec_IsConsistent.calls kj7 _ _ t735 _ _ t738 true _ ?side1 ?side2 ?side3 ?side4 A49.out).mono ?_); (case side1 => repeat (first | exact (Kd.R_reads' HO737.out).2.2 | (with_reducible refine pC ?_))); (case side2 => exact (Kd.R_reads' HO737.out).2.1); (case side3 => repeat (first | exact (Kd.N_reads' HO740.out).2.2 | (with_reducible refine pC ?_))); (case side4 => exact (Kd.N_reads' HO740.out).2.1); rintro e w72 ⟨rfl, hb⟩; have n0_ := aM (Kd.R_below (aR HO_6) hb); have n1_ := aM (Kd.R_below (aR HO_714000) hb); have n2_ := aM (Kd.N_below (aN HO_714001) hb); have n3_ := aM (Kd.R_below (aR HO729) hb); have n4_ := aM (Kd.R_below (aR HO733) hb); have n5_ := aM (Kd.R_below (aR HO737) hb); have n6_ := aM (Kd.N_below (aN HO740) hb); have n7_ := aM (kB gb713 #[.slice Ao11 t706.length co11, .slice Ao13 t709.length co13] 27 hb); have n8_ := aM (kB gb742 #[.slice Ao65 t735.length co65, .slice Ao68 t738.length co68] 27 hb); have n9_ := aM (below_step aG hb); clear HO_6; clear HO_714000; clear HO_714001; clear HO729; clear HO733; clear HO737; clear HO740; clear BK713; clear BK742; clear HB; have HO_6 := n0_; have HO_714000 := n1_; have HO_714001 := n2_; have HO729 := n3_; have HO733 := n4_; have HO737 := n5_; have HO740 := n6_; have BK713 := n7_; have BK742 := n8_; have HB := n9_; clear n0_ n1_ n2_ n3_ n4_ n5_ n6_ n7_ n8_ n9_; (try clear hb); (try clear hb2); (try clear hk); (try clear hi); obtain ⟨Ao73, co73, eo73⟩ := Kd.R_slice HO729.out; subst eo73; obtain ⟨Ao74, co74, eo74⟩ := Kd.R_slice HO733.out; subst eo74) | (go_at_call 12; (with_reducible refine (laws_sameInts.calls kj7 _ _ t727 _ _ t731 t745 _ ?side1 ?side2 ?side3 ?side4 A54.out).mono ?_); (case side1 => repeat (first | exact (Kd.R_reads' HO729.out).2.2 | (with_reducible refine pC ?_))); (case side2 => exact (Kd.R_reads' HO729.out).2.1); (case side3 => repeat (first | exact (Kd.R_reads' HO733.out).2.2 | (with_reducible refine pC ?_))); (case side4 => exact (Kd.R_reads' HO733.out).2.1); rintro e w' ⟨rfl, ⟨nd, rfl⟩⟩))
           go_ret
           exact ⟨aE, aG⟩
          ·rw [if_neg c53] at H
           have c53b0 : (t730 == (decide ((wrap64 (t712 + 1)) < t714))) = false := by simpa using c53
           (try (have c53b1 : decide (t730 = (decide ((wrap64 (t712 + 1)) < t714))) = false := by simpa using c53))
           (try (have c53b2 : (t730 == (decide ((wrap64 (t712 + 1)) < t714))) = false := by simpa using c53))
           (try (have c53b3 : ¬ (t730 = (decide ((wrap64 (t712 + 1)) < t714))) := by simpa using c53))
           clear c53
           exact absurd (Option.some.inj (H.trans (congrArg some HRT_.out))) (by decide)
         ·rw [if_neg c52] at H
          have c52b0 : (t725 == t712) = false := beq_eq_false_iff_ne.mpr c52
          have c52b1 : (t725 != t712) = true := bne_iff_ne.mpr c52
          exact absurd (Option.some.inj (H.trans (congrArg some HRT_.out))) (by decide)
        ·replace c51 := Bool.eq_false_iff.mpr c51
         subst c51
         have H1 : (some false) = some r := by rw [if_neg (show ¬ (false = true) by decide)] at H; exact H
         clear H
         have H := H1
         clear H1
         exact absurd (Option.some.inj (H.trans (congrArg some HRT_.out))) (by decide)
       ·replace c50 := Bool.eq_false_iff.mpr c50
        subst c50
        have H1 : (some false) = some r := by rw [if_neg (show ¬ (false = true) by decide)] at H; exact H
        clear H
        have H := H1
        clear H1
        exact absurd (Option.some.inj (H.trans (congrArg some HRT_.out))) (by decide)
      ·replace c48 := Bool.eq_false_iff.mpr c48
       subst c48
       have H1 : (some false) = some r := by rw [if_neg (show ¬ (false = true) by decide)] at H; exact H
       clear H
       have H := H1
       clear H1
       exact absurd (Option.some.inj (H.trans (congrArg some HRT_.out))) (by decide)
     ·replace c42 := Bool.eq_false_iff.mpr c42
      subst c42
      have H1 : (some ((t715.length : Int) == 0)) = some r := by rw [if_neg (show ¬ (false = true) by decide)] at H; exact H
      clear H
      have H := H1
      clear H1
      obtain rfl := Option.some.inj H
      obtain ⟨Ao75, co75, eo75⟩ := Kd.R_slice HO_6.out
      subst eo75
      go_wp2
      go_ret
      exact ⟨aE, aG⟩

/-- THE ONE PURE STATEMENT of laws_FnRepairEnumeration: yours. -/
def laws_FnRepairEnumeration.Pure : Prop := ∀ (l0 : List Int), l0.length ≤ maxLen → l0.length * 1 ≤ 140737488351232 → (∀ x ∈ l0, (Lit.int .u8 x).wf = true) → ∃ k, laws_FnRepairEnumeration.f k l0 = some true
theorem laws_FnRepairEnumeration.walk (P : laws_FnRepairEnumeration.Pure) (a0 : Option Addr) (len0 cap0 : Nat) (z0 : List Int) (w : World) (w0 : (a0 = none ∧ len0 = 0 ∧ cap0 = 0 ∧ z0 = []) ∨ ∃ x, a0 = some x ∧ len0 ≤ cap0 ∧ cap0 ≤ maxLen ∧ z0.length = cap0 ∧ (∀ i, i < z0.length → w.cell? (x.add i) = some (.int .u8 (z0.getD i 0))) ∧ ∀ n ∈ z0, (Lit.int .u8 n).wf = true) (y0 : len0 * 1 ≤ 140737488351232) :
  Calls Try.prog 6 #[.slice a0 len0 cap0] w fun e w' => e = .returned (.bool true) ∧ Below w.heap.size w w' := by
 obtain ⟨l0, rfl, hr0, hm0, hw0, hc0⟩ := ReadsInt.ofRowC w0
 obtain ⟨k, h⟩ := P l0 hm0 y0 hw0
 refine (laws_FnRepairEnumeration.calls k _ _ l0 true w (Kd.C_of_reads (d := (0 : Int)) (h1 := fun _ => rfl) hr0) hc0 h rfl).mono ?_
 rintro e w' ⟨rfl, hd⟩
 exact ⟨rfl, hd⟩

end Go.Proofs.Ytbdeimhlohhhiaa.PFnRepairEnumeration
