-- Laid by a program of this claim: what the functions come to, some of them proved by hand.
import Derived.Test.YtbdeimhlohhhiaaPFnExtendToRepairx0
import Derived.Test.YtbdeimhlohhhiaaPFnExtendToRepairx1
import Derived.Test.YtbdeimhlohhhiaaPFnExtendToRepairx2
import Derived.Test.YtbdeimhlohhhiaaPFnExtendToRepairx11
import Derived.Test.YtbdeimhlohhhiaaPFnExtendToRepairx16
import Derived.Test.YtbdeimhlohhhiaaPFnExtendToRepairx18
namespace Go.Proofs.Ytbdeimhlohhhiaa.PFnExtendToRepair
open Go.RowKit Go.Proofs.YtbdeimhlohhhiaaW.PrintWords Go.Proofs.YtbdeimhlohhhiaaW.PrintLast Go.Proofs.YtbdeimhlohhhiaaW.PrintMore
attribute [local go_sem] max2_int min2_int max_two min_two max_three min_three max_four min_four   -- for this text's walks alone
set_option linter.unusedVariables false
set_option linter.unusedSimpArgs false

/-! ### impl_ExtendToRepair: function 27 -/
mutual
def impl_ExtendToRepair.l0 : Nat → List Int → List Int → List (List Int) → Int → Int → Option (List Int × Bool)
 | 0, _, _, _, _, _ => none
 | k + 1, x1, x6, x18, x19, x20 => if x20 < x19 then (if 0 ≤ x20 then (if x20 < (x18.length : Int) then (if 0 < ((rd_L4 x18 x20).length : Int) then (impl_ExtendToRepair.l1 k x1 x6 (rd (rd_L4 x18 x20) 0) x18 x19 x20 (rd_L4 x18 x20) ((rd_L4 x18 x20).length : Int) 0) else (none)) else (none)) else (none)) else (some (x6, true))
def impl_ExtendToRepair.l1 : Nat → List Int → List Int → Int → List (List Int) → Int → Int → List Int → Int → Int → Option (List Int × Bool)
 | 0, _, _, _, _, _, _, _, _, _ => none
 | k + 1, x1, x6, x9, x18, x19, x20, x27, x28, x29 => if x29 < x28 then (if 0 ≤ x29 then (if x29 < (x27.length : Int) then ((slices_Contains_int_int.f k x1 (rd x27 x29)).bind fun t634 => (if t634 = true then (impl_ExtendToRepair.l1 k x1 x6 (rd x27 x29) x18 x19 x20 x27 x28 (wrap64 (x29 + 1))) else (impl_ExtendToRepair.l1 k x1 x6 x9 x18 x19 x20 x27 x28 (wrap64 (x29 + 1))))) else (none)) else (none)) else (if x6.length < 17592186044416 then (impl_ExtendToRepair.l0 k x1 (x6 ++ [x9]) x18 x19 (wrap64 (x20 + 1))) else (none))
end
def impl_ExtendToRepair.f (k : Nat) (l0_0 : List (S70)) (l0_1 : List (S35)) (l1 : List Int) : Option (List Int × Bool) := (impl_IsPartialRepair.f k l0_0 l0_1 l1).bind fun t624 => (if t624 = true then ((impl_blocks.f k l0_0 l0_1).bind fun t628 => (impl_ExtendToRepair.l0 k l1 (([] : List Int)) t628 (t628.length : Int) 0)) else (some (([] : List Int), false)))
set_option maxHeartbeats 8000000 in
set_option maxRecDepth 100000 in
theorem impl_ExtendToRepair.calls (k : Nat) (A0_0 : Option Addr) (c0_0 : Nat) (l0_0 : List (S70)) (A0_1 : Option Addr) (c0_1 : Nat) (l0_1 : List (S35)) (A1 : Option Addr) (c1 : Nat) (l1 : List Int) (r1 : List Int) (r2 : Bool) (w : World) (hr0_0 : Kd.C k70 w A0_0 l0_0.length l0_0) (hc0_0 : l0_0.length ≤ c0_0) (hr0_1 : Kd.C k35 w A0_1 l0_1.length l0_1) (hc0_1 : l0_1.length ≤ c0_1) (hr1 : Kd.C (Kd.int .i64) w A1 l1.length l1) (hc1 : l1.length ≤ c1) (h : impl_ExtendToRepair.f k l0_0 l0_1 l1 = some (r1, r2)) :
  Calls Try.prog 27 #[.agg #[.slice A0_0 l0_0.length c0_0, .slice A0_1 l0_1.length c0_1], .slice A1 l1.length c1] w fun e w' => ∃ v0_ : Value, e = .returned (.tuple #[v0_, .bool r2]) ∧ Kd.R (Kd.int .i64) 3 w' w.heap.size (fun _ => True) v0_ r1 ∧ Below w.heap.size w w' := by
 have hu27 := Try.underlying27
 have HR0_0 := aM hr0_0
 have HC0_0 := aM hc0_0
 clear hr0_0 hc0_0
 have HR0_1 := aM hr0_1
 have HC0_1 := aM hc0_1
 clear hr0_1 hc0_1
 have HR1 := aM hr1
 have HC1 := aM hc1
 clear hr1 hc1
 have HB := aM (Below.refl w.heap.size w)
 have H : ((impl_IsPartialRepair.f k l0_0 l0_1 l1).bind fun t624 => (if t624 = true then ((impl_blocks.f k l0_0 l0_1).bind fun t628 => (impl_ExtendToRepair.l0 k l1 (([] : List Int)) t628 (t628.length : Int) 0)) else (some (([] : List Int), false)))) = some (r1, r2) := h
 clear h
 replace H := bM H
 obtain ⟨t624, A30, H⟩ := H
 have A3 := aM A30
 clear A30
 by_cases c4 : t624 = true
 ·subst c4
  replace H := iT H
  obtain ⟨y625, hy625⟩ : ∃ y_ : List Int, y_ = (([] : List Int)) := ⟨_, rfl⟩
  first | replace H := bY hy625 H | rw [← hy625] at H
  have Ny625 := aM hy625
  clear hy625
  replace H := bM H
  obtain ⟨t628, A50, H⟩ := H
  have A5 := aM A50
  clear A50
  have H' := aM H
  clear H
  go_enter Try.func27, Try.ntmps27
  go_wp2_with (first | ((with_reducible refine gate_dst (N := 2) rfl ?_); refine bE 2 (cs := #[.slice A0_0 l0_0.length c0_0, .slice A0_1 l0_1.length c0_1]) (t := 27) ?_; intro gb623 hg w6 hbox hb; have BK623 := aM (hbox); have GW623 := aM ((by rw [hg]; exact (below_size aB) : w.heap.size ≤ gb623)); have GE623 := aM ((by rw [hg]; exact (below_size aB) : w.heap.size ≤ gb623)); replace HB := aM (below_step aB hb); clear hb hbox hg; have hcz7_0 : w6.cell? ⟨gb623, 0, none⟩ = some (.slice A0_0 l0_0.length c0_0) := (blk_cell BK623.out 0).trans rfl; have hcz7_1 : w6.cell? ⟨gb623, 1, none⟩ = some (.slice A0_1 l0_1.length c0_1) := (blk_cell BK623.out 1).trans rfl; have hfz7_0 := blk_frozen BK623.out 0; have hfz7_1 := blk_frozen BK623.out 1) | ((with_reducible refine gate_callee (f := 29) rfl ?_); refine goesL_ (some 14) rfl rfl Try.func29 (by kernel_rfl) rfl #[.agg #[.slice A0_0 l0_0.length c0_0, .slice A0_1 l0_1.length c0_1], .slice A1 l1.length c1] rfl aA ?_; (with_reducible refine (impl_IsPartialRepair.calls k _ _ l0_0 _ _ l0_1 _ _ l1 true _ ?side1 ?side2 ?side3 ?side4 ?side5 ?side6 A3.out).mono ?_); (case side1 => exact aC); (case side2 => exact HC0_0.out); (case side3 => exact aC); (case side4 => exact HC0_1.out); (case side5 => exact aC); (case side6 => exact HC1.out); rintro e w8 ⟨rfl, hb⟩; refine ⟨_, rfl, ?_⟩; replace BK623 := aM (blk_below (g := gb623) (o := .cells #[.slice A0_0 l0_0.length c0_0, .slice A0_1 l0_1.length c0_1] 27 (0, 0)) aK hb); replace HB := aM (below_step aG hb); (try clear hb); (try clear hb2); (try clear hk); (try clear hi)) | ((with_reducible refine gate_dst (N := 16) rfl ?_); refine Kd.R_lit (Kd.int .i64) _ 3 ?hg (N := 16) ?hd (xs := ([] : List Int)) (inner := []) (ok := fun _ => True) (okp := fun _ => True) ?hr ?hp (fun _ hk => hk) trivial (Below.refl _ _) (Nat.le_refl _) (by simp) ?_; (case hd => rfl); (case hg => rfl); (case hr => first | (go_simp; done) | (go_simp; rfl)); (case hp => exact (Reps.none _ _)); intro v626 w9 ho10 hb hg_ hnew_; clear hg_ hnew_; (first | rw [← Ny625.out] at ho10 | (simp only [Int.reduceToNat] at ho10; rw [← Ny625.out] at ho10)); have HO627 := aM (Kd.R_lower ho10 (below_size aG)); replace BK623 := aM (blk_below (g := gb623) (o := .cells #[.slice A0_0 l0_0.length c0_0, .slice A0_1 l0_1.length c0_1] 27 (0, 0)) aK hb); replace HB := aM (below_step aG hb); clear hb ho10; have hcz11_0 : w9.cell? ⟨gb623, 0, none⟩ = some (.slice A0_0 l0_0.length c0_0) := (blk_cell BK623.out 0).trans rfl; have hcz11_1 : w9.cell? ⟨gb623, 1, none⟩ = some (.slice A0_1 l0_1.length c0_1) := (blk_cell BK623.out 1).trans rfl; have hfz11_0 := blk_frozen BK623.out 0; have hfz11_1 := blk_frozen BK623.out 1) | ((with_reducible refine gate_callee (f := 44) rfl ?_); refine goesL_ (some 18) rfl rfl Try.func44 (by kernel_rfl) rfl #[.agg #[.slice A0_0 l0_0.length c0_0, .slice A0_1 l0_1.length c0_1]] rfl aA ?_; (with_reducible refine (impl_blocks.calls k _ _ l0_0 _ _ l0_1 t628 _ ?side1 ?side2 ?side3 ?side4 A5.out).mono ?_); (case side1 => exact aC); (case side2 => exact HC0_0.out); (case side3 => exact aC); (case side4 => exact HC0_1.out); rintro e w12 ⟨v629, rfl, ho0, hb⟩; refine ⟨_, rfl, ?_⟩; have HO630 := aM (Kd.S_lower (Kd.S_new' ho0 (Kd.R_lt (aR HO627))) (below_size aG)); replace HO627 := aM (Kd.R_below (aR HO627) hb); replace BK623 := aM (blk_below (g := gb623) (o := .cells #[.slice A0_0 l0_0.length c0_0, .slice A0_1 l0_1.length c0_1] 27 (0, 0)) aK hb); replace HB := aM (below_step aG hb); (try clear hb); (try clear hb2); (try clear hk); (try clear hi); (try clear ho0); obtain ⟨Ao13, co13, eo13⟩ := Kd.S_slice HO630.out; subst eo13))
  go_loopg [6, 20] k (fun kq v6 v20 w' => ∃ (x6_1 : List Int) (x20_1 : Int), v20 = .int .i64 x20_1 ∧ Aside0 (impl_ExtendToRepair.l0 kq l1 x6_1 t628 (t628.length : Int) x20_1 = some (r1, r2)) ∧ Aside0 (kq ≤ k) ∧ Aside0 (Kd.R (Kd.int .i64) 3 w' w.heap.size (fun _ => True) v6 x6_1) ∧ Aside0 (Kd.S (Kd.slice 3 (Kd.int .i64)) 32 w' w.heap.size (fun k_ => some k_ ≠ (v6 : Value).ownBlock) (.slice Ao13 t628.length co13) t628) ∧ Aside0 (w'.heap[gb623]? = some (.cells #[(.slice A0_0 l0_0.length c0_0), (.slice A0_1 l0_1.length c0_1)] 27 (0, 0))) ∧ Aside0 (Below w.heap.size w w'))
  case atStart => exact ⟨(y625), (0), aX, H', ⟨Nat.le_refl _⟩, ⟨aR HO627⟩, ⟨by (with_reducible repeat apply pS); exact Kd.S_mono HO630.out (fun _ hk => hk.2)⟩, ⟨aK⟩, ⟨aG⟩⟩
  case round =>
   clear H'
   try clear c1
   try clear c2
   try clear p2
   try clear c4
   try clear hcz11_0
   try clear hcz11_1
   try clear hcz7_0
   try clear hcz7_1
   try clear hfz11_0
   try clear hfz11_1
   try clear hfz7_0
   try clear hfz7_1
   obtain ⟨x6_1, x20_1, rfl, HA, HK1, HO_6, HO_18, BK623, HB⟩ := hrel
   cases gk with
   | zero => exact absurd HA.out (by simp [impl_ExtendToRepair.l0])
   | succ k1 =>
    have H := HA.out
    clear HA
    simp only [impl_ExtendToRepair.l0] at H
    by_cases c14 : x20_1 < (t628.length : Int)
    ·rw [if_pos c14] at H
     have c14b0 : decide (x20_1 < (t628.length : Int)) = true := decide_eq_true c14
     clear c14
     by_cases c15 : 0 ≤ x20_1
     ·rw [if_pos c15] at H
      have c15b0 : decide (0 ≤ x20_1) = true := decide_eq_true c15
      clear c15
      by_cases c16 : x20_1 < (t628.length : Int)
      ·rw [if_pos c16] at H
       have c16b0 : decide (x20_1 < (t628.length : Int)) = true := decide_eq_true c16
       clear c16
       by_cases c17 : 0 < ((rd_L4 t628 x20_1).length : Int)
       ·rw [if_pos c17] at H
        have c17b0 : decide (0 < ((rd_L4 t628 x20_1).length : Int)) = true := decide_eq_true c17
        have c17b1 : decide (0 < (rd_L4 t628 x20_1).length) = true := decide_eq_true (by omega)
        clear c17
        have H' := aM H
        clear H
        have p631 : 0 ≤ (x20_1 : Int) := aD
        have q631 : x20_1 < (t628.length : Int) := aD
        obtain ⟨ad631, A631_0, c631_0, e631, hx631_0, hl631_0, hi631_0⟩ := at_L4 (Kd.S_reads' HO_18.out).2.2 x20_1 p631 q631
        cases e631
        obtain ⟨ce631, hce631, hMe631, hcc631⟩ := Kd.S_get HO_18.out [] x20_1 p631 (by first | exact q631 | exact aD | (have e_ := (Kd.S_reads' HO_18.out).1; omega))
        obtain ⟨ve631_0, rfl, ge631_0⟩ := hMe631
        have hv631_0 := hcc631 0 _ rfl
        rw [Nat.add_zero, show ((Kd.slice 3 (Kd.int .i64))).sz = 1 from rfl, Nat.mul_one] at hv631_0
        replace hv631_0 := Option.some.inj (hv631_0.symm.trans hx631_0)
        rw [hv631_0] at ge631_0
        have HL631_0 := aM (show Kd.R (Kd.int .i64) 3 _ _ _ _ (rd_L4 t628 x20_1) from ge631_0)
        clear hv631_0 ge631_0
        clear hcc631 hce631
        have HR631_0 := aM hi631_0
        have HC631_0 := aM hl631_0
        clear hi631_0 hl631_0
        replace p631 := eq_true p631
        replace q631 := eq_true q631
        have p632 : 0 ≤ (0 : Int) := (by omega)
        have q632 : 0 < ((rd_L4 t628 x20_1).length : Int) := aD
        obtain ⟨ad632, e632, hx632_0⟩ := Kd.at_int (by repeat (first | (with_reducible exact HR631_0.out) | (with_reducible refine Kd.C_alloc ?_ _) | (with_reducible refine Kd.C_drewN ?_ _) | (with_reducible refine Kd.C_drew ?_) | exact HR631_0.out)) 0 p632 q632
        cases e632
        have qi632 : (0 < (rd_L4 t628 x20_1).length) = True := eq_true (by omega)
        (try rw [show ((0 : Int)).toNat = 0 from rfl] at hx632_0)
        (try rw [Addr.add_zero'] at hx632_0)
        replace p632 := eq_true p632
        replace q632 := eq_true q632
        go_wp2
        go_loopg [9, 29] k1 (fun kq v9 v29 w' => ∃ (x9_2 : Int) (x29_2 : Int), v9 = .int .i64 x9_2 ∧ v29 = .int .i64 x29_2 ∧ Aside0 (impl_ExtendToRepair.l1 kq l1 x6_1 x9_2 t628 (t628.length : Int) x20_1 (rd_L4 t628 x20_1) ((rd_L4 t628 x20_1).length : Int) x29_2 = some (r1, r2)) ∧ Aside0 (kq ≤ k1) ∧ Aside0 (Kd.R (Kd.int .i64) 3 w' w.heap.size (fun _ => True) u6 x6_1) ∧ Aside0 (Kd.S (Kd.slice 3 (Kd.int .i64)) 32 w' w.heap.size (fun k_ => some k_ ≠ (u6 : Value).ownBlock) (.slice (some ad631) t628.length co13) t628) ∧ Aside0 (w'.heap[gb623]? = some (.cells #[(.slice A0_0 l0_0.length c0_0), (.slice A0_1 l0_1.length c0_1)] 27 (0, 0))) ∧ Aside0 (Kd.C (Kd.int .i64) w' (some ad632) (rd_L4 t628 x20_1).length (rd_L4 t628 x20_1)) ∧ Aside0 (Below w.heap.size w w'))
        case atStart => exact ⟨(rd (rd_L4 t628 x20_1) 0), (0), aX, aX, H', ⟨Nat.le_refl _⟩, ⟨aR HO_6⟩, ⟨aS HO_18⟩, ⟨aK⟩, ⟨by repeat (first | (with_reducible exact HR631_0.out) | (with_reducible refine Kd.C_alloc ?_ _) | (with_reducible refine Kd.C_drewN ?_ _) | (with_reducible refine Kd.C_drew ?_) | exact HR631_0.out)⟩, ⟨aG⟩⟩
        case round =>
         clear H'
         try clear c1
         try clear c2
         try clear p2
         try clear c4
         try clear c6
         try clear p6
         try clear q6
         try clear hx6
         try clear qi6
         try clear c14
         try clear c14b0
         try clear c15
         try clear c15b0
         try clear c16
         try clear c16b0
         try clear c17
         try clear c17b0
         try clear c17b1
         try clear hcz11_0
         try clear hcz11_1
         try clear hcz7_0
         try clear hcz7_1
         try clear hfz11_0
         try clear hfz11_1
         try clear hfz7_0
         try clear hfz7_1
         try clear hx631_0
         try clear hx632_0
         try clear p2
         try clear p631
         try clear p632
         try clear q631
         try clear q632
         obtain ⟨x9_2, x29_2, rfl, rfl, HA, HK2, HO_6, HO_18, BK623, HR631_0, HB⟩ := hrel
         cases gk with
         | zero => exact absurd HA.out (by simp [impl_ExtendToRepair.l1])
         | succ k2 =>
          have H := HA.out
          clear HA
          simp only [impl_ExtendToRepair.l1] at H
          by_cases c18 : x29_2 < ((rd_L4 t628 x20_1).length : Int)
          ·rw [if_pos c18] at H
           have c18b0 : decide (x29_2 < ((rd_L4 t628 x20_1).length : Int)) = true := decide_eq_true c18
           clear c18
           by_cases c19 : 0 ≤ x29_2
           ·rw [if_pos c19] at H
            have c19b0 : decide (0 ≤ x29_2) = true := decide_eq_true c19
            clear c19
            by_cases c20 : x29_2 < ((rd_L4 t628 x20_1).length : Int)
            ·rw [if_pos c20] at H
             have c20b0 : decide (x29_2 < ((rd_L4 t628 x20_1).length : Int)) = true := decide_eq_true c20
             clear c20
             replace H := bM H
             obtain ⟨t634, A210, H⟩ := H
             have A21 := aM A210
             clear A210
             by_cases c22 : t634 = true
             ·subst c22
              replace H := iT H
              have H' := aM H
              clear H
              have p633 : 0 ≤ (x29_2 : Int) := aD
              have q633 : x29_2 < ((rd_L4 t628 x20_1).length : Int) := aD
              obtain ⟨ad633, e633, hx633_0⟩ := Kd.at_int HR631_0.out x29_2 p633 q633
              obtain rfl : ad632 = ad633 := (by injection e633)
              try replace hx633_0 := (HB.out.cell (World.block_lt_of_cell? w _ hx633_0)).trans hx633_0
              replace p633 := eq_true p633
              replace q633 := eq_true q633
              go_wp2_with (first | ((with_reducible refine gate_callee (f := 50) rfl ?_); refine goesL_ (some 35) rfl rfl Try.func50 (by kernel_rfl) rfl #[.slice A1 l1.length c1, .int .i64 (rd (rd_L4 t628 x20_1) x29_2)] rfl aA ?_; (with_reducible refine (slices_Contains_int_int.calls k2 _ _ l1 (rd (rd_L4 t628 x20_1) x29_2) true _ ?side1 ?side2 A21.out).mono ?_); (case side1 => exact aC); (case side2 => exact HC1.out); rintro e w' ⟨rfl, ⟨nd, rfl⟩⟩; refine ⟨_, rfl, ?_⟩))
              go_roundg k2
              case measure => have := HK1.out; have := HK2.out; omega
              case rel => exact ⟨(rd (rd_L4 t628 x20_1) x29_2), (wrap64 (x29_2 + 1)), aX, aX, H', ⟨by have := HK1.out; have := HK2.out; omega⟩, ⟨aR HO_6⟩, ⟨aS HO_18⟩, ⟨aK⟩, ⟨by repeat (first | (with_reducible exact HR631_0.out) | (with_reducible refine Kd.C_alloc ?_ _) | (with_reducible refine Kd.C_drewN ?_ _) | (with_reducible refine Kd.C_drew ?_) | exact HR631_0.out)⟩, ⟨aG⟩⟩
             ·replace c22 := Bool.eq_false_iff.mpr c22
              subst c22
              have H1 : (impl_ExtendToRepair.l1 k2 l1 x6_1 x9_2 t628 (t628.length : Int) x20_1 (rd_L4 t628 x20_1) ((rd_L4 t628 x20_1).length : Int) (wrap64 (x29_2 + 1))) = some (r1, r2) := by rw [if_neg (show ¬ (false = true) by decide)] at H; exact H
              clear H
              have H := H1
              clear H1
              have H' := aM H
              clear H
              have p633 : 0 ≤ (x29_2 : Int) := aD
              have q633 : x29_2 < ((rd_L4 t628 x20_1).length : Int) := aD
              obtain ⟨ad633, e633, hx633_0⟩ := Kd.at_int HR631_0.out x29_2 p633 q633
              obtain rfl : ad632 = ad633 := (by injection e633)
              try replace hx633_0 := (HB.out.cell (World.block_lt_of_cell? w _ hx633_0)).trans hx633_0
              replace p633 := eq_true p633
              replace q633 := eq_true q633
              go_wp2_with (first | ((with_reducible refine gate_callee (f := 50) rfl ?_); refine goesL_ (some 35) rfl rfl Try.func50 (by kernel_rfl) rfl #[.slice A1 l1.length c1, .int .i64 (rd (rd_L4 t628 x20_1) x29_2)] rfl aA ?_; (with_reducible refine (slices_Contains_int_int.calls k2 _ _ l1 (rd (rd_L4 t628 x20_1) x29_2) false _ ?side1 ?side2 A21.out).mono ?_); (case side1 => exact aC); (case side2 => exact HC1.out); rintro e w' ⟨rfl, ⟨nd, rfl⟩⟩; refine ⟨_, rfl, ?_⟩))
              go_roundg k2
              case measure => have := HK1.out; have := HK2.out; omega
              case rel => exact ⟨(x9_2), (wrap64 (x29_2 + 1)), aX, aX, H', ⟨by have := HK1.out; have := HK2.out; omega⟩, ⟨aR HO_6⟩, ⟨aS HO_18⟩, ⟨aK⟩, ⟨by repeat (first | (with_reducible exact HR631_0.out) | (with_reducible refine Kd.C_alloc ?_ _) | (with_reducible refine Kd.C_drewN ?_ _) | (with_reducible refine Kd.C_drew ?_) | exact HR631_0.out)⟩, ⟨aG⟩⟩
            ·rw [if_neg c20] at H
             exact absurd H (by simp)
           ·rw [if_neg c19] at H
            exact absurd H (by simp)
          ·rw [if_neg c18] at H
           have c18b0 : decide (x29_2 < ((rd_L4 t628 x20_1).length : Int)) = false := decide_eq_false c18
           clear c18
           by_cases c23 : x6_1.length < 17592186044416
           ·rw [if_pos c23] at H
            have LMc23 := aM c23
            clear c23
            obtain ⟨y635, hy635⟩ : ∃ y_ : List Int, y_ = (x6_1 ++ [x9_2]) := ⟨_, rfl⟩
            first | replace H := bY hy635 H | rw [← hy635] at H
            have Ny635 := aM hy635
            clear hy635
            have H' := aM H
            clear H
            go_wp2_with (first | ((with_reducible refine gate_builtin (b := .append) (xs := #[.tmp 38, .tmp 40]) rfl ?_); at_builtin; refine Kd.R_append (Kd.int .i64) (w0 := w) w.heap.size rfl (.tmp 38) (.tmp 40) 32 3 (.int .i64 0) 8 rfl Try.underlying32 info3 rfl (by decide) (by omega) u6 x6_1 x9_2 [.int .i64 x9_2] (fun _ => True) (fun _ => False) rfl rfl ?aP (fun _ hk => hk.elim) ?aF ?aO ?aB ?aS ?aL ?_; (case aP => exact rfl); (case aB => exact aG); (case aF => exact (fun _ _ => trivial)); (case aO => exact (aR HO_6)); (case aS => exact (below_size aG)); (case aL => have := LMc23.out; omega); intro v636 w24 ho hb hg hat; rw [← Ny635.out] at ho; have HO637 := aM (ho); replace HO_18 := aM (Kd.S_after (ok := (fun _ => True)) (by (with_reducible repeat apply pS); exact Kd.S_mono HO_18.out (fun _ hk => ⟨trivial, hk⟩)) hg hat); replace BK623 := aM (blk_grown (g := gb623) (o := .cells #[.slice A0_0 l0_0.length c0_0, .slice A0_1 l0_1.length c0_1] 27 (0, 0)) aK hg (Kd.R_ne HO_6.out BK623.out (by decide))); replace HB := aM (hb); clear HO_6; clear ho hb hg hat))
            go_roundg k2
            case measure => have := HK1.out; have := HK2.out; omega
            case rel => exact ⟨(y635), (wrap64 (x20_1 + 1)), aX, H', ⟨by have := HK1.out; have := HK2.out; omega⟩, ⟨aR HO637⟩, ⟨by (with_reducible repeat apply pS); exact Kd.S_mono HO_18.out (fun _ hk => hk.2)⟩, ⟨aK⟩, ⟨aG⟩⟩
           ·rw [if_neg c23] at H
            exact absurd H (by simp)
       ·rw [if_neg c17] at H
        exact absurd H (by simp)
      ·rw [if_neg c16] at H
       exact absurd H (by simp)
     ·rw [if_neg c15] at H
      exact absurd H (by simp)
    ·rw [if_neg c14] at H
     have c14b0 : decide (x20_1 < (t628.length : Int)) = false := decide_eq_false c14
     clear c14
     simp only [Option.some.injEq, Prod.mk.injEq] at H
     obtain ⟨rfl, rfl⟩ := H
     go_wp2
     go_ret2
     exact ⟨_, aE, aR HO_6, aG⟩
 ·replace c4 := Bool.eq_false_iff.mpr c4
  subst c4
  have H1 : (some (([] : List Int), false)) = some (r1, r2) := by rw [if_neg (show ¬ (false = true) by decide)] at H; exact H
  clear H
  have H := H1
  clear H1
  simp only [Option.some.injEq, Prod.mk.injEq] at H
  obtain ⟨rfl, rfl⟩ := H
  go_enter Try.func27, Try.ntmps27
  go_wp2_with (first | ((with_reducible refine gate_dst (N := 2) rfl ?_); refine bE 2 (cs := #[.slice A0_0 l0_0.length c0_0, .slice A0_1 l0_1.length c0_1]) (t := 27) ?_; intro gb623 hg w25 hbox hb; have BK623 := aM (hbox); have GW623 := aM ((by rw [hg]; exact (below_size aB) : w.heap.size ≤ gb623)); have GE623 := aM ((by rw [hg]; exact (below_size aB) : w.heap.size ≤ gb623)); replace HB := aM (below_step aB hb); clear hb hbox hg; have hcz26_0 : w25.cell? ⟨gb623, 0, none⟩ = some (.slice A0_0 l0_0.length c0_0) := (blk_cell BK623.out 0).trans rfl; have hcz26_1 : w25.cell? ⟨gb623, 1, none⟩ = some (.slice A0_1 l0_1.length c0_1) := (blk_cell BK623.out 1).trans rfl; have hfz26_0 := blk_frozen BK623.out 0; have hfz26_1 := blk_frozen BK623.out 1) | ((with_reducible refine gate_callee (f := 29) rfl ?_); refine goesL_ (some 14) rfl rfl Try.func29 (by kernel_rfl) rfl #[.agg #[.slice A0_0 l0_0.length c0_0, .slice A0_1 l0_1.length c0_1], .slice A1 l1.length c1] rfl aA ?_; (with_reducible refine (impl_IsPartialRepair.calls k _ _ l0_0 _ _ l0_1 _ _ l1 false _ ?side1 ?side2 ?side3 ?side4 ?side5 ?side6 A3.out).mono ?_); (case side1 => exact aC); (case side2 => exact HC0_0.out); (case side3 => exact aC); (case side4 => exact HC0_1.out); (case side5 => exact aC); (case side6 => exact HC1.out); rintro e w27 ⟨rfl, hb⟩; refine ⟨_, rfl, ?_⟩; replace BK623 := aM (blk_below (g := gb623) (o := .cells #[.slice A0_0 l0_0.length c0_0, .slice A0_1 l0_1.length c0_1] 27 (0, 0)) aK hb); replace HB := aM (below_step aG hb); (try clear hb); (try clear hb2); (try clear hk); (try clear hi)))
  go_ret2
  exact ⟨_, aE, by first | exact Kd.R_nil _ _ _ _ _ | exact Kd.N_nil _ _ _ _ _ | exact Kd.V_nil _ _ _ _ _ | exact Kd.Q_nil _ _ _ _ _ | exact Kd.S_nil _ _ _ _ _, aG⟩

/-! ### spec_IsConsistent: function 41 -/
def spec_IsConsistent.f (k : Nat) (l0_0 : List (S70)) (l0_1 : List (S35)) : Option (Bool) := (spec_IsValidDatabase.f k l0_0 l0_1).bind fun t639 => (if t639 = true then ((spec_Blocks.f k l0_0 l0_1).bind fun t640 => (some ((t640.length : Int) == (l0_1.length : Int)))) else (some false))
set_option maxHeartbeats 8000000 in
set_option maxRecDepth 100000 in
theorem spec_IsConsistent.calls (k : Nat) (A0_0 : Option Addr) (c0_0 : Nat) (l0_0 : List (S70)) (A0_1 : Option Addr) (c0_1 : Nat) (l0_1 : List (S35)) (r : Bool) (w : World) (hr0_0 : Kd.C k70 w A0_0 l0_0.length l0_0) (hc0_0 : l0_0.length ≤ c0_0) (hr0_1 : Kd.C k35 w A0_1 l0_1.length l0_1) (hc0_1 : l0_1.length ≤ c0_1) (h : spec_IsConsistent.f k l0_0 l0_1 = some r) :
  Calls Try.prog 41 #[.agg #[.slice A0_0 l0_0.length c0_0, .slice A0_1 l0_1.length c0_1]] w fun e w' => e = .returned (.bool r) ∧ Below w.heap.size w w' := by
 have hu27 := Try.underlying27
 obtain ⟨W, hW⟩ : ∃ W, w.alloc (.cells #[.slice A0_0 l0_0.length c0_0, .slice A0_1 l0_1.length c0_1] 27) = W := ⟨_, rfl⟩
 have q0 := qa (w := W) (p := ⟨w.heap.size, 0, none⟩) (v := .slice A0_0 l0_0.length c0_0) (by subst hW; go_simp)
 have q1 := qa (w := W) (p := ⟨w.heap.size, 1, none⟩) (v := .slice A0_1 l0_1.length c0_1) (by subst hW; go_simp)
 have HB : Below w.heap.size w W := by subst hW; exact zB
 have HW := Below.refl W.heap.size W
 have hb := aM HB
 have rg_ := @bcl w
 have rd_ := @bdr w
 have rG_ := @bcl W
 have rD_ := @bdr W
 unfold spec_IsConsistent.f at h
 replace h := bs h; obtain ⟨t639, B0, h⟩ := h
 replace h := ib h; rcases h with ⟨rfl, h⟩ | ⟨rfl, h⟩
 replace h := bs h; obtain ⟨t640, B2, h⟩ := h
 obtain rfl := si h
 rotate_left
 obtain rfl := si h
 rotate_left
 all_goals (go_enter Try.func41, Try.ntmps41; go_wp2; (repeat ((refine nw (w0 := w) zB ?_; intro W1 HB hb hd; have HW : Below W.heap.size W W1 := zB; (first | (refine Txt.rg (id := 1) [0, 1, 2, 3, 6, 7, 8, 4, 5, 9, 10, 11] (by kernel_rfl) (by kernel_rfl) ?_; simp only [List.map_cons, List.map_nil, List.getD_cons_zero, List.getD_cons_succ])); (repeat (first | (refine Txt.off rfl ?_; simp only [Act.put, List.setIfInBounds_toArray, List.set_cons_zero, List.set_cons_succ]) | (refine Txt.take rfl rfl ?_; intro K hK; go_big_quiet_op; go_big_quiet_on) | (refine Txt.call rfl rfl Try.func10 (by kernel_rfl) rfl (spec_IsValidDatabase.calls ?_ _ _ _ _ _ _ ?_ _ ?_ ?_ ?_ ?_ ?h) rfl ?_; (case h => exact zA); (iterate 4 (first | exact zC | exact zA)); rintro e w1 ⟨rfl, hb⟩; replace hb := aM hb; have HW : Below W.heap.size W w1 := zB; have HB : Below w.heap.size w w1 := zB; refine ⟨_, rfl, zS, ?_⟩; simp only [Act.put, List.setIfInBounds_toArray, List.set_cons_zero, List.set_cons_succ]) | (refine Txt.call rfl rfl Try.func65 (by kernel_rfl) rfl (spec_Blocks.calls ?_ _ _ _ _ _ _ ?_ _ ?_ ?_ ?_ ?_ ?h) rfl ?_; (case h => exact zA); (iterate 4 (first | exact zC | exact zA)); rintro e w1 ⟨v0, rfl, ho0, hb⟩; obtain ⟨A0, c0, rfl, hc0, hC0⟩ := Kd.R_reads (Kd.S_R ho0); replace hb := aM hb; have HW : Below W.heap.size W w1 := zB; have HB : Below w.heap.size w w1 := zB; refine ⟨_, rfl, zS, ?_⟩; simp only [Act.put, List.setIfInBounds_toArray, List.set_cons_zero, List.set_cons_succ]))); refine Txt.nil ?_); (try go_wp2))); go_ret; exact zE zB)

/-! ### spec_l4Set: function 90 -/
def spec_l4Set.l0 : Nat → List Int → Int → List (S70) → List (S35) → Option (Bool)
 | 0, _, _, _, _ => none
 | k + 1, x1, x5, x644000, x644001 => if x5 < (x1.length : Int) then (if 0 ≤ x5 then ((spec_l1In.f (rd x1 x5) 0 (wrap64 ((x644001.length : Int) - 1))).bind fun t645 => (if t645 = true then (if x5 > 0 then (if 0 ≤ (wrap64 (x5 - 1)) then (if (wrap64 (x5 - 1)) < (x1.length : Int) then (if (rd x1 x5) ≤ (rd x1 (wrap64 (x5 - 1))) then (some false) else (spec_l4Set.l0 k x1 (wrap64 (x5 + 1)) x644000 x644001)) else (none)) else (none)) else (spec_l4Set.l0 k x1 (wrap64 (x5 + 1)) x644000 x644001)) else (some false))) else (none)) else (some true)
def spec_l4Set.f (k : Nat) (l0_0 : List (S70)) (l0_1 : List (S35)) (l1 : List Int) : Option (Bool) := spec_l4Set.l0 k l1 0 l0_0 l0_1
set_option maxHeartbeats 8000000 in
set_option maxRecDepth 100000 in
theorem spec_l4Set.calls (k : Nat) (A0_0 : Option Addr) (c0_0 : Nat) (l0_0 : List (S70)) (A0_1 : Option Addr) (c0_1 : Nat) (l0_1 : List (S35)) (A1 : Option Addr) (c1 : Nat) (l1 : List Int) (r : Bool) (w : World) (hr0_0 : Kd.C k70 w A0_0 l0_0.length l0_0) (hc0_0 : l0_0.length ≤ c0_0) (hr0_1 : Kd.C k35 w A0_1 l0_1.length l0_1) (hc0_1 : l0_1.length ≤ c0_1) (hr1 : Kd.C (Kd.int .i64) w A1 l1.length l1) (hc1 : l1.length ≤ c1) (h : spec_l4Set.f k l0_0 l0_1 l1 = some r) :
  Calls Try.prog 90 #[.agg #[.slice A0_0 l0_0.length c0_0, .slice A0_1 l0_1.length c0_1], .slice A1 l1.length c1] w fun e w' => e = .returned (.bool r) ∧ Below w.heap.size w w' := by
 have hu27 := Try.underlying27
 obtain ⟨W, hW⟩ : ∃ W, w.alloc (.cells #[.slice A0_0 l0_0.length c0_0, .slice A0_1 l0_1.length c0_1] 27) = W := ⟨_, rfl⟩
 have q0 := qa (w := W) (p := ⟨w.heap.size, 0, none⟩) (v := .slice A0_0 l0_0.length c0_0) (by subst hW; go_simp)
 have q1 := qa (w := W) (p := ⟨w.heap.size, 1, none⟩) (v := .slice A0_1 l0_1.length c0_1) (by subst hW; go_simp)
 have HB : Below w.heap.size w W := by subst hW; exact zB
 have HW := Below.refl W.heap.size W
 have hb := aM HB
 have rg_ := @bcl w
 have rd_ := @bdr w
 have rG_ := @bcl W
 have rD_ := @bdr W
 unfold spec_l4Set.f at h
 ·go_enter Try.func90, Try.ntmps90
  go_wp2
  (repeat ((refine nw (w0 := w) zB ?_; intro W1 HB hb hd; have HW : Below W.heap.size W W1 := zB; (first | (refine Txt.rg (id := 4) [0, 1, 2, 3, 4, 5, 6, 7, 8, 9, 10, 11, 12, 13, 14, 15, 16, 17, 18, 19, 20, 21, 22, 23, 24, 25] (by kernel_rfl) (by kernel_rfl) ?_; simp only [List.map_cons, List.map_nil, List.getD_cons_zero, List.getD_cons_succ])); (repeat (first | (refine Txt.off rfl ?_; simp only [Act.put, List.setIfInBounds_toArray, List.set_cons_zero, List.set_cons_succ]) | (refine Txt.take rfl rfl ?_; intro K hK; go_big_quiet_op; go_big_quiet_on) | (refine Txt.call rfl rfl Try.func70 (by kernel_rfl) rfl (spec_l1In.calls _ _ _ ?_ _ ?h) rfl ?_; (case h => exact zA); rintro e w1 ⟨rfl, hb⟩; replace hb := hb.below; replace hb := aM hb; have HW : Below W.heap.size W w1 := zB; have HB : Below w.heap.size w w1 := zB; refine ⟨_, rfl, zS, ?_⟩; simp only [Act.put, List.setIfInBounds_toArray, List.set_cons_zero, List.set_cons_succ]))); refine Txt.nil ?_); (try go_wp2)))
  go_loopg [5] k (fun kq v5 w' => ∃ (x5_0 : Int), v5 = .int .i64 x5_0 ∧ spec_l4Set.l0 kq l1 x5_0 l0_0 l0_1 = some r ∧ Below W.heap.size W w')
  case atStart => exact ⟨_, zR, zA, zB⟩
  case round =>
   clear h
   obtain ⟨x5_0, rfl, h, hb⟩ := hrel
   replace hb := aM hb
   have HW : Below W.heap.size W wr := zB
   have HB : Below w.heap.size w wr := zB
   rcases gk with _ | kk0
   exact absurd h (by simp [spec_l4Set.l0])
   simp only [spec_l4Set.l0] at h
   replace h := il h; rcases h with ⟨c1, c1a, h⟩ | ⟨c1, c1a, h⟩
   replace h := ie h; rcases h with ⟨c2, c2a, h⟩ | ⟨c2, c2a, h⟩
   replace h := bs h; obtain ⟨t645, B3, h⟩ := h
   replace h := ib h; rcases h with ⟨rfl, h⟩ | ⟨rfl, h⟩
   replace h := ig h; rcases h with ⟨c5, c5a, h⟩ | ⟨c5, c5a, h⟩
   replace h := ie h; rcases h with ⟨c6, c6a, h⟩ | ⟨c6, c6a, h⟩
   replace h := il h; rcases h with ⟨c7, c7a, h⟩ | ⟨c7, c7a, h⟩
   replace h := ie h; rcases h with ⟨c8, c8a, h⟩ | ⟨c8, c8a, h⟩
   obtain rfl := si h
   obtain ⟨ad644, e644, hx644_0⟩ := Kd.at_int hr1 (x5_0 : Int) aD aD
   have p644 := eq_true (aD : 0 ≤ (x5_0 : Int))
   have q644 := eq_true (aD : x5_0 < (l1.length : Int))
   cases e644
   replace hx644_0 := qa hx644_0
   obtain ⟨ad646, e646, hx646_0⟩ := Kd.at_int hr1 (x5_0 : Int) aD aD
   have p646 := eq_true (aD : 0 ≤ (x5_0 : Int))
   have q646 := eq_true (aD : x5_0 < (l1.length : Int))
   cases e646
   replace hx646_0 := qa hx646_0
   obtain ⟨ad647, e647, hx647_0⟩ := Kd.at_int hr1 ((wrap64 (x5_0 - 1)) : Int) aD aD
   have p647 := eq_true (aD : 0 ≤ ((wrap64 (x5_0 - 1)) : Int))
   have q647 := eq_true (aD : (wrap64 (x5_0 - 1)) < (l1.length : Int))
   cases e647
   replace hx647_0 := qa hx647_0
   rotate_left
   obtain ⟨kf, hkf⟩ : ∃ kf, kf = kk0 := ⟨_, rfl⟩; rw [← hkf] at h
   obtain ⟨ad644, e644, hx644_0⟩ := Kd.at_int hr1 (x5_0 : Int) aD aD
   have p644 := eq_true (aD : 0 ≤ (x5_0 : Int))
   have q644 := eq_true (aD : x5_0 < (l1.length : Int))
   cases e644
   replace hx644_0 := qa hx644_0
   obtain ⟨ad646, e646, hx646_0⟩ := Kd.at_int hr1 (x5_0 : Int) aD aD
   have p646 := eq_true (aD : 0 ≤ (x5_0 : Int))
   have q646 := eq_true (aD : x5_0 < (l1.length : Int))
   cases e646
   replace hx646_0 := qa hx646_0
   obtain ⟨ad647, e647, hx647_0⟩ := Kd.at_int hr1 ((wrap64 (x5_0 - 1)) : Int) aD aD
   have p647 := eq_true (aD : 0 ≤ ((wrap64 (x5_0 - 1)) : Int))
   have q647 := eq_true (aD : (wrap64 (x5_0 - 1)) < (l1.length : Int))
   cases e647
   replace hx647_0 := qa hx647_0
   rotate_left
   exact absurd h (by simp)
   exact absurd h (by simp)
   obtain ⟨kf, hkf⟩ : ∃ kf, kf = kk0 := ⟨_, rfl⟩; rw [← hkf] at h
   obtain ⟨ad644, e644, hx644_0⟩ := Kd.at_int hr1 (x5_0 : Int) aD aD
   have p644 := eq_true (aD : 0 ≤ (x5_0 : Int))
   have q644 := eq_true (aD : x5_0 < (l1.length : Int))
   cases e644
   replace hx644_0 := qa hx644_0
   rotate_left
   obtain rfl := si h
   obtain ⟨ad644, e644, hx644_0⟩ := Kd.at_int hr1 (x5_0 : Int) aD aD
   have p644 := eq_true (aD : 0 ≤ (x5_0 : Int))
   have q644 := eq_true (aD : x5_0 < (l1.length : Int))
   cases e644
   replace hx644_0 := qa hx644_0
   rotate_left
   exact absurd h (by simp)
   obtain rfl := si h
   rotate_left
   all_goals (go_wp2; (repeat ((refine nw (w0 := w) zB ?_; intro W1 HB hb hd; have HW : Below W.heap.size W W1 := zB; (first | (refine Txt.rg (id := 4) [0, 1, 2, 3, 4, 5, 6, 7, 8, 9, 10, 11, 12, 13, 14, 15, 16, 17, 18, 19, 20, 21, 22, 23, 24, 25] (by kernel_rfl) (by kernel_rfl) ?_; simp only [List.map_cons, List.map_nil, List.getD_cons_zero, List.getD_cons_succ])); (repeat (first | (refine Txt.off rfl ?_; simp only [Act.put, List.setIfInBounds_toArray, List.set_cons_zero, List.set_cons_succ]) | (refine Txt.take rfl rfl ?_; intro K hK; go_big_quiet_op; go_big_quiet_on) | (refine Txt.call rfl rfl Try.func70 (by kernel_rfl) rfl (spec_l1In.calls _ _ _ ?_ _ ?h) rfl ?_; (case h => exact zA); rintro e w1 ⟨rfl, hb⟩; replace hb := hb.below; replace hb := aM hb; have HW : Below W.heap.size W w1 := zB; have HB : Below w.heap.size w w1 := zB; refine ⟨_, rfl, zS, ?_⟩; simp only [Act.put, List.setIfInBounds_toArray, List.set_cons_zero, List.set_cons_succ]))); refine Txt.nil ?_); (try go_wp2))); first | (go_ret; exact zE zB) | (go_roundg kf; (case measure => omega); (case rel => exact ⟨_, zR, zA, zB⟩)))

end Go.Proofs.Ytbdeimhlohhhiaa.PFnExtendToRepair
