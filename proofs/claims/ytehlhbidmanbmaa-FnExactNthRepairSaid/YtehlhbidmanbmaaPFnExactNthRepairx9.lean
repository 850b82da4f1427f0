-- Laid by a program of this claim: what the functions come to, some of them proved by hand.
import Derived.Test.YtehlhbidmanbmaaPFnExactNthRepairx0
import Derived.Test.YtehlhbidmanbmaaPFnExactNthRepairx3
import Derived.Test.YtehlhbidmanbmaaPFnExactNthRepairx6
import Derived.Test.YtehlhbidmanbmaaPFnExactNthRepairx7
import Derived.Test.YtehlhbidmanbmaaPFnExactNthRepairx8
namespace Go.Proofs.Ytehlhbidmanbmaa.PFnExactNthRepair
open Go.RowKit Go.Proofs.YtehlhbidmanbmaaW.PrintWords Go.Proofs.YtehlhbidmanbmaaW.PrintLast Go.Proofs.YtehlhbidmanbmaaW.PrintMore
attribute [local go_sem] max2_int min2_int max_two min_two max_three min_three max_four min_four   -- for this text's walks alone
set_option linter.unusedVariables false
set_option linter.unusedSimpArgs false

/-! ### spec_NthRepair: function 44 -/
def spec_NthRepair.l0 : Nat → Int → List (List Int) → List Int → Int → Option (List Int × Bool)
 | 0, _, _, _, _ => none
 | k + 1, x1, x6, x7, x8 => if x8 ≥ 0 then (if 0 ≤ x8 then (if x8 < (x6.length : Int) then (if ((rd_L3 x6 x8).length : Int) = 0 then (none) else (if 0 ≤ (Int.tmod x1 ((rd_L3 x6 x8).length : Int)) then (if (Int.tmod x1 ((rd_L3 x6 x8).length : Int)) < ((rd_L3 x6 x8).length : Int) then (if x7.length < 17592186044416 then (spec_NthRepair.l0 k (wrap64 (Int.tdiv x1 ((rd_L3 x6 x8).length : Int))) x6 (x7 ++ [rd (rd_L3 x6 x8) (Int.tmod x1 ((rd_L3 x6 x8).length : Int))]) (wrap64 (x8 - 1))) else (none)) else (none)) else (none))) else (none)) else (none)) else ((spec_l7Sorted.f k x7).bind fun t344 => (some (t344, true)))
def spec_NthRepair.f (k : Nat) (l0_0 : List (S86)) (l0_1 : List (S50)) (a1 : Int) : Option (List Int × Bool) := (spec_CountRepairs.f k l0_0 l0_1).bind fun t326 => ((spec_l1In.f a1 0 (wrap64 (t326 - 1))).bind fun t327 => (if t327 = true then ((spec_Blocks.f k l0_0 l0_1).bind fun t331 => (spec_NthRepair.l0 k a1 t331 (([] : List Int)) (wrap64 ((t331.length : Int) - 1)))) else (some ((([] : List Int)), false))))
def spec_NthRepair.T8 : Bool × List (List Nat × List Nat) := (true, [([], []), ([], []), ([], []), ([1, 2], [1, 2]), ([3], [3]), ([], []), ([], []), ([], []), ([6, 7], [6, 7]), ([8], [8]), ([9], [9]), ([5, 10], [5, 10]), ([4, 11], [4, 11]), ([12], [12]), ([13], [13]), ([0, 14], [0, 14]), ([15, 15, 0, 1, 2, 3, 4, 5, 6, 7, 8, 9, 10, 11, 12, 13, 14, 15], [0, 15])])
def spec_NthRepair.B8 : List Nat := [0, 0, 0, 6, 14, 0, 0, 0, 192, 448, 960, 2016, 4094, 8190, 16382, 32767, 65535]
theorem spec_NthRepair.tab8 : rtab .any (opsOf Try.f44 8) = spec_NthRepair.T8 := by kernel_rfl
theorem spec_NthRepair.bits8 : waitsOk spec_NthRepair.T8.2 spec_NthRepair.B8 = true := by kernel_rfl
set_option maxHeartbeats 8000000 in
set_option maxRecDepth 100000 in
theorem spec_NthRepair.calls (k : Nat) (A0_0 : Option Addr) (c0_0 : Nat) (l0_0 : List (S86)) (A0_1 : Option Addr) (c0_1 : Nat) (l0_1 : List (S50)) (a1 : Int) (r1 : List Int) (r2 : Bool) (w : World) (hr0_0 : Kd.C k86 w A0_0 l0_0.length l0_0) (hc0_0 : l0_0.length ≤ c0_0) (hr0_1 : Kd.C k50 w A0_1 l0_1.length l0_1) (hc0_1 : l0_1.length ≤ c0_1) (h : spec_NthRepair.f k l0_0 l0_1 a1 = some (r1, r2)) :
  Calls Try.prog 44 #[.agg #[.slice A0_0 l0_0.length c0_0, .slice A0_1 l0_1.length c0_1], .int .i64 a1] w fun e w' => ∃ v0_ : Value, e = .returned (.tuple #[v0_, .bool r2]) ∧ Kd.R (Kd.int .i64) 3 w' w.heap.size (fun _ => True) v0_ r1 ∧ Below w.heap.size w w' := by
 have hu32 := Try.underlying32
 have HR0_0 := aM hr0_0
 have HC0_0 := aM hc0_0
 clear hr0_0 hc0_0
 have HR0_1 := aM hr0_1
 have HC0_1 := aM hc0_1
 clear hr0_1 hc0_1
 have HB := aM (Below.refl w.heap.size w)
 have H : ((spec_CountRepairs.f k l0_0 l0_1).bind fun t326 => ((spec_l1In.f a1 0 (wrap64 (t326 - 1))).bind fun t327 => (if t327 = true then ((spec_Blocks.f k l0_0 l0_1).bind fun t331 => (spec_NthRepair.l0 k a1 t331 (([] : List Int)) (wrap64 ((t331.length : Int) - 1)))) else (some ((([] : List Int)), false))))) = some (r1, r2) := h
 clear h
 replace H := Option.bind_eq_some_iff.mp H
 obtain ⟨t326, A30, H⟩ := H
 replace H : ((spec_l1In.f a1 0 (wrap64 (t326 - 1))).bind fun t327 => (if t327 = true then ((spec_Blocks.f k l0_0 l0_1).bind fun t331 => (spec_NthRepair.l0 k a1 t331 (([] : List Int)) (wrap64 ((t331.length : Int) - 1)))) else (some ((([] : List Int)), false)))) = some (r1, r2) := H
 have A3 := aM A30
 clear A30
 replace H := Option.bind_eq_some_iff.mp H
 obtain ⟨t327, A40, H⟩ := H
 replace H : (if t327 = true then ((spec_Blocks.f k l0_0 l0_1).bind fun t331 => (spec_NthRepair.l0 k a1 t331 (([] : List Int)) (wrap64 ((t331.length : Int) - 1)))) else (some ((([] : List Int)), false))) = some (r1, r2) := H
 have A4 := aM A40
 clear A40
 by_cases c5 : t327 = true
 ·subst c5
  have H1 : ((spec_Blocks.f k l0_0 l0_1).bind fun t331 => (spec_NthRepair.l0 k a1 t331 (([] : List Int)) (wrap64 ((t331.length : Int) - 1)))) = some (r1, r2) := by rw [if_pos rfl] at H; exact H
  clear H
  have H := H1
  clear H1
  replace H := Option.bind_eq_some_iff.mp H
  obtain ⟨t331, A60, H⟩ := H
  replace H : (spec_NthRepair.l0 k a1 t331 (([] : List Int)) (wrap64 ((t331.length : Int) - 1))) = some (r1, r2) := H
  have A6 := aM A60
  clear A60
  obtain ⟨y334, hy334⟩ : ∃ y_ : List Int, y_ = (([] : List Int)) := ⟨_, rfl⟩
  replace H : (spec_NthRepair.l0 k a1 t331 y334 (wrap64 ((t331.length : Int) - 1))) = some (r1, r2) := by first | (rw [hy334]; with_reducible exact H) | (have H2_ := (Option.bind_some _ _).symm.trans H; rw [hy334]; with_reducible exact H2_) | (have H2_ := (Option.bind_some _ _).symm.trans H; with_reducible exact H2_) | with_reducible exact H | (rw [hy334]; exact H) | exact H
  have Ny334 := aM hy334
  clear hy334
  have H' := aM H
  clear H
  go_enter Try.func44, Try.ntmps44
  go_wp2_with (first | ((with_reducible refine gate_dst (N := 2) rfl ?_); refine box_event ?hg (N := 2) ?hd (cs := #[.slice A0_0 l0_0.length c0_0, .slice A0_1 l0_1.length c0_1]) (t := 32) ?hr ?_; (case hd => rfl); (case hg => rfl); (case hr => first | (go_simp; done) | (go_simp; rfl)); intro gb325 hg w7 hbox hb; have n0_ := aM (below_step aB hb); have n1_ := aM (hbox); have n2_ := aM ((by rw [hg]; exact (below_size aB) : w.heap.size ≤ gb325)); have n3_ := aM ((by rw [hg]; exact (below_size aB) : w.heap.size ≤ gb325)); clear HB; have HB := n0_; have BK325 := n1_; have GW325 := n2_; have GE325 := n3_; clear n0_ n1_ n2_ n3_; clear hb hbox hg; have hcz8_0 : w7.cell? ⟨gb325, 0, none⟩ = some (.slice A0_0 l0_0.length c0_0) := (blk_cell BK325.out 0).trans rfl; have hcz8_1 : w7.cell? ⟨gb325, 1, none⟩ = some (.slice A0_1 l0_1.length c0_1) := (blk_cell BK325.out 1).trans rfl; have hfz8_0 := blk_frozen BK325.out 0; have hfz8_1 := blk_frozen BK325.out 1) | ((with_reducible refine gate_callee (f := 84) rfl ?_); refine goesL_ (some 11) rfl rfl Try.func84 (by kernel_rfl) rfl #[.agg #[.slice A0_0 l0_0.length c0_0, .slice A0_1 l0_1.length c0_1]] rfl (by (try simp only [List.map_toArray, List.map_cons, List.map_nil]); first | done | rfl | (simp only [List.length_drop, List.length_take]; rfl)) ?_; (with_reducible refine (spec_CountRepairs.calls k _ _ l0_0 _ _ l0_1 t326 _ ?side1 ?side2 ?side3 ?side4 A3.out).mono ?_); (case side1 => exact aC); (case side2 => exact HC0_0.out); (case side3 => exact aC); (case side4 => exact HC0_1.out); rintro e w9 ⟨rfl, hb⟩; refine ⟨_, rfl, ?_⟩; have n0_ := aM (blk_below (g := gb325) (o := .cells #[.slice A0_0 l0_0.length c0_0, .slice A0_1 l0_1.length c0_1] 32 (0, 0)) aK hb); have n1_ := aM (below_step aG hb); clear BK325; clear HB; have BK325 := n0_; have HB := n1_; clear n0_ n1_; (try clear hb); (try clear hb2); (try clear hk); (try clear hi)) | ((with_reducible refine gate_callee (f := 64) rfl ?_); refine goesL_ (some 13) rfl rfl Try.func64 (by kernel_rfl) rfl #[.int .i64 a1, .int .i64 0, .int .i64 (wrap64 (t326 - 1))] rfl (by (try simp only [List.map_toArray, List.map_cons, List.map_nil]); first | done | rfl | (simp only [List.length_drop, List.length_take]; rfl)) ?_; (with_reducible refine (spec_l1In.calls a1 0 (wrap64 (t326 - 1)) true _ A4.out).mono ?_); rintro e w' ⟨rfl, ⟨nd, rfl⟩⟩; refine ⟨_, rfl, ?_⟩; have hcz10_0 : w9.cell? ⟨gb325, 0, none⟩ = some (.slice A0_0 l0_0.length c0_0) := (blk_cell BK325.out 0).trans rfl; have hcz10_1 : w9.cell? ⟨gb325, 1, none⟩ = some (.slice A0_1 l0_1.length c0_1) := (blk_cell BK325.out 1).trans rfl; have hfz10_0 := blk_frozen BK325.out 0; have hfz10_1 := blk_frozen BK325.out 1) | ((with_reducible refine gate_callee (f := 67) rfl ?_); refine goesL_ (some 17) rfl rfl Try.func67 (by kernel_rfl) rfl #[.agg #[.slice A0_0 l0_0.length c0_0, .slice A0_1 l0_1.length c0_1]] rfl (by (try simp only [List.map_toArray, List.map_cons, List.map_nil]); first | done | rfl | (simp only [List.length_drop, List.length_take]; rfl)) ?_; (with_reducible refine (spec_Blocks.calls k _ _ l0_0 _ _ l0_1 t331 _ ?side1 ?side2 ?side3 ?side4 A6.out).mono ?_); (case side1 => repeat (first | exact (Kd.C_below HR0_0.out aG) | (with_reducible refine Kd.C_alloc ?_ _) | (with_reducible refine Kd.C_drewN ?_ _) | (with_reducible refine Kd.C_drew ?_))); (case side2 => exact HC0_0.out); (case side3 => repeat (first | exact (Kd.C_below HR0_1.out aG) | (with_reducible refine Kd.C_alloc ?_ _) | (with_reducible refine Kd.C_drewN ?_ _) | (with_reducible refine Kd.C_drew ?_))); (case side4 => exact HC0_1.out); rintro e w11 ⟨v332, rfl, ho0, hb⟩; refine ⟨_, rfl, ?_⟩; have n0_ := aM (Kd.S_lower ho0 (below_size aG)); have n1_ := aM (blk_below (g := gb325) (o := .cells #[.slice A0_0 l0_0.length c0_0, .slice A0_1 l0_1.length c0_1] 32 (0, 0)) aK hb); have n2_ := aM (below_step aG hb); clear BK325; clear HB; have HO333 := n0_; have BK325 := n1_; have HB := n2_; clear n0_ n1_ n2_; (try clear hb); (try clear hb2); (try clear hk); (try clear hi); (try clear ho0)) | ((with_reducible refine gate_dst (N := 18) rfl ?_); refine Kd.R_lit (Kd.int .i64) _ 3 ?hg (N := 18) ?hd (xs := ([] : List Int)) (inner := []) (ok := fun _ => True) (okp := fun _ => True) ?hr ?hp (fun _ hk => hk) trivial (Below.refl _ _) (Nat.le_refl _) (by simp) ?_; (case hd => rfl); (case hg => rfl); (case hr => first | (go_simp; done) | (go_simp; rfl)); (case hp => exact (Reps.none _ _)); intro v335 w12 ho13 hb hg_ hnew_; clear hg_ hnew_; (first | rw [← Ny334.out] at ho13 | (simp only [Int.reduceToNat] at ho13; rw [← Ny334.out] at ho13)); have n0_ := aM (Kd.S_elder' (aS HO333) (Kd.R_base ho13) hb); have n1_ := aM (Kd.R_lower ho13 (below_size aG)); have n2_ := aM (blk_below (g := gb325) (o := .cells #[.slice A0_0 l0_0.length c0_0, .slice A0_1 l0_1.length c0_1] 32 (0, 0)) aK hb); have n3_ := aM (below_step aG hb); clear HO333; clear BK325; clear HB; have HO333 := n0_; have HO336 := n1_; have BK325 := n2_; have HB := n3_; clear n0_ n1_ n2_ n3_; clear hb ho13; obtain ⟨Ao14, co14, eo14⟩ := Kd.S_slice HO333.out; subst eo14))
  go_loopg [1, 7, 8] k (fun kq v1 v7 v8 w' => ∃ (x1_1 : Int) (x7_1 : List Int) (x8_1 : Int), v1 = .int .i64 x1_1 ∧ v8 = .int .i64 x8_1 ∧ Aside0 (spec_NthRepair.l0 kq x1_1 t331 x7_1 x8_1 = some (r1, r2)) ∧ Aside0 (kq ≤ k) ∧ Aside0 (Kd.S (Kd.slice 3 (Kd.int .i64)) 26 w' w.heap.size (fun k_ => some k_ ≠ (v7 : Value).ownBlock) (.slice Ao14 t331.length co14) t331) ∧ Aside0 (Kd.R (Kd.int .i64) 3 w' w.heap.size (fun _ => True) v7 x7_1) ∧ Aside0 (w'.heap[gb325]? = some (.cells #[(.slice A0_0 l0_0.length c0_0), (.slice A0_1 l0_1.length c0_1)] 32 (0, 0))) ∧ Aside0 (Below w.heap.size w w'))
  case atStart => exact ⟨(a1), (y334), (wrap64 ((t331.length : Int) - 1)), (by first | rfl | (simp; done) | (simp [*]; done)), (by first | rfl | (simp; done) | (simp [*]; done)), H', ⟨Nat.le_refl _⟩, ⟨by (with_reducible repeat (first | apply Kd.S_alloc | apply Kd.S_drewN | apply Kd.S_drew)); exact Kd.S_mono HO333.out (fun _ hk => hk.2)⟩, ⟨aR HO336⟩, ⟨by (with_reducible repeat (first | refine blk_drewN ?_ _ | refine blk_drew ?_ | refine blk_alloc ?_ _)); exact BK325.out⟩, ⟨by repeat (first | (with_reducible first | exact HB.out | apply below_alloc | apply pw_below_drewN | apply below_drew1 | refine below_set ?_ GE325.out) | exact HB.out)⟩⟩
  case round =>
   clear H'
   try clear p2
   try clear c4
   try clear c5
   try clear c6
   try clear p6
   try clear c8
   try clear hcz10_0
   try clear hcz10_1
   try clear hcz8_0
   try clear hcz8_1
   try clear hfz10_0
   try clear hfz10_1
   try clear hfz8_0
   try clear hfz8_1
   obtain ⟨x1_1, x7_1, x8_1, rfl, rfl, HA, HK1, HO_6, HO_7, BK325, HB⟩ := hrel
   cases gk with
   | zero => exact absurd HA.out (by simp [spec_NthRepair.l0])
   | succ k1 =>
    have H := HA.out
    clear HA
    simp only [spec_NthRepair.l0] at H
    by_cases c15 : x8_1 ≥ 0
    ·rw [if_pos c15] at H
     have c15b0 : decide (0 ≤ x8_1) = true := decide_eq_true c15
     clear c15
     by_cases c16 : 0 ≤ x8_1
     ·rw [if_pos c16] at H
      have c16b0 : decide (0 ≤ x8_1) = true := decide_eq_true c16
      clear c16
      by_cases c17 : x8_1 < (t331.length : Int)
      ·rw [if_pos c17] at H
       have c17b0 : decide (x8_1 < (t331.length : Int)) = true := decide_eq_true c17
       clear c17
       by_cases c18 : ((rd_L3 t331 x8_1).length : Int) = 0
       ·rw [if_pos c18] at H
        exact absurd H (by simp)
       ·rw [if_neg c18] at H
        have c18b0 : (((rd_L3 t331 x8_1).length : Int) == 0) = false := beq_eq_false_iff_ne.mpr c18
        have c18b1 : (((rd_L3 t331 x8_1).length : Int) != 0) = true := bne_iff_ne.mpr c18
        have c18b2 : ¬ ((rd_L3 t331 x8_1) = []) := fun h_ => c18 (by rw [h_]; rfl)
        obtain ⟨ji19, hji19⟩ : ∃ j_ : Int, (Int.tmod x1_1 ((rd_L3 t331 x8_1).length : Int)) = j_ := ⟨_, rfl⟩
        replace H : (if 0 ≤ (ji19) then (if (ji19) < ((rd_L3 t331 x8_1).length : Int) then (if x7_1.length < 17592186044416 then (spec_NthRepair.l0 k1 (wrap64 (Int.tdiv x1_1 ((rd_L3 t331 x8_1).length : Int))) t331 (x7_1 ++ [rd (rd_L3 t331 x8_1) (ji19)]) (wrap64 (x8_1 - 1))) else (none)) else (none)) else (none)) = some (r1, r2) := by first | (rw [hji19] at H; exact H) | (simp only [hji19] at H ⊢; exact H)
        by_cases c20 : 0 ≤ (ji19)
        ·rw [if_pos c20] at H
         have c20b0 : decide (0 ≤ (ji19)) = true := decide_eq_true c20
         clear c20
         by_cases c21 : (ji19) < ((rd_L3 t331 x8_1).length : Int)
         ·rw [if_pos c21] at H
          have c21b0 : decide ((ji19) < ((rd_L3 t331 x8_1).length : Int)) = true := decide_eq_true c21
          clear c21
          by_cases c22 : x7_1.length < 17592186044416
          ·rw [if_pos c22] at H
           have LMc22 := aM c22
           clear c22
           obtain ⟨y340, hy340⟩ : ∃ y_ : List Int, y_ = (x7_1 ++ [rd (rd_L3 t331 x8_1) (ji19)]) := ⟨_, rfl⟩
           replace H : (spec_NthRepair.l0 k1 (wrap64 (Int.tdiv x1_1 ((rd_L3 t331 x8_1).length : Int))) t331 y340 (wrap64 (x8_1 - 1))) = some (r1, r2) := by first | (rw [hy340]; with_reducible exact H) | (have H2_ := (Option.bind_some _ _).symm.trans H; rw [hy340]; with_reducible exact H2_) | (have H2_ := (Option.bind_some _ _).symm.trans H; with_reducible exact H2_) | with_reducible exact H | (rw [hy340]; exact H) | exact H
           have Ny340 := aM hy340
           clear hy340
           have H' := aM H
           clear H
           try go_wp2
           have n0_ := aM (Kd.S_drew HO_6.out)
           have n1_ := aM (Kd.R_drew HO_7.out)
           have n2_ := aM (blk_drew BK325.out)
           have n3_ := aM (below_drew1 HB.out)
           clear HO_6
           clear HO_7
           clear BK325
           clear HB
           have HO_6 := n0_
           have HO_7 := n1_
           have BK325 := n2_
           have HB := n3_
           clear n0_ n1_ n2_ n3_
           have p337 : 0 ≤ (x8_1 : Int) := aD
           have q337 : x8_1 < (t331.length : Int) := aD
           obtain ⟨ad337, A337_0, c337_0, e337, hx337_0, hl337_0, hi337_0⟩ := at_L3 (Kd.S_reads' HO_6.out).2.2 x8_1 p337 q337
           cases e337
           obtain ⟨ce337, hce337, hMe337, hcc337⟩ := Kd.S_get HO_6.out [] x8_1 p337 (by first | exact q337 | exact aD | (have e_ := (Kd.S_reads' HO_6.out).1; omega))
           obtain ⟨ve337_0, rfl, ge337_0⟩ := hMe337
           have hv337_0 := hcc337 0 _ rfl
           rw [Nat.add_zero, show ((Kd.slice 3 (Kd.int .i64))).sz = 1 from rfl, Nat.mul_one] at hv337_0
           replace hv337_0 := Option.some.inj (hv337_0.symm.trans hx337_0)
           rw [hv337_0] at ge337_0
           have HL337_0 := aM (show Kd.R (Kd.int .i64) 3 _ _ _ _ (rd_L3 t331 x8_1) from ge337_0)
           clear hv337_0 ge337_0
           clear hcc337 hce337
           have HR337_0 := aM hi337_0
           have HC337_0 := aM hl337_0
           clear hi337_0 hl337_0
           replace p337 := eq_true p337
           replace q337 := eq_true q337
           have p338 : 0 ≤ (x8_1 : Int) := aD
           have q338 : x8_1 < (t331.length : Int) := aD
           obtain ⟨ad338, A338_0, c338_0, e338, hx338_0, hl338_0, hi338_0⟩ := at_L3 (Kd.S_reads' HO_6.out).2.2 x8_1 p338 q338
           obtain rfl : ad337 = ad338 := (by injection e338)
           obtain ⟨ce338, hce338, hMe338, hcc338⟩ := Kd.S_get HO_6.out [] x8_1 p338 (by first | exact q338 | exact aD | (have e_ := (Kd.S_reads' HO_6.out).1; omega))
           obtain ⟨ve338_0, rfl, ge338_0⟩ := hMe338
           have hv338_0 := hcc338 0 _ rfl
           rw [Nat.add_zero, show ((Kd.slice 3 (Kd.int .i64))).sz = 1 from rfl, Nat.mul_one] at hv338_0
           replace hv338_0 := Option.some.inj (hv338_0.symm.trans hx338_0)
           rw [hv338_0] at ge338_0
           have HL338_0 := aM (show Kd.R (Kd.int .i64) 3 _ _ _ _ (rd_L3 t331 x8_1) from ge338_0)
           clear hv338_0 ge338_0
           clear hcc338 hce338
           have HR338_0 := aM hi338_0
           have HC338_0 := aM hl338_0
           clear hi338_0 hl338_0
           replace p338 := eq_true p338
           replace q338 := eq_true q338
           have ea_ := Option.some.inj (hx337_0.symm.trans hx338_0)
           injection ea_ with ea_ en_ ec_
           subst ea_
           subst ec_
           clear en_
           have p339 : 0 ≤ ((ji19) : Int) := aD
           have q339 : (ji19) < ((rd_L3 t331 x8_1).length : Int) := aD
           obtain ⟨ad339, e339, hx339_0⟩ := Kd.at_int (by repeat (first | (with_reducible exact HR337_0.out) | (with_reducible refine Kd.C_alloc ?_ _) | (with_reducible refine Kd.C_drewN ?_ _) | (with_reducible refine Kd.C_drew ?_) | exact HR337_0.out)) (ji19) p339 q339
           cases e339
           replace p339 := eq_true p339
           replace q339 := eq_true q339
           refine start_ (n := 17) (S := fun w' => w'.cell? (ad337.add (x8_1).toNat) = some (.slice (some ad339) (rd_L3 t331 x8_1).length c337_0) ∧ w'.cell? (ad337.add (x8_1).toNat) = some (.slice (some ad339) (rd_L3 t331 x8_1).length c337_0) ∧ w'.cell? (ad339.add ((ji19)).toNat) = some (.int .i64 (rd (rd_L3 t331 x8_1) (ji19)))) (ds := [14, 15]) #[false, false, false, false, false, false, false, false, false, false, false, false, false, false, false, false, false] (by kernel_rfl) rfl rfl ⟨hx337_0, hx338_0, hx339_0⟩ (fun hHeld => ?_); refine with_tabW spec_NthRepair.tab8 spec_NthRepair.bits8 (fun HT_ HW_ => ?_)
           generalize wr.drew = w23 at HO_6 HO_7 BK325 HB HL337_0 HL338_0 HR337_0 HR338_0 hx337_0 hx338_0 hx339_0 hHeld ⊢
           refine pure_ (i := 0) (N := some 26) (v := ?_) (a' := ?_) #[true, false, false, false, false, false, false, false, false, false, false, false, false, false, false, false, false] rfl rfl (any_of HT_.out (by kernel_rfl)) (fun _ _ _ h => h) (Or.inl ⟨by rfl, ?_⟩) ?_ ?_
           rotate_left
           ·exact aI
           rotate_left
           ·exact aP
           refine pure_ (i := 1) (N := some 27) (v := ?_) (a' := ?_) #[true, true, false, false, false, false, false, false, false, false, false, false, false, false, false, false, false] rfl rfl (any_of HT_.out (by kernel_rfl)) (fun _ _ _ h => h) (Or.inl ⟨by rfl, ?_⟩) ?_ ?_
           rotate_left
           ·exact aI
           rotate_left
           ·exact aP
           refine pure_ (i := 2) (N := some 28) (v := ?_) (a' := ?_) #[true, true, true, false, false, false, false, false, false, false, false, false, false, false, false, false, false] rfl rfl (any_of HT_.out (by kernel_rfl)) (fun _ _ _ h => h) (Or.inl ⟨by rfl, ?_⟩) ?_ ?_
           rotate_left
           ·exact aI
           rotate_left
           ·exact aP
           refine pure_ (i := 3) (N := some 29) (v := ?_) (a' := ?_) #[true, true, true, true, false, false, false, false, false, false, false, false, false, false, false, false, false] rfl rfl (any_of HT_.out (by kernel_rfl)) (fun _ _ _ h => h) (Or.inl ⟨by rfl, ?_⟩) ?_ ?_
           rotate_left
           ·exact aI
           rotate_left
           ·exact aP
           refine pure_ (i := 5) (N := some 31) (v := ?_) (a' := ?_) #[true, true, true, true, false, true, false, false, false, false, false, false, false, false, false, false, false] rfl rfl (any_of HT_.out (by kernel_rfl)) (fun _ _ _ h => h) (Or.inl ⟨by rfl, ?_⟩) ?_ ?_
           rotate_left
           ·exact aI
           rotate_left
           ·exact aP
           refine pure_ (i := 6) (N := some 32) (v := ?_) (a' := ?_) #[true, true, true, true, false, true, true, false, false, false, false, false, false, false, false, false, false] rfl rfl (any_of HT_.out (by kernel_rfl)) (fun _ _ _ h => h) (Or.inl ⟨by rfl, ?_⟩) ?_ ?_
           rotate_left
           ·exact aI
           rotate_left
           ·exact aP
           refine pure_ (i := 7) (N := some 33) (v := ?_) (a' := ?_) #[true, true, true, true, false, true, true, true, false, false, false, false, false, false, false, false, false] rfl rfl (any_of HT_.out (by kernel_rfl)) (fun _ _ _ h => h) (Or.inl ⟨by rfl, ?_⟩) ?_ ?_
           rotate_left
           ·exact aI
           rotate_left
           ·exact aP
           refine pure_ (i := 8) (N := some 34) (v := ?_) (a' := ?_) #[true, true, true, true, false, true, true, true, true, false, false, false, false, false, false, false, false] rfl rfl (any_of HT_.out (by kernel_rfl)) (fun _ _ _ h => h) (Or.inl ⟨by rfl, ?_⟩) ?_ ?_
           rotate_left
           ·exact aI
           rotate_left
           ·exact aP
           refine take_ (i := 4) (N := some 30) (v := ?_) (a' := ?_) #[true, true, true, true, true, true, true, true, true, false, false, false, false, false, false, false, false] rfl rfl (take_ofW HT_.out HW_.out (by kernel_rfl)) (fun _ _ _ h => h) (Or.inl ⟨by rfl, ?_⟩) hHeld ?_ ?_
           rotate_left
           ·rintro w' ⟨s0, s1, s2⟩
            go_simp
            with_reducible rfl
           rotate_left
           ·exact aP
           refine take_ (i := 9) (N := some 35) (v := ?_) (a' := ?_) #[true, true, true, true, true, true, true, true, true, true, false, false, false, false, false, false, false] rfl rfl (take_ofW HT_.out HW_.out (by kernel_rfl)) (fun _ _ _ h => h) (Or.inl ⟨by rfl, ?_⟩) hHeld ?_ ?_
           rotate_left
           ·rintro w' ⟨s0, s1, s2⟩
            go_simp
            with_reducible rfl
           rotate_left
           ·exact aP
           refine pure_ (i := 10) (N := some 36) (v := ?_) (a' := ?_) #[true, true, true, true, true, true, true, true, true, true, true, false, false, false, false, false, false] rfl rfl (any_of HT_.out (by kernel_rfl)) (fun _ _ _ h => h) (Or.inl ⟨by rfl, ?_⟩) ?_ ?_
           rotate_left
           ·exact aI
           rotate_left
           ·exact aP
           refine pure_ (i := 11) (N := some 37) (v := ?_) (a' := ?_) #[true, true, true, true, true, true, true, true, true, true, true, true, false, false, false, false, false] rfl rfl (any_of HT_.out (by kernel_rfl)) (fun _ _ _ h => h) (Or.inl ⟨by rfl, ?_⟩) ?_ ?_
           rotate_left
           ·exact aI
           rotate_left
           ·exact aP
           refine pure_ (i := 12) (N := some 38) (v := ?_) (a' := ?_) #[true, true, true, true, true, true, true, true, true, true, true, true, true, false, false, false, false] rfl rfl (any_of HT_.out (by kernel_rfl)) (fun _ _ _ h => h) (Or.inl ⟨by rfl, ?_⟩) ?_ ?_
           rotate_left
           ·exact aI
           rotate_left
           ·exact aP
           refine take_ (i := 13) (N := some 39) (v := ?_) (a' := ?_) #[true, true, true, true, true, true, true, true, true, true, true, true, true, true, false, false, false] rfl rfl (take_ofW HT_.out HW_.out (by kernel_rfl)) (fun _ _ _ h => h) (Or.inl ⟨by rfl, ?_⟩) hHeld ?_ ?_
           rotate_left
           ·rintro w' ⟨s0, s1, s2⟩
            go_simp
            with_reducible rfl
           rotate_left
           ·exact aP
           refine last_ (i := 14) (N := some 40) #[true, true, true, true, true, true, true, true, true, true, true, true, true, true, true, false, false] rfl rfl (one_of HT_.out (by kernel_rfl)) (by decide) (fun K hK => ?_)
           refine value_ (w1 := ?_) (v := ?_) (by rfl) rfl ?_ ?_
           rotate_left 2
           ·go_simp
            constructor
            ·rfl
            ·rfl
           refine hK.out _ _ ?_
           clear hK K
           refine norm_ (a' := ?_) ?_ ?_
           rotate_left
           ·show Act.put _ (some 40) _ = _
            simp only [Act.put, List.setIfInBounds_toArray, List.set_cons_zero, List.set_cons_succ, i64_w, i32_w]
            rfl
           refine last_ (i := 15) (N := some 41) #[true, true, true, true, true, true, true, true, true, true, true, true, true, true, true, true, false] rfl rfl (one_of HT_.out (by kernel_rfl)) (by decide) (fun K hK => ?_)
           refine Kd.R_append_step (Kd.int .i64) (w0 := w) w.heap.size (by rfl) (.tmp 26) (.tmp 40) 26 3 (.int .i64 0) 8 rfl Try.underlying26 info3 rfl (by decide) (by omega) u7 x7_1 (rd (rd_L3 t331 x8_1) (ji19)) [.int .i64 (rd (rd_L3 t331 x8_1) (ji19))] (fun _ => True) (fun _ => False) rfl rfl ?aP (fun _ hk => hk.elim) ?aF ?aO ?aB ?aS ?aL ?_
           (case aP => exact rfl)
           (case aB => exact aG)
           (case aF => exact (fun _ _ => trivial))
           (case aO => exact (aR HO_7))
           (case aS => exact (below_size aG))
           (case aL => have := LMc22.out; omega)
           intro v341 w24 ho hb hg hat
           rw [← Ny340.out] at ho
           have n0_ := aM (Kd.S_after (ok := (fun _ => True)) (by (with_reducible repeat (first | apply Kd.S_alloc | apply Kd.S_drewN | apply Kd.S_drew)); exact Kd.S_mono HO_6.out (fun _ hk => ⟨trivial, hk⟩)) hg hat)
           have n1_ := aM (blk_grown (g := gb325) (o := .cells #[.slice A0_0 l0_0.length c0_0, .slice A0_1 l0_1.length c0_1] 32 (0, 0)) aK hg (Kd.R_ne HO_7.out BK325.out (by decide)))
           have n2_ := aM (Kd.R_after (ok := (fun k_ => some k_ ≠ (.slice (some ad337) t331.length co14 : Value).ownBlock)) (by (with_reducible repeat (first | apply Kd.R_alloc | apply Kd.R_drewN | apply Kd.R_drew)); exact Kd.R_mono HL337_0.out (fun _ hk => ⟨hk.2, hk.1⟩)) hg hat)
           have n3_ := aM (Kd.R_after (ok := (fun k_ => some k_ ≠ (.slice (some ad337) t331.length co14 : Value).ownBlock)) (by (with_reducible repeat (first | apply Kd.R_alloc | apply Kd.R_drewN | apply Kd.R_drew)); exact Kd.R_mono HL338_0.out (fun _ hk => ⟨hk.2, hk.1⟩)) hg hat)
           have n4_ := aM (hb)
           have n5_ := aM (ho)
           clear HO_6
           clear BK325
           clear HL337_0
           clear HL338_0
           clear HB
           clear HO_7
           have HO_6 := n0_
           have BK325 := n1_
           have HL337_0 := n2_
           have HL338_0 := n3_
           have HB := n4_
           have HO342 := n5_
           clear n0_ n1_ n2_ n3_ n4_ n5_
           clear ho hb hg hat
           refine hK.out _ _ ?_
           clear hK K
           refine norm_ (a' := ?_) ?_ ?_
           rotate_left
           ·show Act.put _ (some 41) _ = _
            simp only [Act.put, List.setIfInBounds_toArray, List.set_cons_zero, List.set_cons_succ, i64_w, i32_w]
            rfl
           refine pure_ (i := 16) (N := some 7) (v := ?_) (a' := ?_) #[true, true, true, true, true, true, true, true, true, true, true, true, true, true, true, true, true] rfl rfl (any_of HT_.out (by kernel_rfl)) (fun _ _ _ h => h) (Or.inl ⟨by rfl, ?_⟩) ?_ ?_
           rotate_left
           ·exact aI
           rotate_left
           ·exact aP
           refine done_ (done_of HT_.out (by kernel_rfl)) ?_
           have p343 : 0 ≤ (x8_1 : Int) := aD
           have q343 : x8_1 < (t331.length : Int) := aD
           obtain ⟨ad343, A343_0, c343_0, e343, hx343_0, hl343_0, hi343_0⟩ := at_L3 (Kd.S_reads' HO_6.out).2.2 x8_1 p343 q343
           obtain rfl : ad337 = ad343 := (by injection e343)
           obtain ⟨ce343, hce343, hMe343, hcc343⟩ := Kd.S_get HO_6.out [] x8_1 p343 (by first | exact q343 | exact aD | (have e_ := (Kd.S_reads' HO_6.out).1; omega))
           obtain ⟨ve343_0, rfl, ge343_0⟩ := hMe343
           have hv343_0 := hcc343 0 _ rfl
           rw [Nat.add_zero, show ((Kd.slice 3 (Kd.int .i64))).sz = 1 from rfl, Nat.mul_one] at hv343_0
           replace hv343_0 := Option.some.inj (hv343_0.symm.trans hx343_0)
           rw [hv343_0] at ge343_0
           have HL343_0 := aM (show Kd.R (Kd.int .i64) 3 _ _ _ _ (rd_L3 t331 x8_1) from ge343_0)
           clear hv343_0 ge343_0
           clear hcc343 hce343
           have HR343_0 := aM hi343_0
           have HC343_0 := aM hl343_0
           clear hi343_0 hl343_0
           replace p343 := eq_true p343
           replace q343 := eq_true q343
           try go_wp2
           go_roundg k1
           case measure => have := HK1.out; omega
           case rel => exact ⟨(wrap64 (Int.tdiv x1_1 ((rd_L3 t331 x8_1).length : Int))), (y340), (wrap64 (x8_1 - 1)), (by first | rfl | (simp; done) | (simp [*]; done)), (by first | rfl | (simp; done) | (simp [*]; done)), H', ⟨by have := HK1.out; omega⟩, ⟨by (with_reducible repeat (first | apply Kd.S_alloc | apply Kd.S_drewN | apply Kd.S_drew)); exact Kd.S_mono HO_6.out (fun _ hk => hk.2)⟩, ⟨aR HO342⟩, ⟨by (with_reducible repeat (first | refine blk_drewN ?_ _ | refine blk_drew ?_ | refine blk_alloc ?_ _)); exact BK325.out⟩, ⟨by repeat (first | (with_reducible first | exact HB.out | apply below_alloc | apply pw_below_drewN | apply below_drew1 | refine below_set ?_ GE325.out) | exact HB.out)⟩⟩
          ·rw [if_neg c22] at H
           exact absurd H (by simp)
         ·rw [if_neg c21] at H
          exact absurd H (by simp)
        ·rw [if_neg c20] at H
         exact absurd H (by simp)
      ·rw [if_neg c17] at H
       exact absurd H (by simp)
     ·rw [if_neg c16] at H
      exact absurd H (by simp)
    ·rw [if_neg c15] at H
     have c15b0 : decide (0 ≤ x8_1) = false := decide_eq_false c15
     clear c15
     replace H := Option.bind_eq_some_iff.mp H
     obtain ⟨t344, A250, H⟩ := H
     replace H : (some (t344, true)) = some (r1, r2) := H
     have A25 := aM A250
     clear A250
     simp only [Option.some.injEq, Prod.mk.injEq] at H
     obtain ⟨rfl, rfl⟩ := H
     obtain ⟨Ao26, co26, eo26⟩ := Kd.R_slice HO_7.out
     subst eo26
     go_wp2_with (first | ((with_reducible refine gate_callee (f := 85) rfl ?_); refine goesL_ (some 50) rfl rfl Try.func85 (by kernel_rfl) rfl #[.slice Ao26 x7_1.length co26] rfl (by (try simp only [List.map_toArray, List.map_cons, List.map_nil]); first | done | rfl | (simp only [List.length_drop, List.length_take]; rfl)) ?_; (with_reducible refine (spec_l7Sorted.calls k1 _ _ x7_1 t344 _ ?side1 ?side2 A25.out).mono ?_); (case side1 => repeat (first | exact (Kd.R_reads' HO_7.out).2.2 | (with_reducible refine Kd.C_alloc ?_ _) | (with_reducible refine Kd.C_drewN ?_ _) | (with_reducible refine Kd.C_drew ?_))); (case side2 => exact (Kd.R_reads' HO_7.out).2.1); rintro e w27 ⟨v345, rfl, ho0, hb⟩; refine ⟨_, rfl, ?_⟩; have n0_ := aM (Kd.S_elder' (aS HO_6) (Kd.R_base ho0) hb); have n1_ := aM (Kd.R_elder' (aR HO_7) (Kd.R_base ho0) hb); have n2_ := aM (Kd.R_lower (Kd.R_new' ho0 (Kd.R_lt (aR HO_7))) (below_size aG)); have n3_ := aM (blk_below (g := gb325) (o := .cells #[.slice A0_0 l0_0.length c0_0, .slice A0_1 l0_1.length c0_1] 32 (0, 0)) aK hb); have n4_ := aM (below_step aG hb); clear HO_6; clear HO_7; clear BK325; clear HB; have HO_6 := n0_; have HO_7 := n1_; have HO346 := n2_; have BK325 := n3_; have HB := n4_; clear n0_ n1_ n2_ n3_ n4_; (try clear hb); (try clear hb2); (try clear hk); (try clear hi); (try clear ho0)))
     go_ret2
     exact ⟨_, by first | rfl | (simp [errW_none, errW_some] <;> rfl) | (simp [*, errW_none, errW_some] <;> rfl), by (with_reducible repeat (first | apply Kd.R_alloc | apply Kd.R_drewN | apply Kd.R_drew)); exact Kd.R_mono HO346.out (fun _ hk => trivial), by repeat (first | (with_reducible first | exact HB.out | apply below_alloc | apply pw_below_drewN | apply below_drew1 | refine below_set ?_ GE325.out) | exact HB.out)⟩
 ·replace c5 := Bool.eq_false_iff.mpr c5
  subst c5
  have H1 : (some ((([] : List Int)), false)) = some (r1, r2) := by rw [if_neg (show ¬ (false = true) by decide)] at H; exact H
  clear H
  have H := H1
  clear H1
  obtain ⟨y328, hy328⟩ : ∃ y_ : List Int, y_ = (([] : List Int)) := ⟨_, rfl⟩
  replace H : (some (y328, false)) = some (r1, r2) := by first | (rw [hy328]; with_reducible exact H) | (have H2_ := (Option.bind_some _ _).symm.trans H; rw [hy328]; with_reducible exact H2_) | (have H2_ := (Option.bind_some _ _).symm.trans H; with_reducible exact H2_) | with_reducible exact H | (rw [hy328]; exact H) | exact H
  have Ny328 := aM hy328
  clear hy328
  simp only [Option.some.injEq, Prod.mk.injEq] at H
  obtain ⟨rfl, rfl⟩ := H
  go_enter Try.func44, Try.ntmps44
  go_wp2_with (first | ((with_reducible refine gate_dst (N := 2) rfl ?_); refine box_event ?hg (N := 2) ?hd (cs := #[.slice A0_0 l0_0.length c0_0, .slice A0_1 l0_1.length c0_1]) (t := 32) ?hr ?_; (case hd => rfl); (case hg => rfl); (case hr => first | (go_simp; done) | (go_simp; rfl)); intro gb325 hg w28 hbox hb; have n0_ := aM (below_step aB hb); have n1_ := aM (hbox); have n2_ := aM ((by rw [hg]; exact (below_size aB) : w.heap.size ≤ gb325)); have n3_ := aM ((by rw [hg]; exact (below_size aB) : w.heap.size ≤ gb325)); clear HB; have HB := n0_; have BK325 := n1_; have GW325 := n2_; have GE325 := n3_; clear n0_ n1_ n2_ n3_; clear hb hbox hg; have hcz29_0 : w28.cell? ⟨gb325, 0, none⟩ = some (.slice A0_0 l0_0.length c0_0) := (blk_cell BK325.out 0).trans rfl; have hcz29_1 : w28.cell? ⟨gb325, 1, none⟩ = some (.slice A0_1 l0_1.length c0_1) := (blk_cell BK325.out 1).trans rfl; have hfz29_0 := blk_frozen BK325.out 0; have hfz29_1 := blk_frozen BK325.out 1) | ((with_reducible refine gate_callee (f := 84) rfl ?_); refine goesL_ (some 11) rfl rfl Try.func84 (by kernel_rfl) rfl #[.agg #[.slice A0_0 l0_0.length c0_0, .slice A0_1 l0_1.length c0_1]] rfl (by (try simp only [List.map_toArray, List.map_cons, List.map_nil]); first | done | rfl | (simp only [List.length_drop, List.length_take]; rfl)) ?_; (with_reducible refine (spec_CountRepairs.calls k _ _ l0_0 _ _ l0_1 t326 _ ?side1 ?side2 ?side3 ?side4 A3.out).mono ?_); (case side1 => exact aC); (case side2 => exact HC0_0.out); (case side3 => exact aC); (case side4 => exact HC0_1.out); rintro e w30 ⟨rfl, hb⟩; refine ⟨_, rfl, ?_⟩; have n0_ := aM (blk_below (g := gb325) (o := .cells #[.slice A0_0 l0_0.length c0_0, .slice A0_1 l0_1.length c0_1] 32 (0, 0)) aK hb); have n1_ := aM (below_step aG hb); clear BK325; clear HB; have BK325 := n0_; have HB := n1_; clear n0_ n1_; (try clear hb); (try clear hb2); (try clear hk); (try clear hi)) | ((with_reducible refine gate_callee (f := 64) rfl ?_); refine goesL_ (some 13) rfl rfl Try.func64 (by kernel_rfl) rfl #[.int .i64 a1, .int .i64 0, .int .i64 (wrap64 (t326 - 1))] rfl (by (try simp only [List.map_toArray, List.map_cons, List.map_nil]); first | done | rfl | (simp only [List.length_drop, List.length_take]; rfl)) ?_; (with_reducible refine (spec_l1In.calls a1 0 (wrap64 (t326 - 1)) false _ A4.out).mono ?_); rintro e w' ⟨rfl, ⟨nd, rfl⟩⟩; refine ⟨_, rfl, ?_⟩) | ((with_reducible refine gate_dst (N := 15) rfl ?_); refine Kd.R_lit (Kd.int .i64) _ 3 ?hg (N := 15) ?hd (xs := ([] : List Int)) (inner := []) (ok := fun _ => True) (okp := fun _ => True) ?hr ?hp (fun _ hk => hk) trivial (Below.refl _ _) (Nat.le_refl _) (by simp) ?_; (case hd => rfl); (case hg => rfl); (case hr => first | (go_simp; done) | (go_simp; rfl)); (case hp => exact (Reps.none _ _)); intro v329 w31 ho32 hb hg_ hnew_; clear hg_ hnew_; (first | rw [← Ny328.out] at ho32 | (simp only [Int.reduceToNat] at ho32; rw [← Ny328.out] at ho32)); have n0_ := aM (Kd.R_lower ho32 (below_size aG)); have n1_ := aM (blk_below (g := gb325) (o := .cells #[.slice A0_0 l0_0.length c0_0, .slice A0_1 l0_1.length c0_1] 32 (0, 0)) aK hb); have n2_ := aM (below_step aG hb); clear BK325; clear HB; have HO330 := n0_; have BK325 := n1_; have HB := n2_; clear n0_ n1_ n2_; clear hb ho32))
  go_ret2
  exact ⟨_, by first | rfl | (simp [errW_none, errW_some] <;> rfl) | (simp [*, errW_none, errW_some] <;> rfl), aR HO330, by repeat (first | (with_reducible first | exact HB.out | apply below_alloc | apply pw_below_drewN | apply below_drew1 | refine below_set ?_ GE325.out) | exact HB.out)⟩

/-! ### slices_Equal_int_int: function 113 -/
def slices_Equal_int_int.l0 : Nat → List Int → List Int → Int → Int → Option (Bool)
 | 0, _, _, _, _ => none
 | k + 1, x0, x1, x12, x13 => if x13 < x12 then (if 0 ≤ x13 then (if x13 < (x0.length : Int) then (if x13 < (x1.length : Int) then (if (rd x0 x13) = (rd x1 x13) then (slices_Equal_int_int.l0 k x0 x1 x12 (wrap64 (x13 + 1))) else (some false)) else (none)) else (none)) else (none)) else (some true)
def slices_Equal_int_int.f (k : Nat) (l0 : List Int) (l1 : List Int) : Option (Bool) := if (l0.length : Int) = (l1.length : Int) then (slices_Equal_int_int.l0 k l0 l1 (l0.length : Int) 0) else (some false)
set_option maxHeartbeats 8000000 in
set_option maxRecDepth 100000 in
theorem slices_Equal_int_int.calls (k : Nat) (A0 : Option Addr) (c0 : Nat) (l0 : List Int) (A1 : Option Addr) (c1 : Nat) (l1 : List Int) (r : Bool) (w : World) (hr0 : Kd.C (Kd.int .i64) w A0 l0.length l0) (hc0 : l0.length ≤ c0) (hr1 : Kd.C (Kd.int .i64) w A1 l1.length l1) (hc1 : l1.length ≤ c1) (h : slices_Equal_int_int.f k l0 l1 = some r) :
  Calls Try.prog 113 #[.slice A0 l0.length c0, .slice A1 l1.length c1] w fun e w' => e = .returned (.bool r) ∧ Drawn0 w w' := by
 have rg_ := @bcl w
 have rd_ := @bdr w
 unfold slices_Equal_int_int.f at h
 replace h := iq h; rcases h with ⟨c0, ⟨c0a, c0b⟩, h⟩ | ⟨c0, ⟨c0a, c0b⟩, h⟩
 have cz := c0.out
 have c0x1 : (l0.length == l1.length) = true := by first | simpa using cz | (simp at cz ⊢; omega)
 clear cz
 ·go_enter Try.func113, Try.ntmps113
  go_wp2
  (repeat ((refine nw (w0 := w) zB ?_; intro W1 HB hb hd; (first | (refine Txt.rg (id := 6) [0, 1, 2, 3, 4, 5, 6, 7, 8] (by kernel_rfl) (by kernel_rfl) ?_; simp only [List.map_cons, List.map_nil, List.getD_cons_zero, List.getD_cons_succ])); (repeat (first | (refine Txt.off rfl ?_; simp only [Act.put, List.setIfInBounds_toArray, List.set_cons_zero, List.set_cons_succ]) | (refine Txt.take rfl rfl ?_; intro K hK; go_big_quiet_op; go_big_quiet_on))); refine Txt.nil ?_); (try go_wp2)))
  go_loopg [13] k (fun kq v13 w' => ∃ (x13_1 : Int), v13 = .int .i64 x13_1 ∧ slices_Equal_int_int.l0 kq l0 l1 (l0.length : Int) x13_1 = some r ∧ Drawn0 w w')
  case atStart => exact ⟨_, zR, zA, zD⟩
  case round =>
   clear h
   obtain ⟨x13_1, rfl, h, hb⟩ := hrel
   have hd := hb
   replace hb := hb.below
   replace hb := aM hb
   have HB : Below w.heap.size w wr := zB
   rcases gk with _ | kk1
   exact absurd h (by simp [slices_Equal_int_int.l0])
   simp only [slices_Equal_int_int.l0] at h
   replace h := il h; rcases h with ⟨c2, c2a, h⟩ | ⟨c2, c2a, h⟩
   replace h := ie h; rcases h with ⟨c3, c3a, h⟩ | ⟨c3, c3a, h⟩
   replace h := il h; rcases h with ⟨c4, c4a, h⟩ | ⟨c4, c4a, h⟩
   replace h := il h; rcases h with ⟨c5, c5a, h⟩ | ⟨c5, c5a, h⟩
   replace h := iq h; rcases h with ⟨c6, ⟨c6a, c6b⟩, h⟩ | ⟨c6, ⟨c6a, c6b⟩, h⟩
   obtain ⟨kf, hkf⟩ : ∃ kf, kf = kk1 := ⟨_, rfl⟩; rw [← hkf] at h
   obtain ⟨ad347, e347, hx347_0⟩ := Kd.at_int hr0 (x13_1 : Int) aD aD
   have p347 := eq_true (aD : 0 ≤ (x13_1 : Int))
   have q347 := eq_true (aD : x13_1 < (l0.length : Int))
   cases e347
   replace hx347_0 := qa hx347_0
   obtain ⟨ad348, e348, hx348_0⟩ := Kd.at_int hr1 (x13_1 : Int) aD aD
   have p348 := eq_true (aD : 0 ≤ (x13_1 : Int))
   have q348 := eq_true (aD : x13_1 < (l1.length : Int))
   cases e348
   replace hx348_0 := qa hx348_0
   rotate_left
   obtain rfl := si h
   obtain ⟨ad347, e347, hx347_0⟩ := Kd.at_int hr0 (x13_1 : Int) aD aD
   have p347 := eq_true (aD : 0 ≤ (x13_1 : Int))
   have q347 := eq_true (aD : x13_1 < (l0.length : Int))
   cases e347
   replace hx347_0 := qa hx347_0
   obtain ⟨ad348, e348, hx348_0⟩ := Kd.at_int hr1 (x13_1 : Int) aD aD
   have p348 := eq_true (aD : 0 ≤ (x13_1 : Int))
   have q348 := eq_true (aD : x13_1 < (l1.length : Int))
   cases e348
   replace hx348_0 := qa hx348_0
   rotate_left
   exact absurd h (by simp)
   exact absurd h (by simp)
   exact absurd h (by simp)
   obtain rfl := si h
   rotate_left
   all_goals (go_wp2; (repeat ((refine nw (w0 := w) zB ?_; intro W1 HB hb hd; (first | (refine Txt.rg (id := 6) [0, 1, 2, 3, 4, 5, 6, 7, 8] (by kernel_rfl) (by kernel_rfl) ?_; simp only [List.map_cons, List.map_nil, List.getD_cons_zero, List.getD_cons_succ])); (repeat (first | (refine Txt.off rfl ?_; simp only [Act.put, List.setIfInBounds_toArray, List.set_cons_zero, List.set_cons_succ]) | (refine Txt.take rfl rfl ?_; intro K hK; go_big_quiet_op; go_big_quiet_on))); refine Txt.nil ?_); (try go_wp2))); first | (go_ret; exact zE zD) | (go_roundg kf; (case measure => omega); (case rel => exact ⟨_, zR, zA, zD⟩)))
 have cz := c0.out
 have c0x1 : (l0.length == l1.length) = false := by first | simpa using cz | (simp at cz ⊢; omega)
 clear cz
 obtain rfl := si h
 rotate_left
 all_goals (go_enter Try.func113, Try.ntmps113; go_wp2; (repeat ((refine nw (w0 := w) zB ?_; intro W1 HB hb hd; (first | (refine Txt.rg (id := 6) [0, 1, 2, 3, 4, 5, 6, 7, 8] (by kernel_rfl) (by kernel_rfl) ?_; simp only [List.map_cons, List.map_nil, List.getD_cons_zero, List.getD_cons_succ])); (repeat (first | (refine Txt.off rfl ?_; simp only [Act.put, List.setIfInBounds_toArray, List.set_cons_zero, List.set_cons_succ]) | (refine Txt.take rfl rfl ?_; intro K hK; go_big_quiet_op; go_big_quiet_on))); refine Txt.nil ?_); (try go_wp2))); go_ret; exact zE zD)

/-! ### impl_sameKey: function 104 -/
theorem eqInts_go (x y : List Int) (hx : x.length ≤ 9223372036854775807) (hl : y.length = x.length) (d : Nat) : ∀ (i : Nat), i + d = x.length → slices_Equal_int_int.l0 (d + 1) x y x.length i = some (decide (x.drop i = y.drop i)) := by
 induction d with
 | zero =>
  intro i hd
  rw [slices_Equal_int_int.l0, if_neg (by omega), List.drop_of_length_le (by omega), List.drop_of_length_le (by omega)]
  rfl
 | succ d ih =>
  intro i hd
  rw [slices_Equal_int_int.l0, if_pos (by omega), if_pos (by omega), if_pos (by omega), if_pos (by omega), List.drop_eq_getElem_cons (i := i) (l := x) (by omega), List.drop_eq_getElem_cons (i := i) (l := y) (by omega)]
  have e1 : rd x (i : Int) = x[i] := by unfold rd; rw [Int.toNat_natCast, List.getD_eq_getElem?_getD, List.getElem?_eq_getElem (by omega)]; rfl
  have e2 : rd y (i : Int) = y[i] := by unfold rd; rw [Int.toNat_natCast, List.getD_eq_getElem?_getD, List.getElem?_eq_getElem (by omega)]; rfl
  rw [e1, e2, show wrap64 ((i : Int) + 1) = ((i + 1 : Nat) : Int) by unfold wrap64; omega]
  by_cases h : x[i] = y[i]
  ·rw [if_pos h, ih (i + 1) (by omega)]
   exact congrArg some (decide_eq_decide.2 ⟨fun e => by rw [h, e], fun e => (List.cons.inj e).2⟩)
  ·rw [if_neg h]
   exact congrArg some (decide_eq_false fun e => h (List.cons.inj e).1).symm
theorem eqInts (x y : List Int) (hx : x.length ≤ 9223372036854775807) : slices_Equal_int_int.f (x.length + 1) x y = some (decide (x = y)) := by
 unfold slices_Equal_int_int.f
 by_cases h : x.length = y.length
 ·rw [if_pos (by omega)]
  exact eqInts_go x y hx h.symm x.length 0 (by omega)
 ·rw [if_neg (by omega), decide_eq_false]
  rintro rfl
  exact h rfl
/-- The two facts' keys are one. -/
def impl_sameKey.f (l0 : List S86) (a1_0 : Int) (l1_1 : List Int) (a2_0 : Int) (l2_1 : List Int) : Option Bool :=
 if a1_0 = a2_0 then
  (if 0 ≤ a1_0 ∧ a1_0 < (l0.length : Int) ∧ 0 ≤ (rd_T86 l0 a1_0).f2 ∧ (rd_T86 l0 a1_0).f2 ≤ (l1_1.length : Int) ∧ (rd_T86 l0 a1_0).f2 ≤ (l2_1.length : Int) then
   some (decide (l1_1.take ((rd_T86 l0 a1_0).f2).toNat = l2_1.take ((rd_T86 l0 a1_0).f2).toNat)) else none)
 else some false
set_option maxHeartbeats 4000000 in
set_option maxRecDepth 100000 in
theorem impl_sameKey.calls (A0 : Option Addr) (c0 : Nat) (l0 : List S86) (a1_0 : Int) (A1_1 : Option Addr) (c1_1 : Nat) (l1_1 : List Int) (a2_0 : Int) (A2_1 : Option Addr) (c2_1 : Nat) (l2_1 : List Int) (r : Bool) (w : World) (hr0 : Kd.C k86 w A0 l0.length l0) (hc0 : l0.length ≤ c0) (hr1_1 : Kd.C (Kd.int .i64) w A1_1 l1_1.length l1_1) (hc1_1 : l1_1.length ≤ c1_1) (hr2_1 : Kd.C (Kd.int .i64) w A2_1 l2_1.length l2_1) (hc2_1 : l2_1.length ≤ c2_1) (h : impl_sameKey.f l0 a1_0 l1_1 a2_0 l2_1 = some r) :
  Calls Try.prog 104 #[.slice A0 l0.length c0, .agg #[.int .i64 a1_0, .slice A1_1 l1_1.length c1_1], .agg #[.int .i64 a2_0, .slice A2_1 l2_1.length c2_1]] w fun e w' => e = .returned (.bool r) ∧ Below w.heap.size w w' := by
 have hu := Try.underlying50
 unfold impl_sameKey.f at h
 by_cases c1 : a1_0 = a2_0
 ·rw [if_pos c1] at h
  by_cases c2 : 0 ≤ a1_0 ∧ a1_0 < (l0.length : Int) ∧ 0 ≤ (rd_T86 l0 a1_0).f2 ∧ (rd_T86 l0 a1_0).f2 ≤ (l1_1.length : Int) ∧ (rd_T86 l0 a1_0).f2 ≤ (l2_1.length : Int)
  ·rw [if_pos c2] at h
   obtain rfl := Option.some.inj h
   subst c1
   obtain ⟨p0, p1, p2, p3, p4⟩ := c2
   obtain ⟨ad, e, h0, h1, h2⟩ := at_T86 hr0 a1_0 p0 p1
   cases e
   generalize (rd_T86 l0 a1_0).f2 = n at *
   clear h0 h1 h
   obtain ⟨i0, hi, _, hsz, _⟩ := info_parts info3
   obtain ⟨hcA, hRA, hCA⟩ := print_take_of (P := Try.prog) (Value.int .i64) 0 26 3 .i64 Try.underlying26 hi hsz A1_1 c1_1 l1_1 n p2 p3 hc1_1
   obtain ⟨hcB, hRB, hCB⟩ := print_take_of (P := Try.prog) (Value.int .i64) 0 26 3 .i64 Try.underlying26 hi hsz A2_1 c2_1 l2_1 n p2 p4 hc2_1
   have CA : Kd.C (Kd.int .i64) w A1_1 (l1_1.take n.toNat).length (l1_1.take n.toNat) := Kd.C_of_reads (h1 := fun _ => rfl) (hRA _ (Kd.reads_of_C hr1_1))
   have CB : Kd.C (Kd.int .i64) w A2_1 (l2_1.take n.toNat).length (l2_1.take n.toNat) := Kd.C_of_reads (h1 := fun _ => rfl) (hRB _ (Kd.reads_of_C hr2_1))
   have hle : (l1_1.take n.toNat).length ≤ 9223372036854775807 := CA.2.1
   have HE := aM (eqInts (l1_1.take n.toNat) (l2_1.take n.toNat) hle)
   have CA := aM CA
   have CB := aM CB
   have HCA := aM hCA
   have HCB := aM hCB
   clear hRA hRB hCA hCB hle hr0 hr1_1 hr2_1 hi hsz hc0 hc1_1 hc2_1
   have HN : Aside0 (∀ W : World, Below w.heap.size w W → ∀ d os, Calls Try.prog 113 #[.slice A1_1 (l1_1.take n.toNat).length c1_1, .slice A2_1 (l2_1.take n.toNat).length c2_1] (Go.Sort.grow (redrawn W d) os) fun e w'' => e = .returned (.bool (decide (l1_1.take n.toNat = l2_1.take n.toNat))) ∧ ∃ p : Regrown, w'' = Go.Sort.grow (redrawn W p.d) p.os) :=
    ⟨fun W hb d os => Calls.regrown_of (calls_below_of_drawn (slices_Equal_int_int.calls ((l1_1.take n.toNat).length + 1) A1_1 c1_1 (l1_1.take n.toNat) A2_1 c2_1 (l2_1.take n.toNat) _ _ (Kd.C_below CA.out (below_then hb hb.size (below_regrown W d os))) HCA.out (Kd.C_below CB.out (below_then hb hb.size (below_regrown W d os))) HCB.out HE.out))⟩
   clear CA CB HCA HCB HE
   generalize decide (l1_1.take n.toNat = l2_1.take n.toNat) = bb at HN ⊢
   generalize (l1_1.take n.toNat).length = nA at HN hcA
   generalize (l2_1.take n.toNat).length = nB at HN hcB
   have F0 : Aside0 (((w.alloc (.cells #[.int .i64 a1_0, .slice A1_1 l1_1.length c1_1] 50)).alloc (.cells #[.int .i64 a1_0, .slice A2_1 l2_1.length c2_1] 50)).cell? ⟨w.heap.size, 1, none⟩ = some (.slice A1_1 l1_1.length c1_1)) :=
    ⟨have hk := (blk_cell (heap_alloc_new w (.cells #[.int .i64 a1_0, .slice A1_1 l1_1.length c1_1] 50)) 1).trans rfl; (World.cell?_alloc_lt _ _ _ (World.block_lt_of_cell? _ _ hk)).trans hk⟩
   have F1 : Aside0 (((w.alloc (.cells #[.int .i64 a1_0, .slice A1_1 l1_1.length c1_1] 50)).alloc (.cells #[.int .i64 a1_0, .slice A2_1 l2_1.length c2_1] 50)).cell? ⟨w.heap.size + 1, 1, none⟩ = some (.slice A2_1 l2_1.length c2_1)) :=
    ⟨by
     have hz : (w.alloc (.cells #[.int .i64 a1_0, .slice A1_1 l1_1.length c1_1] 50)).heap.size = w.heap.size + 1 := by show (Array.push _ _).size = _; exact Array.size_push ..
     have hk := heap_alloc_new (w.alloc (.cells #[.int .i64 a1_0, .slice A1_1 l1_1.length c1_1] 50)) (.cells #[.int .i64 a1_0, .slice A2_1 l2_1.length c2_1] 50)
     rw [hz] at hk
     exact (blk_cell hk 1).trans rfl⟩
   have B2 : Aside0 (Below w.heap.size w ((w.alloc (.cells #[.int .i64 a1_0, .slice A1_1 l1_1.length c1_1] 50)).alloc (.cells #[.int .i64 a1_0, .slice A2_1 l2_1.length c2_1] 50))) := ⟨below_alloc (below_alloc (Below.refl _ _) _) _⟩
   have H2 : ((w.alloc (.cells #[.int .i64 a1_0, .slice A1_1 l1_1.length c1_1] 50)).alloc (.cells #[.int .i64 a1_0, .slice A2_1 l2_1.length c2_1] 50)).cell? ⟨(ad.add (a1_0.toNat * 3)).block, (ad.add (a1_0.toNat * 3)).off + 2, none⟩ = some (.int .i64 n) :=
    have hk := (World.cell?_alloc_lt _ _ _ (World.block_lt_of_cell? _ _ h2)).trans h2
    (World.cell?_alloc_lt _ _ _ (World.block_lt_of_cell? _ _ hk)).trans hk
   clear h2
   have q0 : decide (0 ≤ a1_0) = true := decide_eq_true p0
   have q1 : decide (a1_0 < (l0.length : Int)) = true := decide_eq_true p1
   go_enter Try.func104, Try.ntmps104
   go_wp2_with fail
   clear H2
   generalize (w.alloc (.cells #[.int .i64 a1_0, .slice A1_1 l1_1.length c1_1] 50)).alloc (.cells #[.int .i64 a1_0, .slice A2_1 l2_1.length c2_1] 50) = w2 at F0 F1 B2 ⊢
   have f0 := cell_regrown F0.out
   have f1 := cell_regrown F1.out
   have HC := aM (HN.out w2 B2.out)
   clear F0 F1 HN
   refine wp_region_quiet_below (by kernel_rfl) (by kernel_rfl) ?_
   repeat (go_big_quiet_step (exact HC.out _ _))
   refine wpQuiet_nil ?_
   intro _ hw'
   obtain ⟨⟨dq, osq⟩, hw''⟩ := hw'
   subst hw''
   go_wp2
   go_ret
   exact ⟨rfl, below_then B2.out B2.out.size (below_regrown _ _ _)⟩
  ·rw [if_neg c2] at h
   exact absurd h (by simp)
 ·rw [if_neg c1] at h
  obtain rfl := Option.some.inj h
  have b0 : (a1_0 == a2_0) = false := by simpa using c1
  have b1 : (a1_0 != a2_0) = true := by simpa using c1
  go_enter Try.func104, Try.ntmps104
  go_wp2
  go_ret
  exact ⟨rfl, below_alloc (below_alloc (Below.refl _ _) _) _⟩


end Go.Proofs.Ytehlhbidmanbmaa.PFnExactNthRepair
