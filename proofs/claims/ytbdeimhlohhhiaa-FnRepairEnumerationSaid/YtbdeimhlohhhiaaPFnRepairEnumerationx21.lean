import Derived.Test.YtbdeimhlohhhiaaPFnRepairEnumerationx0
import Derived.Test.YtbdeimhlohhhiaaPFnRepairEnumerationx6
import Derived.Test.YtbdeimhlohhhiaaPFnRepairEnumerationx9
import Derived.Test.YtbdeimhlohhhiaaPFnRepairEnumerationx10
import Derived.Test.YtbdeimhlohhhiaaPFnRepairEnumerationx20
namespace Go.Proofs.Ytbdeimhlohhhiaa.PFnRepairEnumeration
open Go.RowKit Go.Proofs.YtbdeimhlohhhiaaW.PrintWords Go.Proofs.YtbdeimhlohhhiaaW.PrintLast Go.Proofs.YtbdeimhlohhhiaaW.PrintMore
attribute [local go_sem] max2_int min2_int max_two min_two max_three min_three max_four min_four
set_option linter.unusedVariables false
set_option linter.unusedSimpArgs false

/-! ### spec_NthRepair: function 36 -/
def spec_NthRepair.l0 : Nat → Int → List (List Int) → List Int → Int → Option (List Int × Bool)
 | 0, _, _, _, _ => none
 | k + 1, x1, x6, x7, x8 => if x8 ≥ 0 then (if 0 ≤ x8 then (if x8 < (x6.length : Int) then (if ((rd_L4 x6 x8).length : Int) = 0 then (none) else (if 0 ≤ (Int.tmod x1 ((rd_L4 x6 x8).length : Int)) then (if (Int.tmod x1 ((rd_L4 x6 x8).length : Int)) < ((rd_L4 x6 x8).length : Int) then (if x7.length < 17592186044416 then (spec_NthRepair.l0 k (wrap64 (Int.tdiv x1 ((rd_L4 x6 x8).length : Int))) x6 (x7 ++ [rd (rd_L4 x6 x8) (Int.tmod x1 ((rd_L4 x6 x8).length : Int))]) (wrap64 (x8 - 1))) else (none)) else (none)) else (none))) else (none)) else (none)) else ((spec_l7Sorted.f k x7).bind fun t681 => (some (t681, true)))
def spec_NthRepair.f (k : Nat) (l0_0 : List (S70)) (l0_1 : List (S35)) (a1 : Int) : Option (List Int × Bool) := (spec_CountRepairs.f k l0_0 l0_1).bind fun t663 => ((spec_l1In.f a1 0 (wrap64 (t663 - 1))).bind fun t664 => (if t664 = true then ((spec_Blocks.f k l0_0 l0_1).bind fun t668 => (spec_NthRepair.l0 k a1 t668 (([] : List Int)) (wrap64 ((t668.length : Int) - 1)))) else (some ((([] : List Int)), false))))
def spec_NthRepair.T8 : Bool × List (List Nat × List Nat) := (true, [([], []), ([], []), ([], []), ([1, 2], [1, 2]), ([3], [3]), ([], []), ([], []), ([], []), ([6, 7], [6, 7]), ([8], [8]), ([9], [9]), ([5, 10], [5, 10]), ([4, 11], [4, 11]), ([12], [12]), ([13], [13]), ([0, 14], [0, 14]), ([15, 15, 0, 1, 2, 3, 4, 5, 6, 7, 8, 9, 10, 11, 12, 13, 14, 15], [0, 15])])
def spec_NthRepair.B8 : List Nat := [0, 0, 0, 6, 14, 0, 0, 0, 192, 448, 960, 2016, 4094, 8190, 16382, 32767, 65535]
theorem spec_NthRepair.tab8 : rtab .any (opsOf Try.f36 8) = spec_NthRepair.T8 := by kernel_rfl
theorem spec_NthRepair.bits8 : waitsOk spec_NthRepair.T8.2 spec_NthRepair.B8 = true := by kernel_rfl
set_option maxHeartbeats 8000000 in
set_option maxRecDepth 100000 in
theorem spec_NthRepair.calls (k : Nat) (A0_0 : Option Addr) (c0_0 : Nat) (l0_0 : List (S70)) (A0_1 : Option Addr) (c0_1 : Nat) (l0_1 : List (S35)) (a1 : Int) (r1 : List Int) (r2 : Bool) (w : World) (hr0_0 : Kd.C k70 w A0_0 l0_0.length l0_0) (hc0_0 : l0_0.length ≤ c0_0) (hr0_1 : Kd.C k35 w A0_1 l0_1.length l0_1) (hc0_1 : l0_1.length ≤ c0_1) (h : spec_NthRepair.f k l0_0 l0_1 a1 = some (r1, r2)) :
  Calls Try.prog 36 #[.agg #[.slice A0_0 l0_0.length c0_0, .slice A0_1 l0_1.length c0_1], .int .i64 a1] w fun e w' => ∃ v0_ : Value, e = .returned (.tuple #[v0_, .bool r2]) ∧ Kd.R (Kd.int .i64) 3 w' w.heap.size (fun _ => True) v0_ r1 ∧ Below w.heap.size w w' := by
 have hu27 := Try.underlying27
 have HR0_0 := aM hr0_0
 have HC0_0 := aM hc0_0
 clear hr0_0 hc0_0
 have HR0_1 := aM hr0_1
 have HC0_1 := aM hc0_1
 clear hr0_1 hc0_1
 have HB := aM (Below.refl w.heap.size w)
 have H : ((spec_CountRepairs.f k l0_0 l0_1).bind fun t663 => ((spec_l1In.f a1 0 (wrap64 (t663 - 1))).bind fun t664 => (if t664 = true then ((spec_Blocks.f k l0_0 l0_1).bind fun t668 => (spec_NthRepair.l0 k a1 t668 (([] : List Int)) (wrap64 ((t668.length : Int) - 1)))) else (some ((([] : List Int)), false))))) = some (r1, r2) := h
 clear h
 replace H := bM H
 obtain ⟨t663, A30, H⟩ := H
 have A3 := aM A30
 clear A30
 replace H := bM H
 obtain ⟨t664, A40, H⟩ := H
 have A4 := aM A40
 clear A40
 by_cases c5 : t664 = true
 ·subst c5
  replace H := iT H
  replace H := bM H
  obtain ⟨t668, A60, H⟩ := H
  have A6 := aM A60
  clear A60
  obtain ⟨y671, hy671⟩ : ∃ y_ : List Int, y_ = (([] : List Int)) := ⟨_, rfl⟩
  first | replace H := bY hy671 H | rw [← hy671] at H
  have Ny671 := aM hy671
  clear hy671
  have H' := aM H
  clear H
  go_enter Try.func36, Try.ntmps36
  go_wp2_with (first | ((with_reducible refine gate_dst (N := 2) rfl ?_); refine bE 2 (cs := #[.slice A0_0 l0_0.length c0_0, .slice A0_1 l0_1.length c0_1]) (t := 27) ?_; intro gb662 hg w7 hbox hb; have BK662 := aM (hbox); have GW662 := aM ((by rw [hg]; exact (below_size aB) : w.heap.size ≤ gb662)); have GE662 := aM ((by rw [hg]; exact (below_size aB) : w.heap.size ≤ gb662)); replace HB := aM (below_step aB hb); clear hb hbox hg; have hcz8_0 : w7.cell? ⟨gb662, 0, none⟩ = some (.slice A0_0 l0_0.length c0_0) := (blk_cell BK662.out 0).trans rfl; have hcz8_1 : w7.cell? ⟨gb662, 1, none⟩ = some (.slice A0_1 l0_1.length c0_1) := (blk_cell BK662.out 1).trans rfl; have hfz8_0 := blk_frozen BK662.out 0; have hfz8_1 := blk_frozen BK662.out 1) | ((with_reducible refine gate_callee (f := 37) rfl ?_); refine goesL_ (some 11) rfl rfl Try.func37 (by kernel_rfl) rfl #[.agg #[.slice A0_0 l0_0.length c0_0, .slice A0_1 l0_1.length c0_1]] rfl aA ?_; (with_reducible refine (spec_CountRepairs.calls k _ _ l0_0 _ _ l0_1 t663 _ ?side1 ?side2 ?side3 ?side4 A3.out).mono ?_); (case side1 => exact aC); (case side2 => exact HC0_0.out); (case side3 => exact aC); (case side4 => exact HC0_1.out); rintro e w9 ⟨rfl, hb⟩; refine ⟨_, rfl, ?_⟩; replace BK662 := aM (kB gb662 #[.slice A0_0 l0_0.length c0_0, .slice A0_1 l0_1.length c0_1] 27 hb); replace HB := aM (below_step aG hb); (try clear hb); (try clear hb2); (try clear hk); (try clear hi)) | ((with_reducible refine gate_callee (f := 70) rfl ?_); refine goesL_ (some 13) rfl rfl Try.func70 (by kernel_rfl) rfl #[.int .i64 a1, .int .i64 0, .int .i64 (wrap64 (t663 - 1))] rfl aA ?_; (with_reducible refine (spec_l1In.calls a1 0 (wrap64 (t663 - 1)) true _ A4.out).mono ?_); rintro e w' ⟨rfl, ⟨nd, rfl⟩⟩; refine ⟨_, rfl, ?_⟩; have hcz10_0 : w9.cell? ⟨gb662, 0, none⟩ = some (.slice A0_0 l0_0.length c0_0) := (blk_cell BK662.out 0).trans rfl; have hcz10_1 : w9.cell? ⟨gb662, 1, none⟩ = some (.slice A0_1 l0_1.length c0_1) := (blk_cell BK662.out 1).trans rfl; have hfz10_0 := blk_frozen BK662.out 0; have hfz10_1 := blk_frozen BK662.out 1) | ((with_reducible refine gate_callee (f := 65) rfl ?_); refine goesL_ (some 17) rfl rfl Try.func65 (by kernel_rfl) rfl #[.agg #[.slice A0_0 l0_0.length c0_0, .slice A0_1 l0_1.length c0_1]] rfl aA ?_; (with_reducible refine (spec_Blocks.calls k _ _ l0_0 _ _ l0_1 t668 _ ?side1 ?side2 ?side3 ?side4 A6.out).mono ?_); (case side1 => repeat (first | exact (Kd.C_below HR0_0.out aG) | (with_reducible refine pC ?_))); (case side2 => exact HC0_0.out); (case side3 => repeat (first | exact (Kd.C_below HR0_1.out aG) | (with_reducible refine pC ?_))); (case side4 => exact HC0_1.out); rintro e w11 ⟨v669, rfl, ho0, hb⟩; refine ⟨_, rfl, ?_⟩; have HO670 := aM (Kd.S_lower ho0 (below_size aG)); replace BK662 := aM (kB gb662 #[.slice A0_0 l0_0.length c0_0, .slice A0_1 l0_1.length c0_1] 27 hb); replace HB := aM (below_step aG hb); (try clear hb); (try clear hb2); (try clear hk); (try clear hi); (try clear ho0)) | ((with_reducible refine gate_dst (N := 18) rfl ?_); refine Kd.R_lit (Kd.int .i64) _ 3 ?hg (N := 18) ?hd (xs := ([] : List Int)) (inner := []) (ok := fun _ => True) (okp := fun _ => True) ?hr ?hp (fun _ hk => hk) trivial (Below.refl _ _) (Nat.le_refl _) (by simp) ?_; (case hd => rfl); (case hg => rfl); (case hr => first | (go_simp; done) | (go_simp; rfl)); (case hp => exact (Reps.none _ _)); intro v672 w12 ho13 hb hg_ hnew_; clear hg_ hnew_; (first | rw [← Ny671.out] at ho13 | (simp only [Int.reduceToNat] at ho13; rw [← Ny671.out] at ho13)); have HO673 := aM (Kd.R_lower ho13 (below_size aG)); replace HO670 := aM (Kd.S_elder' (aS HO670) (Kd.R_base ho13) hb); replace BK662 := aM (kB gb662 #[.slice A0_0 l0_0.length c0_0, .slice A0_1 l0_1.length c0_1] 27 hb); replace HB := aM (below_step aG hb); clear hb ho13; obtain ⟨Ao14, co14, eo14⟩ := Kd.S_slice HO670.out; subst eo14))
  go_loopg [1, 7, 8] k (fun kq v1 v7 v8 w' => ∃ (x1_1 : Int) (x7_1 : List Int) (x8_1 : Int), v1 = .int .i64 x1_1 ∧ v8 = .int .i64 x8_1 ∧ Aside0 (spec_NthRepair.l0 kq x1_1 t668 x7_1 x8_1 = some (r1, r2)) ∧ Aside0 (kq ≤ k) ∧ Aside0 (Kd.S (Kd.slice 3 (Kd.int .i64)) 32 w' w.heap.size (fun k_ => some k_ ≠ (v7 : Value).ownBlock) (.slice Ao14 t668.length co14) t668) ∧ Aside0 (Kd.R (Kd.int .i64) 3 w' w.heap.size (fun _ => True) v7 x7_1) ∧ Aside0 (w'.heap[gb662]? = some (.cells #[(.slice A0_0 l0_0.length c0_0), (.slice A0_1 l0_1.length c0_1)] 27 (0, 0))) ∧ Aside0 (Below w.heap.size w w'))
  case atStart => exact ⟨(a1), (y671), (wrap64 ((t668.length : Int) - 1)), aX, aX, H', ⟨Nat.le_refl _⟩, ⟨by (with_reducible repeat apply pS); exact Kd.S_mono HO670.out (fun _ hk => hk.2)⟩, ⟨aR HO673⟩, ⟨aK⟩, ⟨aG⟩⟩
  case round =>
   clear H'
   try clear p2
   try clear c3
   try clear c5
   try clear c6
   try clear p6
   try clear c7
   try clear hcz10_0
   try clear hcz10_1
   try clear hcz8_0
   try clear hcz8_1
   try clear hfz10_0
   try clear hfz10_1
   try clear hfz8_0
   try clear hfz8_1
   obtain ⟨x1_1, x7_1, x8_1, rfl, rfl, HA, HK1, HO_6, HO_7, BK662, HB⟩ := hrel
   cases gk with
   | zero => exact absurd HA.out (by simp [spec_NthRepair.l0])
   | succ k1 =>
    have H := HA.out
    clear HA
    simp only [spec_NthRepair.l0] at H
    by_cases c15 : x8_1 ≥ 0
    ·rw [if_pos c15] at H
     have c15b0 : decide (0 ≤ x8_1) = true := decide_eq_true c15
     clear c15
     by_cases c16 : 0 ≤ x8_1
     ·rw [if_pos c16] at H
      have c16b0 : decide (0 ≤ x8_1) = true := decide_eq_true c16
      clear c16
      by_cases c17 : x8_1 < (t668.length : Int)
      ·rw [if_pos c17] at H
       have c17b0 : decide (x8_1 < (t668.length : Int)) = true := decide_eq_true c17
       clear c17
       by_cases c18 : ((rd_L4 t668 x8_1).length : Int) = 0
       ·rw [if_pos c18] at H
        exact absurd H (by simp)
       ·rw [if_neg c18] at H
        have c18b0 : (((rd_L4 t668 x8_1).length : Int) == 0) = false := beq_eq_false_iff_ne.mpr c18
        have c18b1 : (((rd_L4 t668 x8_1).length : Int) != 0) = true := bne_iff_ne.mpr c18
        have c18b2 : ¬ ((rd_L4 t668 x8_1) = []) := fun h_ => c18 (by rw [h_]; rfl)
        obtain ⟨ji19, hji19⟩ : ∃ j_ : Int, (Int.tmod x1_1 ((rd_L4 t668 x8_1).length : Int)) = j_ := ⟨_, rfl⟩
        replace H : (if 0 ≤ (ji19) then (if (ji19) < ((rd_L4 t668 x8_1).length : Int) then (if x7_1.length < 17592186044416 then (spec_NthRepair.l0 k1 (wrap64 (Int.tdiv x1_1 ((rd_L4 t668 x8_1).length : Int))) t668 (x7_1 ++ [rd (rd_L4 t668 x8_1) (ji19)]) (wrap64 (x8_1 - 1))) else (none)) else (none)) else (none)) = some (r1, r2) := by first | (rw [hji19] at H; exact H) | (simp only [hji19] at H ⊢; exact H)
        by_cases c20 : 0 ≤ (ji19)
        ·rw [if_pos c20] at H
         have c20b0 : decide (0 ≤ (ji19)) = true := decide_eq_true c20
         clear c20
         by_cases c21 : (ji19) < ((rd_L4 t668 x8_1).length : Int)
         ·rw [if_pos c21] at H
          have c21b0 : decide ((ji19) < ((rd_L4 t668 x8_1).length : Int)) = true := decide_eq_true c21
          clear c21
          by_cases c22 : x7_1.length < 17592186044416
          ·rw [if_pos c22] at H
           have LMc22 := aM c22
           clear c22
           obtain ⟨y677, hy677⟩ : ∃ y_ : List Int, y_ = (x7_1 ++ [rd (rd_L4 t668 x8_1) (ji19)]) := ⟨_, rfl⟩
           first | replace H := bY hy677 H | rw [← hy677] at H
           have Ny677 := aM hy677
           clear hy677
           have H' := aM H
           clear H
           try go_wp2
           replace HO_6 := aM (Kd.S_drew HO_6.out)
           replace HO_7 := aM (Kd.R_drew HO_7.out)
           replace BK662 := aM (blk_drew BK662.out)
           replace HB := aM (below_drew1 HB.out)
           have p674 : 0 ≤ (x8_1 : Int) := aD
           have q674 : x8_1 < (t668.length : Int) := aD
           obtain ⟨ad674, A674_0, c674_0, e674, hx674_0, hl674_0, hi674_0⟩ := at_L4 (Kd.S_reads' HO_6.out).2.2 x8_1 p674 q674
           cases e674
           obtain ⟨ce674, hce674, hMe674, hcc674⟩ := Kd.S_get HO_6.out [] x8_1 p674 (by first | exact q674 | exact aD | (have e_ := (Kd.S_reads' HO_6.out).1; omega))
           obtain ⟨ve674_0, rfl, ge674_0⟩ := hMe674
           have hv674_0 := hcc674 0 _ rfl
           rw [Nat.add_zero, show ((Kd.slice 3 (Kd.int .i64))).sz = 1 from rfl, Nat.mul_one] at hv674_0
           replace hv674_0 := Option.some.inj (hv674_0.symm.trans hx674_0)
           rw [hv674_0] at ge674_0
           have HL674_0 := aM (show Kd.R (Kd.int .i64) 3 _ _ _ _ (rd_L4 t668 x8_1) from ge674_0)
           clear hv674_0 ge674_0
           clear hcc674 hce674
           have HR674_0 := aM hi674_0
           have HC674_0 := aM hl674_0
           clear hi674_0 hl674_0
           replace p674 := eq_true p674
           replace q674 := eq_true q674
           have p675 : 0 ≤ (x8_1 : Int) := aD
           have q675 : x8_1 < (t668.length : Int) := aD
           obtain ⟨ad675, A675_0, c675_0, e675, hx675_0, hl675_0, hi675_0⟩ := at_L4 (Kd.S_reads' HO_6.out).2.2 x8_1 p675 q675
           obtain rfl : ad674 = ad675 := (by injection e675)
           obtain ⟨ce675, hce675, hMe675, hcc675⟩ := Kd.S_get HO_6.out [] x8_1 p675 (by first | exact q675 | exact aD | (have e_ := (Kd.S_reads' HO_6.out).1; omega))
           obtain ⟨ve675_0, rfl, ge675_0⟩ := hMe675
           have hv675_0 := hcc675 0 _ rfl
           rw [Nat.add_zero, show ((Kd.slice 3 (Kd.int .i64))).sz = 1 from rfl, Nat.mul_one] at hv675_0
           replace hv675_0 := Option.some.inj (hv675_0.symm.trans hx675_0)
           rw [hv675_0] at ge675_0
           have HL675_0 := aM (show Kd.R (Kd.int .i64) 3 _ _ _ _ (rd_L4 t668 x8_1) from ge675_0)
           clear hv675_0 ge675_0
           clear hcc675 hce675
           have HR675_0 := aM hi675_0
           have HC675_0 := aM hl675_0
           clear hi675_0 hl675_0
           replace p675 := eq_true p675
           replace q675 := eq_true q675
           have ea_ := Option.some.inj (hx674_0.symm.trans hx675_0)
           injection ea_ with ea_ en_ ec_
           subst ea_
           subst ec_
           clear en_
           have p676 : 0 ≤ ((ji19) : Int) := aD
           have q676 : (ji19) < ((rd_L4 t668 x8_1).length : Int) := aD
           obtain ⟨ad676, e676, hx676_0⟩ := Kd.at_int (by repeat (first | (with_reducible exact HR674_0.out) | (with_reducible refine pC ?_) | exact HR674_0.out)) (ji19) p676 q676
           cases e676
           replace p676 := eq_true p676
           replace q676 := eq_true q676
           refine start_ (n := 17) (S := fun w' => w'.cell? (ad674.add (x8_1).toNat) = some (.slice (some ad676) (rd_L4 t668 x8_1).length c674_0) ∧ w'.cell? (ad674.add (x8_1).toNat) = some (.slice (some ad676) (rd_L4 t668 x8_1).length c674_0) ∧ w'.cell? (ad676.add ((ji19)).toNat) = some (.int .i64 (rd (rd_L4 t668 x8_1) (ji19)))) (ds := [14, 15]) #[false, false, false, false, false, false, false, false, false, false, false, false, false, false, false, false, false] (by kernel_rfl) rfl rfl ⟨hx674_0, hx675_0, hx676_0⟩ (fun hHeld => ?_); refine with_tabW spec_NthRepair.tab8 spec_NthRepair.bits8 (fun HT_ HW_ => ?_)
           generalize wr.drew = w23 at HO_6 HO_7 BK662 HB HL674_0 HL675_0 HR674_0 HR675_0 hx674_0 hx675_0 hx676_0 hHeld ⊢
           refine pU 0 26 ?_
           refine pU 1 27 ?_
           refine pU 2 28 ?_
           refine pU 3 29 ?_
           refine pU 5 31 ?_
           refine pU 6 32 ?_
           refine pU 7 33 ?_
           refine pU 8 34 ?_
           refine tU3 4 30 hHeld ?_
           refine tU3 9 35 hHeld ?_
           refine pU 10 36 ?_
           refine pU 11 37 ?_
           refine pU 12 38 ?_
           refine tU3 13 39 hHeld ?_
           refine last_ (i := 14) (N := some 40) #[true, true, true, true, true, true, true, true, true, true, true, true, true, true, true, false, false] rfl rfl (one_of HT_.out (by kernel_rfl)) (by decide) (fun K hK => ?_)
           refine value_ (w1 := ?_) (v := ?_) (by rfl) rfl ?_ ?_
           rotate_left 2
           ·go_simp
            constructor
            ·rfl
            ·rfl
           refine hK.out _ _ ?_
           clear hK K
           refine nU 40 ?_
           refine last_ (i := 15) (N := some 41) #[true, true, true, true, true, true, true, true, true, true, true, true, true, true, true, true, false] rfl rfl (one_of HT_.out (by kernel_rfl)) (by decide) (fun K hK => ?_)
           refine Kd.R_append_step (Kd.int .i64) (w0 := w) w.heap.size (by rfl) (.tmp 26) (.tmp 40) 32 3 (.int .i64 0) 8 rfl Try.underlying32 info3 rfl (by decide) (by omega) u7 x7_1 (rd (rd_L4 t668 x8_1) (ji19)) [.int .i64 (rd (rd_L4 t668 x8_1) (ji19))] (fun _ => True) (fun _ => False) rfl rfl ?aP (fun _ hk => hk.elim) ?aF ?aO ?aB ?aS ?aL ?_
           (case aP => exact rfl)
           (case aB => exact aG)
           (case aF => exact (fun _ _ => trivial))
           (case aO => exact (aR HO_7))
           (case aS => exact (below_size aG))
           (case aL => have := LMc22.out; omega)
           intro v678 w24 ho hb hg hat
           rw [← Ny677.out] at ho
           have HO679 := aM (ho)
           replace HO_6 := aM (Kd.S_after (ok := (fun _ => True)) (by (with_reducible repeat apply pS); exact Kd.S_mono HO_6.out (fun _ hk => ⟨trivial, hk⟩)) hg hat)
           replace BK662 := aM (blk_grown (g := gb662) (o := .cells #[.slice A0_0 l0_0.length c0_0, .slice A0_1 l0_1.length c0_1] 27 (0, 0)) aK hg (Kd.R_ne HO_7.out BK662.out (by decide)))
           replace HL674_0 := aM (Kd.R_after (ok := (fun k_ => some k_ ≠ (.slice (some ad674) t668.length co14 : Value).ownBlock)) (by (with_reducible repeat apply pR); exact Kd.R_mono HL674_0.out (fun _ hk => ⟨hk.2, hk.1⟩)) hg hat)
           replace HL675_0 := aM (Kd.R_after (ok := (fun k_ => some k_ ≠ (.slice (some ad674) t668.length co14 : Value).ownBlock)) (by (with_reducible repeat apply pR); exact Kd.R_mono HL675_0.out (fun _ hk => ⟨hk.2, hk.1⟩)) hg hat)
           replace HB := aM (hb)
           clear HO_7
           clear ho hb hg hat
           refine hK.out _ _ ?_
           clear hK K
           refine nU 41 ?_
           refine pU 16 7 ?_
           refine done_ (done_of HT_.out (by kernel_rfl)) ?_
           have p680 : 0 ≤ (x8_1 : Int) := aD
           have q680 : x8_1 < (t668.length : Int) := aD
           obtain ⟨ad680, A680_0, c680_0, e680, hx680_0, hl680_0, hi680_0⟩ := at_L4 (Kd.S_reads' HO_6.out).2.2 x8_1 p680 q680
           obtain rfl : ad674 = ad680 := (by injection e680)
           obtain ⟨ce680, hce680, hMe680, hcc680⟩ := Kd.S_get HO_6.out [] x8_1 p680 (by first | exact q680 | exact aD | (have e_ := (Kd.S_reads' HO_6.out).1; omega))
           obtain ⟨ve680_0, rfl, ge680_0⟩ := hMe680
           have hv680_0 := hcc680 0 _ rfl
           rw [Nat.add_zero, show ((Kd.slice 3 (Kd.int .i64))).sz = 1 from rfl, Nat.mul_one] at hv680_0
           replace hv680_0 := Option.some.inj (hv680_0.symm.trans hx680_0)
           rw [hv680_0] at ge680_0
           have HL680_0 := aM (show Kd.R (Kd.int .i64) 3 _ _ _ _ (rd_L4 t668 x8_1) from ge680_0)
           clear hv680_0 ge680_0
           clear hcc680 hce680
           have HR680_0 := aM hi680_0
           have HC680_0 := aM hl680_0
           clear hi680_0 hl680_0
           replace p680 := eq_true p680
           replace q680 := eq_true q680
           try go_wp2
           go_roundg k1
           case measure => have := HK1.out; omega
           case rel => exact ⟨(wrap64 (Int.tdiv x1_1 ((rd_L4 t668 x8_1).length : Int))), (y677), (wrap64 (x8_1 - 1)), aX, aX, H', ⟨by have := HK1.out; omega⟩, ⟨by (with_reducible repeat apply pS); exact Kd.S_mono HO_6.out (fun _ hk => hk.2)⟩, ⟨aR HO679⟩, ⟨aK⟩, ⟨aG⟩⟩
          ·rw [if_neg c22] at H
           exact absurd H (by simp)
         ·rw [if_neg c21] at H
          exact absurd H (by simp)
        ·rw [if_neg c20] at H
         exact absurd H (by simp)
      ·rw [if_neg c17] at H
       exact absurd H (by simp)
     ·rw [if_neg c16] at H
      exact absurd H (by simp)
    ·rw [if_neg c15] at H
     have c15b0 : decide (0 ≤ x8_1) = false := decide_eq_false c15
     clear c15
     replace H := bM H
     obtain ⟨t681, A250, H⟩ := H
     have A25 := aM A250
     clear A250
     simp only [Option.some.injEq, Prod.mk.injEq] at H
     obtain ⟨rfl, rfl⟩ := H
     obtain ⟨Ao26, co26, eo26⟩ := Kd.R_slice HO_7.out
     subst eo26
     go_wp2_with (first | ((with_reducible refine gate_callee (f := 71) rfl ?_); refine goesL_ (some 50) rfl rfl Try.func71 (by kernel_rfl) rfl #[.slice Ao26 x7_1.length co26] rfl aA ?_; (with_reducible refine (spec_l7Sorted.calls k1 _ _ x7_1 t681 _ ?side1 ?side2 A25.out).mono ?_); (case side1 => repeat (first | exact (Kd.R_reads' HO_7.out).2.2 | (with_reducible refine pC ?_))); (case side2 => exact (Kd.R_reads' HO_7.out).2.1); rintro e w27 ⟨v682, rfl, ho0, hb⟩; refine ⟨_, rfl, ?_⟩; have HO683 := aM (Kd.R_lower (Kd.R_new' ho0 (Kd.R_lt (aR HO_7))) (below_size aG)); replace HO_6 := aM (Kd.S_elder' (aS HO_6) (Kd.R_base ho0) hb); replace HO_7 := aM (Kd.R_elder' (aR HO_7) (Kd.R_base ho0) hb); replace BK662 := aM (kB gb662 #[.slice A0_0 l0_0.length c0_0, .slice A0_1 l0_1.length c0_1] 27 hb); replace HB := aM (below_step aG hb); (try clear hb); (try clear hb2); (try clear hk); (try clear hi); (try clear ho0)))
     go_ret2
     exact ⟨_, aE, by (with_reducible repeat apply pR); exact Kd.R_mono HO683.out (fun _ hk => trivial), aG⟩
 ·replace c5 := Bool.eq_false_iff.mpr c5
  subst c5
  have H1 : (some ((([] : List Int)), false)) = some (r1, r2) := by rw [if_neg (show ¬ (false = true) by decide)] at H; exact H
  clear H
  have H := H1
  clear H1
  obtain ⟨y665, hy665⟩ : ∃ y_ : List Int, y_ = (([] : List Int)) := ⟨_, rfl⟩
  first | replace H := bY hy665 H | rw [← hy665] at H
  have Ny665 := aM hy665
  clear hy665
  simp only [Option.some.injEq, Prod.mk.injEq] at H
  obtain ⟨rfl, rfl⟩ := H
  go_enter Try.func36, Try.ntmps36
  go_wp2_with (first | ((with_reducible refine gate_dst (N := 2) rfl ?_); refine bE 2 (cs := #[.slice A0_0 l0_0.length c0_0, .slice A0_1 l0_1.length c0_1]) (t := 27) ?_; intro gb662 hg w28 hbox hb; have BK662 := aM (hbox); have GW662 := aM ((by rw [hg]; exact (below_size aB) : w.heap.size ≤ gb662)); have GE662 := aM ((by rw [hg]; exact (below_size aB) : w.heap.size ≤ gb662)); replace HB := aM (below_step aB hb); clear hb hbox hg; have hcz29_0 : w28.cell? ⟨gb662, 0, none⟩ = some (.slice A0_0 l0_0.length c0_0) := (blk_cell BK662.out 0).trans rfl; have hcz29_1 : w28.cell? ⟨gb662, 1, none⟩ = some (.slice A0_1 l0_1.length c0_1) := (blk_cell BK662.out 1).trans rfl; have hfz29_0 := blk_frozen BK662.out 0; have hfz29_1 := blk_frozen BK662.out 1) | ((with_reducible refine gate_callee (f := 37) rfl ?_); refine goesL_ (some 11) rfl rfl Try.func37 (by kernel_rfl) rfl #[.agg #[.slice A0_0 l0_0.length c0_0, .slice A0_1 l0_1.length c0_1]] rfl aA ?_; (with_reducible refine (spec_CountRepairs.calls k _ _ l0_0 _ _ l0_1 t663 _ ?side1 ?side2 ?side3 ?side4 A3.out).mono ?_); (case side1 => exact aC); (case side2 => exact HC0_0.out); (case side3 => exact aC); (case side4 => exact HC0_1.out); rintro e w30 ⟨rfl, hb⟩; refine ⟨_, rfl, ?_⟩; replace BK662 := aM (kB gb662 #[.slice A0_0 l0_0.length c0_0, .slice A0_1 l0_1.length c0_1] 27 hb); replace HB := aM (below_step aG hb); (try clear hb); (try clear hb2); (try clear hk); (try clear hi)) | ((with_reducible refine gate_callee (f := 70) rfl ?_); refine goesL_ (some 13) rfl rfl Try.func70 (by kernel_rfl) rfl #[.int .i64 a1, .int .i64 0, .int .i64 (wrap64 (t663 - 1))] rfl aA ?_; (with_reducible refine (spec_l1In.calls a1 0 (wrap64 (t663 - 1)) false _ A4.out).mono ?_); rintro e w' ⟨rfl, ⟨nd, rfl⟩⟩; refine ⟨_, rfl, ?_⟩) | ((with_reducible refine gate_dst (N := 15) rfl ?_); refine Kd.R_lit (Kd.int .i64) _ 3 ?hg (N := 15) ?hd (xs := ([] : List Int)) (inner := []) (ok := fun _ => True) (okp := fun _ => True) ?hr ?hp (fun _ hk => hk) trivial (Below.refl _ _) (Nat.le_refl _) (by simp) ?_; (case hd => rfl); (case hg => rfl); (case hr => first | (go_simp; done) | (go_simp; rfl)); (case hp => exact (Reps.none _ _)); intro v666 w31 ho32 hb hg_ hnew_; clear hg_ hnew_; (first | rw [← Ny665.out] at ho32 | (simp only [Int.reduceToNat] at ho32; rw [← Ny665.out] at ho32)); have HO667 := aM (Kd.R_lower ho32 (below_size aG)); replace BK662 := aM (kB gb662 #[.slice A0_0 l0_0.length c0_0, .slice A0_1 l0_1.length c0_1] 27 hb); replace HB := aM (below_step aG hb); clear hb ho32))
  go_ret2
  exact ⟨_, aE, aR HO667, aG⟩

/-! ### slices_Index_int_int: function 73 -/
def slices_Index_int_int.l0 : Nat → List Int → Int → Int → Int → Option (Int)
 | 0, _, _, _, _ => none
 | k + 1, x0, x1, x7, x8 => if x8 < x7 then (if 0 ≤ x8 then (if x8 < (x0.length : Int) then (if x1 = (rd x0 x8) then (some x8) else (slices_Index_int_int.l0 k x0 x1 x7 (wrap64 (x8 + 1)))) else (none)) else (none)) else (some (-1))
def slices_Index_int_int.f (k : Nat) (l0 : List Int) (a1 : Int) : Option (Int) := slices_Index_int_int.l0 k l0 a1 (l0.length : Int) 0
set_option maxHeartbeats 8000000 in
set_option maxRecDepth 100000 in
theorem slices_Index_int_int.calls (k : Nat) (A0 : Option Addr) (c0 : Nat) (l0 : List Int) (a1 : Int) (r : Int) (w : World) (hr0 : Kd.C (Kd.int .i64) w A0 l0.length l0) (hc0 : l0.length ≤ c0) (h : slices_Index_int_int.f k l0 a1 = some r) :
  Calls Try.prog 73 #[.slice A0 l0.length c0, .int .i64 a1] w fun e w' => e = .returned (.int .i64 r) ∧ Drawn0 w w' := by
 unfold slices_Index_int_int.f at h
 ·go_enter Try.func73, Try.ntmps73
  go_wp2
  go_loopg [8] k (fun kq v8 w' => ∃ (x8_0 : Int), v8 = .int .i64 x8_0 ∧ slices_Index_int_int.l0 kq l0 a1 (l0.length : Int) x8_0 = some r ∧ Drawn0 w w')
  case atStart => exact ⟨_, zR, zA, zD⟩
  case round =>
   clear h
   obtain ⟨x8_0, rfl, h, hb⟩ := hrel
   have hd := hb
   replace hb := hb.below
   replace hb := aM hb
   have HB : Below w.heap.size w wr := zB
   rcases gk with _ | kk0
   exact absurd h (by simp [slices_Index_int_int.l0])
   simp only [slices_Index_int_int.l0] at h
   replace h := il h; rcases h with ⟨c1, c1a, h⟩ | ⟨c1, c1a, h⟩
   replace h := ie h; rcases h with ⟨c2, c2a, h⟩ | ⟨c2, c2a, h⟩
   replace h := il h; rcases h with ⟨c3, c3a, h⟩ | ⟨c3, c3a, h⟩
   replace h := iq h; rcases h with ⟨c4, ⟨c4a, c4b⟩, h⟩ | ⟨c4, ⟨c4a, c4b⟩, h⟩
   obtain rfl := si h
   obtain ⟨ad684, e684, hx684_0⟩ := Kd.at_int hr0 (x8_0 : Int) aD aD
   have p684 := eq_true (aD : 0 ≤ (x8_0 : Int))
   have q684 := eq_true (aD : x8_0 < (l0.length : Int))
   cases e684
   replace hx684_0 := qa hx684_0
   rotate_left
   obtain ⟨kf, hkf⟩ : ∃ kf, kf = kk0 := ⟨_, rfl⟩; rw [← hkf] at h
   obtain ⟨ad684, e684, hx684_0⟩ := Kd.at_int hr0 (x8_0 : Int) aD aD
   have p684 := eq_true (aD : 0 ≤ (x8_0 : Int))
   have q684 := eq_true (aD : x8_0 < (l0.length : Int))
   cases e684
   replace hx684_0 := qa hx684_0
   rotate_left
   exact absurd h (by simp)
   exact absurd h (by simp)
   obtain rfl := si h
   rotate_left
   all_goals (go_wp2; first | (go_ret; exact zE zD) | (go_roundg kf; (case measure => omega); (case rel => exact ⟨_, zR, zA, zD⟩)))

end Go.Proofs.Ytbdeimhlohhhiaa.PFnRepairEnumeration
