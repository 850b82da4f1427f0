import Derived.Test.YtbdeimhlohhhiaaPFnRepairEnumerationx0
namespace Go.Proofs.Ytbdeimhlohhhiaa.PFnRepairEnumeration
open Go.RowKit Go.Proofs.YtbdeimhlohhhiaaW.PrintWords Go.Proofs.YtbdeimhlohhhiaaW.PrintLast Go.Proofs.YtbdeimhlohhhiaaW.PrintMore
attribute [local go_sem] max2_int min2_int max_two min_two max_three min_three max_four min_four
set_option linter.unusedVariables false
set_option linter.unusedSimpArgs false

/-! ### spec_l7Sorted: function 71 -/
mutual
def spec_l7Sorted.l0 : Nat → List Int → List Int → Int → Option (List Int)
 | 0, _, _, _ => none
 | k + 1, x0, x3, x4 => if x4 < (x0.length : Int) then (spec_l7Sorted.l1 k x0 x3 x4 (x3.length : Int)) else (some x3)
def spec_l7Sorted.l1 : Nat → List Int → List Int → Int → Int → Option (List Int)
 | 0, _, _, _, _ => none
 | k + 1, x0, x3, x4, x5 => if x5 > 0 then (if 0 ≤ (wrap64 (x5 - 1)) then (if (wrap64 (x5 - 1)) < (x3.length : Int) then (if 0 ≤ x4 then (if x4 < (x0.length : Int) then (if (rd x3 (wrap64 (x5 - 1))) > (rd x0 x4) then (spec_l7Sorted.l1 k x0 x3 x4 (wrap64 (x5 - 1))) else ((some (([] : List Int) : List Int)).bind fun y610 => (if 0 ≤ x5 then (if x5 ≤ (x3.length : Int) then ((some (x3.take (x5 : Int).toNat : List Int)).bind fun y613 => (if y610.length + y613.length < 17592186044416 then ((some (y610 ++ y613 : List Int)).bind fun y618 => ((some (([rd x0 x4] : List Int) : List Int)).bind fun y622 => (if y618.length + y622.length < 17592186044416 then ((some (y618 ++ y622 : List Int)).bind fun y625 => ((some (x3.drop (x5 : Int).toNat : List Int)).bind fun y628 => (if y625.length + y628.length < 17592186044416 then (spec_l7Sorted.l0 k x0 (y625 ++ y628) (wrap64 (x4 + 1))) else (none)))) else (none)))) else (none))) else (none)) else (none)))) else (none)) else (none)) else (none)) else (none)) else ((some (([] : List Int) : List Int)).bind fun y636 => (if 0 ≤ x5 then (if x5 ≤ (x3.length : Int) then ((some (x3.take (x5 : Int).toNat : List Int)).bind fun y639 => (if y636.length + y639.length < 17592186044416 then ((some (y636 ++ y639 : List Int)).bind fun y644 => (if 0 ≤ x4 then (if x4 < (x0.length : Int) then ((some (([rd x0 x4] : List Int) : List Int)).bind fun y648 => (if y644.length + y648.length < 17592186044416 then ((some (y644 ++ y648 : List Int)).bind fun y651 => ((some (x3.drop (x5 : Int).toNat : List Int)).bind fun y654 => (if y651.length + y654.length < 17592186044416 then (spec_l7Sorted.l0 k x0 (y651 ++ y654) (wrap64 (x4 + 1))) else (none)))) else (none))) else (none)) else (none))) else (none))) else (none)) else (none)))
end
def spec_l7Sorted.f (k : Nat) (l0 : List Int) : Option (List Int) := spec_l7Sorted.l0 k l0 (([] : List Int)) 0
def spec_l7Sorted.T6 : Bool × List (List Nat × List Nat) := (true, [([], []), ([0], [0]), ([1], [1]), ([2], [2]), ([2], [2]), ([4, 2], [2, 4]), ([3, 5, 2], [2, 3, 5]), ([6, 2], [2, 6]), ([2], [2]), ([2], [2]), ([8, 9, 2], [2, 8, 9]), ([10, 2], [2, 10]), ([7, 11, 2], [2, 7, 11]), ([2, 12], [2, 12])])
def spec_l7Sorted.B6 : List Nat := [0, 1, 3, 7, 7, 23, 63, 127, 7, 7, 775, 1799, 4095, 8191]
theorem spec_l7Sorted.tab6 : rtab .any (opsOf Try.f71 6) = spec_l7Sorted.T6 := by kernel_rfl
theorem spec_l7Sorted.bits6 : waitsOk spec_l7Sorted.T6.2 spec_l7Sorted.B6 = true := by kernel_rfl
def spec_l7Sorted.T8 : Bool × List (List Nat × List Nat) := (true, [([], []), ([], []), ([], []), ([1, 2], [1, 2]), ([0, 3], [0, 3]), ([], []), ([], []), ([5, 6], [5, 6]), ([7], [7]), ([8], [8]), ([4, 9, 4], [4, 9]), ([], []), ([], []), ([11, 12], [11, 12]), ([10, 13, 10], [10, 13]), ([14, 14, 0, 1, 2, 3, 4, 5, 6, 7, 8, 9, 10, 11, 12, 13, 14], [1, 11, 14])])
def spec_l7Sorted.B8 : List Nat := [0, 0, 0, 6, 15, 0, 0, 96, 224, 480, 1023, 0, 0, 6144, 16383, 32767]
theorem spec_l7Sorted.tab8 : rtab .any (opsOf Try.f71 8) = spec_l7Sorted.T8 := by kernel_rfl
theorem spec_l7Sorted.bits8 : waitsOk spec_l7Sorted.T8.2 spec_l7Sorted.B8 = true := by kernel_rfl
set_option maxHeartbeats 8000000 in
set_option maxRecDepth 100000 in
theorem spec_l7Sorted.calls (k : Nat) (A0 : Option Addr) (c0 : Nat) (l0 : List Int) (r : List Int) (w : World) (hr0 : Kd.C (Kd.int .i64) w A0 l0.length l0) (hc0 : l0.length ≤ c0) (h : spec_l7Sorted.f k l0 = some r) :
  Calls Try.prog 71 #[.slice A0 l0.length c0] w fun e w' => ∃ v0_ : Value, e = .returned (v0_) ∧ Kd.R (Kd.int .i64) 3 w' w.heap.size (fun _ => True) v0_ r ∧ Below w.heap.size w w' := by
 have HR0 := aM hr0
 have HC0 := aM hc0
 clear hr0 hc0
 have HB := aM (Below.refl w.heap.size w)
 have H : (spec_l7Sorted.l0 k l0 (([] : List Int)) 0) = some r := h
 clear h
 obtain ⟨y605, hy605⟩ : ∃ y_ : List Int, y_ = (([] : List Int)) := ⟨_, rfl⟩
 first | replace H := bY hy605 H | rw [← hy605] at H
 have Ny605 := aM hy605
 clear hy605
 have H' := aM H
 clear H
 go_enter Try.func71, Try.ntmps71
 go_wp2_with (first | ((with_reducible refine gate_dst (N := 6) rfl ?_); refine Kd.R_lit (Kd.int .i64) _ 3 ?hg (N := 6) ?hd (xs := ([] : List Int)) (inner := []) (ok := fun _ => True) (okp := fun _ => True) ?hr ?hp (fun _ hk => hk) trivial (Below.refl _ _) (Nat.le_refl _) (by simp) ?_; (case hd => rfl); (case hg => rfl); (case hr => first | (go_simp; done) | (go_simp; rfl)); (case hp => exact (Reps.none _ _)); intro v606 w2 ho3 hb hg_ hnew_; clear hg_ hnew_; (first | rw [← Ny605.out] at ho3 | (simp only [Int.reduceToNat] at ho3; rw [← Ny605.out] at ho3)); have HO607 := aM (Kd.R_lower ho3 (below_size aB)); replace HB := aM (below_step aB hb); clear hb ho3))
 go_loopg [3, 4] k (fun kq v3 v4 w' => ∃ (x3_1 : List Int) (x4_1 : Int), v4 = .int .i64 x4_1 ∧ Aside0 (spec_l7Sorted.l0 kq l0 x3_1 x4_1 = some r) ∧ Aside0 (kq ≤ k) ∧ Aside0 (Kd.R (Kd.int .i64) 3 w' w.heap.size (fun _ => True) v3 x3_1) ∧ Aside0 (Below w.heap.size w w'))
 case atStart => exact ⟨(y605), (0), aX, H', ⟨Nat.le_refl _⟩, ⟨aR HO607⟩, ⟨aB⟩⟩
 case round =>
  clear H'
  try clear p2
  obtain ⟨x3_1, x4_1, rfl, HA, HK1, HO_3, HB⟩ := hrel
  cases gk with
  | zero => exact absurd HA.out (by simp [spec_l7Sorted.l0])
  | succ k1 =>
   have H := HA.out
   clear HA
   simp only [spec_l7Sorted.l0] at H
   by_cases c4 : x4_1 < (l0.length : Int)
   ·rw [if_pos c4] at H
    have c4b0 : decide (x4_1 < (l0.length : Int)) = true := decide_eq_true c4
    clear c4
    have H' := aM H
    clear H
    obtain ⟨Ao5, co5, eo5⟩ := Kd.R_slice HO_3.out
    subst eo5
    go_wp2
    go_loopg [5] k1 (fun kq v5 w' => ∃ (x5_2 : Int), v5 = .int .i64 x5_2 ∧ Aside0 (spec_l7Sorted.l1 kq l0 x3_1 x4_1 x5_2 = some r) ∧ Aside0 (kq ≤ k1) ∧ Aside0 (Kd.R (Kd.int .i64) 3 w' w.heap.size (fun _ => True) (.slice Ao5 x3_1.length co5) x3_1) ∧ Aside0 (Below w.heap.size w w'))
    case atStart => exact ⟨((x3_1.length : Int)), aX, H', ⟨Nat.le_refl _⟩, ⟨aR HO_3⟩, ⟨aB⟩⟩
    case round =>
     clear H'
     try clear p2
     try clear c4
     try clear c4b0
     try clear p2
     obtain ⟨x5_2, rfl, HA, HK2, HO_3, HB⟩ := hrel
     cases gk with
     | zero => exact absurd HA.out (by simp [spec_l7Sorted.l1])
     | succ k2 =>
      have H := HA.out
      clear HA
      simp only [spec_l7Sorted.l1] at H
      by_cases c6 : x5_2 > 0
      ·rw [if_pos c6] at H
       have c6b0 : decide (0 < x5_2) = true := decide_eq_true c6
       clear c6
       obtain ⟨ji7, hji7⟩ : ∃ j_ : Int, (wrap64 (x5_2 - 1)) = j_ := ⟨_, rfl⟩
       replace H : (if 0 ≤ (ji7) then (if (ji7) < (x3_1.length : Int) then (if 0 ≤ x4_1 then (if x4_1 < (l0.length : Int) then (if (rd x3_1 (ji7)) > (rd l0 x4_1) then (spec_l7Sorted.l1 k2 l0 x3_1 x4_1 ji7) else ((some (([] : List Int) : List Int)).bind fun y610 => (if 0 ≤ x5_2 then (if x5_2 ≤ (x3_1.length : Int) then ((some (x3_1.take (x5_2 : Int).toNat : List Int)).bind fun y613 => (if y610.length + y613.length < 17592186044416 then ((some (y610 ++ y613 : List Int)).bind fun y618 => ((some (([rd l0 x4_1] : List Int) : List Int)).bind fun y622 => (if y618.length + y622.length < 17592186044416 then ((some (y618 ++ y622 : List Int)).bind fun y625 => ((some (x3_1.drop (x5_2 : Int).toNat : List Int)).bind fun y628 => (if y625.length + y628.length < 17592186044416 then (spec_l7Sorted.l0 k2 l0 (y625 ++ y628) (wrap64 (x4_1 + 1))) else (none)))) else (none)))) else (none))) else (none)) else (none)))) else (none)) else (none)) else (none)) else (none)) = some r := by first | (rw [hji7] at H; exact H) | (simp only [hji7] at H ⊢; exact H)
       have hji7w : (IntKind.i64.wrap (x5_2 - 1)) = ji7 := (i64_w _).trans hji7
       by_cases c8 : 0 ≤ (ji7)
       ·rw [if_pos c8] at H
        have c8b0 : decide (0 ≤ (ji7)) = true := decide_eq_true c8
        clear c8
        by_cases c9 : (ji7) < (x3_1.length : Int)
        ·rw [if_pos c9] at H
         have c9b0 : decide ((ji7) < (x3_1.length : Int)) = true := decide_eq_true c9
         clear c9
         by_cases c10 : 0 ≤ x4_1
         ·rw [if_pos c10] at H
          have c10b0 : decide (0 ≤ x4_1) = true := decide_eq_true c10
          clear c10
          by_cases c11 : x4_1 < (l0.length : Int)
          ·rw [if_pos c11] at H
           have c11b0 : decide (x4_1 < (l0.length : Int)) = true := decide_eq_true c11
           clear c11
           by_cases c12 : (rd x3_1 (ji7)) > (rd l0 x4_1)
           ·rw [if_pos c12] at H
            have c12b0 : decide ((rd l0 x4_1) < (rd x3_1 (ji7))) = true := decide_eq_true c12
            clear c12
            have H' := aM H
            clear H
            try go_wp2
            replace HO_3 := aM (Kd.R_drew HO_3.out)
            replace HB := aM (below_drew1 HB.out)
            have p608 : 0 ≤ ((ji7) : Int) := aD
            have q608 : (ji7) < (x3_1.length : Int) := aD
            obtain ⟨ad608, e608, hx608_0⟩ := Kd.at_int (Kd.R_reads' HO_3.out).2.2 (ji7) p608 q608
            cases e608
            replace p608 := eq_true p608
            replace q608 := eq_true q608
            have p609 : 0 ≤ (x4_1 : Int) := aD
            have q609 : x4_1 < (l0.length : Int) := aD
            obtain ⟨ad609, e609, hx609_0⟩ := Kd.at_int HR0.out x4_1 p609 q609
            have hw609_0 := hx609_0
            cases e609
            replace hx609_0 := (HB.out.cell (World.block_lt_of_cell? w _ hx609_0)).trans hx609_0
            replace p609 := eq_true p609
            replace q609 := eq_true q609
            refine start_ (n := 14) (S := fun w' => w'.cell? (ad608.add ((ji7)).toNat) = some (.int .i64 (rd x3_1 (ji7))) ∧ w'.cell? (ad609.add (x4_1).toNat) = some (.int .i64 (rd l0 x4_1))) (ds := []) #[false, false, false, false, false, false, false, false, false, false, false, false, false, false] (by kernel_rfl) rfl rfl ⟨hx608_0, (pw_cell_below HB.out hw609_0)⟩ (fun hHeld => ?_); refine with_tabW spec_l7Sorted.tab6 spec_l7Sorted.bits6 (fun HT_ HW_ => ?_)
            generalize wr.drew = w13 at HO_3 HB hx608_0 hx609_0 hHeld ⊢
            refine pU 0 15 ?_
            refine pU 1 16 ?_
            refine pU 2 17 ?_
            refine pU 3 18 ?_
            refine pU 4 19 ?_
            refine pU 5 20 ?_
            refine pU 6 21 ?_
            refine pU 8 23 ?_
            refine pU 9 24 ?_
            refine pU 10 25 ?_
            refine tU2 7 22 hHeld ?_
            refine tU2 11 26 hHeld ?_
            refine pU 12 27 ?_
            refine pU 13 28 ?_
            refine done_ (done_of HT_.out (by kernel_rfl)) ?_
            try go_wp2
            go_roundg k2
            case measure => have := HK1.out; have := HK2.out; omega
            case rel => exact ⟨(ji7), (by first | rfl | (simp; done) | (simp only [← hji7] <;> (first | rfl | simp)) | (simp [*]; done)), H', ⟨by have := HK1.out; have := HK2.out; omega⟩, ⟨aR HO_3⟩, ⟨aB⟩⟩
           ·rw [if_neg c12] at H
            have c12b0 : decide ((rd l0 x4_1) < (rd x3_1 (ji7))) = false := decide_eq_false c12
            clear c12
            obtain ⟨y610, hy610⟩ : ∃ y_ : List Int, y_ = (([] : List Int)) := ⟨_, rfl⟩
            first | replace H := bY hy610 H | rw [← hy610] at H
            have Ny610 := aM hy610
            clear hy610
            by_cases c14 : 0 ≤ x5_2
            ·rw [if_pos c14] at H
             have c14b0 := eq_true c14
             have c14b1 : decide (0 ≤ x5_2) = true := decide_eq_true c14
             clear c14
             by_cases c15 : x5_2 ≤ (x3_1.length : Int)
             ·rw [if_pos c15] at H
              have c15b0 := eq_true c15
              have c15b1 : decide (x5_2 ≤ (x3_1.length : Int)) = true := decide_eq_true c15
              clear c15
              obtain ⟨y613, hy613⟩ : ∃ y_ : List Int, y_ = (x3_1.take (x5_2 : Int).toNat) := ⟨_, rfl⟩
              first | replace H := bY hy613 H | rw [← hy613] at H
              have Ny613 := aM hy613
              clear hy613
              by_cases c16 : y610.length + y613.length < 17592186044416
              ·rw [if_pos c16] at H
               have LMc16 := aM c16
               clear c16
               obtain ⟨y618, hy618⟩ : ∃ y_ : List Int, y_ = (y610 ++ y613) := ⟨_, rfl⟩
               first | replace H := bY hy618 H | rw [← hy618] at H
               have Ny618 := aM hy618
               clear hy618
               obtain ⟨y622, hy622⟩ : ∃ y_ : List Int, y_ = (([rd l0 x4_1] : List Int)) := ⟨_, rfl⟩
               first | replace H := bY hy622 H | rw [← hy622] at H
               have Ny622 := aM hy622
               clear hy622
               by_cases c17 : y618.length + y622.length < 17592186044416
               ·rw [if_pos c17] at H
                have LMc17 := aM c17
                clear c17
                obtain ⟨y625, hy625⟩ : ∃ y_ : List Int, y_ = (y618 ++ y622) := ⟨_, rfl⟩
                first | replace H := bY hy625 H | rw [← hy625] at H
                have Ny625 := aM hy625
                clear hy625
                have c18b0 := eq_true (aD : 0 ≤ x5_2)
                have c19b0 := eq_true (aD : x5_2 ≤ (x3_1.length : Int))
                obtain ⟨y628, hy628⟩ : ∃ y_ : List Int, y_ = (x3_1.drop (x5_2 : Int).toNat) := ⟨_, rfl⟩
                first | replace H := bY hy628 H | rw [← hy628] at H
                have Ny628 := aM hy628
                clear hy628
                by_cases c20 : y625.length + y628.length < 17592186044416
                ·rw [if_pos c20] at H
                 have LMc20 := aM c20
                 clear c20
                 obtain ⟨y633, hy633⟩ : ∃ y_ : List Int, y_ = (y625 ++ y628) := ⟨_, rfl⟩
                 first | replace H := bY hy633 H | rw [← hy633] at H
                 have Ny633 := aM hy633
                 clear hy633
                 have H' := aM H
                 clear H
                 try go_wp2
                 replace HO_3 := aM (Kd.R_drew HO_3.out)
                 replace HB := aM (below_drew1 HB.out)
                 have p608 : 0 ≤ ((ji7) : Int) := aD
                 have q608 : (ji7) < (x3_1.length : Int) := aD
                 obtain ⟨ad608, e608, hx608_0⟩ := Kd.at_int (Kd.R_reads' HO_3.out).2.2 (ji7) p608 q608
                 cases e608
                 replace p608 := eq_true p608
                 replace q608 := eq_true q608
                 have p609 : 0 ≤ (x4_1 : Int) := aD
                 have q609 : x4_1 < (l0.length : Int) := aD
                 obtain ⟨ad609, e609, hx609_0⟩ := Kd.at_int HR0.out x4_1 p609 q609
                 have hw609_0 := hx609_0
                 cases e609
                 replace hx609_0 := (HB.out.cell (World.block_lt_of_cell? w _ hx609_0)).trans hx609_0
                 replace p609 := eq_true p609
                 replace q609 := eq_true q609
                 refine start_ (n := 14) (S := fun w' => w'.cell? (ad608.add ((ji7)).toNat) = some (.int .i64 (rd x3_1 (ji7))) ∧ w'.cell? (ad609.add (x4_1).toNat) = some (.int .i64 (rd l0 x4_1))) (ds := []) #[false, false, false, false, false, false, false, false, false, false, false, false, false, false] (by kernel_rfl) rfl rfl ⟨hx608_0, (pw_cell_below HB.out hw609_0)⟩ (fun hHeld => ?_); refine with_tabW spec_l7Sorted.tab6 spec_l7Sorted.bits6 (fun HT_ HW_ => ?_)
                 generalize wr.drew = w21 at HO_3 HB hx608_0 hx609_0 hHeld ⊢
                 refine pU 0 15 ?_
                 refine pU 1 16 ?_
                 refine pU 2 17 ?_
                 refine pU 3 18 ?_
                 refine pU 4 19 ?_
                 refine pU 5 20 ?_
                 refine pU 6 21 ?_
                 refine pU 8 23 ?_
                 refine pU 9 24 ?_
                 refine pU 10 25 ?_
                 refine tU2 7 22 hHeld ?_
                 refine tU2 11 26 hHeld ?_
                 refine pU 12 27 ?_
                 refine pU 13 28 ?_
                 refine done_ (done_of HT_.out (by kernel_rfl)) ?_
                 try go_wp2
                 replace HO_3 := aM (Kd.R_drew HO_3.out)
                 replace HB := aM (below_drew1 HB.out)
                 have q23 : (x5_2 : Int) ≤ ((x3_1.length : Int) : Int) := aD
                 obtain ⟨i023, hi023, _, hsz23, _⟩ := info_parts info3
                 have hroom23 : x3_1.length ≤ co5 := (Kd.R_reads' HO_3.out).2.1
                 have hC23 : Kd.F (Kd.int .i64) _ _ (some ad608) x3_1.length x3_1 := (Kd.V_at (base := w.heap.size) (Kd.R_V HO_3.out)).2.2
                 have hcut23 := cut_to (P := Try.prog) 32 3 .i64 Try.underlying32 hi023 (some ad608) x3_1.length co5 x5_2 (aD) q23 hroom23
                 have hr23 := Kd.F_take (m := (x5_2 : Int).toNat) hC23 (by omega)
                 have hy23 : y613.length = (x5_2 : Int).toNat := (by rw [Ny613.out, List.length_take]; omega)
                 rw [← Ny613.out] at hr23
                 rw [← hy23] at hcut23
                 have HO617 := aM (show Kd.V (Kd.int .i64) 3 _ w.heap.size _ (.slice (some ad608) y613.length co5) y613 from Kd.V_mk (by omega) hr23)
                 have HC617 := aM (show y613.length ≤ co5 from by omega)
                 clear hr23 hC23 hroom23 hi023 hsz23
                 have KY23 := aM hy23
                 clear hy23
                 replace q23 := eq_true q23
                 have p621 : 0 ≤ (x4_1 : Int) := aD
                 have q621 : x4_1 < (l0.length : Int) := aD
                 obtain ⟨ad621, e621, hx621_0⟩ := Kd.at_int HR0.out x4_1 p621 q621
                 have hw621_0 := hx621_0
                 obtain rfl : ad609 = ad621 := (by injection e621)
                 replace hx621_0 := (HB.out.cell (World.block_lt_of_cell? w _ hx621_0)).trans hx621_0
                 replace p621 := eq_true p621
                 replace q621 := eq_true q621
                 have q24 : (x5_2 : Int) ≤ ((x3_1.length : Int) : Int) := aD
                 obtain ⟨i024, hi024, _, hsz24, _⟩ := info_parts info3
                 have hroom24 : x3_1.length ≤ co5 := (Kd.R_reads' HO_3.out).2.1
                 have hC24 : Kd.F (Kd.int .i64) _ _ (some ad608) x3_1.length x3_1 := (Kd.V_at (base := w.heap.size) (Kd.R_V HO_3.out)).2.2
                 have q024 : (0 : Int) ≤ (x5_2 : Int) := aD
                 have hcut24 := cut_from (P := Try.prog) 32 3 .i64 Try.underlying32 hi024 1 hsz24 (some ad608) x3_1.length co5 x5_2 q024 q24
                 have hr24 := Kd.F_cut (m := (x5_2 : Int).toNat) (c := co5) hC24 (by omega) hroom24
                 obtain ⟨A24, hA24⟩ : ∃ A1, A1 = (if co5 = (x5_2 : Int).toNat then (some ad608) else ((some ad608) : Option Addr).map (·.add ((x5_2 : Int).toNat * 1))) := ⟨_, rfl⟩
                 obtain ⟨c24, hc24⟩ : ∃ c1, c1 = co5 - (x5_2 : Int).toNat := ⟨_, rfl⟩
                 have hy24 : y628.length = x3_1.length - (x5_2 : Int).toNat := (by rw [Ny628.out, List.length_drop] <;> omega)
                 rw [show (x3_1).drop (x5_2 : Int).toNat = y628 from Ny628.out.symm] at hr24
                 replace hr24 : Kd.F (Kd.int .i64) _ _ A24 y628.length y628 := (by rw [hA24]; exact hr24)
                 rw [← hy24, ← hA24, ← hc24] at hcut24
                 have HO632 := aM (show Kd.V (Kd.int .i64) 3 _ w.heap.size _ (.slice A24 y628.length c24) y628 from Kd.V_mk (by rw [hy24, hc24]; exact Nat.sub_le_sub_right hroom24 _) hr24)
                 have HC632 := aM (show y628.length ≤ c24 from by rw [hy24, hc24]; exact Nat.sub_le_sub_right hroom24 _)
                 clear hr24 hC24 hroom24 hi024 hsz24 hc24
                 have KY24 := aM hy24
                 have KA24 := aM hA24
                 clear hy24 hA24
                 replace q24 := eq_true q24
                 refine start_ (n := 16) (S := fun w' => w'.cell? (ad609.add (x4_1).toNat) = some (.int .i64 (rd l0 x4_1))) (ds := []) #[false, false, false, false, false, false, false, false, false, false, false, false, false, false, false, false] (by kernel_rfl) rfl rfl ((pw_cell_below HB.out hw621_0)) (fun hHeld => ?_); refine with_tabW spec_l7Sorted.tab8 spec_l7Sorted.bits8 (fun HT_ HW_ => ?_)
                 generalize w21.drew = w22 at HO_3 HB HO617 HO632 hx621_0 hHeld ⊢
                 refine pU 1 32 ?_
                 refine pU 2 33 ?_
                 refine pU 3 34 ?_
                 refine pU 5 36 ?_
                 refine pU 6 37 ?_
                 refine pU 7 38 ?_
                 refine pU 11 42 ?_
                 refine pU 12 43 ?_
                 refine pU 13 44 ?_
                 refine take_ (i := 8) (N := some 39) (v := ?_) (a' := ?_) #[false, true, true, true, false, true, true, true, true, false, false, true, true, true, false, false] rfl rfl (take_ofW HT_.out HW_.out (by kernel_rfl)) (fun _ _ _ h => h) (Or.inl ⟨by rfl, ?_⟩) hHeld ?_ ?_
                 rotate_left
                 ·intro w' s0
                  go_simp
                  with_reducible rfl
                 rotate_left
                 ·exact aP
                 refine join_ (σ := Value × Value × Value) 3 #[true, true, true, true, true, true, true, true, true, true, false, true, true, true, false, false] (fun s_ => [(31, s_.1), (35, s_.2.1), (40, s_.2.2)]) (fun s_ w' => (w'.cell? (ad609.add (x4_1).toNat) = some (.int .i64 (rd l0 x4_1))) ∧ (Kd.V (Kd.int .i64) 3 w' w.heap.size (fun k_ => some k_ ≠ (s_.2.1 : Value).ownBlock ∧ some k_ ≠ (s_.2.2 : Value).ownBlock) (.slice (some ad608) y613.length co5) y613) ∧ (Kd.R (Kd.int .i64) 3 w' w.heap.size (fun k_ => some k_ ≠ (s_.2.2 : Value).ownBlock ∧ some k_ ≠ (.slice (some ad608) x3_1.length co5 : Value).ownBlock) s_.2.1 y618) ∧ (Kd.R (Kd.int .i64) 3 w' w.heap.size (fun k_ => some k_ ≠ (s_.2.1 : Value).ownBlock ∧ some k_ ≠ (.slice (some ad608) x3_1.length co5 : Value).ownBlock) s_.2.2 y622) ∧ (Kd.V (Kd.int .i64) 3 w' w.heap.size (fun k_ => some k_ ≠ (s_.2.1 : Value).ownBlock ∧ some k_ ≠ (s_.2.2 : Value).ownBlock) (.slice A24 y628.length c24) y628) ∧ (Kd.R (Kd.int .i64) 3 w' w.heap.size (fun k_ => some k_ ≠ (s_.2.1 : Value).ownBlock ∧ some k_ ≠ (s_.2.2 : Value).ownBlock) (.slice (some ad608) x3_1.length co5) x3_1) ∧ (Below w.heap.size w w')) ?_ ?_
                 rotate_left
                 ·intro hCont
                  refine two_ (i := 0) (j := 9) (Ni := some 31) (Nj := some 40) #[true, true, true, true, false, true, true, true, true, false, false, true, true, true, false, false] #[false, true, true, true, false, true, true, true, true, true, false, true, true, true, false, false] rfl rfl rfl rfl (two_of HT_.out (by kernel_rfl)) (by decide) (by decide) (fun K hK => ?_) (fun K hK => ?_)
                  ·skip
                   refine Kd.R_lit_step (Kd.int .i64) _ 3 ?hg (N := 31) ?hd (xs := ([] : List Int)) (inner := []) (ok := fun _ => True) (okp := fun _ => True) ?hr ?hp (fun _ hk => hk) trivial (Below.refl _ _) (Nat.le_refl _) (by simp) ?_; (case hd => rfl); (case hg => rfl); (case hr => first | (go_simp; done) | (go_simp; rfl)); (case hp => exact (Reps.none _ _))
                   intro v611 w25 ho26 hb hg_ hnew_
                   clear hg_ hnew_
                   (first | rw [← Ny610.out] at ho26 | (simp only [Int.reduceToNat] at ho26; rw [← Ny610.out] at ho26))
                   have HO612 := aM (Kd.R_lower (Kd.R_new' ho26 (Kd.R_lt (aR HO_3))) (below_size aB))
                   replace HO_3 := aM (Kd.R_elder' (aR HO_3) (Kd.R_base ho26) hb)
                   replace HO617 := aM (Kd.V_elder' (aV HO617) (Kd.R_base ho26) hb)
                   replace HO632 := aM (Kd.V_elder' (aV HO632) (Kd.R_base ho26) hb)
                   replace HB := aM (below_step aB hb)
                   clear hb ho26
                   refine hK.out _ _ ((pw_cell_below HB.out hw621_0)) (fun hHeld => ?_)
                   clear hK K
                   refine nU 31 ?_
                   refine two_ (i := 4) (j := 9) (Ni := some 35) (Nj := some 40) #[true, true, true, true, true, true, true, true, true, false, false, true, true, true, false, false] #[true, true, true, true, false, true, true, true, true, true, false, true, true, true, false, false] rfl rfl rfl rfl (two_of HT_.out (by kernel_rfl)) (by decide) (by decide) (fun K hK => ?_) (fun K hK => ?_)
                   ·skip
                    refine Kd.R_append_rows_step (Kd.int .i64) (w0 := w) w.heap.size (by rfl) (.tmp 31) (.tmp 34) 32 3 (.int .i64 0) 8 rfl Try.underlying32 info3 rfl (by decide) (by omega) v611 y610 y613 _ _ _ (fun k_ => some k_ ≠ (.slice (some ad608) x3_1.length co5 : Value).ownBlock) (fun _ => False) rfl rfl ?aO ?aR (fun _ _ h => h) (fun _ h => h.elim) ?aF ?aB ?aS ?aL ?_
                    (case aR => repeat (first | exact (Kd.V_reads' HO617.out).2.2 | (with_reducible refine pC ?_)))
                    (case aB => exact aB)
                    (case aF => exact (fun k_ hk => Kd.fresh' (Kd.R_lt (aR HO_3)) k_ hk))
                    (case aO => exact (by (with_reducible repeat apply pR); exact Kd.R_mono HO612.out (fun _ hk => hk.2)))
                    (case aS => exact (below_size aB))
                    (case aL => have := LMc16.out; omega)
                    intro v619 w27 ho hb hg hat
                    rw [← Ny618.out] at ho
                    have HO620 := aM (ho)
                    replace HO_3 := aM (Kd.R_after (ok := (fun _ => True)) (aR HO_3) hg hat)
                    replace HO617 := aM (Kd.V_afterv (ok := (fun _ => True)) (aV HO617) hg hat)
                    replace HO632 := aM (Kd.V_afterv (ok := (fun _ => True)) (aV HO632) hg hat)
                    replace HB := aM (hb)
                    clear HO612
                    clear ho hb hg hat
                    refine hK.out _ _ ((pw_cell_below HB.out hw621_0)) (fun hHeld => ?_)
                    clear hK K
                    refine nU 35 ?_
                    refine oU 9 40 (fun K hK => ?_)
                    refine Kd.R_lit_step (Kd.int .i64) _ 3 ?hg (N := 40) ?hd (xs := ([rd l0 x4_1] : List Int)) (inner := [.int .i64 (rd l0 x4_1)]) (ok := fun _ => True) (okp := fun _ => True) ?hr ?hp (fun _ hk => hk) trivial (Below.refl _ _) (Nat.le_refl _) (by simp) ?_; (case hd => rfl); (case hg => rfl); (case hr => first | (go_simp; done) | (go_simp; rfl)); (case hp => exact (Reps.one (show Kd.M (Kd.int .i64) _ _ _ (rd l0 x4_1) [.int .i64 (rd l0 x4_1)] from rfl) (Reps.none _ _)))
                    intro v623 w28 ho29 hb hg_ hnew_
                    clear hg_ hnew_
                    (first | rw [← Ny622.out] at ho29 | (simp only [Int.reduceToNat] at ho29; rw [← Ny622.out] at ho29))
                    have HO624 := aM (Kd.R_lower (Kd.R_new' (Kd.R_new' ho29 (Kd.R_lt (aR HO_3))) (Kd.R_lt (aR HO620))) (below_size aB))
                    replace HO_3 := aM (Kd.R_elder' (aR HO_3) (Kd.R_base ho29) hb)
                    replace HO617 := aM (Kd.V_elder' (aV HO617) (Kd.R_base ho29) hb)
                    replace HO632 := aM (Kd.V_elder' (aV HO632) (Kd.R_base ho29) hb)
                    replace HO620 := aM (Kd.R_elder' (aR HO620) (Kd.R_base ho29) hb)
                    replace HB := aM (below_step aB hb)
                    clear hb ho29
                    refine hK.out _ _ ((pw_cell_below HB.out hw621_0)) (fun hHeld => ?_)
                    clear hK K
                    refine nU 40 ?_
                    exact norm_ (by simp only [putAll, Act.put, List.setIfInBounds_toArray, List.set_cons_zero, List.set_cons_succ]) (hCont (v611, v619, v623) _ ⟨hHeld, (by (with_reducible repeat apply pV); exact Kd.V_mono HO617.out (fun _ hk => ⟨hk.1.2, hk.2⟩)), (by (with_reducible repeat apply pR); exact Kd.R_mono HO620.out (fun _ hk => ⟨hk.2, hk.1⟩)), (by (with_reducible repeat apply pR); exact Kd.R_mono HO624.out (fun _ hk => ⟨hk.2, hk.1.2⟩)), (by (with_reducible repeat apply pV); exact Kd.V_mono HO632.out (fun _ hk => ⟨hk.1.2, hk.2⟩)), (by (with_reducible repeat apply pR); exact Kd.R_mono HO_3.out (fun _ hk => ⟨hk.1.2, hk.2⟩)), aB⟩)
                   ·skip
                    refine Kd.R_lit_step (Kd.int .i64) _ 3 ?hg (N := 40) ?hd (xs := ([rd l0 x4_1] : List Int)) (inner := [.int .i64 (rd l0 x4_1)]) (ok := fun _ => True) (okp := fun _ => True) ?hr ?hp (fun _ hk => hk) trivial (Below.refl _ _) (Nat.le_refl _) (by simp) ?_; (case hd => rfl); (case hg => rfl); (case hr => first | (go_simp; done) | (go_simp; rfl)); (case hp => exact (Reps.one (show Kd.M (Kd.int .i64) _ _ _ (rd l0 x4_1) [.int .i64 (rd l0 x4_1)] from rfl) (Reps.none _ _)))
                    intro v623 w27 ho28 hb hg_ hnew_
                    clear hg_ hnew_
                    (first | rw [← Ny622.out] at ho28 | (simp only [Int.reduceToNat] at ho28; rw [← Ny622.out] at ho28))
                    have HO624 := aM (Kd.R_lower (Kd.R_new' (Kd.R_new' ho28 (Kd.R_lt (aR HO_3))) (Kd.R_lt (aR HO612))) (below_size aB))
                    replace HO_3 := aM (Kd.R_elder' (aR HO_3) (Kd.R_base ho28) hb)
                    replace HO617 := aM (Kd.V_elder' (aV HO617) (Kd.R_base ho28) hb)
                    replace HO632 := aM (Kd.V_elder' (aV HO632) (Kd.R_base ho28) hb)
                    replace HO612 := aM (Kd.R_elder' (aR HO612) (Kd.R_base ho28) hb)
                    replace HB := aM (below_step aB hb)
                    clear hb ho28
                    refine hK.out _ _ ((pw_cell_below HB.out hw621_0)) (fun hHeld => ?_)
                    clear hK K
                    refine nU 40 ?_
                    refine oU 4 35 (fun K hK => ?_)
                    refine Kd.R_append_rows_step (Kd.int .i64) (w0 := w) w.heap.size (by rfl) (.tmp 31) (.tmp 34) 32 3 (.int .i64 0) 8 rfl Try.underlying32 info3 rfl (by decide) (by omega) v611 y610 y613 _ _ _ (fun k_ => some k_ ≠ (.slice (some ad608) x3_1.length co5 : Value).ownBlock ∧ some k_ ≠ (v623 : Value).ownBlock) (fun _ => False) rfl rfl ?aO ?aR (fun _ _ h => h) (fun _ h => h.elim) ?aF ?aB ?aS ?aL ?_
                    (case aR => repeat (first | exact (Kd.V_reads' HO617.out).2.2 | (with_reducible refine pC ?_)))
                    (case aB => exact aB)
                    (case aF => exact (fun k_ hk => ⟨Kd.fresh' (Kd.R_lt (aR HO_3)) k_ hk, Kd.fresh' (Kd.R_lt (aR HO624)) k_ hk⟩))
                    (case aO => exact (by (with_reducible repeat apply pR); exact Kd.R_mono HO612.out (fun _ hk => ⟨hk.1.2, hk.2⟩)))
                    (case aS => exact (below_size aB))
                    (case aL => have := LMc16.out; omega)
                    intro v619 w29 ho hb hg hat
                    rw [← Ny618.out] at ho
                    have HO620 := aM (ho)
                    replace HO_3 := aM (Kd.R_after (ok := (fun k_ => some k_ ≠ (v623 : Value).ownBlock)) (by (with_reducible repeat apply pR); exact Kd.R_mono HO_3.out (fun _ hk => ⟨hk.2, hk.1.2⟩)) hg hat)
                    replace HO617 := aM (Kd.V_afterv (ok := (fun k_ => some k_ ≠ (v623 : Value).ownBlock)) (by (with_reducible repeat apply pV); exact Kd.V_mono HO617.out (fun _ hk => ⟨hk.2, hk.1.2⟩)) hg hat)
                    replace HO632 := aM (Kd.V_afterv (ok := (fun k_ => some k_ ≠ (v623 : Value).ownBlock)) (by (with_reducible repeat apply pV); exact Kd.V_mono HO632.out (fun _ hk => ⟨hk.2, hk.1.2⟩)) hg hat)
                    replace HO624 := aM (Kd.R_after (ok := (fun k_ => some k_ ≠ (.slice (some ad608) x3_1.length co5 : Value).ownBlock)) (by (with_reducible repeat apply pR); exact Kd.R_mono HO624.out (fun _ hk => ⟨hk.1.2, hk.2⟩)) hg hat)
                    replace HB := aM (hb)
                    clear HO612
                    clear ho hb hg hat
                    refine hK.out _ _ ((pw_cell_below HB.out hw621_0)) (fun hHeld => ?_)
                    clear hK K
                    refine nU 35 ?_
                    exact norm_ (by simp only [putAll, Act.put, List.setIfInBounds_toArray, List.set_cons_zero, List.set_cons_succ]) (hCont (v611, v619, v623) _ ⟨hHeld, (by (with_reducible repeat apply pV); exact Kd.V_mono HO617.out (fun _ hk => ⟨hk.2, hk.1⟩)), (by (with_reducible repeat apply pR); exact Kd.R_mono HO620.out (fun _ hk => ⟨hk.2, hk.1⟩)), (by (with_reducible repeat apply pR); exact Kd.R_mono HO624.out (fun _ hk => ⟨hk.2, hk.1⟩)), (by (with_reducible repeat apply pV); exact Kd.V_mono HO632.out (fun _ hk => ⟨hk.2, hk.1⟩)), (by (with_reducible repeat apply pR); exact Kd.R_mono HO_3.out (fun _ hk => ⟨hk.2, hk.1⟩)), aB⟩)
                  ·skip
                   refine Kd.R_lit_step (Kd.int .i64) _ 3 ?hg (N := 40) ?hd (xs := ([rd l0 x4_1] : List Int)) (inner := [.int .i64 (rd l0 x4_1)]) (ok := fun _ => True) (okp := fun _ => True) ?hr ?hp (fun _ hk => hk) trivial (Below.refl _ _) (Nat.le_refl _) (by simp) ?_; (case hd => rfl); (case hg => rfl); (case hr => first | (go_simp; done) | (go_simp; rfl)); (case hp => exact (Reps.one (show Kd.M (Kd.int .i64) _ _ _ (rd l0 x4_1) [.int .i64 (rd l0 x4_1)] from rfl) (Reps.none _ _)))
                   intro v623 w25 ho26 hb hg_ hnew_
                   clear hg_ hnew_
                   (first | rw [← Ny622.out] at ho26 | (simp only [Int.reduceToNat] at ho26; rw [← Ny622.out] at ho26))
                   have HO624 := aM (Kd.R_lower (Kd.R_new' ho26 (Kd.R_lt (aR HO_3))) (below_size aB))
                   replace HO_3 := aM (Kd.R_elder' (aR HO_3) (Kd.R_base ho26) hb)
                   replace HO617 := aM (Kd.V_elder' (aV HO617) (Kd.R_base ho26) hb)
                   replace HO632 := aM (Kd.V_elder' (aV HO632) (Kd.R_base ho26) hb)
                   replace HB := aM (below_step aB hb)
                   clear hb ho26
                   refine hK.out _ _ ((pw_cell_below HB.out hw621_0)) (fun hHeld => ?_)
                   clear hK K
                   refine nU 40 ?_
                   refine oU 0 31 (fun K hK => ?_)
                   refine Kd.R_lit_step (Kd.int .i64) _ 3 ?hg (N := 31) ?hd (xs := ([] : List Int)) (inner := []) (ok := fun _ => True) (okp := fun _ => True) ?hr ?hp (fun _ hk => hk) trivial (Below.refl _ _) (Nat.le_refl _) (by simp) ?_; (case hd => rfl); (case hg => rfl); (case hr => first | (go_simp; done) | (go_simp; rfl)); (case hp => exact (Reps.none _ _))
                   intro v611 w27 ho28 hb hg_ hnew_
                   clear hg_ hnew_
                   (first | rw [← Ny610.out] at ho28 | (simp only [Int.reduceToNat] at ho28; rw [← Ny610.out] at ho28))
                   have HO612 := aM (Kd.R_lower (Kd.R_new' (Kd.R_new' ho28 (Kd.R_lt (aR HO_3))) (Kd.R_lt (aR HO624))) (below_size aB))
                   replace HO_3 := aM (Kd.R_elder' (aR HO_3) (Kd.R_base ho28) hb)
                   replace HO617 := aM (Kd.V_elder' (aV HO617) (Kd.R_base ho28) hb)
                   replace HO632 := aM (Kd.V_elder' (aV HO632) (Kd.R_base ho28) hb)
                   replace HO624 := aM (Kd.R_elder' (aR HO624) (Kd.R_base ho28) hb)
                   replace HB := aM (below_step aB hb)
                   clear hb ho28
                   refine hK.out _ _ ((pw_cell_below HB.out hw621_0)) (fun hHeld => ?_)
                   clear hK K
                   refine nU 31 ?_
                   refine oU 4 35 (fun K hK => ?_)
                   refine Kd.R_append_rows_step (Kd.int .i64) (w0 := w) w.heap.size (by rfl) (.tmp 31) (.tmp 34) 32 3 (.int .i64 0) 8 rfl Try.underlying32 info3 rfl (by decide) (by omega) v611 y610 y613 _ _ _ (fun k_ => some k_ ≠ (.slice (some ad608) x3_1.length co5 : Value).ownBlock ∧ some k_ ≠ (v623 : Value).ownBlock) (fun _ => False) rfl rfl ?aO ?aR (fun _ _ h => h) (fun _ h => h.elim) ?aF ?aB ?aS ?aL ?_
                   (case aR => repeat (first | exact (Kd.V_reads' HO617.out).2.2 | (with_reducible refine pC ?_)))
                   (case aB => exact aB)
                   (case aF => exact (fun k_ hk => ⟨Kd.fresh' (Kd.R_lt (aR HO_3)) k_ hk, Kd.fresh' (Kd.R_lt (aR HO624)) k_ hk⟩))
                   (case aO => exact (by (with_reducible repeat apply pR); exact Kd.R_mono HO612.out (fun _ hk => ⟨hk.1.2, hk.2⟩)))
                   (case aS => exact (below_size aB))
                   (case aL => have := LMc16.out; omega)
                   intro v619 w29 ho hb hg hat
                   rw [← Ny618.out] at ho
                   have HO620 := aM (ho)
                   replace HO_3 := aM (Kd.R_after (ok := (fun k_ => some k_ ≠ (v623 : Value).ownBlock)) (by (with_reducible repeat apply pR); exact Kd.R_mono HO_3.out (fun _ hk => ⟨hk.1.2, hk.2⟩)) hg hat)
                   replace HO617 := aM (Kd.V_afterv (ok := (fun k_ => some k_ ≠ (v623 : Value).ownBlock)) (by (with_reducible repeat apply pV); exact Kd.V_mono HO617.out (fun _ hk => ⟨hk.1.2, hk.2⟩)) hg hat)
                   replace HO632 := aM (Kd.V_afterv (ok := (fun k_ => some k_ ≠ (v623 : Value).ownBlock)) (by (with_reducible repeat apply pV); exact Kd.V_mono HO632.out (fun _ hk => ⟨hk.1.2, hk.2⟩)) hg hat)
                   replace HO624 := aM (Kd.R_after (ok := (fun k_ => some k_ ≠ (.slice (some ad608) x3_1.length co5 : Value).ownBlock)) (by (with_reducible repeat apply pR); exact Kd.R_mono HO624.out (fun _ hk => ⟨hk.1.2, hk.2⟩)) hg hat)
                   replace HB := aM (hb)
                   clear HO612
                   clear ho hb hg hat
                   refine hK.out _ _ ((pw_cell_below HB.out hw621_0)) (fun hHeld => ?_)
                   clear hK K
                   refine nU 35 ?_
                   exact norm_ (by simp only [putAll, Act.put, List.setIfInBounds_toArray, List.set_cons_zero, List.set_cons_succ]) (hCont (v611, v619, v623) _ ⟨hHeld, (by (with_reducible repeat apply pV); exact Kd.V_mono HO617.out (fun _ hk => ⟨hk.2, hk.1⟩)), (by (with_reducible repeat apply pR); exact Kd.R_mono HO620.out (fun _ hk => ⟨hk.2, hk.1⟩)), (by (with_reducible repeat apply pR); exact Kd.R_mono HO624.out (fun _ hk => ⟨hk.2, hk.1⟩)), (by (with_reducible repeat apply pV); exact Kd.V_mono HO632.out (fun _ hk => ⟨hk.2, hk.1⟩)), (by (with_reducible repeat apply pR); exact Kd.R_mono HO_3.out (fun _ hk => ⟨hk.2, hk.1⟩)), aB⟩)
                 rintro ⟨v611, v619, v623⟩ w30 ⟨hS_, h0_, h1_, h2_, h3_, h4_, h5_⟩
                 have n0_ : Aside0 (Kd.V (Kd.int .i64) 3 w30 w.heap.size (fun k_ => some k_ ≠ (v619 : Value).ownBlock ∧ some k_ ≠ (v623 : Value).ownBlock) (.slice (some ad608) y613.length co5) y613) := ⟨h0_⟩
                 have n1_ : Aside0 (Kd.R (Kd.int .i64) 3 w30 w.heap.size (fun k_ => some k_ ≠ (v623 : Value).ownBlock ∧ some k_ ≠ (.slice (some ad608) x3_1.length co5 : Value).ownBlock) v619 y618) := ⟨h1_⟩
                 have n2_ : Aside0 (Kd.R (Kd.int .i64) 3 w30 w.heap.size (fun k_ => some k_ ≠ (v619 : Value).ownBlock ∧ some k_ ≠ (.slice (some ad608) x3_1.length co5 : Value).ownBlock) v623 y622) := ⟨h2_⟩
                 have n3_ : Aside0 (Kd.V (Kd.int .i64) 3 w30 w.heap.size (fun k_ => some k_ ≠ (v619 : Value).ownBlock ∧ some k_ ≠ (v623 : Value).ownBlock) (.slice A24 y628.length c24) y628) := ⟨h3_⟩
                 have n4_ : Aside0 (Kd.R (Kd.int .i64) 3 w30 w.heap.size (fun k_ => some k_ ≠ (v619 : Value).ownBlock ∧ some k_ ≠ (v623 : Value).ownBlock) (.slice (some ad608) x3_1.length co5) x3_1) := ⟨h4_⟩
                 have n5_ : Aside0 (Below w.heap.size w w30) := ⟨h5_⟩
                 clear HO_3
                 clear HB
                 clear h0_ h1_ h2_ h3_ h4_ h5_
                 have HO617 := n0_
                 have HO620 := n1_
                 have HO624 := n2_
                 have HO632 := n3_
                 have HO_3 := n4_
                 have HB := n5_
                 clear n0_ n1_ n2_ n3_ n4_ n5_
                 have hHeld : w30.cell? (ad609.add (x4_1).toNat) = some (.int .i64 (rd l0 x4_1)) := hS_
                 obtain ⟨Ao32, co32, eo32⟩ := Kd.R_slice HO624.out
                 (first | subst eo32 | (injection eo32 with f1_ f2_ f3_; have f4_ := f1_.symm; have f5_ := f3_.symm; clear f1_ f2_ f3_; subst f4_; subst f5_))
                 refine norm_ (a' := ?_) ?_ ?_
                 rotate_left
                 ·simp only [putAll, Act.put, List.setIfInBounds_toArray, List.set_cons_zero, List.set_cons_succ]
                  rfl
                 refine oU 10 41 (fun K hK => ?_)
                 refine Kd.R_append_rows_step (Kd.int .i64) (w0 := w) w.heap.size (by rfl) (.tmp 35) (.tmp 40) 32 3 (.int .i64 0) 8 rfl Try.underlying32 info3 rfl (by decide) (by omega) v619 y618 y622 _ _ _ (fun k_ => some k_ ≠ (.slice (some ad608) x3_1.length co5 : Value).ownBlock ∧ some k_ ≠ (.slice Ao32 y622.length co32 : Value).ownBlock) (fun _ => False) rfl rfl ?aO ?aR (fun _ _ h => h) (fun _ h => h.elim) ?aF ?aB ?aS ?aL ?_
                 (case aR => repeat (first | exact (Kd.R_reads' HO624.out).2.2 | (with_reducible refine pC ?_)))
                 (case aB => exact aB)
                 (case aF => exact (fun k_ hk => ⟨Kd.fresh' (Kd.R_lt (aR HO_3)) k_ hk, Kd.fresh' (Kd.R_lt (aR HO624)) k_ hk⟩))
                 (case aO => exact (by (with_reducible repeat apply pR); exact Kd.R_mono HO620.out (fun _ hk => ⟨hk.2, hk.1⟩)))
                 (case aS => exact (below_size aB))
                 (case aL => have := LMc17.out; omega)
                 intro v626 w31 ho hb hg hat
                 rw [← Ny625.out] at ho
                 have HO627 := aM (ho)
                 replace HO_3 := aM (Kd.R_after (ok := (fun k_ => some k_ ≠ (.slice Ao32 y622.length co32 : Value).ownBlock)) (by (with_reducible repeat apply pR); exact Kd.R_mono HO_3.out (fun _ hk => ⟨hk.2, hk.1⟩)) hg hat)
                 replace HO617 := aM (Kd.V_afterv (ok := (fun k_ => some k_ ≠ (.slice Ao32 y622.length co32 : Value).ownBlock)) (by (with_reducible repeat apply pV); exact Kd.V_mono HO617.out (fun _ hk => ⟨hk.2, hk.1⟩)) hg hat)
                 replace HO632 := aM (Kd.V_afterv (ok := (fun k_ => some k_ ≠ (.slice Ao32 y622.length co32 : Value).ownBlock)) (by (with_reducible repeat apply pV); exact Kd.V_mono HO632.out (fun _ hk => ⟨hk.2, hk.1⟩)) hg hat)
                 replace HO624 := aM (Kd.R_after (ok := (fun k_ => some k_ ≠ (.slice (some ad608) x3_1.length co5 : Value).ownBlock)) (by (with_reducible repeat apply pR); exact Kd.R_mono HO624.out (fun _ hk => ⟨hk.2, hk.1⟩)) hg hat)
                 replace HB := aM (hb)
                 clear HO620
                 clear ho hb hg hat
                 refine hK.out _ _ ((pw_cell_below HB.out hw621_0)) (fun hHeld => ?_)
                 clear hK K
                 refine nU 41 ?_
                 refine oU 14 45 (fun K hK => ?_)
                 refine Kd.R_append_rows_step (Kd.int .i64) (w0 := w) w.heap.size (by rfl) (.tmp 41) (.tmp 44) 32 3 (.int .i64 0) 8 rfl Try.underlying32 info3 rfl (by decide) (by omega) v626 y625 y628 _ _ _ (fun k_ => some k_ ≠ (.slice (some ad608) x3_1.length co5 : Value).ownBlock ∧ some k_ ≠ (.slice Ao32 y622.length co32 : Value).ownBlock) (fun _ => False) rfl rfl ?aO ?aR (fun _ _ h => h) (fun _ h => h.elim) ?aF ?aB ?aS ?aL ?_
                 (case aR => repeat (first | exact (Kd.V_reads' HO632.out).2.2 | (with_reducible refine pC ?_)))
                 (case aB => exact aB)
                 (case aF => exact (fun k_ hk => ⟨Kd.fresh' (Kd.R_lt (aR HO_3)) k_ hk, Kd.fresh' (Kd.R_lt (aR HO624)) k_ hk⟩))
                 (case aO => exact (aR HO627))
                 (case aS => exact (below_size aB))
                 (case aL => have := LMc20.out; omega)
                 intro v634 w33 ho hb hg hat
                 rw [← Ny633.out] at ho
                 have HO635 := aM (ho)
                 replace HO_3 := aM (Kd.R_after (ok := (fun k_ => some k_ ≠ (.slice Ao32 y622.length co32 : Value).ownBlock)) (aR HO_3) hg hat)
                 replace HO617 := aM (Kd.V_afterv (ok := (fun k_ => some k_ ≠ (.slice Ao32 y622.length co32 : Value).ownBlock)) (aV HO617) hg hat)
                 replace HO632 := aM (Kd.V_afterv (ok := (fun k_ => some k_ ≠ (.slice Ao32 y622.length co32 : Value).ownBlock)) (aV HO632) hg hat)
                 replace HO624 := aM (Kd.R_after (ok := (fun k_ => some k_ ≠ (.slice (some ad608) x3_1.length co5 : Value).ownBlock)) (aR HO624) hg hat)
                 replace HB := aM (hb)
                 clear HO627
                 clear ho hb hg hat
                 refine hK.out _ _ ((pw_cell_below HB.out hw621_0)) (fun hHeld => ?_)
                 clear hK K
                 refine nU 45 ?_
                 refine pU 15 3 ?_
                 refine done_ (done_of HT_.out (by kernel_rfl)) ?_
                 try go_wp2
                 go_roundg k2
                 case measure => have := HK1.out; have := HK2.out; omega
                 case rel => exact ⟨(y633), (wrap64 (x4_1 + 1)), aX, H', ⟨by have := HK1.out; have := HK2.out; omega⟩, ⟨by (with_reducible repeat apply pR); exact Kd.R_mono HO635.out (fun _ hk => trivial)⟩, ⟨aB⟩⟩
                ·rw [if_neg c20] at H
                 exact absurd H (by simp)
               ·rw [if_neg c17] at H
                exact absurd H (by simp)
              ·rw [if_neg c16] at H
               exact absurd H (by simp)
             ·rw [if_neg c15] at H
              exact absurd H (by simp)
            ·rw [if_neg c14] at H
             exact absurd H (by simp)
          ·rw [if_neg c11] at H
           exact absurd H (by simp)
         ·rw [if_neg c10] at H
          exact absurd H (by simp)
        ·rw [if_neg c9] at H
         exact absurd H (by simp)
       ·rw [if_neg c8] at H
        exact absurd H (by simp)
      ·rw [if_neg c6] at H
       have c6b0 : decide (0 < x5_2) = false := decide_eq_false c6
       clear c6
       obtain ⟨y636, hy636⟩ : ∃ y_ : List Int, y_ = (([] : List Int)) := ⟨_, rfl⟩
       first | replace H := bY hy636 H | rw [← hy636] at H
       have Ny636 := aM hy636
       clear hy636
       by_cases c34 : 0 ≤ x5_2
       ·rw [if_pos c34] at H
        have c34b0 := eq_true c34
        have c34b1 : decide (0 ≤ x5_2) = true := decide_eq_true c34
        clear c34
        by_cases c35 : x5_2 ≤ (x3_1.length : Int)
        ·rw [if_pos c35] at H
         have c35b0 := eq_true c35
         have c35b1 : decide (x5_2 ≤ (x3_1.length : Int)) = true := decide_eq_true c35
         clear c35
         obtain ⟨y639, hy639⟩ : ∃ y_ : List Int, y_ = (x3_1.take (x5_2 : Int).toNat) := ⟨_, rfl⟩
         first | replace H := bY hy639 H | rw [← hy639] at H
         have Ny639 := aM hy639
         clear hy639
         by_cases c36 : y636.length + y639.length < 17592186044416
         ·rw [if_pos c36] at H
          have LMc36 := aM c36
          clear c36
          obtain ⟨y644, hy644⟩ : ∃ y_ : List Int, y_ = (y636 ++ y639) := ⟨_, rfl⟩
          first | replace H := bY hy644 H | rw [← hy644] at H
          have Ny644 := aM hy644
          clear hy644
          by_cases c37 : 0 ≤ x4_1
          ·rw [if_pos c37] at H
           have c37b0 : decide (0 ≤ x4_1) = true := decide_eq_true c37
           clear c37
           by_cases c38 : x4_1 < (l0.length : Int)
           ·rw [if_pos c38] at H
            have c38b0 : decide (x4_1 < (l0.length : Int)) = true := decide_eq_true c38
            clear c38
            obtain ⟨y648, hy648⟩ : ∃ y_ : List Int, y_ = (([rd l0 x4_1] : List Int)) := ⟨_, rfl⟩
            first | replace H := bY hy648 H | rw [← hy648] at H
            have Ny648 := aM hy648
            clear hy648
            by_cases c39 : y644.length + y648.length < 17592186044416
            ·rw [if_pos c39] at H
             have LMc39 := aM c39
             clear c39
             obtain ⟨y651, hy651⟩ : ∃ y_ : List Int, y_ = (y644 ++ y648) := ⟨_, rfl⟩
             first | replace H := bY hy651 H | rw [← hy651] at H
             have Ny651 := aM hy651
             clear hy651
             have c40b0 := eq_true (aD : 0 ≤ x5_2)
             have c41b0 := eq_true (aD : x5_2 ≤ (x3_1.length : Int))
             obtain ⟨y654, hy654⟩ : ∃ y_ : List Int, y_ = (x3_1.drop (x5_2 : Int).toNat) := ⟨_, rfl⟩
             first | replace H := bY hy654 H | rw [← hy654] at H
             have Ny654 := aM hy654
             clear hy654
             by_cases c42 : y651.length + y654.length < 17592186044416
             ·rw [if_pos c42] at H
              have LMc42 := aM c42
              clear c42
              obtain ⟨y659, hy659⟩ : ∃ y_ : List Int, y_ = (y651 ++ y654) := ⟨_, rfl⟩
              first | replace H := bY hy659 H | rw [← hy659] at H
              have Ny659 := aM hy659
              clear hy659
              have H' := aM H
              clear H
              try go_wp2
              replace HO_3 := aM (Kd.R_drew HO_3.out)
              replace HB := aM (below_drew1 HB.out)
              refine start_ (n := 14) (S := fun w' => True) (ds := []) #[false, false, false, false, false, false, false, false, false, false, false, false, false, false] (by kernel_rfl) rfl rfl trivial (fun hHeld => ?_); refine with_tabW spec_l7Sorted.tab6 spec_l7Sorted.bits6 (fun HT_ HW_ => ?_)
              generalize wr.drew = w43 at HO_3 HB hHeld ⊢
              refine pU 0 15 ?_
              refine pU 1 16 ?_
              refine pU 2 17 ?_
              refine pure_ (i := 3) (N := some 18) (v := undef) (a' := ?_) #[true, true, true, true, false, false, false, false, false, false, false, false, false, false] rfl rfl (any_of HT_.out (by kernel_rfl)) (fun _ _ _ h => h) (Or.inr ⟨by rfl, rfl⟩) ?_ ?_
              rotate_left
              ·exact aP
              refine pure_ (i := 4) (N := some 19) (v := undef) (a' := ?_) #[true, true, true, true, true, false, false, false, false, false, false, false, false, false] rfl rfl (any_of HT_.out (by kernel_rfl)) (fun _ _ _ h => h) (Or.inr ⟨by rfl, rfl⟩) ?_ ?_
              rotate_left
              ·exact aP
              refine pure_ (i := 5) (N := some 20) (v := undef) (a' := ?_) #[true, true, true, true, true, true, false, false, false, false, false, false, false, false] rfl rfl (any_of HT_.out (by kernel_rfl)) (fun _ _ _ h => h) (Or.inr ⟨by rfl, rfl⟩) ?_ ?_
              rotate_left
              ·exact aP
              refine pure_ (i := 6) (N := some 21) (v := undef) (a' := ?_) #[true, true, true, true, true, true, true, false, false, false, false, false, false, false] rfl rfl (any_of HT_.out (by kernel_rfl)) (fun _ _ _ h => h) (Or.inr ⟨by rfl, rfl⟩) ?_ ?_
              rotate_left
              ·exact aP
              refine pure_ (i := 7) (N := some 22) (v := undef) (a' := ?_) #[true, true, true, true, true, true, true, true, false, false, false, false, false, false] rfl rfl (any_of HT_.out (by kernel_rfl)) (fun _ _ _ h => h) (Or.inr ⟨by rfl, rfl⟩) ?_ ?_
              rotate_left
              ·exact aP
              refine pure_ (i := 8) (N := some 23) (v := undef) (a' := ?_) #[true, true, true, true, true, true, true, true, true, false, false, false, false, false] rfl rfl (any_of HT_.out (by kernel_rfl)) (fun _ _ _ h => h) (Or.inr ⟨by rfl, rfl⟩) ?_ ?_
              rotate_left
              ·exact aP
              refine pure_ (i := 9) (N := some 24) (v := undef) (a' := ?_) #[true, true, true, true, true, true, true, true, true, true, false, false, false, false] rfl rfl (any_of HT_.out (by kernel_rfl)) (fun _ _ _ h => h) (Or.inr ⟨by rfl, rfl⟩) ?_ ?_
              rotate_left
              ·exact aP
              refine pure_ (i := 10) (N := some 25) (v := undef) (a' := ?_) #[true, true, true, true, true, true, true, true, true, true, true, false, false, false] rfl rfl (any_of HT_.out (by kernel_rfl)) (fun _ _ _ h => h) (Or.inr ⟨by rfl, rfl⟩) ?_ ?_
              rotate_left
              ·exact aP
              refine pure_ (i := 11) (N := some 26) (v := undef) (a' := ?_) #[true, true, true, true, true, true, true, true, true, true, true, true, false, false] rfl rfl (any_of HT_.out (by kernel_rfl)) (fun _ _ _ h => h) (Or.inr ⟨by rfl, rfl⟩) ?_ ?_
              rotate_left
              ·exact aP
              refine pure_ (i := 12) (N := some 27) (v := undef) (a' := ?_) #[true, true, true, true, true, true, true, true, true, true, true, true, true, false] rfl rfl (any_of HT_.out (by kernel_rfl)) (fun _ _ _ h => h) (Or.inr ⟨by rfl, rfl⟩) ?_ ?_
              rotate_left
              ·exact aP
              refine pU 13 28 ?_
              refine done_ (done_of HT_.out (by kernel_rfl)) ?_
              try go_wp2
              replace HO_3 := aM (Kd.R_drew HO_3.out)
              replace HB := aM (below_drew1 HB.out)
              have q45 : (x5_2 : Int) ≤ ((x3_1.length : Int) : Int) := aD
              obtain ⟨i045, hi045, _, hsz45, _⟩ := info_parts info3
              have hroom45 : x3_1.length ≤ co5 := (Kd.R_reads' HO_3.out).2.1
              have hC45 : Kd.F (Kd.int .i64) _ _ Ao5 x3_1.length x3_1 := (Kd.V_at (base := w.heap.size) (Kd.R_V HO_3.out)).2.2
              have hcut45 := cut_to (P := Try.prog) 32 3 .i64 Try.underlying32 hi045 Ao5 x3_1.length co5 x5_2 (aD) q45 hroom45
              have hr45 := Kd.F_take (m := (x5_2 : Int).toNat) hC45 (by omega)
              have hy45 : y639.length = (x5_2 : Int).toNat := (by rw [Ny639.out, List.length_take]; omega)
              rw [← Ny639.out] at hr45
              rw [← hy45] at hcut45
              have HO643 := aM (show Kd.V (Kd.int .i64) 3 _ w.heap.size _ (.slice Ao5 y639.length co5) y639 from Kd.V_mk (by omega) hr45)
              have HC643 := aM (show y639.length ≤ co5 from by omega)
              clear hr45 hC45 hroom45 hi045 hsz45
              have KY45 := aM hy45
              clear hy45
              replace q45 := eq_true q45
              have p647 : 0 ≤ (x4_1 : Int) := aD
              have q647 : x4_1 < (l0.length : Int) := aD
              obtain ⟨ad647, e647, hx647_0⟩ := Kd.at_int HR0.out x4_1 p647 q647
              have hw647_0 := hx647_0
              cases e647
              replace hx647_0 := (HB.out.cell (World.block_lt_of_cell? w _ hx647_0)).trans hx647_0
              replace p647 := eq_true p647
              replace q647 := eq_true q647
              have q46 : (x5_2 : Int) ≤ ((x3_1.length : Int) : Int) := aD
              obtain ⟨i046, hi046, _, hsz46, _⟩ := info_parts info3
              have hroom46 : x3_1.length ≤ co5 := (Kd.R_reads' HO_3.out).2.1
              have hC46 : Kd.F (Kd.int .i64) _ _ Ao5 x3_1.length x3_1 := (Kd.V_at (base := w.heap.size) (Kd.R_V HO_3.out)).2.2
              have q046 : (0 : Int) ≤ (x5_2 : Int) := aD
              have hcut46 := cut_from (P := Try.prog) 32 3 .i64 Try.underlying32 hi046 1 hsz46 Ao5 x3_1.length co5 x5_2 q046 q46
              have hr46 := Kd.F_cut (m := (x5_2 : Int).toNat) (c := co5) hC46 (by omega) hroom46
              obtain ⟨A46, hA46⟩ : ∃ A1, A1 = (if co5 = (x5_2 : Int).toNat then Ao5 else (Ao5 : Option Addr).map (·.add ((x5_2 : Int).toNat * 1))) := ⟨_, rfl⟩
              obtain ⟨c46, hc46⟩ : ∃ c1, c1 = co5 - (x5_2 : Int).toNat := ⟨_, rfl⟩
              have hy46 : y654.length = x3_1.length - (x5_2 : Int).toNat := (by rw [Ny654.out, List.length_drop] <;> omega)
              rw [show (x3_1).drop (x5_2 : Int).toNat = y654 from Ny654.out.symm] at hr46
              replace hr46 : Kd.F (Kd.int .i64) _ _ A46 y654.length y654 := (by rw [hA46]; exact hr46)
              rw [← hy46, ← hA46, ← hc46] at hcut46
              have HO658 := aM (show Kd.V (Kd.int .i64) 3 _ w.heap.size _ (.slice A46 y654.length c46) y654 from Kd.V_mk (by rw [hy46, hc46]; exact Nat.sub_le_sub_right hroom46 _) hr46)
              have HC658 := aM (show y654.length ≤ c46 from by rw [hy46, hc46]; exact Nat.sub_le_sub_right hroom46 _)
              clear hr46 hC46 hroom46 hi046 hsz46 hc46
              have KY46 := aM hy46
              have KA46 := aM hA46
              clear hy46 hA46
              replace q46 := eq_true q46
              refine start_ (n := 16) (S := fun w' => w'.cell? (ad647.add (x4_1).toNat) = some (.int .i64 (rd l0 x4_1))) (ds := []) #[false, false, false, false, false, false, false, false, false, false, false, false, false, false, false, false] (by kernel_rfl) rfl rfl ((pw_cell_below HB.out hw647_0)) (fun hHeld => ?_); refine with_tabW spec_l7Sorted.tab8 spec_l7Sorted.bits8 (fun HT_ HW_ => ?_)
              generalize w43.drew = w44 at HO_3 HB HO643 HO658 hx647_0 hHeld ⊢
              refine pU 1 32 ?_
              refine pU 2 33 ?_
              refine pU 3 34 ?_
              refine pU 5 36 ?_
              refine pU 6 37 ?_
              refine pU 7 38 ?_
              refine pU 11 42 ?_
              refine pU 12 43 ?_
              refine pU 13 44 ?_
              refine take_ (i := 8) (N := some 39) (v := ?_) (a' := ?_) #[false, true, true, true, false, true, true, true, true, false, false, true, true, true, false, false] rfl rfl (take_ofW HT_.out HW_.out (by kernel_rfl)) (fun _ _ _ h => h) (Or.inl ⟨by rfl, ?_⟩) hHeld ?_ ?_
              rotate_left
              ·intro w' s0
               go_simp
               with_reducible rfl
              rotate_left
              ·exact aP
              refine join_ (σ := Value × Value × Value) 3 #[true, true, true, true, true, true, true, true, true, true, false, true, true, true, false, false] (fun s_ => [(31, s_.1), (35, s_.2.1), (40, s_.2.2)]) (fun s_ w' => (w'.cell? (ad647.add (x4_1).toNat) = some (.int .i64 (rd l0 x4_1))) ∧ (Kd.V (Kd.int .i64) 3 w' w.heap.size (fun k_ => some k_ ≠ (s_.2.1 : Value).ownBlock ∧ some k_ ≠ (s_.2.2 : Value).ownBlock) (.slice Ao5 y639.length co5) y639) ∧ (Kd.R (Kd.int .i64) 3 w' w.heap.size (fun k_ => some k_ ≠ (s_.2.2 : Value).ownBlock ∧ some k_ ≠ (.slice Ao5 x3_1.length co5 : Value).ownBlock) s_.2.1 y644) ∧ (Kd.R (Kd.int .i64) 3 w' w.heap.size (fun k_ => some k_ ≠ (s_.2.1 : Value).ownBlock ∧ some k_ ≠ (.slice Ao5 x3_1.length co5 : Value).ownBlock) s_.2.2 y648) ∧ (Kd.V (Kd.int .i64) 3 w' w.heap.size (fun k_ => some k_ ≠ (s_.2.1 : Value).ownBlock ∧ some k_ ≠ (s_.2.2 : Value).ownBlock) (.slice A46 y654.length c46) y654) ∧ (Kd.R (Kd.int .i64) 3 w' w.heap.size (fun k_ => some k_ ≠ (s_.2.1 : Value).ownBlock ∧ some k_ ≠ (s_.2.2 : Value).ownBlock) (.slice Ao5 x3_1.length co5) x3_1) ∧ (Below w.heap.size w w')) ?_ ?_
              rotate_left
              ·intro hCont
               refine two_ (i := 0) (j := 9) (Ni := some 31) (Nj := some 40) #[true, true, true, true, false, true, true, true, true, false, false, true, true, true, false, false] #[false, true, true, true, false, true, true, true, true, true, false, true, true, true, false, false] rfl rfl rfl rfl (two_of HT_.out (by kernel_rfl)) (by decide) (by decide) (fun K hK => ?_) (fun K hK => ?_)
               ·skip
                refine Kd.R_lit_step (Kd.int .i64) _ 3 ?hg (N := 31) ?hd (xs := ([] : List Int)) (inner := []) (ok := fun _ => True) (okp := fun _ => True) ?hr ?hp (fun _ hk => hk) trivial (Below.refl _ _) (Nat.le_refl _) (by simp) ?_; (case hd => rfl); (case hg => rfl); (case hr => first | (go_simp; done) | (go_simp; rfl)); (case hp => exact (Reps.none _ _))
                intro v637 w47 ho48 hb hg_ hnew_
                clear hg_ hnew_
                (first | rw [← Ny636.out] at ho48 | (simp only [Int.reduceToNat] at ho48; rw [← Ny636.out] at ho48))
                have HO638 := aM (Kd.R_lower (Kd.R_new' ho48 (Kd.R_lt (aR HO_3))) (below_size aB))
                replace HO_3 := aM (Kd.R_elder' (aR HO_3) (Kd.R_base ho48) hb)
                replace HO643 := aM (Kd.V_elder' (aV HO643) (Kd.R_base ho48) hb)
                replace HO658 := aM (Kd.V_elder' (aV HO658) (Kd.R_base ho48) hb)
                replace HB := aM (below_step aB hb)
                clear hb ho48
                refine hK.out _ _ ((pw_cell_below HB.out hw647_0)) (fun hHeld => ?_)
                clear hK K
                refine nU 31 ?_
                refine two_ (i := 4) (j := 9) (Ni := some 35) (Nj := some 40) #[true, true, true, true, true, true, true, true, true, false, false, true, true, true, false, false] #[true, true, true, true, false, true, true, true, true, true, false, true, true, true, false, false] rfl rfl rfl rfl (two_of HT_.out (by kernel_rfl)) (by decide) (by decide) (fun K hK => ?_) (fun K hK => ?_)
                ·skip
                 refine Kd.R_append_rows_step (Kd.int .i64) (w0 := w) w.heap.size (by rfl) (.tmp 31) (.tmp 34) 32 3 (.int .i64 0) 8 rfl Try.underlying32 info3 rfl (by decide) (by omega) v637 y636 y639 _ _ _ (fun k_ => some k_ ≠ (.slice Ao5 x3_1.length co5 : Value).ownBlock) (fun _ => False) rfl rfl ?aO ?aR (fun _ _ h => h) (fun _ h => h.elim) ?aF ?aB ?aS ?aL ?_
                 (case aR => repeat (first | exact (Kd.V_reads' HO643.out).2.2 | (with_reducible refine pC ?_)))
                 (case aB => exact aB)
                 (case aF => exact (fun k_ hk => Kd.fresh' (Kd.R_lt (aR HO_3)) k_ hk))
                 (case aO => exact (by (with_reducible repeat apply pR); exact Kd.R_mono HO638.out (fun _ hk => hk.2)))
                 (case aS => exact (below_size aB))
                 (case aL => have := LMc36.out; omega)
                 intro v645 w49 ho hb hg hat
                 rw [← Ny644.out] at ho
                 have HO646 := aM (ho)
                 replace HO_3 := aM (Kd.R_after (ok := (fun _ => True)) (aR HO_3) hg hat)
                 replace HO643 := aM (Kd.V_afterv (ok := (fun _ => True)) (aV HO643) hg hat)
                 replace HO658 := aM (Kd.V_afterv (ok := (fun _ => True)) (aV HO658) hg hat)
                 replace HB := aM (hb)
                 clear HO638
                 clear ho hb hg hat
                 refine hK.out _ _ ((pw_cell_below HB.out hw647_0)) (fun hHeld => ?_)
                 clear hK K
                 refine nU 35 ?_
                 refine oU 9 40 (fun K hK => ?_)
                 refine Kd.R_lit_step (Kd.int .i64) _ 3 ?hg (N := 40) ?hd (xs := ([rd l0 x4_1] : List Int)) (inner := [.int .i64 (rd l0 x4_1)]) (ok := fun _ => True) (okp := fun _ => True) ?hr ?hp (fun _ hk => hk) trivial (Below.refl _ _) (Nat.le_refl _) (by simp) ?_; (case hd => rfl); (case hg => rfl); (case hr => first | (go_simp; done) | (go_simp; rfl)); (case hp => exact (Reps.one (show Kd.M (Kd.int .i64) _ _ _ (rd l0 x4_1) [.int .i64 (rd l0 x4_1)] from rfl) (Reps.none _ _)))
                 intro v649 w50 ho51 hb hg_ hnew_
                 clear hg_ hnew_
                 (first | rw [← Ny648.out] at ho51 | (simp only [Int.reduceToNat] at ho51; rw [← Ny648.out] at ho51))
                 have HO650 := aM (Kd.R_lower (Kd.R_new' (Kd.R_new' ho51 (Kd.R_lt (aR HO_3))) (Kd.R_lt (aR HO646))) (below_size aB))
                 replace HO_3 := aM (Kd.R_elder' (aR HO_3) (Kd.R_base ho51) hb)
                 replace HO643 := aM (Kd.V_elder' (aV HO643) (Kd.R_base ho51) hb)
                 replace HO658 := aM (Kd.V_elder' (aV HO658) (Kd.R_base ho51) hb)
                 replace HO646 := aM (Kd.R_elder' (aR HO646) (Kd.R_base ho51) hb)
                 replace HB := aM (below_step aB hb)
                 clear hb ho51
                 refine hK.out _ _ ((pw_cell_below HB.out hw647_0)) (fun hHeld => ?_)
                 clear hK K
                 refine nU 40 ?_
                 exact norm_ (by simp only [putAll, Act.put, List.setIfInBounds_toArray, List.set_cons_zero, List.set_cons_succ]) (hCont (v637, v645, v649) _ ⟨hHeld, (by (with_reducible repeat apply pV); exact Kd.V_mono HO643.out (fun _ hk => ⟨hk.1.2, hk.2⟩)), (by (with_reducible repeat apply pR); exact Kd.R_mono HO646.out (fun _ hk => ⟨hk.2, hk.1⟩)), (by (with_reducible repeat apply pR); exact Kd.R_mono HO650.out (fun _ hk => ⟨hk.2, hk.1.2⟩)), (by (with_reducible repeat apply pV); exact Kd.V_mono HO658.out (fun _ hk => ⟨hk.1.2, hk.2⟩)), (by (with_reducible repeat apply pR); exact Kd.R_mono HO_3.out (fun _ hk => ⟨hk.1.2, hk.2⟩)), aB⟩)
                ·skip
                 refine Kd.R_lit_step (Kd.int .i64) _ 3 ?hg (N := 40) ?hd (xs := ([rd l0 x4_1] : List Int)) (inner := [.int .i64 (rd l0 x4_1)]) (ok := fun _ => True) (okp := fun _ => True) ?hr ?hp (fun _ hk => hk) trivial (Below.refl _ _) (Nat.le_refl _) (by simp) ?_; (case hd => rfl); (case hg => rfl); (case hr => first | (go_simp; done) | (go_simp; rfl)); (case hp => exact (Reps.one (show Kd.M (Kd.int .i64) _ _ _ (rd l0 x4_1) [.int .i64 (rd l0 x4_1)] from rfl) (Reps.none _ _)))
                 intro v649 w49 ho50 hb hg_ hnew_
                 clear hg_ hnew_
                 (first | rw [← Ny648.out] at ho50 | (simp only [Int.reduceToNat] at ho50; rw [← Ny648.out] at ho50))
                 have HO650 := aM (Kd.R_lower (Kd.R_new' (Kd.R_new' ho50 (Kd.R_lt (aR HO_3))) (Kd.R_lt (aR HO638))) (below_size aB))
                 replace HO_3 := aM (Kd.R_elder' (aR HO_3) (Kd.R_base ho50) hb)
                 replace HO643 := aM (Kd.V_elder' (aV HO643) (Kd.R_base ho50) hb)
                 replace HO658 := aM (Kd.V_elder' (aV HO658) (Kd.R_base ho50) hb)
                 replace HO638 := aM (Kd.R_elder' (aR HO638) (Kd.R_base ho50) hb)
                 replace HB := aM (below_step aB hb)
                 clear hb ho50
                 refine hK.out _ _ ((pw_cell_below HB.out hw647_0)) (fun hHeld => ?_)
                 clear hK K
                 refine nU 40 ?_
                 refine oU 4 35 (fun K hK => ?_)
                 refine Kd.R_append_rows_step (Kd.int .i64) (w0 := w) w.heap.size (by rfl) (.tmp 31) (.tmp 34) 32 3 (.int .i64 0) 8 rfl Try.underlying32 info3 rfl (by decide) (by omega) v637 y636 y639 _ _ _ (fun k_ => some k_ ≠ (.slice Ao5 x3_1.length co5 : Value).ownBlock ∧ some k_ ≠ (v649 : Value).ownBlock) (fun _ => False) rfl rfl ?aO ?aR (fun _ _ h => h) (fun _ h => h.elim) ?aF ?aB ?aS ?aL ?_
                 (case aR => repeat (first | exact (Kd.V_reads' HO643.out).2.2 | (with_reducible refine pC ?_)))
                 (case aB => exact aB)
                 (case aF => exact (fun k_ hk => ⟨Kd.fresh' (Kd.R_lt (aR HO_3)) k_ hk, Kd.fresh' (Kd.R_lt (aR HO650)) k_ hk⟩))
                 (case aO => exact (by (with_reducible repeat apply pR); exact Kd.R_mono HO638.out (fun _ hk => ⟨hk.1.2, hk.2⟩)))
                 (case aS => exact (below_size aB))
                 (case aL => have := LMc36.out; omega)
                 intro v645 w51 ho hb hg hat
                 rw [← Ny644.out] at ho
                 have HO646 := aM (ho)
                 replace HO_3 := aM (Kd.R_after (ok := (fun k_ => some k_ ≠ (v649 : Value).ownBlock)) (by (with_reducible repeat apply pR); exact Kd.R_mono HO_3.out (fun _ hk => ⟨hk.2, hk.1.2⟩)) hg hat)
                 replace HO643 := aM (Kd.V_afterv (ok := (fun k_ => some k_ ≠ (v649 : Value).ownBlock)) (by (with_reducible repeat apply pV); exact Kd.V_mono HO643.out (fun _ hk => ⟨hk.2, hk.1.2⟩)) hg hat)
                 replace HO658 := aM (Kd.V_afterv (ok := (fun k_ => some k_ ≠ (v649 : Value).ownBlock)) (by (with_reducible repeat apply pV); exact Kd.V_mono HO658.out (fun _ hk => ⟨hk.2, hk.1.2⟩)) hg hat)
                 replace HO650 := aM (Kd.R_after (ok := (fun k_ => some k_ ≠ (.slice Ao5 x3_1.length co5 : Value).ownBlock)) (by (with_reducible repeat apply pR); exact Kd.R_mono HO650.out (fun _ hk => ⟨hk.1.2, hk.2⟩)) hg hat)
                 replace HB := aM (hb)
                 clear HO638
                 clear ho hb hg hat
                 refine hK.out _ _ ((pw_cell_below HB.out hw647_0)) (fun hHeld => ?_)
                 clear hK K
                 refine nU 35 ?_
                 exact norm_ (by simp only [putAll, Act.put, List.setIfInBounds_toArray, List.set_cons_zero, List.set_cons_succ]) (hCont (v637, v645, v649) _ ⟨hHeld, (by (with_reducible repeat apply pV); exact Kd.V_mono HO643.out (fun _ hk => ⟨hk.2, hk.1⟩)), (by (with_reducible repeat apply pR); exact Kd.R_mono HO646.out (fun _ hk => ⟨hk.2, hk.1⟩)), (by (with_reducible repeat apply pR); exact Kd.R_mono HO650.out (fun _ hk => ⟨hk.2, hk.1⟩)), (by (with_reducible repeat apply pV); exact Kd.V_mono HO658.out (fun _ hk => ⟨hk.2, hk.1⟩)), (by (with_reducible repeat apply pR); exact Kd.R_mono HO_3.out (fun _ hk => ⟨hk.2, hk.1⟩)), aB⟩)
               ·skip
                refine Kd.R_lit_step (Kd.int .i64) _ 3 ?hg (N := 40) ?hd (xs := ([rd l0 x4_1] : List Int)) (inner := [.int .i64 (rd l0 x4_1)]) (ok := fun _ => True) (okp := fun _ => True) ?hr ?hp (fun _ hk => hk) trivial (Below.refl _ _) (Nat.le_refl _) (by simp) ?_; (case hd => rfl); (case hg => rfl); (case hr => first | (go_simp; done) | (go_simp; rfl)); (case hp => exact (Reps.one (show Kd.M (Kd.int .i64) _ _ _ (rd l0 x4_1) [.int .i64 (rd l0 x4_1)] from rfl) (Reps.none _ _)))
                intro v649 w47 ho48 hb hg_ hnew_
                clear hg_ hnew_
                (first | rw [← Ny648.out] at ho48 | (simp only [Int.reduceToNat] at ho48; rw [← Ny648.out] at ho48))
                have HO650 := aM (Kd.R_lower (Kd.R_new' ho48 (Kd.R_lt (aR HO_3))) (below_size aB))
                replace HO_3 := aM (Kd.R_elder' (aR HO_3) (Kd.R_base ho48) hb)
                replace HO643 := aM (Kd.V_elder' (aV HO643) (Kd.R_base ho48) hb)
                replace HO658 := aM (Kd.V_elder' (aV HO658) (Kd.R_base ho48) hb)
                replace HB := aM (below_step aB hb)
                clear hb ho48
                refine hK.out _ _ ((pw_cell_below HB.out hw647_0)) (fun hHeld => ?_)
                clear hK K
                refine nU 40 ?_
                refine oU 0 31 (fun K hK => ?_)
                refine Kd.R_lit_step (Kd.int .i64) _ 3 ?hg (N := 31) ?hd (xs := ([] : List Int)) (inner := []) (ok := fun _ => True) (okp := fun _ => True) ?hr ?hp (fun _ hk => hk) trivial (Below.refl _ _) (Nat.le_refl _) (by simp) ?_; (case hd => rfl); (case hg => rfl); (case hr => first | (go_simp; done) | (go_simp; rfl)); (case hp => exact (Reps.none _ _))
                intro v637 w49 ho50 hb hg_ hnew_
                clear hg_ hnew_
                (first | rw [← Ny636.out] at ho50 | (simp only [Int.reduceToNat] at ho50; rw [← Ny636.out] at ho50))
                have HO638 := aM (Kd.R_lower (Kd.R_new' (Kd.R_new' ho50 (Kd.R_lt (aR HO_3))) (Kd.R_lt (aR HO650))) (below_size aB))
                replace HO_3 := aM (Kd.R_elder' (aR HO_3) (Kd.R_base ho50) hb)
                replace HO643 := aM (Kd.V_elder' (aV HO643) (Kd.R_base ho50) hb)
                replace HO658 := aM (Kd.V_elder' (aV HO658) (Kd.R_base ho50) hb)
                replace HO650 := aM (Kd.R_elder' (aR HO650) (Kd.R_base ho50) hb)
                replace HB := aM (below_step aB hb)
                clear hb ho50
                refine hK.out _ _ ((pw_cell_below HB.out hw647_0)) (fun hHeld => ?_)
                clear hK K
                refine nU 31 ?_
                refine oU 4 35 (fun K hK => ?_)
                refine Kd.R_append_rows_step (Kd.int .i64) (w0 := w) w.heap.size (by rfl) (.tmp 31) (.tmp 34) 32 3 (.int .i64 0) 8 rfl Try.underlying32 info3 rfl (by decide) (by omega) v637 y636 y639 _ _ _ (fun k_ => some k_ ≠ (.slice Ao5 x3_1.length co5 : Value).ownBlock ∧ some k_ ≠ (v649 : Value).ownBlock) (fun _ => False) rfl rfl ?aO ?aR (fun _ _ h => h) (fun _ h => h.elim) ?aF ?aB ?aS ?aL ?_
                (case aR => repeat (first | exact (Kd.V_reads' HO643.out).2.2 | (with_reducible refine pC ?_)))
                (case aB => exact aB)
                (case aF => exact (fun k_ hk => ⟨Kd.fresh' (Kd.R_lt (aR HO_3)) k_ hk, Kd.fresh' (Kd.R_lt (aR HO650)) k_ hk⟩))
                (case aO => exact (by (with_reducible repeat apply pR); exact Kd.R_mono HO638.out (fun _ hk => ⟨hk.1.2, hk.2⟩)))
                (case aS => exact (below_size aB))
                (case aL => have := LMc36.out; omega)
                intro v645 w51 ho hb hg hat
                rw [← Ny644.out] at ho
                have HO646 := aM (ho)
                replace HO_3 := aM (Kd.R_after (ok := (fun k_ => some k_ ≠ (v649 : Value).ownBlock)) (by (with_reducible repeat apply pR); exact Kd.R_mono HO_3.out (fun _ hk => ⟨hk.1.2, hk.2⟩)) hg hat)
                replace HO643 := aM (Kd.V_afterv (ok := (fun k_ => some k_ ≠ (v649 : Value).ownBlock)) (by (with_reducible repeat apply pV); exact Kd.V_mono HO643.out (fun _ hk => ⟨hk.1.2, hk.2⟩)) hg hat)
                replace HO658 := aM (Kd.V_afterv (ok := (fun k_ => some k_ ≠ (v649 : Value).ownBlock)) (by (with_reducible repeat apply pV); exact Kd.V_mono HO658.out (fun _ hk => ⟨hk.1.2, hk.2⟩)) hg hat)
                replace HO650 := aM (Kd.R_after (ok := (fun k_ => some k_ ≠ (.slice Ao5 x3_1.length co5 : Value).ownBlock)) (by (with_reducible repeat apply pR); exact Kd.R_mono HO650.out (fun _ hk => ⟨hk.1.2, hk.2⟩)) hg hat)
                replace HB := aM (hb)
                clear HO638
                clear ho hb hg hat
                refine hK.out _ _ ((pw_cell_below HB.out hw647_0)) (fun hHeld => ?_)
                clear hK K
                refine nU 35 ?_
                exact norm_ (by simp only [putAll, Act.put, List.setIfInBounds_toArray, List.set_cons_zero, List.set_cons_succ]) (hCont (v637, v645, v649) _ ⟨hHeld, (by (with_reducible repeat apply pV); exact Kd.V_mono HO643.out (fun _ hk => ⟨hk.2, hk.1⟩)), (by (with_reducible repeat apply pR); exact Kd.R_mono HO646.out (fun _ hk => ⟨hk.2, hk.1⟩)), (by (with_reducible repeat apply pR); exact Kd.R_mono HO650.out (fun _ hk => ⟨hk.2, hk.1⟩)), (by (with_reducible repeat apply pV); exact Kd.V_mono HO658.out (fun _ hk => ⟨hk.2, hk.1⟩)), (by (with_reducible repeat apply pR); exact Kd.R_mono HO_3.out (fun _ hk => ⟨hk.2, hk.1⟩)), aB⟩)
              rintro ⟨v637, v645, v649⟩ w52 ⟨hS_, h0_, h1_, h2_, h3_, h4_, h5_⟩
              have n0_ : Aside0 (Kd.V (Kd.int .i64) 3 w52 w.heap.size (fun k_ => some k_ ≠ (v645 : Value).ownBlock ∧ some k_ ≠ (v649 : Value).ownBlock) (.slice Ao5 y639.length co5) y639) := ⟨h0_⟩
              have n1_ : Aside0 (Kd.R (Kd.int .i64) 3 w52 w.heap.size (fun k_ => some k_ ≠ (v649 : Value).ownBlock ∧ some k_ ≠ (.slice Ao5 x3_1.length co5 : Value).ownBlock) v645 y644) := ⟨h1_⟩
              have n2_ : Aside0 (Kd.R (Kd.int .i64) 3 w52 w.heap.size (fun k_ => some k_ ≠ (v645 : Value).ownBlock ∧ some k_ ≠ (.slice Ao5 x3_1.length co5 : Value).ownBlock) v649 y648) := ⟨h2_⟩
              have n3_ : Aside0 (Kd.V (Kd.int .i64) 3 w52 w.heap.size (fun k_ => some k_ ≠ (v645 : Value).ownBlock ∧ some k_ ≠ (v649 : Value).ownBlock) (.slice A46 y654.length c46) y654) := ⟨h3_⟩
              have n4_ : Aside0 (Kd.R (Kd.int .i64) 3 w52 w.heap.size (fun k_ => some k_ ≠ (v645 : Value).ownBlock ∧ some k_ ≠ (v649 : Value).ownBlock) (.slice Ao5 x3_1.length co5) x3_1) := ⟨h4_⟩
              have n5_ : Aside0 (Below w.heap.size w w52) := ⟨h5_⟩
              clear HO_3
              clear HB
              clear h0_ h1_ h2_ h3_ h4_ h5_
              have HO643 := n0_
              have HO646 := n1_
              have HO650 := n2_
              have HO658 := n3_
              have HO_3 := n4_
              have HB := n5_
              clear n0_ n1_ n2_ n3_ n4_ n5_
              have hHeld : w52.cell? (ad647.add (x4_1).toNat) = some (.int .i64 (rd l0 x4_1)) := hS_
              obtain ⟨Ao54, co54, eo54⟩ := Kd.R_slice HO650.out
              (first | subst eo54 | (injection eo54 with f1_ f2_ f3_; have f4_ := f1_.symm; have f5_ := f3_.symm; clear f1_ f2_ f3_; subst f4_; subst f5_))
              refine norm_ (a' := ?_) ?_ ?_
              rotate_left
              ·simp only [putAll, Act.put, List.setIfInBounds_toArray, List.set_cons_zero, List.set_cons_succ]
               rfl
              refine oU 10 41 (fun K hK => ?_)
              refine Kd.R_append_rows_step (Kd.int .i64) (w0 := w) w.heap.size (by rfl) (.tmp 35) (.tmp 40) 32 3 (.int .i64 0) 8 rfl Try.underlying32 info3 rfl (by decide) (by omega) v645 y644 y648 _ _ _ (fun k_ => some k_ ≠ (.slice Ao5 x3_1.length co5 : Value).ownBlock ∧ some k_ ≠ (.slice Ao54 y648.length co54 : Value).ownBlock) (fun _ => False) rfl rfl ?aO ?aR (fun _ _ h => h) (fun _ h => h.elim) ?aF ?aB ?aS ?aL ?_
              (case aR => repeat (first | exact (Kd.R_reads' HO650.out).2.2 | (with_reducible refine pC ?_)))
              (case aB => exact aB)
              (case aF => exact (fun k_ hk => ⟨Kd.fresh' (Kd.R_lt (aR HO_3)) k_ hk, Kd.fresh' (Kd.R_lt (aR HO650)) k_ hk⟩))
              (case aO => exact (by (with_reducible repeat apply pR); exact Kd.R_mono HO646.out (fun _ hk => ⟨hk.2, hk.1⟩)))
              (case aS => exact (below_size aB))
              (case aL => have := LMc39.out; omega)
              intro v652 w53 ho hb hg hat
              rw [← Ny651.out] at ho
              have HO653 := aM (ho)
              replace HO_3 := aM (Kd.R_after (ok := (fun k_ => some k_ ≠ (.slice Ao54 y648.length co54 : Value).ownBlock)) (by (with_reducible repeat apply pR); exact Kd.R_mono HO_3.out (fun _ hk => ⟨hk.2, hk.1⟩)) hg hat)
              replace HO643 := aM (Kd.V_afterv (ok := (fun k_ => some k_ ≠ (.slice Ao54 y648.length co54 : Value).ownBlock)) (by (with_reducible repeat apply pV); exact Kd.V_mono HO643.out (fun _ hk => ⟨hk.2, hk.1⟩)) hg hat)
              replace HO658 := aM (Kd.V_afterv (ok := (fun k_ => some k_ ≠ (.slice Ao54 y648.length co54 : Value).ownBlock)) (by (with_reducible repeat apply pV); exact Kd.V_mono HO658.out (fun _ hk => ⟨hk.2, hk.1⟩)) hg hat)
              replace HO650 := aM (Kd.R_after (ok := (fun k_ => some k_ ≠ (.slice Ao5 x3_1.length co5 : Value).ownBlock)) (by (with_reducible repeat apply pR); exact Kd.R_mono HO650.out (fun _ hk => ⟨hk.2, hk.1⟩)) hg hat)
              replace HB := aM (hb)
              clear HO646
              clear ho hb hg hat
              refine hK.out _ _ ((pw_cell_below HB.out hw647_0)) (fun hHeld => ?_)
              clear hK K
              refine nU 41 ?_
              refine oU 14 45 (fun K hK => ?_)
              refine Kd.R_append_rows_step (Kd.int .i64) (w0 := w) w.heap.size (by rfl) (.tmp 41) (.tmp 44) 32 3 (.int .i64 0) 8 rfl Try.underlying32 info3 rfl (by decide) (by omega) v652 y651 y654 _ _ _ (fun k_ => some k_ ≠ (.slice Ao5 x3_1.length co5 : Value).ownBlock ∧ some k_ ≠ (.slice Ao54 y648.length co54 : Value).ownBlock) (fun _ => False) rfl rfl ?aO ?aR (fun _ _ h => h) (fun _ h => h.elim) ?aF ?aB ?aS ?aL ?_
              (case aR => repeat (first | exact (Kd.V_reads' HO658.out).2.2 | (with_reducible refine pC ?_)))
              (case aB => exact aB)
              (case aF => exact (fun k_ hk => ⟨Kd.fresh' (Kd.R_lt (aR HO_3)) k_ hk, Kd.fresh' (Kd.R_lt (aR HO650)) k_ hk⟩))
              (case aO => exact (aR HO653))
              (case aS => exact (below_size aB))
              (case aL => have := LMc42.out; omega)
              intro v660 w55 ho hb hg hat
              rw [← Ny659.out] at ho
              have HO661 := aM (ho)
              replace HO_3 := aM (Kd.R_after (ok := (fun k_ => some k_ ≠ (.slice Ao54 y648.length co54 : Value).ownBlock)) (aR HO_3) hg hat)
              replace HO643 := aM (Kd.V_afterv (ok := (fun k_ => some k_ ≠ (.slice Ao54 y648.length co54 : Value).ownBlock)) (aV HO643) hg hat)
              replace HO658 := aM (Kd.V_afterv (ok := (fun k_ => some k_ ≠ (.slice Ao54 y648.length co54 : Value).ownBlock)) (aV HO658) hg hat)
              replace HO650 := aM (Kd.R_after (ok := (fun k_ => some k_ ≠ (.slice Ao5 x3_1.length co5 : Value).ownBlock)) (aR HO650) hg hat)
              replace HB := aM (hb)
              clear HO653
              clear ho hb hg hat
              refine hK.out _ _ ((pw_cell_below HB.out hw647_0)) (fun hHeld => ?_)
              clear hK K
              refine nU 45 ?_
              refine pU 15 3 ?_
              refine done_ (done_of HT_.out (by kernel_rfl)) ?_
              try go_wp2
              go_roundg k2
              case measure => have := HK1.out; have := HK2.out; omega
              case rel => exact ⟨(y659), (wrap64 (x4_1 + 1)), aX, H', ⟨by have := HK1.out; have := HK2.out; omega⟩, ⟨by (with_reducible repeat apply pR); exact Kd.R_mono HO661.out (fun _ hk => trivial)⟩, ⟨aB⟩⟩
             ·rw [if_neg c42] at H
              exact absurd H (by simp)
            ·rw [if_neg c39] at H
             exact absurd H (by simp)
           ·rw [if_neg c38] at H
            exact absurd H (by simp)
          ·rw [if_neg c37] at H
           exact absurd H (by simp)
         ·rw [if_neg c36] at H
          exact absurd H (by simp)
        ·rw [if_neg c35] at H
         exact absurd H (by simp)
       ·rw [if_neg c34] at H
        exact absurd H (by simp)
   ·rw [if_neg c4] at H
    have c4b0 : decide (x4_1 < (l0.length : Int)) = false := decide_eq_false c4
    clear c4
    obtain rfl := Option.some.inj H
    go_wp2
    go_ret
    exact ⟨_, aE, aR HO_3, aB⟩

end Go.Proofs.Ytbdeimhlohhhiaa.PFnRepairEnumeration
