-- Laid by a program of this claim: what the functions come to, some of them proved by hand.
import Derived.Test.YtbdeimhlohhhiaaPFnExtendToRepairx0
import Derived.Test.YtbdeimhlohhhiaaPFnExtendToRepairx1
import Derived.Test.YtbdeimhlohhhiaaPFnExtendToRepairx11
namespace Go.Proofs.Ytbdeimhlohhhiaa.PFnExtendToRepair
open Go.RowKit Go.Proofs.YtbdeimhlohhhiaaW.PrintWords Go.Proofs.YtbdeimhlohhhiaaW.PrintLast Go.Proofs.YtbdeimhlohhhiaaW.PrintMore
attribute [local go_sem] max2_int min2_int max_two min_two max_three min_three max_four min_four   -- for this text's walks alone
set_option linter.unusedVariables false
set_option linter.unusedSimpArgs false

/-! ### spec_l5Repair: function 87 -/
mutual
def spec_l5Repair.l0 : Nat → List (List Int) → List Bool → Int → List Int → Int → Int → Option (List Int × Int × Int)
 | 0, _, _, _, _, _, _ => none
 | k + 1, x5, x6, x7, x1000, x1001, x1002 => if x7 < (x5.length : Int) then (if 0 ≤ x7 then ((spec_l1Below.f x1000 x1001 x1002 ((rd_L4 x5 x7).length : Int)).bind fun bt443 => (if 0 ≤ bt443.1 then (if bt443.1 < ((rd_L4 x5 x7).length : Int) then (if 0 ≤ (rd (rd_L4 x5 x7) bt443.1) then (if (rd (rd_L4 x5 x7) bt443.1) < (x6.length : Int) then (spec_l5Repair.l0 k x5 (x6.set ((rd (rd_L4 x5 x7) bt443.1) : Int).toNat true) (wrap64 (x7 + 1)) x1000 bt443.2.1 bt443.2.2) else (none)) else (none)) else (none)) else (none))) else (none)) else (spec_l5Repair.l1 k x6 (([] : List Int)) 0 x1000 x1001 x1002)
def spec_l5Repair.l1 : Nat → List Bool → List Int → Int → List Int → Int → Int → Option (List Int × Int × Int)
 | 0, _, _, _, _, _, _ => none
 | k + 1, x6, x8, x9, x1000, x1001, x1002 => if x9 < (x6.length : Int) then (if 0 ≤ x9 then (if rdOf false x6 x9 = true then (if x8.length < 17592186044416 then (spec_l5Repair.l1 k x6 (x8 ++ [x9]) (wrap64 (x9 + 1)) x1000 x1001 x1002) else (none)) else (spec_l5Repair.l1 k x6 x8 (wrap64 (x9 + 1)) x1000 x1001 x1002)) else (none)) else (some (x8, x1001, x1002))
end
def spec_l5Repair.f (k : Nat) (s0_0 : List Int) (s0_1 : Int) (s0_2 : Int) (l1_0 : List (S70)) (l1_1 : List (S35)) : Option (List Int × Int × Int) := (spec_Blocks.f k l1_0 l1_1).bind fun t435 => (if 0 ≤ (l1_1.length : Int) then (if ((l1_1.length : Int) : Int).toNat ≤ 281474976710656 then (spec_l5Repair.l0 k t435 (List.replicate ((l1_1.length : Int) : Int).toNat false) 0 s0_0 s0_1 s0_2) else (none)) else (none))
def spec_l5Repair.T6 : Bool × List (List Nat × List Nat) := (true, [([], []), ([], []), ([], []), ([1, 2], [1, 2]), ([3], [3]), ([], []), ([], []), ([], []), ([6, 7], [6, 7]), ([8], [8]), ([9], [9]), ([5, 10], [5, 10]), ([4, 11], [4, 11]), ([12], [12]), ([0, 13, 0, 1, 2, 3, 4, 5, 6, 7, 8, 9, 10, 11, 12, 13], [0, 13]), ([14, 11, 0, 1, 2, 3, 4, 5, 6, 7, 8, 9, 10, 11, 12, 13], [14])])
def spec_l5Repair.B6 : List Nat := [0, 0, 0, 6, 14, 0, 0, 0, 192, 448, 960, 2016, 4094, 8190, 16383, 32767]
theorem spec_l5Repair.tab6 : rtab .any (opsOf Try.f87 6) = spec_l5Repair.T6 := by kernel_rfl
theorem spec_l5Repair.bits6 : waitsOk spec_l5Repair.T6.2 spec_l5Repair.B6 = true := by kernel_rfl
set_option maxHeartbeats 8000000 in
set_option maxRecDepth 100000 in
theorem spec_l5Repair.calls (k : Nat) (g : Nat) (s0_0 : List Int) (s0_1 : Int) (s0_2 : Int) (A1_0 : Option Addr) (c1_0 : Nat) (l1_0 : List (S70)) (A1_1 : Option Addr) (c1_1 : Nat) (l1_1 : List (S35)) (r1 : List Int) (r2 : Int) (r3 : Int) (w0 w : World) (hI : IsS83 w0 w g s0_0 s0_1 s0_2) (hB : Below w0.heap.size w0 w) (hr1_0 : ∀ W_, KeepBut w W_ g none → Kd.C k70 W_ A1_0 l1_0.length l1_0) (hc1_0 : l1_0.length ≤ c1_0) (hr1_1 : ∀ W_, KeepBut w W_ g none → Kd.C k35 W_ A1_1 l1_1.length l1_1) (hc1_1 : l1_1.length ≤ c1_1) (h : spec_l5Repair.f k s0_0 s0_1 s0_2 l1_0 l1_1 = some (r1, r2, r3)) :
  Calls Try.prog 87 #[.pointer (some ⟨g, 0, none⟩), .agg #[.slice A1_0 l1_0.length c1_0, .slice A1_1 l1_1.length c1_1]] w fun e w' => ∃ v0_ : Value, e = .returned (v0_) ∧ Kd.R (Kd.int .i64) 3 w' w.heap.size (fun _ => True) v0_ r1 ∧ IsS83 w0 w' g s0_0 r2 r3 ∧ Below w0.heap.size w0 w' ∧ KeepBut w w' g none := by
 have hu27 := Try.underlying27
 have HR1_0 := aM hr1_0
 have HC1_0 := aM hc1_0
 clear hr1_0 hc1_0
 have HR1_1 := aM hr1_1
 have HC1_1 := aM hc1_1
 clear hr1_1 hc1_1
 have HI0 := aM hI
 have HK := aM (KeepBut.refl w g none)
 have HL := aM hB.size
 clear hI
 have HW0 := aM hB.size
 have HB := aM hB
 clear hB
 have H : ((spec_Blocks.f k l1_0 l1_1).bind fun t435 => (if 0 ≤ (l1_1.length : Int) then (if ((l1_1.length : Int) : Int).toNat ≤ 281474976710656 then (spec_l5Repair.l0 k t435 (List.replicate ((l1_1.length : Int) : Int).toNat false) 0 s0_0 s0_1 s0_2) else (none)) else (none))) = some (r1, r2, r3) := h
 clear h
 replace H := bM H
 obtain ⟨t435, A30, H⟩ := H
 have A3 := aM A30
 clear A30
 by_cases c4 : 0 ≤ (l1_1.length : Int)
 ·rw [if_pos c4] at H
  have c4b0 := eq_true c4
  have c4b1 : decide (0 ≤ (l1_1.length : Int)) = true := decide_eq_true c4
  clear c4
  by_cases c5 : ((l1_1.length : Int) : Int).toNat ≤ 281474976710656
  ·rw [if_pos c5] at H
   have c5b0 := eq_true c5
   have c5b1 : decide (((l1_1.length : Int) : Int).toNat ≤ 281474976710656) = true := decide_eq_true c5
   clear c5
   obtain ⟨y438, hy438⟩ : ∃ y_ : List Bool, y_ = (List.replicate ((l1_1.length : Int) : Int).toNat false) := ⟨_, rfl⟩
   first | replace H := bY hy438 H | rw [← hy438] at H
   have Ny438 := aM hy438
   clear hy438
   have H' := aM H
   clear H
   go_enter Try.func87, Try.ntmps87
   go_wp2_with (first | ((with_reducible refine gate_dst (N := 3) rfl ?_); refine bE 3 (cs := #[.slice A1_0 l1_0.length c1_0, .slice A1_1 l1_1.length c1_1]) (t := 27) ?_; intro gb434 hg w6 hbox hb; have BK434 := aM (hbox); have GW434 := aM ((by rw [hg]; exact (kS (w := w) (g := g)) : w.heap.size ≤ gb434)); have GE434 := aM ((Nat.le_trans HW0.out (by rw [hg]; exact (kS (w := w) (g := g)) : w.heap.size ≤ gb434) : w0.heap.size ≤ gb434)); have NB0_434 := aM ((by rw [hg]; exact Nat.ne_of_lt (IsS83.lt (show IsS83 w0 _ g s0_0 s0_1 s0_2 from aZ)) : g ≠ gb434)); have NB434_0 := aM ((by rw [hg]; exact Nat.ne_of_gt (IsS83.lt (show IsS83 w0 _ g s0_0 s0_1 s0_2 from aZ)) : gb434 ≠ g)); replace HK := aM (KeepBut.trans aQ (KeepBut.of_below hb g none) (.inl rfl)); replace HB := aM (below_step aY hb); replace HI0 := aM (IsS83.below aZ hb); clear hb hbox hg; have hnb7 := NB434_0.out; have hnc7 := NB0_434.out; have hcz8_0 : w6.cell? ⟨gb434, 0, none⟩ = some (.slice A1_0 l1_0.length c1_0) := (blk_cell BK434.out 0).trans rfl; have hcz8_1 : w6.cell? ⟨gb434, 1, none⟩ = some (.slice A1_1 l1_1.length c1_1) := (blk_cell BK434.out 1).trans rfl; have hfz8_0 := blk_frozen BK434.out 0; have hfz8_1 := blk_frozen BK434.out 1) | ((with_reducible refine gate_callee (f := 65) rfl ?_); refine goesL_ (some 11) rfl rfl Try.func65 (by kernel_rfl) rfl #[.agg #[.slice A1_0 l1_0.length c1_0, .slice A1_1 l1_1.length c1_1]] rfl aA ?_; (with_reducible refine (spec_Blocks.calls k _ _ l1_0 _ _ l1_1 t435 _ ?side1 ?side2 ?side3 ?side4 A3.out).mono ?_); (case side1 => exact Kd.C_foot_now HR1_0.out aQ); (case side2 => exact HC1_0.out); (case side3 => exact Kd.C_foot_now HR1_1.out aQ); (case side4 => exact HC1_1.out); rintro e w9 ⟨v436, rfl, ho0, hb⟩; refine ⟨_, rfl, ?_⟩; have HO437 := aM (Kd.S_lower ho0 (kS (w := w) (g := g))); replace BK434 := aM (blk_below (g := gb434) (o := .cells #[.slice A1_0 l1_0.length c1_0, .slice A1_1 l1_1.length c1_1] 27 (0, 0)) aK hb); replace HK := aM (KeepBut.trans aQ (KeepBut.of_below hb g none) (.inl rfl)); replace HB := aM (below_step aY hb); replace HI0 := aM (IsS83.below aZ hb); (try clear hb); (try clear hb2); (try clear hk); (try clear hi); (try clear ho0); have hcz10_0 : w9.cell? ⟨gb434, 0, none⟩ = some (.slice A1_0 l1_0.length c1_0) := (blk_cell BK434.out 0).trans rfl; have hcz10_1 : w9.cell? ⟨gb434, 1, none⟩ = some (.slice A1_1 l1_1.length c1_1) := (blk_cell BK434.out 1).trans rfl; have hfz10_0 := blk_frozen BK434.out 0; have hfz10_1 := blk_frozen BK434.out 1) | ((with_reducible refine gate_dst (N := 15) rfl ?_); refine Kd.R_make Kd.bool _ 4 rfl (N := 15) rfl 100 _ _ rfl (l1_1.length : Int) rfl rfl Try.underlying100 (.bool false) 1 info4 rfl (by decide) (by omega) false (ok := fun _ => True) (okp := fun _ => True) rfl (fun _ hk => hk) trivial (aD) (Nat.le_trans (Nat.mul_le_mul_right _ (aD : (l1_1.length : Int).toNat ≤ 281474976710656)) (by omega)) (Below.refl _ _) (Nat.le_refl _) ?_; intro v439 w11 ho12 hb hg_ hnew_; clear hg_ hnew_; (first | rw [← Ny438.out] at ho12 | (simp only [Int.reduceToNat] at ho12; rw [← Ny438.out] at ho12)); have HO440 := aM (Kd.R_lower ho12 (kS (w := w) (g := g))); replace HO437 := aM (Kd.S_below (aS HO437) hb); replace BK434 := aM (blk_below (g := gb434) (o := .cells #[.slice A1_0 l1_0.length c1_0, .slice A1_1 l1_1.length c1_1] 27 (0, 0)) aK hb); replace HK := aM (KeepBut.trans aQ (KeepBut.of_below hb g none) (.inl rfl)); replace HB := aM (below_step aY hb); replace HI0 := aM (IsS83.below aZ hb); clear hb ho12))
   go_loopg [7] k (fun kq v7 w' => ∃ (x6_1 : List Bool) (x7_1 : Int) (x1001_1 : Int) (x1002_1 : Int), v7 = .int .i64 x7_1 ∧ Aside0 (spec_l5Repair.l0 kq t435 x6_1 x7_1 s0_0 x1001_1 x1002_1 = some (r1, r2, r3)) ∧ Aside0 (kq ≤ k) ∧ Aside0 (Kd.S (Kd.slice 3 (Kd.int .i64)) 32 w' w.heap.size (fun _ => True) v436 t435) ∧ Aside0 (Kd.R Kd.bool 4 w' w.heap.size (fun _ => True) v439 x6_1) ∧ Aside0 (w'.heap[gb434]? = some (.cells #[(.slice A1_0 l1_0.length c1_0), (.slice A1_1 l1_1.length c1_1)] 27 (0, 0))) ∧ Aside0 (IsS83 w0 w' g s0_0 x1001_1 x1002_1) ∧ Aside0 (KeepBut w w' g none) ∧ Aside0 (Below w0.heap.size w0 w'))
   case atStart => exact ⟨(y438), (0), (s0_1), (s0_2), aX, H', ⟨Nat.le_refl _⟩, ⟨aS HO437⟩, ⟨aR HO440⟩, ⟨aK⟩, ⟨aZ⟩, ⟨aQ⟩, ⟨aY⟩⟩
   case round =>
    clear H'
    try clear c1
    try clear p2
    try clear c4
    try clear c4b0
    try clear c4b1
    try clear c5
    try clear c5b0
    try clear c5b1
    try clear c6
    try clear c7
    try clear c8
    try clear hcz10_0
    try clear hcz10_1
    try clear hcz8_0
    try clear hcz8_1
    try clear hfz10_0
    try clear hfz10_1
    try clear hfz8_0
    try clear hfz8_1
    obtain ⟨x6_1, x7_1, x1001_1, x1002_1, rfl, HA, HK1, HO_5, HO_6, BK434, HI0, HK, HB⟩ := hrel
    cases gk with
    | zero => exact absurd HA.out (by simp [spec_l5Repair.l0])
    | succ k1 =>
     have H := HA.out
     clear HA
     simp only [spec_l5Repair.l0] at H
     by_cases c13 : x7_1 < (t435.length : Int)
     ·rw [if_pos c13] at H
      have c13b0 : decide (x7_1 < (t435.length : Int)) = true := decide_eq_true c13
      clear c13
      by_cases c14 : 0 ≤ x7_1
      ·rw [if_pos c14] at H
       have c14b0 : decide (0 ≤ x7_1) = true := decide_eq_true c14
       clear c14
       replace H := bM H
       obtain ⟨⟨t443, t444, t445⟩, A150, H⟩ := H
       dsimp only at H
       have A15 := aM A150
       clear A150
       by_cases c16 : 0 ≤ t443
       ·rw [if_pos c16] at H
        have c16b0 : decide (0 ≤ t443) = true := decide_eq_true c16
        clear c16
        by_cases c17 : t443 < ((rd_L4 t435 x7_1).length : Int)
        ·rw [if_pos c17] at H
         have c17b0 : decide (t443 < ((rd_L4 t435 x7_1).length : Int)) = true := decide_eq_true c17
         clear c17
         by_cases c18 : 0 ≤ (rd (rd_L4 t435 x7_1) t443)
         ·rw [if_pos c18] at H
          have c18b0 : decide (0 ≤ (rd (rd_L4 t435 x7_1) t443)) = true := decide_eq_true c18
          clear c18
          by_cases c19 : (rd (rd_L4 t435 x7_1) t443) < (x6_1.length : Int)
          ·rw [if_pos c19] at H
           have c19b0 : decide ((rd (rd_L4 t435 x7_1) t443) < (x6_1.length : Int)) = true := decide_eq_true c19
           clear c19
           obtain ⟨y447, hy447⟩ : ∃ y_ : List Bool, y_ = (x6_1.set ((rd (rd_L4 t435 x7_1) t443) : Int).toNat true) := ⟨_, rfl⟩
           first | replace H := bY hy447 H | rw [← hy447] at H
           have Ny447 := aM hy447
           clear hy447
           have H' := aM H
           clear H
           obtain ⟨Ao21, co21, eo21⟩ := Kd.S_slice HO_5.out
           subst eo21
           try go_wp2
           replace HO_5 := aM (Kd.S_drew HO_5.out)
           replace HO_6 := aM (Kd.R_drew HO_6.out)
           replace BK434 := aM (blk_drew BK434.out)
           replace HI0 := aM (IsS83.drew HI0.out)
           replace HK := aM (keep_drew HK.out)
           replace HB := aM (below_drew1 HB.out)
           have p441 : 0 ≤ (x7_1 : Int) := aD
           have q441 : x7_1 < (t435.length : Int) := aD
           obtain ⟨ad441, A441_0, c441_0, e441, hx441_0, hl441_0, hi441_0⟩ := at_L4 (Kd.S_reads' HO_5.out).2.2 x7_1 p441 q441
           cases e441
           obtain ⟨ce441, hce441, hMe441, hcc441⟩ := Kd.S_get HO_5.out [] x7_1 p441 (by first | exact q441 | exact aD | (have e_ := (Kd.S_reads' HO_5.out).1; omega))
           obtain ⟨ve441_0, rfl, ge441_0⟩ := hMe441
           have hv441_0 := hcc441 0 _ rfl
           rw [Nat.add_zero, show ((Kd.slice 3 (Kd.int .i64))).sz = 1 from rfl, Nat.mul_one] at hv441_0
           replace hv441_0 := Option.some.inj (hv441_0.symm.trans hx441_0)
           rw [hv441_0] at ge441_0
           have HL441_0 := aM (show Kd.R (Kd.int .i64) 3 _ _ _ _ (rd_L4 t435 x7_1) from ge441_0)
           clear hv441_0 ge441_0
           clear hcc441 hce441
           have HR441_0 := aM hi441_0
           have HC441_0 := aM hl441_0
           clear hi441_0 hl441_0
           replace p441 := eq_true p441
           replace q441 := eq_true q441
           have p442 : 0 ≤ (x7_1 : Int) := aD
           have q442 : x7_1 < (t435.length : Int) := aD
           obtain ⟨ad442, A442_0, c442_0, e442, hx442_0, hl442_0, hi442_0⟩ := at_L4 (Kd.S_reads' HO_5.out).2.2 x7_1 p442 q442
           obtain rfl : ad441 = ad442 := (by injection e442)
           obtain ⟨ce442, hce442, hMe442, hcc442⟩ := Kd.S_get HO_5.out [] x7_1 p442 (by first | exact q442 | exact aD | (have e_ := (Kd.S_reads' HO_5.out).1; omega))
           obtain ⟨ve442_0, rfl, ge442_0⟩ := hMe442
           have hv442_0 := hcc442 0 _ rfl
           rw [Nat.add_zero, show ((Kd.slice 3 (Kd.int .i64))).sz = 1 from rfl, Nat.mul_one] at hv442_0
           replace hv442_0 := Option.some.inj (hv442_0.symm.trans hx442_0)
           rw [hv442_0] at ge442_0
           have HL442_0 := aM (show Kd.R (Kd.int .i64) 3 _ _ _ _ (rd_L4 t435 x7_1) from ge442_0)
           clear hv442_0 ge442_0
           clear hcc442 hce442
           have HR442_0 := aM hi442_0
           have HC442_0 := aM hl442_0
           clear hi442_0 hl442_0
           replace p442 := eq_true p442
           replace q442 := eq_true q442
           have ea_ := Option.some.inj (hx441_0.symm.trans hx442_0)
           injection ea_ with ea_ en_ ec_
           subst ea_
           subst ec_
           clear en_
           have p446 : 0 ≤ (t443 : Int) := aD
           have q446 : t443 < ((rd_L4 t435 x7_1).length : Int) := aD
           obtain ⟨ad446, e446, hx446_0⟩ := Kd.at_int (by repeat (first | (with_reducible exact HR441_0.out) | (with_reducible refine Kd.C_alloc ?_ _) | (with_reducible refine Kd.C_drewN ?_ _) | (with_reducible refine Kd.C_drew ?_) | exact HR441_0.out)) t443 p446 q446
           cases e446
           refine start_ (n := 16) (S := fun w' => w'.cell? (ad441.add (x7_1).toNat) = some (.slice (some ad446) (rd_L4 t435 x7_1).length c441_0) ∧ w'.cell? (ad441.add (x7_1).toNat) = some (.slice (some ad446) (rd_L4 t435 x7_1).length c441_0) ∧ w'.cell? (ad446.add (t443).toNat) = some (.int .i64 (rd (rd_L4 t435 x7_1) t443))) (ds := [15]) #[false, false, false, false, false, false, false, false, false, false, false, false, false, false, false, false] (by kernel_rfl) rfl rfl ⟨hx441_0, hx442_0, hx446_0⟩ (fun hHeld => ?_); refine with_tabW spec_l5Repair.tab6 spec_l5Repair.bits6 (fun HT_ HW_ => ?_)
           clear hx446_0
           generalize wr.drew = w22 at HO_5 HO_6 BK434 HI0 HK HB HL441_0 HL442_0 HR441_0 HR442_0 hx441_0 hx442_0 hHeld ⊢
           refine pU 0 22 ?_
           refine pU 1 23 ?_
           refine pU 2 24 ?_
           refine pU 3 25 ?_
           refine pU 5 27 ?_
           refine pU 6 28 ?_
           refine pU 7 29 ?_
           refine pU 8 30 ?_
           refine tU3 4 26 hHeld ?_
           refine tU3 9 31 hHeld ?_
           refine pU 10 32 ?_
           refine oU 11 33 (fun K hK => ?_)
           refine goes_ Try.func66 (by kernel_rfl) rfl #[.pointer (some ⟨g, 0, none⟩), .int .i64 ((rd_L4 t435 x7_1).length : Int)] (by rfl) rfl rfl aA ?_
           with_reducible refine (spec_l1Below.calls g s0_0 x1001_1 x1002_1 ((rd_L4 t435 x7_1).length : Int) t443 t444 t445 w0 _ ?side1 ?side2 A15.out).mono ?_
           (case side1 => exact aZ)
           (case side2 => exact aY)
           rintro e w23 ⟨rfl, hi, hb, hk⟩
           have HS0_ := keep_cell hk (hHeld.1) (by first | (rw [add_block]; exact Kd.own_blk (IsS83.own_neS HI0.out HO_5.out (by decide))) | (show (Addr.add _ _).block ≠ _; rw [add_block]; exact Kd.own_blk (IsS83.own_neS HI0.out HO_5.out (by decide))) | exact Kd.own_blk (IsS83.own_neS HI0.out HO_5.out (by decide)))
           have HS1_ := keep_cell hk (hHeld.2.1) (by first | (rw [add_block]; exact Kd.own_blk (IsS83.own_neS HI0.out HO_5.out (by decide))) | (show (Addr.add _ _).block ≠ _; rw [add_block]; exact Kd.own_blk (IsS83.own_neS HI0.out HO_5.out (by decide))) | exact Kd.own_blk (IsS83.own_neS HI0.out HO_5.out (by decide)))
           have HS2_ := keep_cell hk (hHeld.2.2) (by first | (rw [add_block]; exact Kd.own_blk (IsS83.own_ne HI0.out HL441_0.out (by decide))) | (show (Addr.add _ _).block ≠ _; rw [add_block]; exact Kd.own_blk (IsS83.own_ne HI0.out HL441_0.out (by decide))) | exact Kd.own_blk (IsS83.own_ne HI0.out HL441_0.out (by decide)))
           refine ⟨_, rfl, ?_⟩
           replace HO_5 := aM (Kd.S_mono (Kd.S_keep (IsS83.apartS (show IsS83 w0 _ g s0_0 x1001_1 x1002_1 from aZ) (aS HO_5) (by decide)) hk (fun _ h => h.2)) (fun _ h => h.1))
           replace HO_6 := aM (Kd.R_mono (Kd.R_keep (IsS83.apart (show IsS83 w0 _ g s0_0 x1001_1 x1002_1 from aZ) (aR HO_6) (by decide)) hk (fun _ h => h.2)) (fun _ h => h.1))
           replace BK434 := aM (KeepBut.blk hk (g' := gb434) (o := .cells #[.slice A1_0 l1_0.length c1_0, .slice A1_1 l1_1.length c1_1] 27 (0, 0)) aK NB434_0.out (by simp))
           replace HL441_0 := aM (Kd.R_mono (Kd.R_keep (IsS83.apart (show IsS83 w0 _ g s0_0 x1001_1 x1002_1 from aZ) (aR HL441_0) (by decide)) hk (fun _ h => h.2)) (fun _ h => h.1))
           replace HL442_0 := aM (Kd.R_mono (Kd.R_keep (IsS83.apart (show IsS83 w0 _ g s0_0 x1001_1 x1002_1 from aZ) (aR HL442_0) (by decide)) hk (fun _ h => h.2)) (fun _ h => h.1))
           replace HK := aM (KeepBut.trans aQ hk (.inl rfl))
           replace HB := aM (hb)
           replace HI0 := aM (hi)
           (try clear hb)
           (try clear hb2)
           (try clear hk)
           (try clear hi)
           have hx446_0 := HS2_
           replace p446 := eq_true p446
           replace q446 := eq_true q446
           have p20 : 0 ≤ ((rd (rd_L4 t435 x7_1) t443) : Int) := aD
           have q20 : ((rd (rd_L4 t435 x7_1) t443) : Int) < ((x6_1.length : Int) : Int) := aD
           obtain ⟨go20, co20, eo20, gb20, gl20, cl20, HG20⟩ := Kd.R_form HO_6.out (by omega)
           (first | cases eo20 | (injection eo20 with ea_ en_ ec_; (first | subst ea_ | (injection ea_ with ea_; subst ea_)); subst ec_; clear en_))
           have GB20 := aM gb20
           have GG20 := aM HG20
           clear gb20 gl20 HG20
           obtain ⟨hx20_0, hf20_0⟩ := Kd.R_celln false HO_6.out ((rd (rd_L4 t435 x7_1) t443) : Int) p20 q20
           replace p20 := eq_true p20
           replace q20 := eq_true q20
           have HN0_go20 := aM (show g ≠ go20 from by have h_ := IsS83.own_ne HI0.out HO_6.out (by decide); intro e_; exact h_ (by rw [e_]; rfl))
           have HP24 := Kd.R_putn HO_6.out ((rd (rd_L4 t435 x7_1) t443) : Int) true
           rw [← Ny447.out] at HP24
           have HQ24 := aM HP24
           clear HP24
           refine hK.out _ _ ⟨HS0_, HS1_, HS2_⟩ (fun hHeld => ?_)
           clear hK K
           refine nU 33 ?_
           refine pU 12 34 ?_
           refine tU3 13 35 hHeld ?_
           refine pU 14 36 ?_
           refine last_ (i := 15) (N := none) #[true, true, true, true, true, true, true, true, true, true, true, true, true, true, true, true] rfl rfl (one_of HT_.out (by kernel_rfl)) (by decide) (fun K hK => ?_)
           refine skip_ (w1 := ?_) (by rfl) rfl ?_ ?_
           rotate_left
           ·go_simp
            rfl
           refine hK.out _ _ ?_
           clear hK K
           refine done_ (done_of HT_.out (by kernel_rfl)) ?_
           try go_wp2
           go_roundg k1
           case measure => have := HK1.out; omega
           case rel => exact ⟨(y447), (wrap64 (x7_1 + 1)), (t444), (t445), aX, H', ⟨by have := HK1.out; omega⟩, ⟨by (with_reducible repeat apply pS); exact Kd.S_mono (Kd.S_far (p := ⟨go20, ((rd (rd_L4 t435 x7_1) t443) : Int).toNat, none⟩) (Kd.S_types HO_5.out GG20.out (by decide)) (fun _ hk => hk.2) (.bool true)) (fun _ hk => trivial)⟩, ⟨aR HQ24⟩, ⟨by (with_reducible repeat refine pB ?_); refine blk_far ?_ (by have h_ := Kd.R_ne HO_6.out BK434.out (by decide); intro e_; exact h_ (by rw [e_]; rfl)) _; (with_reducible repeat refine pB ?_); exact BK434.out⟩, ⟨by repeat (first | (with_reducible first | exact HI0.out | apply IsS83.alloc | apply IsS83.drewN | apply IsS83.drew | apply IsS83.set_1 | apply IsS83.set_2 | refine IsS83.far ?_ HN0_go20.out _ | refine IsS83.far ?_ NB0_434.out _) | exact HI0.out)⟩, ⟨by repeat (first | (with_reducible first | exact HK.out | apply KeepBut.set_ | apply keep_drewN | apply keep_drew | apply keep_alloc | refine keep_far ?_ GB20.out _ | refine keep_far ?_ GW434.out _) | exact HK.out)⟩, ⟨by repeat (first | (with_reducible first | exact HB.out | apply below_alloc | apply pw_below_drewN | apply below_drew1 | refine below_set ?_ (Nat.le_trans HL.out GB20.out) | refine below_set ?_ (IsS83.ge HI0.out) | refine below_set ?_ GE434.out) | exact HB.out)⟩⟩
          ·rw [if_neg c19] at H
           exact absurd H (by simp)
         ·rw [if_neg c18] at H
          exact absurd H (by simp)
        ·rw [if_neg c17] at H
         exact absurd H (by simp)
       ·rw [if_neg c16] at H
        exact absurd H (by simp)
      ·rw [if_neg c14] at H
       exact absurd H (by simp)
     ·rw [if_neg c13] at H
      have c13b0 : decide (x7_1 < (t435.length : Int)) = false := decide_eq_false c13
      clear c13
      obtain ⟨y448, hy448⟩ : ∃ y_ : List Int, y_ = (([] : List Int)) := ⟨_, rfl⟩
      first | replace H := bY hy448 H | rw [← hy448] at H
      have Ny448 := aM hy448
      clear hy448
      have H' := aM H
      clear H
      obtain ⟨Ao25, co25, eo25⟩ := Kd.S_slice HO_5.out
      subst eo25
      go_wp2_with (first | ((with_reducible refine gate_dst (N := 37) rfl ?_); refine Kd.R_lit (Kd.int .i64) _ 3 ?hg (N := 37) ?hd (xs := ([] : List Int)) (inner := []) (ok := fun _ => True) (okp := fun _ => True) ?hr ?hp (fun _ hk => hk) trivial (Below.refl _ _) (Nat.le_refl _) (by simp) ?_; (case hd => rfl); (case hg => rfl); (case hr => first | (go_simp; done) | (go_simp; rfl)); (case hp => exact (Reps.none _ _)); intro v449 w26 ho27 hb hg_ hnew_; clear hg_ hnew_; (first | rw [← Ny448.out] at ho27 | (simp only [Int.reduceToNat] at ho27; rw [← Ny448.out] at ho27)); have HO450 := aM (Kd.R_lower ho27 (kS (w := w) (g := g))); replace HO_5 := aM (Kd.S_elder' (aS HO_5) (Kd.R_base ho27) hb); replace HO_6 := aM (Kd.R_below (aR HO_6) hb); replace BK434 := aM (blk_below (g := gb434) (o := .cells #[.slice A1_0 l1_0.length c1_0, .slice A1_1 l1_1.length c1_1] 27 (0, 0)) aK hb); replace HK := aM (KeepBut.trans aQ (KeepBut.of_below hb g none) (.inl rfl)); replace HB := aM (below_step aY hb); replace HI0 := aM (IsS83.below aZ hb); clear hb ho27))
      go_loopg [8, 9] k1 (fun kq v8 v9 w' => ∃ (x8_2 : List Int) (x9_2 : Int), v9 = .int .i64 x9_2 ∧ Aside0 (spec_l5Repair.l1 kq x6_1 x8_2 x9_2 s0_0 x1001_1 x1002_1 = some (r1, r2, r3)) ∧ Aside0 (kq ≤ k1) ∧ Aside0 (Kd.R Kd.bool 4 w' w.heap.size (fun _ => True) v439 x6_1) ∧ Aside0 (Kd.R (Kd.int .i64) 3 w' w.heap.size (fun _ => True) v8 x8_2) ∧ Aside0 (w'.heap[gb434]? = some (.cells #[(.slice A1_0 l1_0.length c1_0), (.slice A1_1 l1_1.length c1_1)] 27 (0, 0))) ∧ Aside0 (IsS83 w0 w' g s0_0 x1001_1 x1002_1) ∧ Aside0 (KeepBut w w' g none) ∧ Aside0 (Below w0.heap.size w0 w'))
      case atStart => exact ⟨(y448), (0), aX, H', ⟨Nat.le_refl _⟩, ⟨aR HO_6⟩, ⟨aR HO450⟩, ⟨aK⟩, ⟨aZ⟩, ⟨aQ⟩, ⟨aY⟩⟩
      case round =>
       clear H'
       try clear c1
       try clear p2
       try clear q2
       try clear hx2
       try clear hf2
       try clear c4
       try clear c4b0
       try clear c4b1
       try clear p4
       try clear q4
       try clear hx4
       try clear c5
       try clear c5b0
       try clear c5b1
       try clear c6
       try clear p6
       try clear c7
       try clear c8
       try clear c13
       try clear c13b0
       try clear c14
       try clear c14b0
       try clear c16
       try clear c16b0
       try clear c17
       try clear c17b0
       try clear c18
       try clear c18b0
       try clear c19
       try clear c19b0
       try clear p20
       try clear q20
       try clear hx20
       try clear hf20
       try clear hcz10_0
       try clear hcz10_1
       try clear hcz8_0
       try clear hcz8_1
       try clear hfz10_0
       try clear hfz10_1
       try clear hfz8_0
       try clear hfz8_1
       try clear hx20_0
       try clear hx441_0
       try clear hx442_0
       try clear hx446_0
       try clear p2
       try clear p20
       try clear p441
       try clear p442
       try clear p446
       try clear q20
       try clear q441
       try clear q442
       try clear q446
       obtain ⟨x8_2, x9_2, rfl, HA, HK2, HO_6, HO_8, BK434, HI0, HK, HB⟩ := hrel
       cases gk with
       | zero => exact absurd HA.out (by simp [spec_l5Repair.l1])
       | succ k2 =>
        have H := HA.out
        clear HA
        simp only [spec_l5Repair.l1] at H
        by_cases c28 : x9_2 < (x6_1.length : Int)
        ·rw [if_pos c28] at H
         have c28b0 : decide (x9_2 < (x6_1.length : Int)) = true := decide_eq_true c28
         clear c28
         by_cases c29 : 0 ≤ x9_2
         ·rw [if_pos c29] at H
          have c29b0 : decide (0 ≤ x9_2) = true := decide_eq_true c29
          clear c29
          obtain ⟨bq30, hbq30⟩ : ∃ b_ : Bool, b_ = (rdOf false x6_1 x9_2) := ⟨_, rfl⟩
          replace H : (if bq30 = true then (if x8_2.length < 17592186044416 then (spec_l5Repair.l1 k2 x6_1 (x8_2 ++ [x9_2]) (wrap64 (x9_2 + 1)) s0_0 x1001_1 x1002_1) else (none)) else (spec_l5Repair.l1 k2 x6_1 x8_2 (wrap64 (x9_2 + 1)) s0_0 x1001_1 x1002_1)) = some (r1, r2, r3) := by rw [← hbq30] at H; exact H
          have Nbq30 := aM hbq30
          clear hbq30
          by_cases c31 : bq30 = true
          ·subst c31
           replace H := iT H
           by_cases c32 : x8_2.length < 17592186044416
           ·rw [if_pos c32] at H
            have LMc32 := aM c32
            clear c32
            obtain ⟨y452, hy452⟩ : ∃ y_ : List Int, y_ = (x8_2 ++ [x9_2]) := ⟨_, rfl⟩
            first | replace H := bY hy452 H | rw [← hy452] at H
            have Ny452 := aM hy452
            clear hy452
            have H' := aM H
            clear H
            obtain ⟨Ao33, co33, eo33⟩ := Kd.R_slice HO_6.out
            subst eo33
            have p451 : 0 ≤ (x9_2 : Int) := aD
            have q451 : x9_2 < (x6_1.length : Int) := aD
            obtain ⟨ad451, e451, hx451_0⟩ := Kd.at_bool (Kd.R_reads' HO_6.out).2.2 x9_2 p451 q451
            (try rw [← Nbq30.out] at hx451_0)
            cases e451
            replace p451 := eq_true p451
            replace q451 := eq_true q451
            go_wp2_with (first | ((with_reducible refine gate_builtin (b := .append) (xs := #[.tmp 48, .tmp 50]) rfl ?_); at_builtin; refine Kd.R_append (Kd.int .i64) w.heap.size rfl (.tmp 48) (.tmp 50) 32 3 (.int .i64 0) 8 rfl Try.underlying32 info3 rfl (by decide) (by omega) u8 x8_2 x9_2 [.int .i64 x9_2] (fun _ => True) (fun _ => False) rfl rfl ?aP (fun _ hk => hk.elim) ?aF ?aO (Below.refl _ _) ?aS ?aL ?_; (case aP => exact rfl); (case aF => exact (fun _ _ => trivial)); (case aO => exact (aR HO_8)); (case aS => exact (kS (w := w) (g := g))); (case aL => have := LMc32.out; omega); intro v453 w34 ho hb hg hat; rw [← Ny452.out] at ho; have HO454 := aM (ho); replace HO_6 := aM (Kd.R_over' (aR HO_6) (Kd.R_typed (aR HO_8)) (by decide) hg); replace BK434 := aM (blk_grown (g := gb434) (o := .cells #[.slice A1_0 l1_0.length c1_0, .slice A1_1 l1_1.length c1_1] 27 (0, 0)) aK hg (Kd.R_ne HO_8.out BK434.out (by decide))); replace HB := aM (below_weaken aY HL.out hb); replace HI0 := aM (IsS83.grown aZ hg (IsS83.own_ne HI0.out HO_8.out (by decide))); replace HK := aM (KeepBut.trans aQ (KeepBut.of_grown hg g) (Kd.R_base2 HO_8.out)); clear HO_8; clear ho hb hg hat))
            go_roundg k2
            case measure => have := HK1.out; have := HK2.out; omega
            case rel => exact ⟨(y452), (wrap64 (x9_2 + 1)), aX, H', ⟨by have := HK1.out; have := HK2.out; omega⟩, ⟨aR HO_6⟩, ⟨aR HO454⟩, ⟨aK⟩, ⟨aZ⟩, ⟨aQ⟩, ⟨aY⟩⟩
           ·rw [if_neg c32] at H
            exact absurd H (by simp)
          ·replace c31 := Bool.eq_false_iff.mpr c31
           subst c31
           have H1 : (spec_l5Repair.l1 k2 x6_1 x8_2 (wrap64 (x9_2 + 1)) s0_0 x1001_1 x1002_1) = some (r1, r2, r3) := by rw [if_neg (show ¬ (false = true) by decide)] at H; exact H
           clear H
           have H := H1
           clear H1
           have H' := aM H
           clear H
           obtain ⟨Ao35, co35, eo35⟩ := Kd.R_slice HO_6.out
           subst eo35
           have p451 : 0 ≤ (x9_2 : Int) := aD
           have q451 : x9_2 < (x6_1.length : Int) := aD
           obtain ⟨ad451, e451, hx451_0⟩ := Kd.at_bool (Kd.R_reads' HO_6.out).2.2 x9_2 p451 q451
           (try rw [← Nbq30.out] at hx451_0)
           cases e451
           replace p451 := eq_true p451
           replace q451 := eq_true q451
           go_wp2
           go_roundg k2
           case measure => have := HK1.out; have := HK2.out; omega
           case rel => exact ⟨(x8_2), (wrap64 (x9_2 + 1)), aX, H', ⟨by have := HK1.out; have := HK2.out; omega⟩, ⟨aR HO_6⟩, ⟨aR HO_8⟩, ⟨aK⟩, ⟨aZ⟩, ⟨aQ⟩, ⟨aY⟩⟩
         ·rw [if_neg c29] at H
          exact absurd H (by simp)
        ·rw [if_neg c28] at H
         have c28b0 : decide (x9_2 < (x6_1.length : Int)) = false := decide_eq_false c28
         clear c28
         simp only [Option.some.injEq, Prod.mk.injEq] at H
         obtain ⟨rfl, rfl, rfl⟩ := H
         obtain ⟨Ao36, co36, eo36⟩ := Kd.R_slice HO_6.out
         subst eo36
         go_wp2
         go_ret
         exact ⟨_, aE, aR HO_8, aZ, aY, aQ⟩
  ·rw [if_neg c5] at H
   exact absurd H (by simp)
 ·rw [if_neg c4] at H
  exact absurd H (by simp)

/-! ### spec_l1Once: function 88 -/
def spec_l1Once.f (s0_0 : List Int) (s0_1 : Int) (s0_2 : Int) (a1 : Int) : Option (Bool × Int × Int) := (spec_l1Below.f s0_0 s0_1 s0_2 a1).bind fun bt455 => (some ((bt455.1 == 0), bt455.2.1, bt455.2.2))
set_option maxHeartbeats 8000000 in
set_option maxRecDepth 100000 in
theorem spec_l1Once.calls (g : Nat) (s0_0 : List Int) (s0_1 : Int) (s0_2 : Int) (a1 : Int) (r1 : Bool) (r2 : Int) (r3 : Int) (w0 w : World) (hI : IsS83 w0 w g s0_0 s0_1 s0_2) (hB : Below w0.heap.size w0 w) (h : spec_l1Once.f s0_0 s0_1 s0_2 a1 = some (r1, r2, r3)) :
  Calls Try.prog 88 #[.pointer (some ⟨g, 0, none⟩), .int .i64 a1] w fun e w' => e = .returned (.bool r1) ∧ IsS83 w0 w' g s0_0 r2 r3 ∧ Below w0.heap.size w0 w' ∧ KeepBut w w' g none := by
 have HI0 := aM hI
 have HK := aM (KeepBut.refl w g none)
 have HL := aM hB.size
 clear hI
 have HW0 := aM hB.size
 have HB := aM hB
 clear hB
 have H : ((spec_l1Below.f s0_0 s0_1 s0_2 a1).bind fun bt455 => (some ((bt455.1 == 0), bt455.2.1, bt455.2.2))) = some (r1, r2, r3) := h
 clear h
 replace H := bM H
 obtain ⟨⟨t455, t456, t457⟩, A30, H⟩ := H
 dsimp only at H
 have A3 := aM A30
 clear A30
 simp only [Option.some.injEq, Prod.mk.injEq] at H
 obtain ⟨rfl, rfl, rfl⟩ := H
 go_enter Try.func88, Try.ntmps88
 go_wp2_with (first | ((with_reducible refine gate_callee (f := 66) rfl ?_); refine goesL_ (some 7) rfl rfl Try.func66 (by kernel_rfl) rfl #[.pointer (some ⟨g, 0, none⟩), .int .i64 a1] rfl aA ?_; (with_reducible refine (spec_l1Below.calls g s0_0 s0_1 s0_2 a1 t455 t456 t457 w0 _ ?side1 ?side2 A3.out).mono ?_); (case side1 => exact aZ); (case side2 => exact aY); rintro e w4 ⟨rfl, hi, hb, hk⟩; refine ⟨_, rfl, ?_⟩; replace HK := aM (KeepBut.trans aQ hk (.inl rfl)); replace HB := aM (hb); replace HI0 := aM (hi); (try clear hb); (try clear hb2); (try clear hk); (try clear hi)))
 go_ret
 exact ⟨aE, aZ, aY, aQ⟩

end Go.Proofs.Ytbdeimhlohhhiaa.PFnExtendToRepair
