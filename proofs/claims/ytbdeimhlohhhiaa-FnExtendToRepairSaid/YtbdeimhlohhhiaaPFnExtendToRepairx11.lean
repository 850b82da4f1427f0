-- Laid by a program of this claim: what the functions come to, some of them proved by hand.
import Derived.Test.YtbdeimhlohhhiaaPFnExtendToRepairx0
import Derived.Test.YtbdeimhlohhhiaaPFnExtendToRepairx1
import Derived.Test.YtbdeimhlohhhiaaPFnExtendToRepairx2
import Derived.Test.YtbdeimhlohhhiaaPFnExtendToRepairx10
namespace Go.Proofs.Ytbdeimhlohhhiaa.PFnExtendToRepair
open Go.RowKit Go.Proofs.YtbdeimhlohhhiaaW.PrintWords Go.Proofs.YtbdeimhlohhhiaaW.PrintLast Go.Proofs.YtbdeimhlohhhiaaW.PrintMore
attribute [local go_sem] max2_int min2_int max_two min_two max_three min_three max_four min_four   -- for this text's walks alone
set_option linter.unusedVariables false
set_option linter.unusedSimpArgs false

/-! ### spec_BlockOf: function 91 -/
mutual
def spec_BlockOf.l0 : Nat → Int → List Int → Int → List (S70) → List (S35) → Option (List Int)
 | 0, _, _, _, _, _ => none
 | k + 1, x1, x5, x6, x411000, x411001 => if x6 < (x411001.length : Int) then ((spec_IsValidDatabase.f k x411000 x411001).bind fun t414 => (if t414 = true then ((spec_l1In.f x1 0 (wrap64 ((x411001.length : Int) - 1))).bind fun t415 => (spec_BlockOf.j1 k x1 x5 x6 t415 x411000 x411001)) else (spec_BlockOf.j1 k x1 x5 x6 false x411000 x411001))) else (spec_BlockOf.j1 k x1 x5 x6 false x411000 x411001)
def spec_BlockOf.j1 : Nat → Int → List Int → Int → Bool → List (S70) → List (S35) → Option (List Int)
 | 0, _, _, _, _, _, _ => none
 | k + 1, x1, x5, x6, x24, x411000, x411001 => if x24 = true then (if 0 ≤ x1 then (if x1 < (x411001.length : Int) then (if 0 ≤ x6 then (if x6 < (x411001.length : Int) then ((spec_HaveSameKey.f k x411000 ((rd_T35 x411001 x1).f0) ((rd_T35 x411001 x1).f1) ((rd_T35 x411001 x6).f0) ((rd_T35 x411001 x6).f1)).bind fun t418 => (if t418 = true then (if x5.length < 17592186044416 then (spec_BlockOf.l0 k x1 (x5 ++ [x6]) (wrap64 (x6 + 1)) x411000 x411001) else (none)) else (spec_BlockOf.l0 k x1 x5 (wrap64 (x6 + 1)) x411000 x411001))) else (none)) else (none)) else (none)) else (none)) else (some x5)
end
def spec_BlockOf.f (k : Nat) (l0_0 : List (S70)) (l0_1 : List (S35)) (a1 : Int) : Option (List Int) := spec_BlockOf.l0 k a1 (([] : List Int)) 0 l0_0 l0_1
set_option maxHeartbeats 8000000 in
set_option maxRecDepth 100000 in
theorem spec_BlockOf.calls (k : Nat) (A0_0 : Option Addr) (c0_0 : Nat) (l0_0 : List (S70)) (A0_1 : Option Addr) (c0_1 : Nat) (l0_1 : List (S35)) (a1 : Int) (r : List Int) (w : World) (hr0_0 : Kd.C k70 w A0_0 l0_0.length l0_0) (hc0_0 : l0_0.length ≤ c0_0) (hr0_1 : Kd.C k35 w A0_1 l0_1.length l0_1) (hc0_1 : l0_1.length ≤ c0_1) (h : spec_BlockOf.f k l0_0 l0_1 a1 = some r) :
  Calls Try.prog 91 #[.agg #[.slice A0_0 l0_0.length c0_0, .slice A0_1 l0_1.length c0_1], .int .i64 a1] w fun e w' => ∃ v0_ : Value, e = .returned (v0_) ∧ Kd.R (Kd.int .i64) 3 w' w.heap.size (fun _ => True) v0_ r ∧ Below w.heap.size w w' := by
 have hu27 := Try.underlying27
 have hu35 := Try.underlying35
 have HR0_0 := aM hr0_0
 have HC0_0 := aM hc0_0
 clear hr0_0 hc0_0
 have HR0_1 := aM hr0_1
 have HC0_1 := aM hc0_1
 clear hr0_1 hc0_1
 have HB := aM (Below.refl w.heap.size w)
 have H : (spec_BlockOf.l0 k a1 (([] : List Int)) 0 l0_0 l0_1) = some r := h
 clear h
 obtain ⟨y411, hy411⟩ : ∃ y_ : List Int, y_ = (([] : List Int)) := ⟨_, rfl⟩
 first | replace H := bY hy411 H | rw [← hy411] at H
 have Ny411 := aM hy411
 clear hy411
 have H' := aM H
 clear H
 go_enter Try.func91, Try.ntmps91
 go_wp2_with (first | ((with_reducible refine gate_dst (N := 2) rfl ?_); (try (refine gate_guard (by rfl) ?_; dsimp only)); refine bE 2 (cs := #[.slice A0_0 l0_0.length c0_0, .slice A0_1 l0_1.length c0_1]) (t := 27) ?_; intro gb410 hg w3 hbox hb; have BK410 := aM (hbox); have GW410 := aM ((by rw [hg]; exact (below_size aB) : w.heap.size ≤ gb410)); have GE410 := aM ((by rw [hg]; exact (below_size aB) : w.heap.size ≤ gb410)); replace HB := aM (below_step aB hb); clear hb hbox hg) | ((with_reducible refine gate_dst (N := 7) rfl ?_); (try (refine gate_guard (by rfl) ?_; dsimp only)); refine Kd.R_lit (Kd.int .i64) _ 3 ?hg (N := 7) ?hd (xs := ([] : List Int)) (inner := []) (ok := fun _ => True) (okp := fun _ => True) ?hr ?hp (fun _ hk => hk) trivial (Below.refl _ _) (Nat.le_refl _) (by simp) ?_; (case hd => rfl); (case hg => rfl); (case hr => first | (go_simp; done) | (go_simp; rfl)); (case hp => exact (Reps.none _ _)); intro v412 w4 ho5 hb hg_ hnew_; clear hg_ hnew_; (first | rw [← Ny411.out] at ho5 | (simp only [Int.reduceToNat] at ho5; rw [← Ny411.out] at ho5)); have HO413 := aM (Kd.R_lower ho5 (below_size aG)); replace BK410 := aM (blk_below (g := gb410) (o := .cells #[.slice A0_0 l0_0.length c0_0, .slice A0_1 l0_1.length c0_1] 27 (0, 0)) aK hb); replace HB := aM (below_step aG hb); clear hb ho5))
 go_loopg [5, 6] k (fun kq v5 v6 w' => ∃ (x5_1 : List Int) (x6_1 : Int), v6 = .int .i64 x6_1 ∧ Aside0 (spec_BlockOf.l0 kq a1 x5_1 x6_1 l0_0 l0_1 = some r) ∧ Aside0 (kq ≤ k) ∧ Aside0 (Kd.R (Kd.int .i64) 3 w' w.heap.size (fun _ => True) v5 x5_1) ∧ Aside0 (w'.heap[gb410]? = some (.cells #[(.slice A0_0 l0_0.length c0_0), (.slice A0_1 l0_1.length c0_1)] 27 (0, 0))) ∧ Aside0 (Below w.heap.size w w'))
 case atStart => exact ⟨(y411), (0), aX, H', ⟨Nat.le_refl _⟩, ⟨aR HO413⟩, ⟨aK⟩, ⟨aG⟩⟩
 case round =>
  clear H'
  try clear p2
  obtain ⟨x5_1, x6_1, rfl, HA, HK1, HO_5, BK410, HB⟩ := hrel
  cases gk with
  | zero => exact absurd HA.out (by simp [spec_BlockOf.l0])
  | succ k1 =>
   have H := HA.out
   clear HA
   simp only [spec_BlockOf.l0] at H
   have HC6 := aM H
   clear H
   go_upto_region 3 with (fail)
   go_cut [24] (fun v24 wc => ∃ (kq : Nat) (x24_5 : Bool), v24 = .bool x24_5 ∧ Aside0 (spec_BlockOf.j1 kq a1 x5_1 x6_1 x24_5 l0_0 l0_1 = some r) ∧ Aside0 (kq ≤ k1) ∧ Aside0 (Kd.R (Kd.int .i64) 3 wc w.heap.size (fun _ => True) u5 x5_1) ∧ Aside0 (wc.heap[gb410]? = some (.cells #[(.slice A0_0 l0_0.length c0_0), (.slice A0_1 l0_1.length c0_1)] 27 (0, 0))) ∧ Aside0 (Below w.heap.size w wc))
   case first =>
    have H := HC6.out
    clear HC6
    by_cases c7 : x6_1 < (l0_1.length : Int)
    ·rw [if_pos c7] at H
     have c7b0 : decide (x6_1 < (l0_1.length : Int)) = true := decide_eq_true c7
     clear c7
     (first | rw [c7b0] | (simp only [i64_w, i32_w]; rw [c7b0]) | skip)
     replace H := bM H
     obtain ⟨t414, A80, H⟩ := H
     have A8 := aM A80
     clear A80
     by_cases c9 : t414 = true
     ·subst c9
      replace H := iT H
      replace H := bM H
      obtain ⟨t415, A100, H⟩ := H
      have A10 := aM A100
      clear A100
      have H' := aM H
      clear H
      have hcz11_0 : wr.cell? ⟨gb410, 0, none⟩ = some (.slice A0_0 l0_0.length c0_0) := (blk_cell BK410.out 0).trans rfl
      have hcz11_1 : wr.cell? ⟨gb410, 1, none⟩ = some (.slice A0_1 l0_1.length c0_1) := (blk_cell BK410.out 1).trans rfl
      have hfz11_0 := blk_frozen BK410.out 0
      have hfz11_1 := blk_frozen BK410.out 1
      go_wp2_with (first | (go_at_call 10; (with_reducible refine (spec_IsValidDatabase.calls k1 _ _ l0_0 _ _ l0_1 true _ ?side1 ?side2 ?side3 ?side4 A8.out).mono ?_); (case side1 => exact aC); (case side2 => exact HC0_0.out); (case side3 => exact aC); (case side4 => exact HC0_1.out); rintro e w12 ⟨rfl, hb⟩; replace HO_5 := aM (Kd.R_below (aR HO_5) hb); replace BK410 := aM (blk_below (g := gb410) (o := .cells #[.slice A0_0 l0_0.length c0_0, .slice A0_1 l0_1.length c0_1] 27 (0, 0)) aK hb); replace HB := aM (below_step aG hb); (try clear hb); (try clear hb2); (try clear hk); (try clear hi); have hcz13_0 : w12.cell? ⟨gb410, 0, none⟩ = some (.slice A0_0 l0_0.length c0_0) := (blk_cell BK410.out 0).trans rfl; have hcz13_1 : w12.cell? ⟨gb410, 1, none⟩ = some (.slice A0_1 l0_1.length c0_1) := (blk_cell BK410.out 1).trans rfl; have hfz13_0 := blk_frozen BK410.out 0; have hfz13_1 := blk_frozen BK410.out 1) | (go_at_call 70; (with_reducible refine (spec_l1In.calls a1 0 (wrap64 ((l0_1.length : Int) - 1)) t415 _ A10.out).mono ?_); rintro e w' ⟨rfl, ⟨nd, rfl⟩⟩))
      go_meet
      case rel => exact ⟨_, (t415), aX, H', ⟨by have := HK1.out; first | omega | exact Nat.le_refl _⟩, ⟨aR HO_5⟩, ⟨aK⟩, ⟨aG⟩⟩
     ·replace c9 := Bool.eq_false_iff.mpr c9
      subst c9
      have H1 : (spec_BlockOf.j1 k1 a1 x5_1 x6_1 false l0_0 l0_1) = some r := by rw [if_neg (show ¬ (false = true) by decide)] at H; exact H
      clear H
      have H := H1
      clear H1
      have H' := aM H
      clear H
      have hcz14_0 : wr.cell? ⟨gb410, 0, none⟩ = some (.slice A0_0 l0_0.length c0_0) := (blk_cell BK410.out 0).trans rfl
      have hcz14_1 : wr.cell? ⟨gb410, 1, none⟩ = some (.slice A0_1 l0_1.length c0_1) := (blk_cell BK410.out 1).trans rfl
      have hfz14_0 := blk_frozen BK410.out 0
      have hfz14_1 := blk_frozen BK410.out 1
      go_wp2_with (first | (go_at_call 10; (with_reducible refine (spec_IsValidDatabase.calls k1 _ _ l0_0 _ _ l0_1 false _ ?side1 ?side2 ?side3 ?side4 A8.out).mono ?_); (case side1 => exact aC); (case side2 => exact HC0_0.out); (case side3 => exact aC); (case side4 => exact HC0_1.out); rintro e w15 ⟨rfl, hb⟩; replace HO_5 := aM (Kd.R_below (aR HO_5) hb); replace BK410 := aM (blk_below (g := gb410) (o := .cells #[.slice A0_0 l0_0.length c0_0, .slice A0_1 l0_1.length c0_1] 27 (0, 0)) aK hb); replace HB := aM (below_step aG hb); (try clear hb); (try clear hb2); (try clear hk); (try clear hi)))
      go_meet
      case rel => exact ⟨_, (false), aX, H', ⟨by have := HK1.out; first | omega | exact Nat.le_refl _⟩, ⟨aR HO_5⟩, ⟨aK⟩, ⟨aG⟩⟩
    ·rw [if_neg c7] at H
     have c7b0 : decide (x6_1 < (l0_1.length : Int)) = false := decide_eq_false c7
     clear c7
     (first | rw [c7b0] | (simp only [i64_w, i32_w]; rw [c7b0]) | skip)
     have H' := aM H
     clear H
     have hcz16_0 : wr.cell? ⟨gb410, 0, none⟩ = some (.slice A0_0 l0_0.length c0_0) := (blk_cell BK410.out 0).trans rfl
     have hcz16_1 : wr.cell? ⟨gb410, 1, none⟩ = some (.slice A0_1 l0_1.length c0_1) := (blk_cell BK410.out 1).trans rfl
     have hfz16_0 := blk_frozen BK410.out 0
     have hfz16_1 := blk_frozen BK410.out 1
     go_wp2
     go_meet
     case rel => exact ⟨_, (false), aX, H', ⟨by have := HK1.out; first | omega | exact Nat.le_refl _⟩, ⟨aR HO_5⟩, ⟨aK⟩, ⟨aG⟩⟩
   case rest =>
    clear HC6
    try clear p2
    try clear p6
    try clear c7
    try clear c7b0
    try clear c9
    try clear hcz11_0
    try clear hcz11_1
    try clear hcz13_0
    try clear hcz13_1
    try clear hcz14_0
    try clear hcz14_1
    try clear hcz16_0
    try clear hcz16_1
    try clear hfz11_0
    try clear hfz11_1
    try clear hfz13_0
    try clear hfz13_1
    try clear hfz14_0
    try clear hfz14_1
    try clear hfz16_0
    try clear hfz16_1
    try clear p2
    obtain ⟨kq, x24_5, rfl, HA, HJ5, HO_5, BK410, HB⟩ := hcut
    cases kq with
    | zero => exact absurd HA.out (by simp [spec_BlockOf.j1])
    | succ kj5 =>
     have H := HA.out
     clear HA
     simp only [spec_BlockOf.j1] at H
     by_cases c17 : x24_5 = true
     ·subst c17
      replace H := iT H
      by_cases c18 : 0 ≤ a1
      ·rw [if_pos c18] at H
       have c18b0 : decide (0 ≤ a1) = true := decide_eq_true c18
       clear c18
       by_cases c19 : a1 < (l0_1.length : Int)
       ·rw [if_pos c19] at H
        have c19b0 : decide (a1 < (l0_1.length : Int)) = true := decide_eq_true c19
        clear c19
        by_cases c20 : 0 ≤ x6_1
        ·rw [if_pos c20] at H
         have c20b0 : decide (0 ≤ x6_1) = true := decide_eq_true c20
         clear c20
         by_cases c21 : x6_1 < (l0_1.length : Int)
         ·rw [if_pos c21] at H
          have c21b0 : decide (x6_1 < (l0_1.length : Int)) = true := decide_eq_true c21
          clear c21
          replace H := bM H
          obtain ⟨t418, A220, H⟩ := H
          have A22 := aM A220
          clear A220
          by_cases c23 : t418 = true
          ·subst c23
           replace H := iT H
           by_cases c24 : x5_1.length < 17592186044416
           ·rw [if_pos c24] at H
            have LMc24 := aM c24
            clear c24
            obtain ⟨y419, hy419⟩ : ∃ y_ : List Int, y_ = (x5_1 ++ [x6_1]) := ⟨_, rfl⟩
            first | replace H := bY hy419 H | rw [← hy419] at H
            have Ny419 := aM hy419
            clear hy419
            have H' := aM H
            clear H
            try go_wp2
            replace HO_5 := aM (Kd.R_drew HO_5.out)
            replace BK410 := aM (blk_drew BK410.out)
            replace HB := aM (below_drew1 HB.out)
            have p416 : 0 ≤ (a1 : Int) := aD
            have q416 : a1 < (l0_1.length : Int) := aD
            obtain ⟨ad416, A416_1, c416_1, e416, hx416_0, hx416_1, hl416_1, hi416_1⟩ := at_T35 HR0_1.out a1 p416 q416
            have hw416_1 := hx416_1
            have hw416_0 := hx416_0
            cases e416
            replace hx416_0 := (HB.out.cell (World.block_lt_of_cell? w _ hx416_0)).trans hx416_0
            replace hx416_1 := (HB.out.cell (World.block_lt_of_cell? w _ hx416_1)).trans hx416_1
            have HR416_1 := aM hi416_1
            have HC416_1 := aM hl416_1
            clear hi416_1 hl416_1
            replace p416 := eq_true p416
            replace q416 := eq_true q416
            have p417 : 0 ≤ (x6_1 : Int) := aD
            have q417 : x6_1 < (l0_1.length : Int) := aD
            obtain ⟨ad417, A417_1, c417_1, e417, hx417_0, hx417_1, hl417_1, hi417_1⟩ := at_T35 HR0_1.out x6_1 p417 q417
            have hw417_1 := hx417_1
            have hw417_0 := hx417_0
            obtain rfl : ad416 = ad417 := (by injection e417)
            replace hx417_0 := (HB.out.cell (World.block_lt_of_cell? w _ hx417_0)).trans hx417_0
            replace hx417_1 := (HB.out.cell (World.block_lt_of_cell? w _ hx417_1)).trans hx417_1
            have HR417_1 := aM hi417_1
            have HC417_1 := aM hl417_1
            clear hi417_1 hl417_1
            replace p417 := eq_true p417
            replace q417 := eq_true q417
            have qf0_ : ∀ (d_ : Nat) (os_ : Array Obj), (Go.Sort.grow (redrawn wc d_) os_).cell? ⟨gb410, 0, none⟩ = some (.slice A0_0 l0_0.length c0_0) := cell_regrown_drew ((blk_cell BK410.out 0).trans rfl)
            have qf1_ : ∀ (d_ : Nat) (os_ : Array Obj), (Go.Sort.grow (redrawn wc d_) os_).cell? ⟨gb410, 1, none⟩ = some (.slice (some ad416) l0_1.length c0_1) := cell_regrown_drew ((blk_cell BK410.out 1).trans rfl)
            have qf2_ : ∀ (d_ : Nat) (os_ : Array Obj), (Go.Sort.grow (redrawn wc d_) os_).cell? (ad416.add ((a1).toNat * 2)) = some (.int .i64 ((rd_T35 l0_1 a1).f0)) := cell_regrown_drew ((pw_cell_below HB.out hw416_0))
            have qf3_ : ∀ (d_ : Nat) (os_ : Array Obj), (Go.Sort.grow (redrawn wc d_) os_).cell? ⟨(ad416.add ((a1).toNat * 2)).block, (ad416.add ((a1).toNat * 2)).off + 1, none⟩ = some (.slice A416_1 ((rd_T35 l0_1 a1).f1).length c416_1) := cell_regrown_drew ((pw_cell_below HB.out hw416_1))
            have qf4_ : ∀ (d_ : Nat) (os_ : Array Obj), (Go.Sort.grow (redrawn wc d_) os_).cell? (ad416.add ((x6_1).toNat * 2)) = some (.int .i64 ((rd_T35 l0_1 x6_1).f0)) := cell_regrown_drew ((pw_cell_below HB.out hw417_0))
            have qf5_ : ∀ (d_ : Nat) (os_ : Array Obj), (Go.Sort.grow (redrawn wc d_) os_).cell? ⟨(ad416.add ((x6_1).toNat * 2)).block, (ad416.add ((x6_1).toNat * 2)).off + 1, none⟩ = some (.slice A417_1 ((rd_T35 l0_1 x6_1).f1).length c417_1) := cell_regrown_drew ((pw_cell_below HB.out hw417_1))
            have HBQ_ := aM (below_class HB.out)
            have HBS_ := HB
            clear HB
            refine wp_region_quiet_below (by kernel_rfl) (by kernel_rfl) ?_
            repeat (go_big_quiet_step ((refine with_class HBQ_.out ?_; intro hbz_; have HB := aM hbz_; clear hbz_; first | (go_at_call 11; apply Calls.regrown_of; with_reducible refine spec_HaveSameKey.calls kj5 _ _ l0_0 ((rd_T35 l0_1 a1).f0) _ _ ((rd_T35 l0_1 a1).f1) ((rd_T35 l0_1 x6_1).f0) _ _ ((rd_T35 l0_1 x6_1).f1) true _ ?side1 ?side2 ?side3 ?side4 ?side5 ?side6 A22.out; (case side1 => repeat (first | exact (Kd.C_below HR0_0.out HB.out) | exact (Kd.C_below HR416_0.out HB.out) | exact (Kd.C_below HR417_0.out HB.out) | (with_reducible refine Kd.C_alloc ?_ _) | (with_reducible refine Kd.C_drewN ?_ _) | (with_reducible refine Kd.C_drew ?_))); (case side2 => first | exact HC0_0.out | exact HC416_0.out | exact HC417_0.out); (case side3 => repeat (first | exact (Kd.C_below HR416_1.out HB.out) | exact (Kd.C_below HR417_1.out HB.out) | (with_reducible refine Kd.C_alloc ?_ _) | (with_reducible refine Kd.C_drewN ?_ _) | (with_reducible refine Kd.C_drew ?_))); (case side4 => first | exact HC416_1.out | exact HC417_1.out); (case side5 => repeat (first | exact (Kd.C_below HR417_1.out HB.out) | exact (Kd.C_below HR416_1.out HB.out) | (with_reducible refine Kd.C_alloc ?_ _) | (with_reducible refine Kd.C_drewN ?_ _) | (with_reducible refine Kd.C_drew ?_))); (case side6 => first | exact HC417_1.out | exact HC416_1.out)))))
            refine wpQuiet_nil ?_
            intro _ hw_
            obtain ⟨⟨dq_, osq_⟩, hw2_⟩ := hw_
            subst hw2_
            have hb := below_regrown_drew wc dq_ osq_
            have HB := HBS_
            clear HBS_
            clear qf0_ qf1_ qf2_ qf3_ qf4_ qf5_
            clear HBQ_
            generalize Go.Sort.grow (redrawn wc dq_) osq_ = w26 at hb ⊢
            generalize wc.drew = wd_ at HO_5 BK410 HB hb
            replace HO_5 := aM (Kd.R_below (aR HO_5) hb)
            replace BK410 := aM (blk_below (g := gb410) (o := .cells #[.slice A0_0 l0_0.length c0_0, .slice (some ad416) l0_1.length c0_1] 27 (0, 0)) aK hb)
            replace HB := aM (below_step aG hb)
            (try clear hb)
            (try clear hb2)
            (try clear hk)
            (try clear hi)
            try go_wp2_with (first | ((with_reducible refine gate_builtin (b := .append) (xs := #[.tmp 40, .tmp 42]) rfl ?_); (try (refine gate_guard (by rfl) ?_; dsimp only)); at_builtin; refine Kd.R_append (Kd.int .i64) (w0 := w) w.heap.size rfl (.tmp 40) (.tmp 42) 32 3 (.int .i64 0) 8 rfl Try.underlying32 info3 rfl (by decide) (by omega) u5 x5_1 x6_1 [.int .i64 x6_1] (fun _ => True) (fun _ => False) rfl rfl ?aP (fun _ hk => hk.elim) ?aF ?aO ?aB ?aS ?aL ?_; (case aP => exact rfl); (case aB => exact aG); (case aF => exact (fun _ _ => trivial)); (case aO => exact (aR HO_5)); (case aS => exact (below_size aG)); (case aL => have := LMc24.out; omega); intro v420 w27 ho hb hg hat; rw [← Ny419.out] at ho; have HO421 := aM (ho); replace BK410 := aM (blk_grown (g := gb410) (o := .cells #[.slice A0_0 l0_0.length c0_0, .slice (some ad416) l0_1.length c0_1] 27 (0, 0)) aK hg (Kd.R_ne HO_5.out BK410.out (by decide))); replace HB := aM (hb); clear HO_5; clear ho hb hg hat))
            go_roundg kj5
            case measure => have := HK1.out; have := HJ5.out; omega
            case rel => exact ⟨(y419), (wrap64 (x6_1 + 1)), aX, H', ⟨by have := HK1.out; have := HJ5.out; omega⟩, ⟨aR HO421⟩, ⟨aK⟩, ⟨aG⟩⟩
           ·rw [if_neg c24] at H
            exact absurd H (by simp)
          ·replace c23 := Bool.eq_false_iff.mpr c23
           subst c23
           have H1 : (spec_BlockOf.l0 kj5 a1 x5_1 (wrap64 (x6_1 + 1)) l0_0 l0_1) = some r := by rw [if_neg (show ¬ (false = true) by decide)] at H; exact H
           clear H
           have H := H1
           clear H1
           have H' := aM H
           clear H
           try go_wp2
           replace HO_5 := aM (Kd.R_drew HO_5.out)
           replace BK410 := aM (blk_drew BK410.out)
           replace HB := aM (below_drew1 HB.out)
           have p416 : 0 ≤ (a1 : Int) := aD
           have q416 : a1 < (l0_1.length : Int) := aD
           obtain ⟨ad416, A416_1, c416_1, e416, hx416_0, hx416_1, hl416_1, hi416_1⟩ := at_T35 HR0_1.out a1 p416 q416
           have hw416_1 := hx416_1
           have hw416_0 := hx416_0
           cases e416
           replace hx416_0 := (HB.out.cell (World.block_lt_of_cell? w _ hx416_0)).trans hx416_0
           replace hx416_1 := (HB.out.cell (World.block_lt_of_cell? w _ hx416_1)).trans hx416_1
           have HR416_1 := aM hi416_1
           have HC416_1 := aM hl416_1
           clear hi416_1 hl416_1
           replace p416 := eq_true p416
           replace q416 := eq_true q416
           have p417 : 0 ≤ (x6_1 : Int) := aD
           have q417 : x6_1 < (l0_1.length : Int) := aD
           obtain ⟨ad417, A417_1, c417_1, e417, hx417_0, hx417_1, hl417_1, hi417_1⟩ := at_T35 HR0_1.out x6_1 p417 q417
           have hw417_1 := hx417_1
           have hw417_0 := hx417_0
           obtain rfl : ad416 = ad417 := (by injection e417)
           replace hx417_0 := (HB.out.cell (World.block_lt_of_cell? w _ hx417_0)).trans hx417_0
           replace hx417_1 := (HB.out.cell (World.block_lt_of_cell? w _ hx417_1)).trans hx417_1
           have HR417_1 := aM hi417_1
           have HC417_1 := aM hl417_1
           clear hi417_1 hl417_1
           replace p417 := eq_true p417
           replace q417 := eq_true q417
           have qf0_ : ∀ (d_ : Nat) (os_ : Array Obj), (Go.Sort.grow (redrawn wc d_) os_).cell? ⟨gb410, 0, none⟩ = some (.slice A0_0 l0_0.length c0_0) := cell_regrown_drew ((blk_cell BK410.out 0).trans rfl)
           have qf1_ : ∀ (d_ : Nat) (os_ : Array Obj), (Go.Sort.grow (redrawn wc d_) os_).cell? ⟨gb410, 1, none⟩ = some (.slice (some ad416) l0_1.length c0_1) := cell_regrown_drew ((blk_cell BK410.out 1).trans rfl)
           have qf2_ : ∀ (d_ : Nat) (os_ : Array Obj), (Go.Sort.grow (redrawn wc d_) os_).cell? (ad416.add ((a1).toNat * 2)) = some (.int .i64 ((rd_T35 l0_1 a1).f0)) := cell_regrown_drew ((pw_cell_below HB.out hw416_0))
           have qf3_ : ∀ (d_ : Nat) (os_ : Array Obj), (Go.Sort.grow (redrawn wc d_) os_).cell? ⟨(ad416.add ((a1).toNat * 2)).block, (ad416.add ((a1).toNat * 2)).off + 1, none⟩ = some (.slice A416_1 ((rd_T35 l0_1 a1).f1).length c416_1) := cell_regrown_drew ((pw_cell_below HB.out hw416_1))
           have qf4_ : ∀ (d_ : Nat) (os_ : Array Obj), (Go.Sort.grow (redrawn wc d_) os_).cell? (ad416.add ((x6_1).toNat * 2)) = some (.int .i64 ((rd_T35 l0_1 x6_1).f0)) := cell_regrown_drew ((pw_cell_below HB.out hw417_0))
           have qf5_ : ∀ (d_ : Nat) (os_ : Array Obj), (Go.Sort.grow (redrawn wc d_) os_).cell? ⟨(ad416.add ((x6_1).toNat * 2)).block, (ad416.add ((x6_1).toNat * 2)).off + 1, none⟩ = some (.slice A417_1 ((rd_T35 l0_1 x6_1).f1).length c417_1) := cell_regrown_drew ((pw_cell_below HB.out hw417_1))
           have HBQ_ := aM (below_class HB.out)
           have HBS_ := HB
           clear HB
           refine wp_region_quiet_below (by kernel_rfl) (by kernel_rfl) ?_
           repeat (go_big_quiet_step ((refine with_class HBQ_.out ?_; intro hbz_; have HB := aM hbz_; clear hbz_; first | (go_at_call 11; apply Calls.regrown_of; with_reducible refine spec_HaveSameKey.calls kj5 _ _ l0_0 ((rd_T35 l0_1 a1).f0) _ _ ((rd_T35 l0_1 a1).f1) ((rd_T35 l0_1 x6_1).f0) _ _ ((rd_T35 l0_1 x6_1).f1) false _ ?side1 ?side2 ?side3 ?side4 ?side5 ?side6 A22.out; (case side1 => repeat (first | exact (Kd.C_below HR0_0.out HB.out) | exact (Kd.C_below HR416_0.out HB.out) | exact (Kd.C_below HR417_0.out HB.out) | (with_reducible refine Kd.C_alloc ?_ _) | (with_reducible refine Kd.C_drewN ?_ _) | (with_reducible refine Kd.C_drew ?_))); (case side2 => first | exact HC0_0.out | exact HC416_0.out | exact HC417_0.out); (case side3 => repeat (first | exact (Kd.C_below HR416_1.out HB.out) | exact (Kd.C_below HR417_1.out HB.out) | (with_reducible refine Kd.C_alloc ?_ _) | (with_reducible refine Kd.C_drewN ?_ _) | (with_reducible refine Kd.C_drew ?_))); (case side4 => first | exact HC416_1.out | exact HC417_1.out); (case side5 => repeat (first | exact (Kd.C_below HR417_1.out HB.out) | exact (Kd.C_below HR416_1.out HB.out) | (with_reducible refine Kd.C_alloc ?_ _) | (with_reducible refine Kd.C_drewN ?_ _) | (with_reducible refine Kd.C_drew ?_))); (case side6 => first | exact HC417_1.out | exact HC416_1.out)))))
           refine wpQuiet_nil ?_
           intro _ hw_
           obtain ⟨⟨dq_, osq_⟩, hw2_⟩ := hw_
           subst hw2_
           have hb := below_regrown_drew wc dq_ osq_
           have HB := HBS_
           clear HBS_
           clear qf0_ qf1_ qf2_ qf3_ qf4_ qf5_
           clear HBQ_
           generalize Go.Sort.grow (redrawn wc dq_) osq_ = w29 at hb ⊢
           generalize wc.drew = wd_ at HO_5 BK410 HB hb
           replace HO_5 := aM (Kd.R_below (aR HO_5) hb)
           replace BK410 := aM (blk_below (g := gb410) (o := .cells #[.slice A0_0 l0_0.length c0_0, .slice (some ad416) l0_1.length c0_1] 27 (0, 0)) aK hb)
           replace HB := aM (below_step aG hb)
           (try clear hb)
           (try clear hb2)
           (try clear hk)
           (try clear hi)
           try go_wp2
           go_roundg kj5
           case measure => have := HK1.out; have := HJ5.out; omega
           case rel => exact ⟨(x5_1), (wrap64 (x6_1 + 1)), aX, H', ⟨by have := HK1.out; have := HJ5.out; omega⟩, ⟨aR HO_5⟩, ⟨aK⟩, ⟨aG⟩⟩
         ·rw [if_neg c21] at H
          exact absurd H (by simp)
        ·rw [if_neg c20] at H
         exact absurd H (by simp)
       ·rw [if_neg c19] at H
        exact absurd H (by simp)
      ·rw [if_neg c18] at H
       exact absurd H (by simp)
     ·replace c17 := Bool.eq_false_iff.mpr c17
      subst c17
      have H1 : (some x5_1) = some r := by rw [if_neg (show ¬ (false = true) by decide)] at H; exact H
      clear H
      have H := H1
      clear H1
      obtain rfl := Option.some.inj H
      go_wp2
      go_ret
      exact ⟨_, aE, aR HO_5, aG⟩

/-! ### spec_Blocks: function 65 -/
mutual
def spec_Blocks.l0 : Nat → List (List Int) → Int → List (S70) → List (S35) → Option ((List (List Int)))
 | 0, _, _, _, _ => none
 | k + 1, x3, x4, x423000, x423001 => if x4 < (x423001.length : Int) then ((spec_IsValidDatabase.f k x423000 x423001).bind fun t426 => (spec_Blocks.j1 k x3 x4 t426 x423000 x423001)) else (spec_Blocks.j1 k x3 x4 false x423000 x423001)
def spec_Blocks.j1 : Nat → List (List Int) → Int → Bool → List (S70) → List (S35) → Option ((List (List Int)))
 | 0, _, _, _, _, _ => none
 | k + 1, x3, x4, x15, x423000, x423001 => if x15 = true then ((spec_BlockOf.f k x423000 x423001 x4).bind fun t427 => (if 0 < (t427.length : Int) then (if (rd t427 0) = x4 then (if x3.length < 5864062014805 then (spec_Blocks.l0 k (x3 ++ [t427]) (wrap64 (x4 + 1)) x423000 x423001) else (none)) else (spec_Blocks.l0 k x3 (wrap64 (x4 + 1)) x423000 x423001)) else (none))) else (some x3)
end
def spec_Blocks.f (k : Nat) (l0_0 : List (S70)) (l0_1 : List (S35)) : Option ((List (List Int))) := spec_Blocks.l0 k (([] : List (List Int))) 0 l0_0 l0_1
set_option maxHeartbeats 8000000 in
set_option maxRecDepth 100000 in
theorem spec_Blocks.calls (k : Nat) (A0_0 : Option Addr) (c0_0 : Nat) (l0_0 : List (S70)) (A0_1 : Option Addr) (c0_1 : Nat) (l0_1 : List (S35)) (r : List (List Int)) (w : World) (hr0_0 : Kd.C k70 w A0_0 l0_0.length l0_0) (hc0_0 : l0_0.length ≤ c0_0) (hr0_1 : Kd.C k35 w A0_1 l0_1.length l0_1) (hc0_1 : l0_1.length ≤ c0_1) (h : spec_Blocks.f k l0_0 l0_1 = some r) :
  Calls Try.prog 65 #[.agg #[.slice A0_0 l0_0.length c0_0, .slice A0_1 l0_1.length c0_1]] w fun e w' => ∃ v0_ : Value, e = .returned (v0_) ∧ Kd.S (Kd.slice 3 (Kd.int .i64)) 32 w' w.heap.size (fun _ => True) v0_ r ∧ Below w.heap.size w w' := by
 have hu27 := Try.underlying27
 have HR0_0 := aM hr0_0
 have HC0_0 := aM hc0_0
 clear hr0_0 hc0_0
 have HR0_1 := aM hr0_1
 have HC0_1 := aM hc0_1
 clear hr0_1 hc0_1
 have HB := aM (Below.refl w.heap.size w)
 have H : (spec_Blocks.l0 k (([] : List (List Int))) 0 l0_0 l0_1) = some r := h
 clear h
 obtain ⟨y423, hy423⟩ : ∃ y_ : List (List Int), y_ = (([] : List (List Int))) := ⟨_, rfl⟩
 first | replace H := bY hy423 H | rw [← hy423] at H
 have Ny423 := aM hy423
 clear hy423
 have H' := aM H
 clear H
 go_enter Try.func65, Try.ntmps65
 go_wp2_with (first | ((with_reducible refine gate_dst (N := 1) rfl ?_); refine bE 1 (cs := #[.slice A0_0 l0_0.length c0_0, .slice A0_1 l0_1.length c0_1]) (t := 27) ?_; intro gb422 hg w2 hbox hb; have BK422 := aM (hbox); have GW422 := aM ((by rw [hg]; exact (below_size aB) : w.heap.size ≤ gb422)); have GE422 := aM ((by rw [hg]; exact (below_size aB) : w.heap.size ≤ gb422)); replace HB := aM (below_step aB hb); clear hb hbox hg) | ((with_reducible refine gate_dst (N := 6) rfl ?_); refine Kd.S_lit (Kd.slice 3 (Kd.int .i64)) _ 32 ?hg (N := 6) ?hd (xs := ([] : List (List Int))) (inner := []) (ok := fun _ => True) (okp := fun _ => True) ?hr ?hp (fun _ hk => hk) trivial (Below.refl _ _) (Nat.le_refl _) (by simp) ?_; (case hd => rfl); (case hg => rfl); (case hr => first | (go_simp; done) | (go_simp; rfl)); (case hp => exact (Reps.none _ _)); intro v424 w3 ho4 hb hg_ hnew_; clear hg_ hnew_; (first | rw [← Ny423.out] at ho4 | (simp only [Int.reduceToNat] at ho4; rw [← Ny423.out] at ho4)); have HO425 := aM (Kd.S_lower ho4 (below_size aG)); replace BK422 := aM (blk_below (g := gb422) (o := .cells #[.slice A0_0 l0_0.length c0_0, .slice A0_1 l0_1.length c0_1] 27 (0, 0)) aK hb); replace HB := aM (below_step aG hb); clear hb ho4))
 go_loopg [3, 4] k (fun kq v3 v4 w' => ∃ (x3_1 : List (List Int)) (x4_1 : Int), v4 = .int .i64 x4_1 ∧ Aside0 (spec_Blocks.l0 kq x3_1 x4_1 l0_0 l0_1 = some r) ∧ Aside0 (kq ≤ k) ∧ Aside0 (Kd.S (Kd.slice 3 (Kd.int .i64)) 32 w' w.heap.size (fun _ => True) v3 x3_1) ∧ Aside0 (w'.heap[gb422]? = some (.cells #[(.slice A0_0 l0_0.length c0_0), (.slice A0_1 l0_1.length c0_1)] 27 (0, 0))) ∧ Aside0 (Below w.heap.size w w'))
 case atStart => exact ⟨(y423), (0), aX, H', ⟨Nat.le_refl _⟩, ⟨aS HO425⟩, ⟨aK⟩, ⟨aG⟩⟩
 case round =>
  clear H'
  try clear p2
  obtain ⟨x3_1, x4_1, rfl, HA, HK1, HO_3, BK422, HB⟩ := hrel
  cases gk with
  | zero => exact absurd HA.out (by simp [spec_Blocks.l0])
  | succ k1 =>
   have H := HA.out
   clear HA
   simp only [spec_Blocks.l0] at H
   have HC5 := aM H
   clear H
   go_upto_region 3 with (fail)
   go_cut [15] (fun v15 wc => ∃ (kq : Nat) (x15_4 : Bool), v15 = .bool x15_4 ∧ Aside0 (spec_Blocks.j1 kq x3_1 x4_1 x15_4 l0_0 l0_1 = some r) ∧ Aside0 (kq ≤ k1) ∧ Aside0 (Kd.S (Kd.slice 3 (Kd.int .i64)) 32 wc w.heap.size (fun _ => True) u3 x3_1) ∧ Aside0 (wc.heap[gb422]? = some (.cells #[(.slice A0_0 l0_0.length c0_0), (.slice A0_1 l0_1.length c0_1)] 27 (0, 0))) ∧ Aside0 (Below w.heap.size w wc))
   case first =>
    have H := HC5.out
    clear HC5
    by_cases c6 : x4_1 < (l0_1.length : Int)
    ·rw [if_pos c6] at H
     have c6b0 : decide (x4_1 < (l0_1.length : Int)) = true := decide_eq_true c6
     clear c6
     (first | rw [c6b0] | (simp only [i64_w, i32_w]; rw [c6b0]) | skip)
     replace H := bM H
     obtain ⟨t426, A70, H⟩ := H
     have A7 := aM A70
     clear A70
     have H' := aM H
     clear H
     have hcz8_0 : wr.cell? ⟨gb422, 0, none⟩ = some (.slice A0_0 l0_0.length c0_0) := (blk_cell BK422.out 0).trans rfl
     have hcz8_1 : wr.cell? ⟨gb422, 1, none⟩ = some (.slice A0_1 l0_1.length c0_1) := (blk_cell BK422.out 1).trans rfl
     have hfz8_0 := blk_frozen BK422.out 0
     have hfz8_1 := blk_frozen BK422.out 1
     go_wp2_with (first | (go_at_call 10; (with_reducible refine (spec_IsValidDatabase.calls k1 _ _ l0_0 _ _ l0_1 t426 _ ?side1 ?side2 ?side3 ?side4 A7.out).mono ?_); (case side1 => exact aC); (case side2 => exact HC0_0.out); (case side3 => exact aC); (case side4 => exact HC0_1.out); rintro e w9 ⟨rfl, hb⟩; replace HO_3 := aM (Kd.S_below (aS HO_3) hb); replace BK422 := aM (blk_below (g := gb422) (o := .cells #[.slice A0_0 l0_0.length c0_0, .slice A0_1 l0_1.length c0_1] 27 (0, 0)) aK hb); replace HB := aM (below_step aG hb); (try clear hb); (try clear hb2); (try clear hk); (try clear hi)))
     go_meet
     case rel => exact ⟨_, (t426), aX, H', ⟨by have := HK1.out; first | omega | exact Nat.le_refl _⟩, ⟨aS HO_3⟩, ⟨aK⟩, ⟨aG⟩⟩
    ·rw [if_neg c6] at H
     have c6b0 : decide (x4_1 < (l0_1.length : Int)) = false := decide_eq_false c6
     clear c6
     (first | rw [c6b0] | (simp only [i64_w, i32_w]; rw [c6b0]) | skip)
     have H' := aM H
     clear H
     have hcz10_0 : wr.cell? ⟨gb422, 0, none⟩ = some (.slice A0_0 l0_0.length c0_0) := (blk_cell BK422.out 0).trans rfl
     have hcz10_1 : wr.cell? ⟨gb422, 1, none⟩ = some (.slice A0_1 l0_1.length c0_1) := (blk_cell BK422.out 1).trans rfl
     have hfz10_0 := blk_frozen BK422.out 0
     have hfz10_1 := blk_frozen BK422.out 1
     go_wp2
     go_meet
     case rel => exact ⟨_, (false), aX, H', ⟨by have := HK1.out; first | omega | exact Nat.le_refl _⟩, ⟨aS HO_3⟩, ⟨aK⟩, ⟨aG⟩⟩
   case rest =>
    clear HC5
    try clear p2
    try clear c6
    try clear c6b0
    try clear hcz10_0
    try clear hcz10_1
    try clear hcz8_0
    try clear hcz8_1
    try clear hfz10_0
    try clear hfz10_1
    try clear hfz8_0
    try clear hfz8_1
    try clear p2
    obtain ⟨kq, x15_4, rfl, HA, HJ4, HO_3, BK422, HB⟩ := hcut
    cases kq with
    | zero => exact absurd HA.out (by simp [spec_Blocks.j1])
    | succ kj4 =>
     have H := HA.out
     clear HA
     simp only [spec_Blocks.j1] at H
     by_cases c11 : x15_4 = true
     ·subst c11
      replace H := iT H
      replace H := bM H
      obtain ⟨t427, A120, H⟩ := H
      have A12 := aM A120
      clear A120
      by_cases c13 : 0 < (t427.length : Int)
      ·rw [if_pos c13] at H
       have c13b0 : decide (0 < (t427.length : Int)) = true := decide_eq_true c13
       have c13b1 : decide (0 < t427.length) = true := decide_eq_true (by omega)
       clear c13
       by_cases c14 : (rd t427 0) = x4_1
       ·rw [if_pos c14] at H
        have c14b0 : ((rd t427 0) == x4_1) = true := beq_iff_eq.mpr c14
        have c14b1 : ((rd t427 0) != x4_1) = false := bne_eq_false_iff_eq.mpr c14
        clear c14
        by_cases c15 : x3_1.length < 5864062014805
        ·rw [if_pos c15] at H
         have LMc15 := aM c15
         clear c15
         obtain ⟨y431, hy431⟩ : ∃ y_ : List (List Int), y_ = (x3_1 ++ [t427]) := ⟨_, rfl⟩
         first | replace H := bY hy431 H | rw [← hy431] at H
         have Ny431 := aM hy431
         clear hy431
         have H' := aM H
         clear H
         have hcz16_0 : wc.cell? ⟨gb422, 0, none⟩ = some (.slice A0_0 l0_0.length c0_0) := (blk_cell BK422.out 0).trans rfl
         have hcz16_1 : wc.cell? ⟨gb422, 1, none⟩ = some (.slice A0_1 l0_1.length c0_1) := (blk_cell BK422.out 1).trans rfl
         have hfz16_0 := blk_frozen BK422.out 0
         have hfz16_1 := blk_frozen BK422.out 1
         go_wp2_with (first | ((with_reducible refine gate_callee (f := 91) rfl ?_); refine goesL_ (some 20) rfl rfl Try.func91 (by kernel_rfl) rfl #[.agg #[.slice A0_0 l0_0.length c0_0, .slice A0_1 l0_1.length c0_1], .int .i64 x4_1] rfl aA ?_; (with_reducible refine (spec_BlockOf.calls kj4 _ _ l0_0 _ _ l0_1 x4_1 t427 _ ?side1 ?side2 ?side3 ?side4 A12.out).mono ?_); (case side1 => exact aC); (case side2 => exact HC0_0.out); (case side3 => exact aC); (case side4 => exact HC0_1.out); rintro e w17 ⟨v428, rfl, ho0, hb⟩; refine ⟨_, rfl, ?_⟩; have HO429 := aM (Kd.R_lower ho0 (below_size aG)); replace HO_3 := aM (Kd.S_elder' (aS HO_3) (Kd.R_base ho0) hb); replace BK422 := aM (blk_below (g := gb422) (o := .cells #[.slice A0_0 l0_0.length c0_0, .slice A0_1 l0_1.length c0_1] 27 (0, 0)) aK hb); replace HB := aM (below_step aG hb); (try clear hb); (try clear hb2); (try clear hk); (try clear hi); (try clear ho0); obtain ⟨Ao18, co18, eo18⟩ := Kd.R_slice HO429.out; subst eo18; have p430 : 0 ≤ (0 : Int) := (by omega); have q430 : 0 < (t427.length : Int) := aD; obtain ⟨ad430, e430, hx430_0⟩ := Kd.at_int (Kd.R_reads' HO429.out).2.2 0 p430 q430; cases e430; have qi430 : (0 < t427.length) = True := eq_true (by omega); (try rw [show ((0 : Int)).toNat = 0 from rfl] at hx430_0); (try rw [Addr.add_zero'] at hx430_0); replace p430 := eq_true p430; replace q430 := eq_true q430) | ((with_reducible refine gate_builtin (b := .append) (xs := #[.tmp 26, .tmp 28]) rfl ?_); at_builtin; refine Kd.S_append (Kd.slice 3 (Kd.int .i64)) (w0 := w) w.heap.size rfl (.tmp 26) (.tmp 28) 29 32 (.slice none 0 0) 24 rfl Try.underlying29 info32 rfl (by decide) (by omega) u3 x3_1 t427 [.slice (some ad430) t427.length co18] (fun _ => True) (fun k_ => some k_ = (.slice (some ad430) t427.length co18 : Value).ownBlock) rfl rfl ?aP (fun k_ hk_ => ((Kd.R_mono (ok' := fun k_ => ((fun _ => True)) k_ ∧ some k_ ≠ (u3 : Value).ownBlock) (Kd.R_apart' (HO429.out) (Kd.S_typed HO_3.out) (by decide)) (fun k_ hk => ⟨trivial, hk.2⟩))).1 k_ hk_.symm) ?aF ?aO ?aB ?aS ?aL ?_; (case aP => exact Kd.M_row (Kd.R_mono (Kd.R_tight rfl (Kd.R_mono (ok' := fun k_ => ((fun _ => True)) k_ ∧ some k_ ≠ (u3 : Value).ownBlock) (Kd.R_apart' (HO429.out) (Kd.S_typed HO_3.out) (by decide)) (fun k_ hk => ⟨trivial, hk.2⟩))) (fun _ h_ => h_))); (case aB => exact aG); (case aF => exact (fun _ _ => trivial)); (case aO => exact (by (with_reducible repeat apply pS); exact Kd.S_mono HO_3.out (fun k_ hk => ⟨trivial, fun e_ => hk.2 e_⟩))); (case aS => exact (below_size aG)); (case aL => have := LMc15.out; omega); intro v432 w19 ho hb hg hat; rw [← Ny431.out] at ho; have HO433 := aM (ho); replace BK422 := aM (blk_grown (g := gb422) (o := .cells #[.slice A0_0 l0_0.length c0_0, .slice A0_1 l0_1.length c0_1] 27 (0, 0)) aK hg (Kd.S_ne HO_3.out BK422.out (by decide))); replace HB := aM (hb); clear HO_3 HO429; clear ho hb hg hat))
         go_roundg kj4
         case measure => have := HK1.out; have := HJ4.out; omega
         case rel => exact ⟨(y431), (wrap64 (x4_1 + 1)), aX, H', ⟨by have := HK1.out; have := HJ4.out; omega⟩, ⟨aS HO433⟩, ⟨aK⟩, ⟨aG⟩⟩
        ·rw [if_neg c15] at H
         exact absurd H (by simp)
       ·rw [if_neg c14] at H
        have c14b0 : ((rd t427 0) == x4_1) = false := beq_eq_false_iff_ne.mpr c14
        have c14b1 : ((rd t427 0) != x4_1) = true := bne_iff_ne.mpr c14
        have H' := aM H
        clear H
        have hcz20_0 : wc.cell? ⟨gb422, 0, none⟩ = some (.slice A0_0 l0_0.length c0_0) := (blk_cell BK422.out 0).trans rfl
        have hcz20_1 : wc.cell? ⟨gb422, 1, none⟩ = some (.slice A0_1 l0_1.length c0_1) := (blk_cell BK422.out 1).trans rfl
        have hfz20_0 := blk_frozen BK422.out 0
        have hfz20_1 := blk_frozen BK422.out 1
        go_wp2_with (first | ((with_reducible refine gate_callee (f := 91) rfl ?_); refine goesL_ (some 20) rfl rfl Try.func91 (by kernel_rfl) rfl #[.agg #[.slice A0_0 l0_0.length c0_0, .slice A0_1 l0_1.length c0_1], .int .i64 x4_1] rfl aA ?_; (with_reducible refine (spec_BlockOf.calls kj4 _ _ l0_0 _ _ l0_1 x4_1 t427 _ ?side1 ?side2 ?side3 ?side4 A12.out).mono ?_); (case side1 => exact aC); (case side2 => exact HC0_0.out); (case side3 => exact aC); (case side4 => exact HC0_1.out); rintro e w21 ⟨v428, rfl, ho0, hb⟩; refine ⟨_, rfl, ?_⟩; have HO429 := aM (Kd.R_lower ho0 (below_size aG)); replace HO_3 := aM (Kd.S_elder' (aS HO_3) (Kd.R_base ho0) hb); replace BK422 := aM (blk_below (g := gb422) (o := .cells #[.slice A0_0 l0_0.length c0_0, .slice A0_1 l0_1.length c0_1] 27 (0, 0)) aK hb); replace HB := aM (below_step aG hb); (try clear hb); (try clear hb2); (try clear hk); (try clear hi); (try clear ho0); obtain ⟨Ao22, co22, eo22⟩ := Kd.R_slice HO429.out; subst eo22; have p430 : 0 ≤ (0 : Int) := (by omega); have q430 : 0 < (t427.length : Int) := aD; obtain ⟨ad430, e430, hx430_0⟩ := Kd.at_int (Kd.R_reads' HO429.out).2.2 0 p430 q430; cases e430; have qi430 : (0 < t427.length) = True := eq_true (by omega); (try rw [show ((0 : Int)).toNat = 0 from rfl] at hx430_0); (try rw [Addr.add_zero'] at hx430_0); replace p430 := eq_true p430; replace q430 := eq_true q430))
        go_roundg kj4
        case measure => have := HK1.out; have := HJ4.out; omega
        case rel => exact ⟨(x3_1), (wrap64 (x4_1 + 1)), aX, H', ⟨by have := HK1.out; have := HJ4.out; omega⟩, ⟨by (with_reducible repeat apply pS); exact Kd.S_mono HO_3.out (fun _ hk => trivial)⟩, ⟨aK⟩, ⟨aG⟩⟩
      ·rw [if_neg c13] at H
       exact absurd H (by simp)
     ·replace c11 := Bool.eq_false_iff.mpr c11
      subst c11
      have H1 : (some x3_1) = some r := by rw [if_neg (show ¬ (false = true) by decide)] at H; exact H
      clear H
      have H := H1
      clear H1
      obtain rfl := Option.some.inj H
      go_wp2
      go_ret
      exact ⟨_, aE, aS HO_3, aG⟩

end Go.Proofs.Ytbdeimhlohhhiaa.PFnExtendToRepair
