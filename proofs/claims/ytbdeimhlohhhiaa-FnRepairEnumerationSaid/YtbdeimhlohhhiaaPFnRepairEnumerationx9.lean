import Derived.Test.YtbdeimhlohhhiaaPFnRepairEnumerationx0
import Derived.Test.YtbdeimhlohhhiaaPFnRepairEnumerationx6
import Derived.Test.YtbdeimhlohhhiaaPFnRepairEnumerationx7
import Derived.Test.YtbdeimhlohhhiaaPFnRepairEnumerationx8
namespace Go.Proofs.Ytbdeimhlohhhiaa.PFnRepairEnumeration
open Go.RowKit Go.Proofs.YtbdeimhlohhhiaaW.PrintWords Go.Proofs.YtbdeimhlohhhiaaW.PrintLast Go.Proofs.YtbdeimhlohhhiaaW.PrintMore
attribute [local go_sem] max2_int min2_int max_two min_two max_three min_three max_four min_four
set_option linter.unusedVariables false
set_option linter.unusedSimpArgs false

/-! ### spec_BlockOf: function 91 -/
mutual
def spec_BlockOf.l0 : Nat → Int → List Int → Int → List (S70) → List (S35) → Option (List Int)
 | 0, _, _, _, _, _ => none
 | k + 1, x1, x5, x6, x264000, x264001 => if x6 < (x264001.length : Int) then ((spec_IsValidDatabase.f k x264000 x264001).bind fun t267 => (if t267 = true then ((spec_l1In.f x1 0 (wrap64 ((x264001.length : Int) - 1))).bind fun t268 => (spec_BlockOf.j1 k x1 x5 x6 t268 x264000 x264001)) else (spec_BlockOf.j1 k x1 x5 x6 false x264000 x264001))) else (spec_BlockOf.j1 k x1 x5 x6 false x264000 x264001)
def spec_BlockOf.j1 : Nat → Int → List Int → Int → Bool → List (S70) → List (S35) → Option (List Int)
 | 0, _, _, _, _, _, _ => none
 | k + 1, x1, x5, x6, x24, x264000, x264001 => if x24 = true then (if 0 ≤ x1 then (if x1 < (x264001.length : Int) then (if 0 ≤ x6 then (if x6 < (x264001.length : Int) then ((spec_HaveSameKey.f k x264000 ((rd_T35 x264001 x1).f0) ((rd_T35 x264001 x1).f1) ((rd_T35 x264001 x6).f0) ((rd_T35 x264001 x6).f1)).bind fun t271 => (if t271 = true then (if x5.length < 17592186044416 then (spec_BlockOf.l0 k x1 (x5 ++ [x6]) (wrap64 (x6 + 1)) x264000 x264001) else (none)) else (spec_BlockOf.l0 k x1 x5 (wrap64 (x6 + 1)) x264000 x264001))) else (none)) else (none)) else (none)) else (none)) else (some x5)
end
def spec_BlockOf.f (k : Nat) (l0_0 : List (S70)) (l0_1 : List (S35)) (a1 : Int) : Option (List Int) := spec_BlockOf.l0 k a1 (([] : List Int)) 0 l0_0 l0_1
set_option maxHeartbeats 8000000 in
set_option maxRecDepth 100000 in
theorem spec_BlockOf.calls (k : Nat) (A0_0 : Option Addr) (c0_0 : Nat) (l0_0 : List (S70)) (A0_1 : Option Addr) (c0_1 : Nat) (l0_1 : List (S35)) (a1 : Int) (r : List Int) (w : World) (hr0_0 : Kd.C k70 w A0_0 l0_0.length l0_0) (hc0_0 : l0_0.length ≤ c0_0) (hr0_1 : Kd.C k35 w A0_1 l0_1.length l0_1) (hc0_1 : l0_1.length ≤ c0_1) (h : spec_BlockOf.f k l0_0 l0_1 a1 = some r) :
  Calls Try.prog 91 #[.agg #[.slice A0_0 l0_0.length c0_0, .slice A0_1 l0_1.length c0_1], .int .i64 a1] w fun e w' => ∃ v0_ : Value, e = .returned (v0_) ∧ Kd.R (Kd.int .i64) 3 w' w.heap.size (fun _ => True) v0_ r ∧ Below w.heap.size w w' := by
 have hu27 := Try.underlying27
 have hu35 := Try.underlying35
 have HR0_0 := aM hr0_0
 have HC0_0 := aM hc0_0
 clear hr0_0 hc0_0
 have HR0_1 := aM hr0_1
 have HC0_1 := aM hc0_1
 clear hr0_1 hc0_1
 have HB := aM (Below.refl w.heap.size w)
 have H : (spec_BlockOf.l0 k a1 (([] : List Int)) 0 l0_0 l0_1) = some r := h
 clear h
 obtain ⟨y264, hy264⟩ : ∃ y_ : List Int, y_ = (([] : List Int)) := ⟨_, rfl⟩
 first | replace H := bY hy264 H | rw [← hy264] at H
 have Ny264 := aM hy264
 clear hy264
 have H' := aM H
 clear H
 go_enter Try.func91, Try.ntmps91
 go_wp2_with (first | ((with_reducible refine gate_dst (N := 2) rfl ?_); (try (refine gate_guard (by rfl) ?_; dsimp only)); refine bE 2 (cs := #[.slice A0_0 l0_0.length c0_0, .slice A0_1 l0_1.length c0_1]) (t := 27) ?_; intro gb263 hg w3 hbox hb; have BK263 := aM (hbox); have GW263 := aM ((by rw [hg]; exact (below_size aB) : w.heap.size ≤ gb263)); have GE263 := aM ((by rw [hg]; exact (below_size aB) : w.heap.size ≤ gb263)); replace HB := aM (below_step aB hb); clear hb hbox hg) | ((with_reducible refine gate_dst (N := 7) rfl ?_); (try (refine gate_guard (by rfl) ?_; dsimp only)); refine Kd.R_lit (Kd.int .i64) _ 3 ?hg (N := 7) ?hd (xs := ([] : List Int)) (inner := []) (ok := fun _ => True) (okp := fun _ => True) ?hr ?hp (fun _ hk => hk) trivial (Below.refl _ _) (Nat.le_refl _) (by simp) ?_; (case hd => rfl); (case hg => rfl); (case hr => first | (go_simp; done) | (go_simp; rfl)); (case hp => exact (Reps.none _ _)); intro v265 w4 ho5 hb hg_ hnew_; clear hg_ hnew_; (first | rw [← Ny264.out] at ho5 | (simp only [Int.reduceToNat] at ho5; rw [← Ny264.out] at ho5)); have HO266 := aM (Kd.R_lower ho5 (below_size aG)); replace BK263 := aM (kB gb263 #[.slice A0_0 l0_0.length c0_0, .slice A0_1 l0_1.length c0_1] 27 hb); replace HB := aM (below_step aG hb); clear hb ho5))
 go_loopg [5, 6] k (fun kq v5 v6 w' => ∃ (x5_1 : List Int) (x6_1 : Int), v6 = .int .i64 x6_1 ∧ Aside0 (spec_BlockOf.l0 kq a1 x5_1 x6_1 l0_0 l0_1 = some r) ∧ Aside0 (kq ≤ k) ∧ Aside0 (Kd.R (Kd.int .i64) 3 w' w.heap.size (fun _ => True) v5 x5_1) ∧ Aside0 (w'.heap[gb263]? = some (.cells #[(.slice A0_0 l0_0.length c0_0), (.slice A0_1 l0_1.length c0_1)] 27 (0, 0))) ∧ Aside0 (Below w.heap.size w w'))
 case atStart => exact ⟨(y264), (0), aX, H', ⟨Nat.le_refl _⟩, ⟨aR HO266⟩, ⟨aK⟩, ⟨aG⟩⟩
 case round =>
  clear H'
  try clear p2
  obtain ⟨x5_1, x6_1, rfl, HA, HK1, HO_5, BK263, HB⟩ := hrel
  cases gk with
  | zero => exact absurd HA.out (by simp [spec_BlockOf.l0])
  | succ k1 =>
   have H := HA.out
   clear HA
   simp only [spec_BlockOf.l0] at H
   have HC6 := aM H
   clear H
   go_upto_region 3 with (fail)
   go_cut [24] (fun v24 wc => ∃ (kq : Nat) (x24_5 : Bool), v24 = .bool x24_5 ∧ Aside0 (spec_BlockOf.j1 kq a1 x5_1 x6_1 x24_5 l0_0 l0_1 = some r) ∧ Aside0 (kq ≤ k1) ∧ Aside0 (Kd.R (Kd.int .i64) 3 wc w.heap.size (fun _ => True) u5 x5_1) ∧ Aside0 (wc.heap[gb263]? = some (.cells #[(.slice A0_0 l0_0.length c0_0), (.slice A0_1 l0_1.length c0_1)] 27 (0, 0))) ∧ Aside0 (Below w.heap.size w wc))
   case first =>
    have H := HC6.out
    clear HC6
    by_cases c7 : x6_1 < (l0_1.length : Int)
    ·rw [if_pos c7] at H
     have c7b0 : decide (x6_1 < (l0_1.length : Int)) = true := decide_eq_true c7
     clear c7
     (first | rw [c7b0] | (simp only [i64_w, i32_w]; rw [c7b0]) | skip)
     replace H := bM H
     obtain ⟨t267, A80, H⟩ := H
     have A8 := aM A80
     clear A80
     by_cases c9 : t267 = true
     ·subst c9
      replace H := iT H
      replace H := bM H
      obtain ⟨t268, A100, H⟩ := H
      have A10 := aM A100
      clear A100
      have H' := aM H
      clear H
      have hcz11_0 : wr.cell? ⟨gb263, 0, none⟩ = some (.slice A0_0 l0_0.length c0_0) := (blk_cell BK263.out 0).trans rfl
      have hcz11_1 : wr.cell? ⟨gb263, 1, none⟩ = some (.slice A0_1 l0_1.length c0_1) := (blk_cell BK263.out 1).trans rfl
      have hfz11_0 := blk_frozen BK263.out 0
      have hfz11_1 := blk_frozen BK263.out 1
      go_wp2_with (first | (go_at_call 10; (with_reducible refine (spec_IsValidDatabase.calls k1 _ _ l0_0 _ _ l0_1 true _ ?side1 ?side2 ?side3 ?side4 A8.out).mono ?_); (case side1 => exact aC); (case side2 => exact HC0_0.out); (case side3 => exact aC); (case side4 => exact HC0_1.out); rintro e w12 ⟨rfl, hb⟩; replace HO_5 := aM (Kd.R_below (aR HO_5) hb); replace BK263 := aM (kB gb263 #[.slice A0_0 l0_0.length c0_0, .slice A0_1 l0_1.length c0_1] 27 hb); replace HB := aM (below_step aG hb); (try clear hb); (try clear hb2); (try clear hk); (try clear hi); have hcz13_0 : w12.cell? ⟨gb263, 0, none⟩ = some (.slice A0_0 l0_0.length c0_0) := (blk_cell BK263.out 0).trans rfl; have hcz13_1 : w12.cell? ⟨gb263, 1, none⟩ = some (.slice A0_1 l0_1.length c0_1) := (blk_cell BK263.out 1).trans rfl; have hfz13_0 := blk_frozen BK263.out 0; have hfz13_1 := blk_frozen BK263.out 1) | (go_at_call 70; (with_reducible refine (spec_l1In.calls a1 0 (wrap64 ((l0_1.length : Int) - 1)) t268 _ A10.out).mono ?_); rintro e w' ⟨rfl, ⟨nd, rfl⟩⟩))
      go_meet
      case rel => exact ⟨_, (t268), aX, H', ⟨by have := HK1.out; first | omega | exact Nat.le_refl _⟩, ⟨aR HO_5⟩, ⟨aK⟩, ⟨aG⟩⟩
     ·replace c9 := Bool.eq_false_iff.mpr c9
      subst c9
      have H1 : (spec_BlockOf.j1 k1 a1 x5_1 x6_1 false l0_0 l0_1) = some r := by rw [if_neg (show ¬ (false = true) by decide)] at H; exact H
      clear H
      have H := H1
      clear H1
      have H' := aM H
      clear H
      have hcz14_0 : wr.cell? ⟨gb263, 0, none⟩ = some (.slice A0_0 l0_0.length c0_0) := (blk_cell BK263.out 0).trans rfl
      have hcz14_1 : wr.cell? ⟨gb263, 1, none⟩ = some (.slice A0_1 l0_1.length c0_1) := (blk_cell BK263.out 1).trans rfl
      have hfz14_0 := blk_frozen BK263.out 0
      have hfz14_1 := blk_frozen BK263.out 1
      go_wp2_with (first | (go_at_call 10; (with_reducible refine (spec_IsValidDatabase.calls k1 _ _ l0_0 _ _ l0_1 false _ ?side1 ?side2 ?side3 ?side4 A8.out).mono ?_); (case side1 => exact aC); (case side2 => exact HC0_0.out); (case side3 => exact aC); (case side4 => exact HC0_1.out); rintro e w15 ⟨rfl, hb⟩; replace HO_5 := aM (Kd.R_below (aR HO_5) hb); replace BK263 := aM (kB gb263 #[.slice A0_0 l0_0.length c0_0, .slice A0_1 l0_1.length c0_1] 27 hb); replace HB := aM (below_step aG hb); (try clear hb); (try clear hb2); (try clear hk); (try clear hi)))
      go_meet
      case rel => exact ⟨_, (false), aX, H', ⟨by have := HK1.out; first | omega | exact Nat.le_refl _⟩, ⟨aR HO_5⟩, ⟨aK⟩, ⟨aG⟩⟩
    ·rw [if_neg c7] at H
     have c7b0 : decide (x6_1 < (l0_1.length : Int)) = false := decide_eq_false c7
     clear c7
     (first | rw [c7b0] | (simp only [i64_w, i32_w]; rw [c7b0]) | skip)
     have H' := aM H
     clear H
     have hcz16_0 : wr.cell? ⟨gb263, 0, none⟩ = some (.slice A0_0 l0_0.length c0_0) := (blk_cell BK263.out 0).trans rfl
     have hcz16_1 : wr.cell? ⟨gb263, 1, none⟩ = some (.slice A0_1 l0_1.length c0_1) := (blk_cell BK263.out 1).trans rfl
     have hfz16_0 := blk_frozen BK263.out 0
     have hfz16_1 := blk_frozen BK263.out 1
     go_wp2
     go_meet
     case rel => exact ⟨_, (false), aX, H', ⟨by have := HK1.out; first | omega | exact Nat.le_refl _⟩, ⟨aR HO_5⟩, ⟨aK⟩, ⟨aG⟩⟩
   case rest =>
    clear HC6
    try clear p2
    try clear p6
    try clear c7
    try clear c7b0
    try clear c9
    try clear hcz11_0
    try clear hcz11_1
    try clear hcz13_0
    try clear hcz13_1
    try clear hcz14_0
    try clear hcz14_1
    try clear hcz16_0
    try clear hcz16_1
    try clear hfz11_0
    try clear hfz11_1
    try clear hfz13_0
    try clear hfz13_1
    try clear hfz14_0
    try clear hfz14_1
    try clear hfz16_0
    try clear hfz16_1
    try clear p2
    obtain ⟨kq, x24_5, rfl, HA, HJ5, HO_5, BK263, HB⟩ := hcut
    cases kq with
    | zero => exact absurd HA.out (by simp [spec_BlockOf.j1])
    | succ kj5 =>
     have H := HA.out
     clear HA
     simp only [spec_BlockOf.j1] at H
     by_cases c17 : x24_5 = true
     ·subst c17
      replace H := iT H
      by_cases c18 : 0 ≤ a1
      ·rw [if_pos c18] at H
       have c18b0 : decide (0 ≤ a1) = true := decide_eq_true c18
       clear c18
       by_cases c19 : a1 < (l0_1.length : Int)
       ·rw [if_pos c19] at H
        have c19b0 : decide (a1 < (l0_1.length : Int)) = true := decide_eq_true c19
        clear c19
        by_cases c20 : 0 ≤ x6_1
        ·rw [if_pos c20] at H
         have c20b0 : decide (0 ≤ x6_1) = true := decide_eq_true c20
         clear c20
         by_cases c21 : x6_1 < (l0_1.length : Int)
         ·rw [if_pos c21] at H
          have c21b0 : decide (x6_1 < (l0_1.length : Int)) = true := decide_eq_true c21
          clear c21
          replace H := bM H
          obtain ⟨t271, A220, H⟩ := H
          have A22 := aM A220
          clear A220
          by_cases c23 : t271 = true
          ·subst c23
           replace H := iT H
           by_cases c24 : x5_1.length < 17592186044416
           ·rw [if_pos c24] at H
            have LMc24 := aM c24
            clear c24
            obtain ⟨y272, hy272⟩ : ∃ y_ : List Int, y_ = (x5_1 ++ [x6_1]) := ⟨_, rfl⟩
            first | replace H := bY hy272 H | rw [← hy272] at H
            have Ny272 := aM hy272
            clear hy272
            have H' := aM H
            clear H
            try go_wp2
            replace HO_5 := aM (Kd.R_drew HO_5.out)
            replace BK263 := aM (blk_drew BK263.out)
            replace HB := aM (below_drew1 HB.out)
            have p269 : 0 ≤ (a1 : Int) := aD
            have q269 : a1 < (l0_1.length : Int) := aD
            obtain ⟨ad269, A269_1, c269_1, e269, hx269_0, hx269_1, hl269_1, hi269_1⟩ := at_T35 HR0_1.out a1 p269 q269
            have hw269_1 := hx269_1
            have hw269_0 := hx269_0
            cases e269
            replace hx269_0 := (HB.out.cell (World.block_lt_of_cell? w _ hx269_0)).trans hx269_0
            replace hx269_1 := (HB.out.cell (World.block_lt_of_cell? w _ hx269_1)).trans hx269_1
            have HR269_1 := aM hi269_1
            have HC269_1 := aM hl269_1
            clear hi269_1 hl269_1
            replace p269 := eq_true p269
            replace q269 := eq_true q269
            have p270 : 0 ≤ (x6_1 : Int) := aD
            have q270 : x6_1 < (l0_1.length : Int) := aD
            obtain ⟨ad270, A270_1, c270_1, e270, hx270_0, hx270_1, hl270_1, hi270_1⟩ := at_T35 HR0_1.out x6_1 p270 q270
            have hw270_1 := hx270_1
            have hw270_0 := hx270_0
            obtain rfl : ad269 = ad270 := (by injection e270)
            replace hx270_0 := (HB.out.cell (World.block_lt_of_cell? w _ hx270_0)).trans hx270_0
            replace hx270_1 := (HB.out.cell (World.block_lt_of_cell? w _ hx270_1)).trans hx270_1
            have HR270_1 := aM hi270_1
            have HC270_1 := aM hl270_1
            clear hi270_1 hl270_1
            replace p270 := eq_true p270
            replace q270 := eq_true q270
            have qf0_ : ∀ (d_ : Nat) (os_ : Array Obj), (Go.Sort.grow (redrawn wc d_) os_).cell? ⟨gb263, 0, none⟩ = some (.slice A0_0 l0_0.length c0_0) := cell_regrown_drew ((blk_cell BK263.out 0).trans rfl)
            have qf1_ : ∀ (d_ : Nat) (os_ : Array Obj), (Go.Sort.grow (redrawn wc d_) os_).cell? ⟨gb263, 1, none⟩ = some (.slice (some ad269) l0_1.length c0_1) := cell_regrown_drew ((blk_cell BK263.out 1).trans rfl)
            have qf2_ : ∀ (d_ : Nat) (os_ : Array Obj), (Go.Sort.grow (redrawn wc d_) os_).cell? (ad269.add ((a1).toNat * 2)) = some (.int .i64 ((rd_T35 l0_1 a1).f0)) := cell_regrown_drew ((pw_cell_below HB.out hw269_0))
            have qf3_ : ∀ (d_ : Nat) (os_ : Array Obj), (Go.Sort.grow (redrawn wc d_) os_).cell? ⟨(ad269.add ((a1).toNat * 2)).block, (ad269.add ((a1).toNat * 2)).off + 1, none⟩ = some (.slice A269_1 ((rd_T35 l0_1 a1).f1).length c269_1) := cell_regrown_drew ((pw_cell_below HB.out hw269_1))
            have qf4_ : ∀ (d_ : Nat) (os_ : Array Obj), (Go.Sort.grow (redrawn wc d_) os_).cell? (ad269.add ((x6_1).toNat * 2)) = some (.int .i64 ((rd_T35 l0_1 x6_1).f0)) := cell_regrown_drew ((pw_cell_below HB.out hw270_0))
            have qf5_ : ∀ (d_ : Nat) (os_ : Array Obj), (Go.Sort.grow (redrawn wc d_) os_).cell? ⟨(ad269.add ((x6_1).toNat * 2)).block, (ad269.add ((x6_1).toNat * 2)).off + 1, none⟩ = some (.slice A270_1 ((rd_T35 l0_1 x6_1).f1).length c270_1) := cell_regrown_drew ((pw_cell_below HB.out hw270_1))
            have HBQ_ := aM (below_class HB.out)
            have HBS_ := HB
            clear HB
            refine wp_region_quiet_below (by kernel_rfl) (by kernel_rfl) ?_
            repeat (go_big_quiet_step ((refine with_class HBQ_.out ?_; intro hbz_; have HB := aM hbz_; clear hbz_; first | (go_at_call 11; apply Calls.regrown_of; with_reducible refine spec_HaveSameKey.calls kj5 _ _ l0_0 ((rd_T35 l0_1 a1).f0) _ _ ((rd_T35 l0_1 a1).f1) ((rd_T35 l0_1 x6_1).f0) _ _ ((rd_T35 l0_1 x6_1).f1) true _ ?side1 ?side2 ?side3 ?side4 ?side5 ?side6 A22.out; (case side1 => repeat (first | exact (Kd.C_below HR0_0.out HB.out) | exact (Kd.C_below HR269_0.out HB.out) | exact (Kd.C_below HR270_0.out HB.out) | (with_reducible refine pC ?_))); (case side2 => first | exact HC0_0.out | exact HC269_0.out | exact HC270_0.out); (case side3 => repeat (first | exact (Kd.C_below HR269_1.out HB.out) | exact (Kd.C_below HR270_1.out HB.out) | (with_reducible refine pC ?_))); (case side4 => first | exact HC269_1.out | exact HC270_1.out); (case side5 => repeat (first | exact (Kd.C_below HR270_1.out HB.out) | exact (Kd.C_below HR269_1.out HB.out) | (with_reducible refine pC ?_))); (case side6 => first | exact HC270_1.out | exact HC269_1.out)))))
            refine wpQuiet_nil ?_
            intro _ hw_
            obtain ⟨⟨dq_, osq_⟩, hw2_⟩ := hw_
            subst hw2_
            have hb := below_regrown_drew wc dq_ osq_
            have HB := HBS_
            clear HBS_
            clear qf0_ qf1_ qf2_ qf3_ qf4_ qf5_
            clear HBQ_
            generalize Go.Sort.grow (redrawn wc dq_) osq_ = w26 at hb ⊢
            generalize wc.drew = wd_ at HO_5 BK263 HB hb
            replace HO_5 := aM (Kd.R_below (aR HO_5) hb)
            replace BK263 := aM (kB gb263 #[.slice A0_0 l0_0.length c0_0, .slice (some ad269) l0_1.length c0_1] 27 hb)
            replace HB := aM (below_step aG hb)
            (try clear hb)
            (try clear hb2)
            (try clear hk)
            (try clear hi)
            try go_wp2_with (first | ((with_reducible refine gate_builtin (b := .append) (xs := #[.tmp 40, .tmp 42]) rfl ?_); (try (refine gate_guard (by rfl) ?_; dsimp only)); at_builtin; refine Kd.R_append (Kd.int .i64) (w0 := w) w.heap.size rfl (.tmp 40) (.tmp 42) 32 3 (.int .i64 0) 8 rfl Try.underlying32 info3 rfl (by decide) (by omega) u5 x5_1 x6_1 [.int .i64 x6_1] (fun _ => True) (fun _ => False) rfl rfl ?aP (fun _ hk => hk.elim) ?aF ?aO ?aB ?aS ?aL ?_; (case aP => exact rfl); (case aB => exact aG); (case aF => exact (fun _ _ => trivial)); (case aO => exact (aR HO_5)); (case aS => exact (below_size aG)); (case aL => have := LMc24.out; omega); intro v273 w27 ho hb hg hat; rw [← Ny272.out] at ho; have HO274 := aM (ho); replace BK263 := aM (blk_grown (g := gb263) (o := .cells #[.slice A0_0 l0_0.length c0_0, .slice (some ad269) l0_1.length c0_1] 27 (0, 0)) aK hg (Kd.R_ne HO_5.out BK263.out (by decide))); replace HB := aM (hb); clear HO_5; clear ho hb hg hat))
            go_roundg kj5
            case measure => have := HK1.out; have := HJ5.out; omega
            case rel => exact ⟨(y272), (wrap64 (x6_1 + 1)), aX, H', ⟨by have := HK1.out; have := HJ5.out; omega⟩, ⟨aR HO274⟩, ⟨aK⟩, ⟨aG⟩⟩
           ·rw [if_neg c24] at H
            exact absurd H (by simp)
          ·replace c23 := Bool.eq_false_iff.mpr c23
           subst c23
           have H1 : (spec_BlockOf.l0 kj5 a1 x5_1 (wrap64 (x6_1 + 1)) l0_0 l0_1) = some r := by rw [if_neg (show ¬ (false = true) by decide)] at H; exact H
           clear H
           have H := H1
           clear H1
           have H' := aM H
           clear H
           try go_wp2
           replace HO_5 := aM (Kd.R_drew HO_5.out)
           replace BK263 := aM (blk_drew BK263.out)
           replace HB := aM (below_drew1 HB.out)
           have p269 : 0 ≤ (a1 : Int) := aD
           have q269 : a1 < (l0_1.length : Int) := aD
           obtain ⟨ad269, A269_1, c269_1, e269, hx269_0, hx269_1, hl269_1, hi269_1⟩ := at_T35 HR0_1.out a1 p269 q269
           have hw269_1 := hx269_1
           have hw269_0 := hx269_0
           cases e269
           replace hx269_0 := (HB.out.cell (World.block_lt_of_cell? w _ hx269_0)).trans hx269_0
           replace hx269_1 := (HB.out.cell (World.block_lt_of_cell? w _ hx269_1)).trans hx269_1
           have HR269_1 := aM hi269_1
           have HC269_1 := aM hl269_1
           clear hi269_1 hl269_1
           replace p269 := eq_true p269
           replace q269 := eq_true q269
           have p270 : 0 ≤ (x6_1 : Int) := aD
           have q270 : x6_1 < (l0_1.length : Int) := aD
           obtain ⟨ad270, A270_1, c270_1, e270, hx270_0, hx270_1, hl270_1, hi270_1⟩ := at_T35 HR0_1.out x6_1 p270 q270
           have hw270_1 := hx270_1
           have hw270_0 := hx270_0
           obtain rfl : ad269 = ad270 := (by injection e270)
           replace hx270_0 := (HB.out.cell (World.block_lt_of_cell? w _ hx270_0)).trans hx270_0
           replace hx270_1 := (HB.out.cell (World.block_lt_of_cell? w _ hx270_1)).trans hx270_1
           have HR270_1 := aM hi270_1
           have HC270_1 := aM hl270_1
           clear hi270_1 hl270_1
           replace p270 := eq_true p270
           replace q270 := eq_true q270
           have qf0_ : ∀ (d_ : Nat) (os_ : Array Obj), (Go.Sort.grow (redrawn wc d_) os_).cell? ⟨gb263, 0, none⟩ = some (.slice A0_0 l0_0.length c0_0) := cell_regrown_drew ((blk_cell BK263.out 0).trans rfl)
           have qf1_ : ∀ (d_ : Nat) (os_ : Array Obj), (Go.Sort.grow (redrawn wc d_) os_).cell? ⟨gb263, 1, none⟩ = some (.slice (some ad269) l0_1.length c0_1) := cell_regrown_drew ((blk_cell BK263.out 1).trans rfl)
           have qf2_ : ∀ (d_ : Nat) (os_ : Array Obj), (Go.Sort.grow (redrawn wc d_) os_).cell? (ad269.add ((a1).toNat * 2)) = some (.int .i64 ((rd_T35 l0_1 a1).f0)) := cell_regrown_drew ((pw_cell_below HB.out hw269_0))
           have qf3_ : ∀ (d_ : Nat) (os_ : Array Obj), (Go.Sort.grow (redrawn wc d_) os_).cell? ⟨(ad269.add ((a1).toNat * 2)).block, (ad269.add ((a1).toNat * 2)).off + 1, none⟩ = some (.slice A269_1 ((rd_T35 l0_1 a1).f1).length c269_1) := cell_regrown_drew ((pw_cell_below HB.out hw269_1))
           have qf4_ : ∀ (d_ : Nat) (os_ : Array Obj), (Go.Sort.grow (redrawn wc d_) os_).cell? (ad269.add ((x6_1).toNat * 2)) = some (.int .i64 ((rd_T35 l0_1 x6_1).f0)) := cell_regrown_drew ((pw_cell_below HB.out hw270_0))
           have qf5_ : ∀ (d_ : Nat) (os_ : Array Obj), (Go.Sort.grow (redrawn wc d_) os_).cell? ⟨(ad269.add ((x6_1).toNat * 2)).block, (ad269.add ((x6_1).toNat * 2)).off + 1, none⟩ = some (.slice A270_1 ((rd_T35 l0_1 x6_1).f1).length c270_1) := cell_regrown_drew ((pw_cell_below HB.out hw270_1))
           have HBQ_ := aM (below_class HB.out)
           have HBS_ := HB
           clear HB
           refine wp_region_quiet_below (by kernel_rfl) (by kernel_rfl) ?_
           repeat (go_big_quiet_step ((refine with_class HBQ_.out ?_; intro hbz_; have HB := aM hbz_; clear hbz_; first | (go_at_call 11; apply Calls.regrown_of; with_reducible refine spec_HaveSameKey.calls kj5 _ _ l0_0 ((rd_T35 l0_1 a1).f0) _ _ ((rd_T35 l0_1 a1).f1) ((rd_T35 l0_1 x6_1).f0) _ _ ((rd_T35 l0_1 x6_1).f1) false _ ?side1 ?side2 ?side3 ?side4 ?side5 ?side6 A22.out; (case side1 => repeat (first | exact (Kd.C_below HR0_0.out HB.out) | exact (Kd.C_below HR269_0.out HB.out) | exact (Kd.C_below HR270_0.out HB.out) | (with_reducible refine pC ?_))); (case side2 => first | exact HC0_0.out | exact HC269_0.out | exact HC270_0.out); (case side3 => repeat (first | exact (Kd.C_below HR269_1.out HB.out) | exact (Kd.C_below HR270_1.out HB.out) | (with_reducible refine pC ?_))); (case side4 => first | exact HC269_1.out | exact HC270_1.out); (case side5 => repeat (first | exact (Kd.C_below HR270_1.out HB.out) | exact (Kd.C_below HR269_1.out HB.out) | (with_reducible refine pC ?_))); (case side6 => first | exact HC270_1.out | exact HC269_1.out)))))
           refine wpQuiet_nil ?_
           intro _ hw_
           obtain ⟨⟨dq_, osq_⟩, hw2_⟩ := hw_
           subst hw2_
           have hb := below_regrown_drew wc dq_ osq_
           have HB := HBS_
           clear HBS_
           clear qf0_ qf1_ qf2_ qf3_ qf4_ qf5_
           clear HBQ_
           generalize Go.Sort.grow (redrawn wc dq_) osq_ = w29 at hb ⊢
           generalize wc.drew = wd_ at HO_5 BK263 HB hb
           replace HO_5 := aM (Kd.R_below (aR HO_5) hb)
           replace BK263 := aM (kB gb263 #[.slice A0_0 l0_0.length c0_0, .slice (some ad269) l0_1.length c0_1] 27 hb)
           replace HB := aM (below_step aG hb)
           (try clear hb)
           (try clear hb2)
           (try clear hk)
           (try clear hi)
           try go_wp2
           go_roundg kj5
           case measure => have := HK1.out; have := HJ5.out; omega
           case rel => exact ⟨(x5_1), (wrap64 (x6_1 + 1)), aX, H', ⟨by have := HK1.out; have := HJ5.out; omega⟩, ⟨aR HO_5⟩, ⟨aK⟩, ⟨aG⟩⟩
         ·rw [if_neg c21] at H
          exact absurd H (by simp)
        ·rw [if_neg c20] at H
         exact absurd H (by simp)
       ·rw [if_neg c19] at H
        exact absurd H (by simp)
      ·rw [if_neg c18] at H
       exact absurd H (by simp)
     ·replace c17 := Bool.eq_false_iff.mpr c17
      subst c17
      have H1 : (some x5_1) = some r := by rw [if_neg (show ¬ (false = true) by decide)] at H; exact H
      clear H
      have H := H1
      clear H1
      obtain rfl := Option.some.inj H
      go_wp2
      go_ret
      exact ⟨_, aE, aR HO_5, aG⟩

/-! ### spec_Blocks: function 65 -/
mutual
def spec_Blocks.l0 : Nat → List (List Int) → Int → List (S70) → List (S35) → Option ((List (List Int)))
 | 0, _, _, _, _ => none
 | k + 1, x3, x4, x276000, x276001 => if x4 < (x276001.length : Int) then ((spec_IsValidDatabase.f k x276000 x276001).bind fun t279 => (spec_Blocks.j1 k x3 x4 t279 x276000 x276001)) else (spec_Blocks.j1 k x3 x4 false x276000 x276001)
def spec_Blocks.j1 : Nat → List (List Int) → Int → Bool → List (S70) → List (S35) → Option ((List (List Int)))
 | 0, _, _, _, _, _ => none
 | k + 1, x3, x4, x15, x276000, x276001 => if x15 = true then ((spec_BlockOf.f k x276000 x276001 x4).bind fun t280 => (if 0 < (t280.length : Int) then (if (rd t280 0) = x4 then (if x3.length < 5864062014805 then (spec_Blocks.l0 k (x3 ++ [t280]) (wrap64 (x4 + 1)) x276000 x276001) else (none)) else (spec_Blocks.l0 k x3 (wrap64 (x4 + 1)) x276000 x276001)) else (none))) else (some x3)
end
def spec_Blocks.f (k : Nat) (l0_0 : List (S70)) (l0_1 : List (S35)) : Option ((List (List Int))) := spec_Blocks.l0 k (([] : List (List Int))) 0 l0_0 l0_1
set_option maxHeartbeats 8000000 in
set_option maxRecDepth 100000 in
theorem spec_Blocks.calls (k : Nat) (A0_0 : Option Addr) (c0_0 : Nat) (l0_0 : List (S70)) (A0_1 : Option Addr) (c0_1 : Nat) (l0_1 : List (S35)) (r : List (List Int)) (w : World) (hr0_0 : Kd.C k70 w A0_0 l0_0.length l0_0) (hc0_0 : l0_0.length ≤ c0_0) (hr0_1 : Kd.C k35 w A0_1 l0_1.length l0_1) (hc0_1 : l0_1.length ≤ c0_1) (h : spec_Blocks.f k l0_0 l0_1 = some r) :
  Calls Try.prog 65 #[.agg #[.slice A0_0 l0_0.length c0_0, .slice A0_1 l0_1.length c0_1]] w fun e w' => ∃ v0_ : Value, e = .returned (v0_) ∧ Kd.S (Kd.slice 3 (Kd.int .i64)) 32 w' w.heap.size (fun _ => True) v0_ r ∧ Below w.heap.size w w' := by
 have hu27 := Try.underlying27
 have HR0_0 := aM hr0_0
 have HC0_0 := aM hc0_0
 clear hr0_0 hc0_0
 have HR0_1 := aM hr0_1
 have HC0_1 := aM hc0_1
 clear hr0_1 hc0_1
 have HB := aM (Below.refl w.heap.size w)
 have H : (spec_Blocks.l0 k (([] : List (List Int))) 0 l0_0 l0_1) = some r := h
 clear h
 obtain ⟨y276, hy276⟩ : ∃ y_ : List (List Int), y_ = (([] : List (List Int))) := ⟨_, rfl⟩
 first | replace H := bY hy276 H | rw [← hy276] at H
 have Ny276 := aM hy276
 clear hy276
 have H' := aM H
 clear H
 go_enter Try.func65, Try.ntmps65
 go_wp2_with (first | ((with_reducible refine gate_dst (N := 1) rfl ?_); refine bE 1 (cs := #[.slice A0_0 l0_0.length c0_0, .slice A0_1 l0_1.length c0_1]) (t := 27) ?_; intro gb275 hg w2 hbox hb; have BK275 := aM (hbox); have GW275 := aM ((by rw [hg]; exact (below_size aB) : w.heap.size ≤ gb275)); have GE275 := aM ((by rw [hg]; exact (below_size aB) : w.heap.size ≤ gb275)); replace HB := aM (below_step aB hb); clear hb hbox hg) | ((with_reducible refine gate_dst (N := 6) rfl ?_); refine Kd.S_lit (Kd.slice 3 (Kd.int .i64)) _ 32 ?hg (N := 6) ?hd (xs := ([] : List (List Int))) (inner := []) (ok := fun _ => True) (okp := fun _ => True) ?hr ?hp (fun _ hk => hk) trivial (Below.refl _ _) (Nat.le_refl _) (by simp) ?_; (case hd => rfl); (case hg => rfl); (case hr => first | (go_simp; done) | (go_simp; rfl)); (case hp => exact (Reps.none _ _)); intro v277 w3 ho4 hb hg_ hnew_; clear hg_ hnew_; (first | rw [← Ny276.out] at ho4 | (simp only [Int.reduceToNat] at ho4; rw [← Ny276.out] at ho4)); have HO278 := aM (Kd.S_lower ho4 (below_size aG)); replace BK275 := aM (kB gb275 #[.slice A0_0 l0_0.length c0_0, .slice A0_1 l0_1.length c0_1] 27 hb); replace HB := aM (below_step aG hb); clear hb ho4))
 go_loopg [3, 4] k (fun kq v3 v4 w' => ∃ (x3_1 : List (List Int)) (x4_1 : Int), v4 = .int .i64 x4_1 ∧ Aside0 (spec_Blocks.l0 kq x3_1 x4_1 l0_0 l0_1 = some r) ∧ Aside0 (kq ≤ k) ∧ Aside0 (Kd.S (Kd.slice 3 (Kd.int .i64)) 32 w' w.heap.size (fun _ => True) v3 x3_1) ∧ Aside0 (w'.heap[gb275]? = some (.cells #[(.slice A0_0 l0_0.length c0_0), (.slice A0_1 l0_1.length c0_1)] 27 (0, 0))) ∧ Aside0 (Below w.heap.size w w'))
 case atStart => exact ⟨(y276), (0), aX, H', ⟨Nat.le_refl _⟩, ⟨aS HO278⟩, ⟨aK⟩, ⟨aG⟩⟩
 case round =>
  clear H'
  try clear p2
  obtain ⟨x3_1, x4_1, rfl, HA, HK1, HO_3, BK275, HB⟩ := hrel
  cases gk with
  | zero => exact absurd HA.out (by simp [spec_Blocks.l0])
  | succ k1 =>
   have H := HA.out
   clear HA
   simp only [spec_Blocks.l0] at H
   have HC5 := aM H
   clear H
   go_upto_region 3 with (fail)
   go_cut [15] (fun v15 wc => ∃ (kq : Nat) (x15_4 : Bool), v15 = .bool x15_4 ∧ Aside0 (spec_Blocks.j1 kq x3_1 x4_1 x15_4 l0_0 l0_1 = some r) ∧ Aside0 (kq ≤ k1) ∧ Aside0 (Kd.S (Kd.slice 3 (Kd.int .i64)) 32 wc w.heap.size (fun _ => True) u3 x3_1) ∧ Aside0 (wc.heap[gb275]? = some (.cells #[(.slice A0_0 l0_0.length c0_0), (.slice A0_1 l0_1.length c0_1)] 27 (0, 0))) ∧ Aside0 (Below w.heap.size w wc))
   case first =>
    have H := HC5.out
    clear HC5
    by_cases c6 : x4_1 < (l0_1.length : Int)
    ·rw [if_pos c6] at H
     have c6b0 : decide (x4_1 < (l0_1.length : Int)) = true := decide_eq_true c6
     clear c6
     (first | rw [c6b0] | (simp only [i64_w, i32_w]; rw [c6b0]) | skip)
     replace H := bM H
     obtain ⟨t279, A70, H⟩ := H
     have A7 := aM A70
     clear A70
     have H' := aM H
     clear H
     have hcz8_0 : wr.cell? ⟨gb275, 0, none⟩ = some (.slice A0_0 l0_0.length c0_0) := (blk_cell BK275.out 0).trans rfl
     have hcz8_1 : wr.cell? ⟨gb275, 1, none⟩ = some (.slice A0_1 l0_1.length c0_1) := (blk_cell BK275.out 1).trans rfl
     have hfz8_0 := blk_frozen BK275.out 0
     have hfz8_1 := blk_frozen BK275.out 1
     go_wp2_with (first | (go_at_call 10; (with_reducible refine (spec_IsValidDatabase.calls k1 _ _ l0_0 _ _ l0_1 t279 _ ?side1 ?side2 ?side3 ?side4 A7.out).mono ?_); (case side1 => exact aC); (case side2 => exact HC0_0.out); (case side3 => exact aC); (case side4 => exact HC0_1.out); rintro e w9 ⟨rfl, hb⟩; replace HO_3 := aM (Kd.S_below (aS HO_3) hb); replace BK275 := aM (kB gb275 #[.slice A0_0 l0_0.length c0_0, .slice A0_1 l0_1.length c0_1] 27 hb); replace HB := aM (below_step aG hb); (try clear hb); (try clear hb2); (try clear hk); (try clear hi)))
     go_meet
     case rel => exact ⟨_, (t279), aX, H', ⟨by have := HK1.out; first | omega | exact Nat.le_refl _⟩, ⟨aS HO_3⟩, ⟨aK⟩, ⟨aG⟩⟩
    ·rw [if_neg c6] at H
     have c6b0 : decide (x4_1 < (l0_1.length : Int)) = false := decide_eq_false c6
     clear c6
     (first | rw [c6b0] | (simp only [i64_w, i32_w]; rw [c6b0]) | skip)
     have H' := aM H
     clear H
     have hcz10_0 : wr.cell? ⟨gb275, 0, none⟩ = some (.slice A0_0 l0_0.length c0_0) := (blk_cell BK275.out 0).trans rfl
     have hcz10_1 : wr.cell? ⟨gb275, 1, none⟩ = some (.slice A0_1 l0_1.length c0_1) := (blk_cell BK275.out 1).trans rfl
     have hfz10_0 := blk_frozen BK275.out 0
     have hfz10_1 := blk_frozen BK275.out 1
     go_wp2
     go_meet
     case rel => exact ⟨_, (false), aX, H', ⟨by have := HK1.out; first | omega | exact Nat.le_refl _⟩, ⟨aS HO_3⟩, ⟨aK⟩, ⟨aG⟩⟩
   case rest =>
    clear HC5
    try clear p2
    try clear c6
    try clear c6b0
    try clear hcz10_0
    try clear hcz10_1
    try clear hcz8_0
    try clear hcz8_1
    try clear hfz10_0
    try clear hfz10_1
    try clear hfz8_0
    try clear hfz8_1
    try clear p2
    obtain ⟨kq, x15_4, rfl, HA, HJ4, HO_3, BK275, HB⟩ := hcut
    cases kq with
    | zero => exact absurd HA.out (by simp [spec_Blocks.j1])
    | succ kj4 =>
     have H := HA.out
     clear HA
     simp only [spec_Blocks.j1] at H
     by_cases c11 : x15_4 = true
     ·subst c11
      replace H := iT H
      replace H := bM H
      obtain ⟨t280, A120, H⟩ := H
      have A12 := aM A120
      clear A120
      by_cases c13 : 0 < (t280.length : Int)
      ·rw [if_pos c13] at H
       have c13b0 : decide (0 < (t280.length : Int)) = true := decide_eq_true c13
       have c13b1 : decide (0 < t280.length) = true := decide_eq_true (by omega)
       clear c13
       by_cases c14 : (rd t280 0) = x4_1
       ·rw [if_pos c14] at H
        have c14b0 : ((rd t280 0) == x4_1) = true := beq_iff_eq.mpr c14
        have c14b1 : ((rd t280 0) != x4_1) = false := bne_eq_false_iff_eq.mpr c14
        clear c14
        by_cases c15 : x3_1.length < 5864062014805
        ·rw [if_pos c15] at H
         have LMc15 := aM c15
         clear c15
         obtain ⟨y284, hy284⟩ : ∃ y_ : List (List Int), y_ = (x3_1 ++ [t280]) := ⟨_, rfl⟩
         first | replace H := bY hy284 H | rw [← hy284] at H
         have Ny284 := aM hy284
         clear hy284
         have H' := aM H
         clear H
         have hcz16_0 : wc.cell? ⟨gb275, 0, none⟩ = some (.slice A0_0 l0_0.length c0_0) := (blk_cell BK275.out 0).trans rfl
         have hcz16_1 : wc.cell? ⟨gb275, 1, none⟩ = some (.slice A0_1 l0_1.length c0_1) := (blk_cell BK275.out 1).trans rfl
         have hfz16_0 := blk_frozen BK275.out 0
         have hfz16_1 := blk_frozen BK275.out 1
         go_wp2_with (first | ((with_reducible refine gate_callee (f := 91) rfl ?_); refine goesL_ (some 20) rfl rfl Try.func91 (by kernel_rfl) rfl #[.agg #[.slice A0_0 l0_0.length c0_0, .slice A0_1 l0_1.length c0_1], .int .i64 x4_1] rfl aA ?_; (with_reducible refine (spec_BlockOf.calls kj4 _ _ l0_0 _ _ l0_1 x4_1 t280 _ ?side1 ?side2 ?side3 ?side4 A12.out).mono ?_); (case side1 => exact aC); (case side2 => exact HC0_0.out); (case side3 => exact aC); (case side4 => exact HC0_1.out); rintro e w17 ⟨v281, rfl, ho0, hb⟩; refine ⟨_, rfl, ?_⟩; have HO282 := aM (Kd.R_lower ho0 (below_size aG)); replace HO_3 := aM (Kd.S_elder' (aS HO_3) (Kd.R_base ho0) hb); replace BK275 := aM (kB gb275 #[.slice A0_0 l0_0.length c0_0, .slice A0_1 l0_1.length c0_1] 27 hb); replace HB := aM (below_step aG hb); (try clear hb); (try clear hb2); (try clear hk); (try clear hi); (try clear ho0); obtain ⟨Ao18, co18, eo18⟩ := Kd.R_slice HO282.out; subst eo18; have p283 : 0 ≤ (0 : Int) := (by omega); have q283 : 0 < (t280.length : Int) := aD; obtain ⟨ad283, e283, hx283_0⟩ := Kd.at_int (Kd.R_reads' HO282.out).2.2 0 p283 q283; cases e283; have qi283 : (0 < t280.length) = True := eq_true (by omega); (try rw [show ((0 : Int)).toNat = 0 from rfl] at hx283_0); (try rw [Addr.add_zero'] at hx283_0); replace p283 := eq_true p283; replace q283 := eq_true q283) | ((with_reducible refine gate_builtin (b := .append) (xs := #[.tmp 26, .tmp 28]) rfl ?_); at_builtin; refine Kd.S_append (Kd.slice 3 (Kd.int .i64)) (w0 := w) w.heap.size rfl (.tmp 26) (.tmp 28) 29 32 (.slice none 0 0) 24 rfl Try.underlying29 info32 rfl (by decide) (by omega) u3 x3_1 t280 [.slice (some ad283) t280.length co18] (fun _ => True) (fun k_ => some k_ = (.slice (some ad283) t280.length co18 : Value).ownBlock) rfl rfl ?aP (fun k_ hk_ => ((Kd.R_mono (ok' := fun k_ => ((fun _ => True)) k_ ∧ some k_ ≠ (u3 : Value).ownBlock) (Kd.R_apart' (HO282.out) (Kd.S_typed HO_3.out) (by decide)) (fun k_ hk => ⟨trivial, hk.2⟩))).1 k_ hk_.symm) ?aF ?aO ?aB ?aS ?aL ?_; (case aP => exact Kd.M_row (Kd.R_mono (Kd.R_tight rfl (Kd.R_mono (ok' := fun k_ => ((fun _ => True)) k_ ∧ some k_ ≠ (u3 : Value).ownBlock) (Kd.R_apart' (HO282.out) (Kd.S_typed HO_3.out) (by decide)) (fun k_ hk => ⟨trivial, hk.2⟩))) (fun _ h_ => h_))); (case aB => exact aG); (case aF => exact (fun _ _ => trivial)); (case aO => exact (by (with_reducible repeat apply pS); exact Kd.S_mono HO_3.out (fun k_ hk => ⟨trivial, fun e_ => hk.2 e_⟩))); (case aS => exact (below_size aG)); (case aL => have := LMc15.out; omega); intro v285 w19 ho hb hg hat; rw [← Ny284.out] at ho; have HO286 := aM (ho); replace BK275 := aM (blk_grown (g := gb275) (o := .cells #[.slice A0_0 l0_0.length c0_0, .slice A0_1 l0_1.length c0_1] 27 (0, 0)) aK hg (Kd.S_ne HO_3.out BK275.out (by decide))); replace HB := aM (hb); clear HO_3 HO282; clear ho hb hg hat))
         go_roundg kj4
         case measure => have := HK1.out; have := HJ4.out; omega
         case rel => exact ⟨(y284), (wrap64 (x4_1 + 1)), aX, H', ⟨by have := HK1.out; have := HJ4.out; omega⟩, ⟨aS HO286⟩, ⟨aK⟩, ⟨aG⟩⟩
        ·rw [if_neg c15] at H
         exact absurd H (by simp)
       ·rw [if_neg c14] at H
        have c14b0 : ((rd t280 0) == x4_1) = false := beq_eq_false_iff_ne.mpr c14
        have c14b1 : ((rd t280 0) != x4_1) = true := bne_iff_ne.mpr c14
        have H' := aM H
        clear H
        have hcz20_0 : wc.cell? ⟨gb275, 0, none⟩ = some (.slice A0_0 l0_0.length c0_0) := (blk_cell BK275.out 0).trans rfl
        have hcz20_1 : wc.cell? ⟨gb275, 1, none⟩ = some (.slice A0_1 l0_1.length c0_1) := (blk_cell BK275.out 1).trans rfl
        have hfz20_0 := blk_frozen BK275.out 0
        have hfz20_1 := blk_frozen BK275.out 1
        go_wp2_with (first | ((with_reducible refine gate_callee (f := 91) rfl ?_); refine goesL_ (some 20) rfl rfl Try.func91 (by kernel_rfl) rfl #[.agg #[.slice A0_0 l0_0.length c0_0, .slice A0_1 l0_1.length c0_1], .int .i64 x4_1] rfl aA ?_; (with_reducible refine (spec_BlockOf.calls kj4 _ _ l0_0 _ _ l0_1 x4_1 t280 _ ?side1 ?side2 ?side3 ?side4 A12.out).mono ?_); (case side1 => exact aC); (case side2 => exact HC0_0.out); (case side3 => exact aC); (case side4 => exact HC0_1.out); rintro e w21 ⟨v281, rfl, ho0, hb⟩; refine ⟨_, rfl, ?_⟩; have HO282 := aM (Kd.R_lower ho0 (below_size aG)); replace HO_3 := aM (Kd.S_elder' (aS HO_3) (Kd.R_base ho0) hb); replace BK275 := aM (kB gb275 #[.slice A0_0 l0_0.length c0_0, .slice A0_1 l0_1.length c0_1] 27 hb); replace HB := aM (below_step aG hb); (try clear hb); (try clear hb2); (try clear hk); (try clear hi); (try clear ho0); obtain ⟨Ao22, co22, eo22⟩ := Kd.R_slice HO282.out; subst eo22; have p283 : 0 ≤ (0 : Int) := (by omega); have q283 : 0 < (t280.length : Int) := aD; obtain ⟨ad283, e283, hx283_0⟩ := Kd.at_int (Kd.R_reads' HO282.out).2.2 0 p283 q283; cases e283; have qi283 : (0 < t280.length) = True := eq_true (by omega); (try rw [show ((0 : Int)).toNat = 0 from rfl] at hx283_0); (try rw [Addr.add_zero'] at hx283_0); replace p283 := eq_true p283; replace q283 := eq_true q283))
        go_roundg kj4
        case measure => have := HK1.out; have := HJ4.out; omega
        case rel => exact ⟨(x3_1), (wrap64 (x4_1 + 1)), aX, H', ⟨by have := HK1.out; have := HJ4.out; omega⟩, ⟨by (with_reducible repeat apply pS); exact Kd.S_mono HO_3.out (fun _ hk => trivial)⟩, ⟨aK⟩, ⟨aG⟩⟩
      ·rw [if_neg c13] at H
       exact absurd H (by simp)
     ·replace c11 := Bool.eq_false_iff.mpr c11
      subst c11
      have H1 : (some x3_1) = some r := by rw [if_neg (show ¬ (false = true) by decide)] at H; exact H
      clear H
      have H := H1
      clear H1
      obtain rfl := Option.some.inj H
      go_wp2
      go_ret
      exact ⟨_, aE, aS HO_3, aG⟩

end Go.Proofs.Ytbdeimhlohhhiaa.PFnRepairEnumeration
