-- Laid by a program of this claim: what the functions come to, some of them proved by hand.
import Derived.Test.YtehlhbidmanbmaaPFnExactExtendToRepairx0
import Derived.Test.YtehlhbidmanbmaaPFnExactExtendToRepairx3
import Derived.Test.YtehlhbidmanbmaaPFnExactExtendToRepairx7
import Derived.Test.YtehlhbidmanbmaaPFnExactExtendToRepairx8
import Derived.Test.YtehlhbidmanbmaaPFnExactExtendToRepairx9
namespace Go.Proofs.Ytehlhbidmanbmaa.PFnExactExtendToRepair
open Go.RowKit Go.Proofs.YtehlhbidmanbmaaW.PrintWords Go.Proofs.YtehlhbidmanbmaaW.PrintLast Go.Proofs.YtehlhbidmanbmaaW.PrintMore
attribute [local go_sem] max2_int min2_int max_two min_two max_three min_three max_four min_four   -- for this text's walks alone
set_option linter.unusedVariables false
set_option linter.unusedSimpArgs false

/-! ### spec_ExtendToRepair: function 46 -/
mutual
def spec_ExtendToRepair.l0 : Nat → List Int → List Int → List (List Int) → Int → Option (List Int × Bool)
 | 0, _, _, _, _ => none
 | k + 1, x1, x6, x7, x8 => if x8 < (x7.length : Int) then (spec_ExtendToRepair.l1 k x1 x6 x7 x8 false 0) else ((spec_l7Sorted.f k x6).bind fun t366 => (some (t366, true)))
def spec_ExtendToRepair.l1 : Nat → List Int → List Int → List (List Int) → Int → Bool → Int → Option (List Int × Bool)
 | 0, _, _, _, _, _, _ => none
 | k + 1, x1, x6, x7, x8, x9, x10 => if 0 ≤ x8 then (if x8 < (x7.length : Int) then (if x10 < ((rd_L3 x7 x8).length : Int) then (if x9 = true then (spec_ExtendToRepair.l1 k x1 x6 x7 x8 true (wrap64 (x10 + 1))) else (if 0 ≤ x10 then ((spec_l7Has.f k x1 (rd (rd_L3 x7 x8) x10)).bind fun t372 => (spec_ExtendToRepair.l1 k x1 x6 x7 x8 t372 (wrap64 (x10 + 1)))) else (none))) else (if x9 = true then (spec_ExtendToRepair.l0 k x1 x6 x7 (wrap64 (x8 + 1))) else (if 0 < ((rd_L3 x7 x8).length : Int) then (if x6.length < 17592186044416 then (spec_ExtendToRepair.l0 k x1 (x6 ++ [rd (rd_L3 x7 x8) 0]) x7 (wrap64 (x8 + 1))) else (none)) else (none)))) else (none)) else (none)
end
def spec_ExtendToRepair.f (k : Nat) (l0_0 : List (S86)) (l0_1 : List (S50)) (l1 : List Int) : Option (List Int × Bool) := (spec_IsPartialRepair.f k l0_0 l0_1 l1).bind fun t353 => (if t353 = true then ((some (([] : List Int) : List Int)).bind fun y357 => (if y357.length + l1.length < 17592186044416 then ((spec_Blocks.f k l0_0 l0_1).bind fun t363 => (spec_ExtendToRepair.l0 k l1 (y357 ++ l1) t363 0)) else (none))) else (some ((([] : List Int)), false)))
set_option maxHeartbeats 8000000 in
set_option maxRecDepth 100000 in
theorem spec_ExtendToRepair.calls (k : Nat) (A0_0 : Option Addr) (c0_0 : Nat) (l0_0 : List (S86)) (A0_1 : Option Addr) (c0_1 : Nat) (l0_1 : List (S50)) (A1 : Option Addr) (c1 : Nat) (l1 : List Int) (r1 : List Int) (r2 : Bool) (w : World) (hr0_0 : Kd.C k86 w A0_0 l0_0.length l0_0) (hc0_0 : l0_0.length ≤ c0_0) (hr0_1 : Kd.C k50 w A0_1 l0_1.length l0_1) (hc0_1 : l0_1.length ≤ c0_1) (hr1 : Kd.C (Kd.int .i64) w A1 l1.length l1) (hc1 : l1.length ≤ c1) (h : spec_ExtendToRepair.f k l0_0 l0_1 l1 = some (r1, r2)) :
  Calls Try.prog 46 #[.agg #[.slice A0_0 l0_0.length c0_0, .slice A0_1 l0_1.length c0_1], .slice A1 l1.length c1] w fun e w' => ∃ v0_ : Value, e = .returned (.tuple #[v0_, .bool r2]) ∧ Kd.R (Kd.int .i64) 3 w' w.heap.size (fun _ => True) v0_ r1 ∧ Below w.heap.size w w' := by
 have hu32 := Try.underlying32
 have HR0_0 := aM hr0_0
 have HC0_0 := aM hc0_0
 clear hr0_0 hc0_0
 have HR0_1 := aM hr0_1
 have HC0_1 := aM hc0_1
 clear hr0_1 hc0_1
 have HR1 := aM hr1
 have HC1 := aM hc1
 clear hr1 hc1
 have HB := aM (Below.refl w.heap.size w)
 have H : ((spec_IsPartialRepair.f k l0_0 l0_1 l1).bind fun t353 => (if t353 = true then ((some (([] : List Int) : List Int)).bind fun y357 => (if y357.length + l1.length < 17592186044416 then ((spec_Blocks.f k l0_0 l0_1).bind fun t363 => (spec_ExtendToRepair.l0 k l1 (y357 ++ l1) t363 0)) else (none))) else (some ((([] : List Int)), false)))) = some (r1, r2) := h
 clear h
 replace H := Option.bind_eq_some_iff.mp H
 obtain ⟨t353, A30, H⟩ := H
 replace H : (if t353 = true then ((some (([] : List Int) : List Int)).bind fun y357 => (if y357.length + l1.length < 17592186044416 then ((spec_Blocks.f k l0_0 l0_1).bind fun t363 => (spec_ExtendToRepair.l0 k l1 (y357 ++ l1) t363 0)) else (none))) else (some ((([] : List Int)), false))) = some (r1, r2) := H
 have A3 := aM A30
 clear A30
 by_cases c4 : t353 = true
 ·subst c4
  have H1 : ((some (([] : List Int) : List Int)).bind fun y357 => (if y357.length + l1.length < 17592186044416 then ((spec_Blocks.f k l0_0 l0_1).bind fun t363 => (spec_ExtendToRepair.l0 k l1 (y357 ++ l1) t363 0)) else (none))) = some (r1, r2) := by rw [if_pos rfl] at H; exact H
  clear H
  have H := H1
  clear H1
  obtain ⟨y357, hy357⟩ : ∃ y_ : List Int, y_ = (([] : List Int)) := ⟨_, rfl⟩
  replace H : (if y357.length + l1.length < 17592186044416 then ((spec_Blocks.f k l0_0 l0_1).bind fun t363 => (spec_ExtendToRepair.l0 k l1 (y357 ++ l1) t363 0)) else (none)) = some (r1, r2) := by first | (rw [hy357]; with_reducible exact H) | (have H2_ := (Option.bind_some _ _).symm.trans H; rw [hy357]; with_reducible exact H2_) | (have H2_ := (Option.bind_some _ _).symm.trans H; with_reducible exact H2_) | with_reducible exact H | (rw [hy357]; exact H) | exact H
  have Ny357 := aM hy357
  clear hy357
  by_cases c5 : y357.length + l1.length < 17592186044416
  ·rw [if_pos c5] at H
   have LMc5 := aM c5
   clear c5
   obtain ⟨y360, hy360⟩ : ∃ y_ : List Int, y_ = (y357 ++ l1) := ⟨_, rfl⟩
   replace H : ((spec_Blocks.f k l0_0 l0_1).bind fun t363 => (spec_ExtendToRepair.l0 k l1 y360 t363 0)) = some (r1, r2) := by first | (rw [hy360]; with_reducible exact H) | (have H2_ := (Option.bind_some _ _).symm.trans H; rw [hy360]; with_reducible exact H2_) | (have H2_ := (Option.bind_some _ _).symm.trans H; with_reducible exact H2_) | with_reducible exact H | (rw [hy360]; exact H) | exact H
   have Ny360 := aM hy360
   clear hy360
   replace H := Option.bind_eq_some_iff.mp H
   obtain ⟨t363, A60, H⟩ := H
   replace H : (spec_ExtendToRepair.l0 k l1 y360 t363 0) = some (r1, r2) := H
   have A6 := aM A60
   clear A60
   have H' := aM H
   clear H
   go_enter Try.func46, Try.ntmps46
   go_wp2_with (first | ((with_reducible refine gate_dst (N := 2) rfl ?_); refine box_event ?hg (N := 2) ?hd (cs := #[.slice A0_0 l0_0.length c0_0, .slice A0_1 l0_1.length c0_1]) (t := 32) ?hr ?_; (case hd => rfl); (case hg => rfl); (case hr => first | (go_simp; done) | (go_simp; rfl)); intro gb352 hg w7 hbox hb; have n0_ := aM (below_step aB hb); have n1_ := aM (hbox); have n2_ := aM ((by rw [hg]; exact (below_size aB) : w.heap.size ≤ gb352)); have n3_ := aM ((by rw [hg]; exact (below_size aB) : w.heap.size ≤ gb352)); clear HB; have HB := n0_; have BK352 := n1_; have GW352 := n2_; have GE352 := n3_; clear n0_ n1_ n2_ n3_; clear hb hbox hg; have hcz8_0 : w7.cell? ⟨gb352, 0, none⟩ = some (.slice A0_0 l0_0.length c0_0) := (blk_cell BK352.out 0).trans rfl; have hcz8_1 : w7.cell? ⟨gb352, 1, none⟩ = some (.slice A0_1 l0_1.length c0_1) := (blk_cell BK352.out 1).trans rfl; have hfz8_0 := blk_frozen BK352.out 0; have hfz8_1 := blk_frozen BK352.out 1) | ((with_reducible refine gate_callee (f := 16) rfl ?_); refine goesL_ (some 13) rfl rfl Try.func16 (by kernel_rfl) rfl #[.agg #[.slice A0_0 l0_0.length c0_0, .slice A0_1 l0_1.length c0_1], .slice A1 l1.length c1] rfl (by (try simp only [List.map_toArray, List.map_cons, List.map_nil]); first | done | rfl | (simp only [List.length_drop, List.length_take]; rfl)) ?_; (with_reducible refine (spec_IsPartialRepair.calls k _ _ l0_0 _ _ l0_1 _ _ l1 true _ ?side1 ?side2 ?side3 ?side4 ?side5 ?side6 A3.out).mono ?_); (case side1 => exact aC); (case side2 => exact HC0_0.out); (case side3 => exact aC); (case side4 => exact HC0_1.out); (case side5 => exact aC); (case side6 => exact HC1.out); rintro e w9 ⟨rfl, hb⟩; refine ⟨_, rfl, ?_⟩; have n0_ := aM (blk_below (g := gb352) (o := .cells #[.slice A0_0 l0_0.length c0_0, .slice A0_1 l0_1.length c0_1] 32 (0, 0)) aK hb); have n1_ := aM (below_step aG hb); clear BK352; clear HB; have BK352 := n0_; have HB := n1_; clear n0_ n1_; (try clear hb); (try clear hb2); (try clear hk); (try clear hi)) | ((with_reducible refine gate_dst (N := 16) rfl ?_); refine Kd.R_lit (Kd.int .i64) _ 3 ?hg (N := 16) ?hd (xs := ([] : List Int)) (inner := []) (ok := fun _ => True) (okp := fun _ => True) ?hr ?hp (fun _ hk => hk) trivial (Below.refl _ _) (Nat.le_refl _) (by simp) ?_; (case hd => rfl); (case hg => rfl); (case hr => first | (go_simp; done) | (go_simp; rfl)); (case hp => exact (Reps.none _ _)); intro v358 w10 ho11 hb hg_ hnew_; clear hg_ hnew_; (first | rw [← Ny357.out] at ho11 | (simp only [Int.reduceToNat] at ho11; rw [← Ny357.out] at ho11)); have n0_ := aM (Kd.R_lower ho11 (below_size aG)); have n1_ := aM (blk_below (g := gb352) (o := .cells #[.slice A0_0 l0_0.length c0_0, .slice A0_1 l0_1.length c0_1] 32 (0, 0)) aK hb); have n2_ := aM (below_step aG hb); clear BK352; clear HB; have HO359 := n0_; have BK352 := n1_; have HB := n2_; clear n0_ n1_ n2_; clear hb ho11) | ((with_reducible refine gate_builtin (b := .append) (xs := #[.tmp 16, .tmp 17]) rfl ?_); at_builtin; refine Kd.R_append_rows (Kd.int .i64) (w0 := w) w.heap.size rfl (.tmp 16) (.tmp 17) 26 3 (.int .i64 0) 8 rfl Try.underlying26 info3 rfl (by decide) (by omega) v358 y357 l1 _ _ _ (fun _ => True) (fun _ => False) rfl rfl ?aO ?aR (fun _ _ h => h) (fun _ h => h.elim) ?aF ?aB ?aS ?aL ?_; (case aR => exact aC); (case aB => exact aG); (case aF => exact (fun _ _ => trivial)); (case aO => exact (aR HO359)); (case aS => exact (below_size aG)); (case aL => have := LMc5.out; omega); intro v361 w12 ho hb hg hat; rw [← Ny360.out] at ho; have n0_ := aM (blk_grown (g := gb352) (o := .cells #[.slice A0_0 l0_0.length c0_0, .slice A0_1 l0_1.length c0_1] 32 (0, 0)) aK hg (Kd.R_ne HO359.out BK352.out (by decide))); have n1_ := aM (hb); have n2_ := aM (ho); clear BK352; clear HB; clear HO359; have BK352 := n0_; have HB := n1_; have HO362 := n2_; clear n0_ n1_ n2_; clear ho hb hg hat; have hcz13_0 : w12.cell? ⟨gb352, 0, none⟩ = some (.slice A0_0 l0_0.length c0_0) := (blk_cell BK352.out 0).trans rfl; have hcz13_1 : w12.cell? ⟨gb352, 1, none⟩ = some (.slice A0_1 l0_1.length c0_1) := (blk_cell BK352.out 1).trans rfl; have hfz13_0 := blk_frozen BK352.out 0; have hfz13_1 := blk_frozen BK352.out 1) | ((with_reducible refine gate_callee (f := 67) rfl ?_); refine goesL_ (some 20) rfl rfl Try.func67 (by kernel_rfl) rfl #[.agg #[.slice A0_0 l0_0.length c0_0, .slice A0_1 l0_1.length c0_1]] rfl (by (try simp only [List.map_toArray, List.map_cons, List.map_nil]); first | done | rfl | (simp only [List.length_drop, List.length_take]; rfl)) ?_; (with_reducible refine (spec_Blocks.calls k _ _ l0_0 _ _ l0_1 t363 _ ?side1 ?side2 ?side3 ?side4 A6.out).mono ?_); (case side1 => exact aC); (case side2 => exact HC0_0.out); (case side3 => exact aC); (case side4 => exact HC0_1.out); rintro e w14 ⟨v364, rfl, ho0, hb⟩; refine ⟨_, rfl, ?_⟩; have n0_ := aM (Kd.R_below (aR HO362) hb); have n1_ := aM (Kd.S_lower (Kd.S_new' ho0 (Kd.R_lt (aR HO362))) (below_size aG)); have n2_ := aM (blk_below (g := gb352) (o := .cells #[.slice A0_0 l0_0.length c0_0, .slice A0_1 l0_1.length c0_1] 32 (0, 0)) aK hb); have n3_ := aM (below_step aG hb); clear HO362; clear BK352; clear HB; have HO362 := n0_; have HO365 := n1_; have BK352 := n2_; have HB := n3_; clear n0_ n1_ n2_ n3_; (try clear hb); (try clear hb2); (try clear hk); (try clear hi); (try clear ho0)))
   go_loopg [6, 8] k (fun kq v6 v8 w' => ∃ (x6_1 : List Int) (x8_1 : Int), v8 = .int .i64 x8_1 ∧ Aside0 (spec_ExtendToRepair.l0 kq l1 x6_1 t363 x8_1 = some (r1, r2)) ∧ Aside0 (kq ≤ k) ∧ Aside0 (Kd.R (Kd.int .i64) 3 w' w.heap.size (fun _ => True) v6 x6_1) ∧ Aside0 (Kd.S (Kd.slice 3 (Kd.int .i64)) 26 w' w.heap.size (fun k_ => some k_ ≠ (v6 : Value).ownBlock) v364 t363) ∧ Aside0 (w'.heap[gb352]? = some (.cells #[(.slice A0_0 l0_0.length c0_0), (.slice A0_1 l0_1.length c0_1)] 32 (0, 0))) ∧ Aside0 (Below w.heap.size w w'))
   case atStart => exact ⟨(y360), (0), (by first | rfl | (simp; done) | (simp [*]; done)), H', ⟨Nat.le_refl _⟩, ⟨aR HO362⟩, ⟨by (with_reducible repeat (first | apply Kd.S_alloc | apply Kd.S_drewN | apply Kd.S_drew)); exact Kd.S_mono HO365.out (fun _ hk => hk.2)⟩, ⟨by (with_reducible repeat (first | refine blk_drewN ?_ _ | refine blk_drew ?_ | refine blk_alloc ?_ _)); exact BK352.out⟩, ⟨by repeat (first | (with_reducible first | exact HB.out | apply below_alloc | apply pw_below_drewN | apply below_drew1 | refine below_set ?_ GE352.out) | exact HB.out)⟩⟩
   case round =>
    clear H'
    try clear c1
    try clear p2
    try clear c4
    try clear c5
    try clear c6
    try clear hcz13_0
    try clear hcz13_1
    try clear hcz8_0
    try clear hcz8_1
    try clear hfz13_0
    try clear hfz13_1
    try clear hfz8_0
    try clear hfz8_1
    obtain ⟨x6_1, x8_1, rfl, HA, HK1, HO_6, HO_7, BK352, HB⟩ := hrel
    cases gk with
    | zero => exact absurd HA.out (by simp [spec_ExtendToRepair.l0])
    | succ k1 =>
     have H := HA.out
     clear HA
     simp only [spec_ExtendToRepair.l0] at H
     by_cases c15 : x8_1 < (t363.length : Int)
     ·rw [if_pos c15] at H
      have c15b0 : decide (x8_1 < (t363.length : Int)) = true := decide_eq_true c15
      clear c15
      have H' := aM H
      clear H
      obtain ⟨Ao16, co16, eo16⟩ := Kd.S_slice HO_7.out
      subst eo16
      go_wp2
      go_loopg [9, 10] k1 (fun kq v9 v10 w' => ∃ (x9_2 : Bool) (x10_2 : Int), v9 = .bool x9_2 ∧ v10 = .int .i64 x10_2 ∧ Aside0 (spec_ExtendToRepair.l1 kq l1 x6_1 t363 x8_1 x9_2 x10_2 = some (r1, r2)) ∧ Aside0 (kq ≤ k1) ∧ Aside0 (Kd.R (Kd.int .i64) 3 w' w.heap.size (fun _ => True) u6 x6_1) ∧ Aside0 (Kd.S (Kd.slice 3 (Kd.int .i64)) 26 w' w.heap.size (fun k_ => some k_ ≠ (u6 : Value).ownBlock) (.slice Ao16 t363.length co16) t363) ∧ Aside0 (w'.heap[gb352]? = some (.cells #[(.slice A0_0 l0_0.length c0_0), (.slice A0_1 l0_1.length c0_1)] 32 (0, 0))) ∧ Aside0 (Below w.heap.size w w'))
      case atStart => exact ⟨(false), (0), (by first | rfl | (simp; done) | (simp [*]; done)), (by first | rfl | (simp; done) | (simp [*]; done)), H', ⟨Nat.le_refl _⟩, ⟨aR HO_6⟩, ⟨aS HO_7⟩, ⟨by (with_reducible repeat (first | refine blk_drewN ?_ _ | refine blk_drew ?_ | refine blk_alloc ?_ _)); exact BK352.out⟩, ⟨by repeat (first | (with_reducible first | exact HB.out | apply below_alloc | apply pw_below_drewN | apply below_drew1 | refine below_set ?_ GE352.out) | exact HB.out)⟩⟩
      case round =>
       clear H'
       try clear c1
       try clear p2
       try clear c4
       try clear c5
       try clear c6
       try clear c15
       try clear c15b0
       try clear c16
       try clear hcz13_0
       try clear hcz13_1
       try clear hcz8_0
       try clear hcz8_1
       try clear hfz13_0
       try clear hfz13_1
       try clear hfz8_0
       try clear hfz8_1
       try clear p2
       obtain ⟨x9_2, x10_2, rfl, rfl, HA, HK2, HO_6, HO_7, BK352, HB⟩ := hrel
       cases gk with
       | zero => exact absurd HA.out (by simp [spec_ExtendToRepair.l1])
       | succ k2 =>
        have H := HA.out
        clear HA
        simp only [spec_ExtendToRepair.l1] at H
        by_cases c17 : 0 ≤ x8_1
        ·rw [if_pos c17] at H
         have c17b0 : decide (0 ≤ x8_1) = true := decide_eq_true c17
         clear c17
         by_cases c18 : x8_1 < (t363.length : Int)
         ·rw [if_pos c18] at H
          have c18b0 : decide (x8_1 < (t363.length : Int)) = true := decide_eq_true c18
          clear c18
          by_cases c19 : x10_2 < ((rd_L3 t363 x8_1).length : Int)
          ·rw [if_pos c19] at H
           have c19b0 : decide (x10_2 < ((rd_L3 t363 x8_1).length : Int)) = true := decide_eq_true c19
           clear c19
           by_cases c20 : x9_2 = true
           ·subst c20
            have H1 : (spec_ExtendToRepair.l1 k2 l1 x6_1 t363 x8_1 true (wrap64 (x10_2 + 1))) = some (r1, r2) := by rw [if_pos rfl] at H; exact H
            clear H
            have H := H1
            clear H1
            have H' := aM H
            clear H
            have p369 : 0 ≤ (x8_1 : Int) := aD
            have q369 : x8_1 < (t363.length : Int) := aD
            obtain ⟨ad369, A369_0, c369_0, e369, hx369_0, hl369_0, hi369_0⟩ := at_L3 (Kd.S_reads' HO_7.out).2.2 x8_1 p369 q369
            cases e369
            obtain ⟨ce369, hce369, hMe369, hcc369⟩ := Kd.S_get HO_7.out [] x8_1 p369 (by first | exact q369 | exact aD | (have e_ := (Kd.S_reads' HO_7.out).1; omega))
            obtain ⟨ve369_0, rfl, ge369_0⟩ := hMe369
            have hv369_0 := hcc369 0 _ rfl
            rw [Nat.add_zero, show ((Kd.slice 3 (Kd.int .i64))).sz = 1 from rfl, Nat.mul_one] at hv369_0
            replace hv369_0 := Option.some.inj (hv369_0.symm.trans hx369_0)
            rw [hv369_0] at ge369_0
            have HL369_0 := aM (show Kd.R (Kd.int .i64) 3 _ _ _ _ (rd_L3 t363 x8_1) from ge369_0)
            clear hv369_0 ge369_0
            clear hcc369 hce369
            have HR369_0 := aM hi369_0
            have HC369_0 := aM hl369_0
            clear hi369_0 hl369_0
            replace p369 := eq_true p369
            replace q369 := eq_true q369
            go_wp2
            go_roundg k2
            case measure => have := HK1.out; have := HK2.out; omega
            case rel => exact ⟨(true), (wrap64 (x10_2 + 1)), (by first | rfl | (simp; done) | (simp [*]; done)), (by first | rfl | (simp; done) | (simp [*]; done)), H', ⟨by have := HK1.out; have := HK2.out; omega⟩, ⟨aR HO_6⟩, ⟨aS HO_7⟩, ⟨by (with_reducible repeat (first | refine blk_drewN ?_ _ | refine blk_drew ?_ | refine blk_alloc ?_ _)); exact BK352.out⟩, ⟨by repeat (first | (with_reducible first | exact HB.out | apply below_alloc | apply pw_below_drewN | apply below_drew1 | refine below_set ?_ GE352.out) | exact HB.out)⟩⟩
           ·replace c20 := Bool.eq_false_iff.mpr c20
            subst c20
            have H1 : (if 0 ≤ x10_2 then ((spec_l7Has.f k2 l1 (rd (rd_L3 t363 x8_1) x10_2)).bind fun t372 => (spec_ExtendToRepair.l1 k2 l1 x6_1 t363 x8_1 t372 (wrap64 (x10_2 + 1)))) else (none)) = some (r1, r2) := by rw [if_neg (show ¬ (false = true) by decide)] at H; exact H
            clear H
            have H := H1
            clear H1
            by_cases c21 : 0 ≤ x10_2
            ·rw [if_pos c21] at H
             have c21b0 : decide (0 ≤ x10_2) = true := decide_eq_true c21
             clear c21
             replace H := Option.bind_eq_some_iff.mp H
             obtain ⟨t372, A220, H⟩ := H
             replace H : (spec_ExtendToRepair.l1 k2 l1 x6_1 t363 x8_1 t372 (wrap64 (x10_2 + 1))) = some (r1, r2) := H
             have A22 := aM A220
             clear A220
             have H' := aM H
             clear H
             have p369 : 0 ≤ (x8_1 : Int) := aD
             have q369 : x8_1 < (t363.length : Int) := aD
             obtain ⟨ad369, A369_0, c369_0, e369, hx369_0, hl369_0, hi369_0⟩ := at_L3 (Kd.S_reads' HO_7.out).2.2 x8_1 p369 q369
             cases e369
             obtain ⟨ce369, hce369, hMe369, hcc369⟩ := Kd.S_get HO_7.out [] x8_1 p369 (by first | exact q369 | exact aD | (have e_ := (Kd.S_reads' HO_7.out).1; omega))
             obtain ⟨ve369_0, rfl, ge369_0⟩ := hMe369
             have hv369_0 := hcc369 0 _ rfl
             rw [Nat.add_zero, show ((Kd.slice 3 (Kd.int .i64))).sz = 1 from rfl, Nat.mul_one] at hv369_0
             replace hv369_0 := Option.some.inj (hv369_0.symm.trans hx369_0)
             rw [hv369_0] at ge369_0
             have HL369_0 := aM (show Kd.R (Kd.int .i64) 3 _ _ _ _ (rd_L3 t363 x8_1) from ge369_0)
             clear hv369_0 ge369_0
             clear hcc369 hce369
             have HR369_0 := aM hi369_0
             have HC369_0 := aM hl369_0
             clear hi369_0 hl369_0
             replace p369 := eq_true p369
             replace q369 := eq_true q369
             have p370 : 0 ≤ (x8_1 : Int) := aD
             have q370 : x8_1 < (t363.length : Int) := aD
             obtain ⟨ad370, A370_0, c370_0, e370, hx370_0, hl370_0, hi370_0⟩ := at_L3 (Kd.S_reads' HO_7.out).2.2 x8_1 p370 q370
             obtain rfl : ad369 = ad370 := (by injection e370)
             obtain ⟨ce370, hce370, hMe370, hcc370⟩ := Kd.S_get HO_7.out [] x8_1 p370 (by first | exact q370 | exact aD | (have e_ := (Kd.S_reads' HO_7.out).1; omega))
             obtain ⟨ve370_0, rfl, ge370_0⟩ := hMe370
             have hv370_0 := hcc370 0 _ rfl
             rw [Nat.add_zero, show ((Kd.slice 3 (Kd.int .i64))).sz = 1 from rfl, Nat.mul_one] at hv370_0
             replace hv370_0 := Option.some.inj (hv370_0.symm.trans hx370_0)
             rw [hv370_0] at ge370_0
             have HL370_0 := aM (show Kd.R (Kd.int .i64) 3 _ _ _ _ (rd_L3 t363 x8_1) from ge370_0)
             clear hv370_0 ge370_0
             clear hcc370 hce370
             have HR370_0 := aM hi370_0
             have HC370_0 := aM hl370_0
             clear hi370_0 hl370_0
             replace p370 := eq_true p370
             replace q370 := eq_true q370
             have ea_ := Option.some.inj (hx369_0.symm.trans hx370_0)
             injection ea_ with ea_ en_ ec_
             subst ea_
             subst ec_
             clear en_
             have p371 : 0 ≤ (x10_2 : Int) := aD
             have q371 : x10_2 < ((rd_L3 t363 x8_1).length : Int) := aD
             obtain ⟨ad371, e371, hx371_0⟩ := Kd.at_int (by repeat (first | (with_reducible exact HR370_0.out) | (with_reducible refine Kd.C_alloc ?_ _) | (with_reducible refine Kd.C_drewN ?_ _) | (with_reducible refine Kd.C_drew ?_) | exact HR370_0.out)) x10_2 p371 q371
             cases e371
             replace p371 := eq_true p371
             replace q371 := eq_true q371
             go_wp2_with (first | (go_at_call 81; (with_reducible refine (spec_l7Has.calls k2 _ _ l1 (rd (rd_L3 t363 x8_1) x10_2) t372 _ ?side1 ?side2 A22.out).mono ?_); (case side1 => exact aC); (case side2 => exact HC1.out); rintro e w' ⟨rfl, ⟨nd, rfl⟩⟩))
             go_roundg k2
             case measure => have := HK1.out; have := HK2.out; omega
             case rel => exact ⟨(t372), (wrap64 (x10_2 + 1)), (by first | rfl | (simp; done) | (simp [*]; done)), (by first | rfl | (simp; done) | (simp [*]; done)), H', ⟨by have := HK1.out; have := HK2.out; omega⟩, ⟨aR HO_6⟩, ⟨aS HO_7⟩, ⟨by (with_reducible repeat (first | refine blk_drewN ?_ _ | refine blk_drew ?_ | refine blk_alloc ?_ _)); exact BK352.out⟩, ⟨by repeat (first | (with_reducible first | exact HB.out | apply below_alloc | apply pw_below_drewN | apply below_drew1 | refine below_set ?_ GE352.out) | exact HB.out)⟩⟩
            ·rw [if_neg c21] at H
             exact absurd H (by simp)
          ·rw [if_neg c19] at H
           have c19b0 : decide (x10_2 < ((rd_L3 t363 x8_1).length : Int)) = false := decide_eq_false c19
           clear c19
           by_cases c23 : x9_2 = true
           ·subst c23
            have H1 : (spec_ExtendToRepair.l0 k2 l1 x6_1 t363 (wrap64 (x8_1 + 1))) = some (r1, r2) := by rw [if_pos rfl] at H; exact H
            clear H
            have H := H1
            clear H1
            have H' := aM H
            clear H
            have p369 : 0 ≤ (x8_1 : Int) := aD
            have q369 : x8_1 < (t363.length : Int) := aD
            obtain ⟨ad369, A369_0, c369_0, e369, hx369_0, hl369_0, hi369_0⟩ := at_L3 (Kd.S_reads' HO_7.out).2.2 x8_1 p369 q369
            cases e369
            obtain ⟨ce369, hce369, hMe369, hcc369⟩ := Kd.S_get HO_7.out [] x8_1 p369 (by first | exact q369 | exact aD | (have e_ := (Kd.S_reads' HO_7.out).1; omega))
            obtain ⟨ve369_0, rfl, ge369_0⟩ := hMe369
            have hv369_0 := hcc369 0 _ rfl
            rw [Nat.add_zero, show ((Kd.slice 3 (Kd.int .i64))).sz = 1 from rfl, Nat.mul_one] at hv369_0
            replace hv369_0 := Option.some.inj (hv369_0.symm.trans hx369_0)
            rw [hv369_0] at ge369_0
            have HL369_0 := aM (show Kd.R (Kd.int .i64) 3 _ _ _ _ (rd_L3 t363 x8_1) from ge369_0)
            clear hv369_0 ge369_0
            clear hcc369 hce369
            have HR369_0 := aM hi369_0
            have HC369_0 := aM hl369_0
            clear hi369_0 hl369_0
            replace p369 := eq_true p369
            replace q369 := eq_true q369
            go_wp2
            go_roundg k2
            case measure => have := HK1.out; have := HK2.out; omega
            case rel => exact ⟨(x6_1), (wrap64 (x8_1 + 1)), (by first | rfl | (simp; done) | (simp [*]; done)), H', ⟨by have := HK1.out; have := HK2.out; omega⟩, ⟨aR HO_6⟩, ⟨aS HO_7⟩, ⟨by (with_reducible repeat (first | refine blk_drewN ?_ _ | refine blk_drew ?_ | refine blk_alloc ?_ _)); exact BK352.out⟩, ⟨by repeat (first | (with_reducible first | exact HB.out | apply below_alloc | apply pw_below_drewN | apply below_drew1 | refine below_set ?_ GE352.out) | exact HB.out)⟩⟩
           ·replace c23 := Bool.eq_false_iff.mpr c23
            subst c23
            have H1 : (if 0 < ((rd_L3 t363 x8_1).length : Int) then (if x6_1.length < 17592186044416 then (spec_ExtendToRepair.l0 k2 l1 (x6_1 ++ [rd (rd_L3 t363 x8_1) 0]) t363 (wrap64 (x8_1 + 1))) else (none)) else (none)) = some (r1, r2) := by rw [if_neg (show ¬ (false = true) by decide)] at H; exact H
            clear H
            have H := H1
            clear H1
            by_cases c24 : 0 < ((rd_L3 t363 x8_1).length : Int)
            ·rw [if_pos c24] at H
             have c24b0 : decide (0 < ((rd_L3 t363 x8_1).length : Int)) = true := decide_eq_true c24
             have c24b1 : decide (0 < (rd_L3 t363 x8_1).length) = true := decide_eq_true (by omega)
             clear c24
             by_cases c25 : x6_1.length < 17592186044416
             ·rw [if_pos c25] at H
              have LMc25 := aM c25
              clear c25
              obtain ⟨y375, hy375⟩ : ∃ y_ : List Int, y_ = (x6_1 ++ [rd (rd_L3 t363 x8_1) 0]) := ⟨_, rfl⟩
              replace H : (spec_ExtendToRepair.l0 k2 l1 y375 t363 (wrap64 (x8_1 + 1))) = some (r1, r2) := by first | (rw [hy375]; with_reducible exact H) | (have H2_ := (Option.bind_some _ _).symm.trans H; rw [hy375]; with_reducible exact H2_) | (have H2_ := (Option.bind_some _ _).symm.trans H; with_reducible exact H2_) | with_reducible exact H | (rw [hy375]; exact H) | exact H
              have Ny375 := aM hy375
              clear hy375
              have H' := aM H
              clear H
              have p369 : 0 ≤ (x8_1 : Int) := aD
              have q369 : x8_1 < (t363.length : Int) := aD
              obtain ⟨ad369, A369_0, c369_0, e369, hx369_0, hl369_0, hi369_0⟩ := at_L3 (Kd.S_reads' HO_7.out).2.2 x8_1 p369 q369
              cases e369
              obtain ⟨ce369, hce369, hMe369, hcc369⟩ := Kd.S_get HO_7.out [] x8_1 p369 (by first | exact q369 | exact aD | (have e_ := (Kd.S_reads' HO_7.out).1; omega))
              obtain ⟨ve369_0, rfl, ge369_0⟩ := hMe369
              have hv369_0 := hcc369 0 _ rfl
              rw [Nat.add_zero, show ((Kd.slice 3 (Kd.int .i64))).sz = 1 from rfl, Nat.mul_one] at hv369_0
              replace hv369_0 := Option.some.inj (hv369_0.symm.trans hx369_0)
              rw [hv369_0] at ge369_0
              have HL369_0 := aM (show Kd.R (Kd.int .i64) 3 _ _ _ _ (rd_L3 t363 x8_1) from ge369_0)
              clear hv369_0 ge369_0
              clear hcc369 hce369
              have HR369_0 := aM hi369_0
              have HC369_0 := aM hl369_0
              clear hi369_0 hl369_0
              replace p369 := eq_true p369
              replace q369 := eq_true q369
              have p373 : 0 ≤ (x8_1 : Int) := aD
              have q373 : x8_1 < (t363.length : Int) := aD
              obtain ⟨ad373, A373_0, c373_0, e373, hx373_0, hl373_0, hi373_0⟩ := at_L3 (Kd.S_reads' HO_7.out).2.2 x8_1 p373 q373
              obtain rfl : ad369 = ad373 := (by injection e373)
              obtain ⟨ce373, hce373, hMe373, hcc373⟩ := Kd.S_get HO_7.out [] x8_1 p373 (by first | exact q373 | exact aD | (have e_ := (Kd.S_reads' HO_7.out).1; omega))
              obtain ⟨ve373_0, rfl, ge373_0⟩ := hMe373
              have hv373_0 := hcc373 0 _ rfl
              rw [Nat.add_zero, show ((Kd.slice 3 (Kd.int .i64))).sz = 1 from rfl, Nat.mul_one] at hv373_0
              replace hv373_0 := Option.some.inj (hv373_0.symm.trans hx373_0)
              rw [hv373_0] at ge373_0
              have HL373_0 := aM (show Kd.R (Kd.int .i64) 3 _ _ _ _ (rd_L3 t363 x8_1) from ge373_0)
              clear hv373_0 ge373_0
              clear hcc373 hce373
              have HR373_0 := aM hi373_0
              have HC373_0 := aM hl373_0
              clear hi373_0 hl373_0
              replace p373 := eq_true p373
              replace q373 := eq_true q373
              have ea_ := Option.some.inj (hx369_0.symm.trans hx373_0)
              injection ea_ with ea_ en_ ec_
              subst ea_
              subst ec_
              clear en_
              have p374 : 0 ≤ (0 : Int) := (by omega)
              have q374 : 0 < ((rd_L3 t363 x8_1).length : Int) := aD
              obtain ⟨ad374, e374, hx374_0⟩ := Kd.at_int (by repeat (first | (with_reducible exact HR373_0.out) | (with_reducible refine Kd.C_alloc ?_ _) | (with_reducible refine Kd.C_drewN ?_ _) | (with_reducible refine Kd.C_drew ?_) | exact HR373_0.out)) 0 p374 q374
              cases e374
              have qi374 : (0 < (rd_L3 t363 x8_1).length) = True := eq_true (by omega)
              (try rw [show ((0 : Int)).toNat = 0 from rfl] at hx374_0)
              (try rw [Addr.add_zero'] at hx374_0)
              replace p374 := eq_true p374
              replace q374 := eq_true q374
              go_wp2_with (first | ((with_reducible refine gate_builtin (b := .append) (xs := #[.tmp 50, .tmp 57]) rfl ?_); at_builtin; refine Kd.R_append (Kd.int .i64) (w0 := w) w.heap.size rfl (.tmp 50) (.tmp 57) 26 3 (.int .i64 0) 8 rfl Try.underlying26 info3 rfl (by decide) (by omega) u6 x6_1 (rd (rd_L3 t363 x8_1) 0) [.int .i64 (rd (rd_L3 t363 x8_1) 0)] (fun _ => True) (fun _ => False) rfl rfl ?aP (fun _ hk => hk.elim) ?aF ?aO ?aB ?aS ?aL ?_; (case aP => exact rfl); (case aB => exact aG); (case aF => exact (fun _ _ => trivial)); (case aO => exact (aR HO_6)); (case aS => exact (below_size aG)); (case aL => have := LMc25.out; omega); intro v376 w26 ho hb hg hat; rw [← Ny375.out] at ho; have n0_ := aM (Kd.S_after (ok := (fun _ => True)) (by (with_reducible repeat (first | apply Kd.S_alloc | apply Kd.S_drewN | apply Kd.S_drew)); exact Kd.S_mono HO_7.out (fun _ hk => ⟨trivial, hk⟩)) hg hat); have n1_ := aM (blk_grown (g := gb352) (o := .cells #[.slice A0_0 l0_0.length c0_0, .slice A0_1 l0_1.length c0_1] 32 (0, 0)) aK hg (Kd.R_ne HO_6.out BK352.out (by decide))); have n2_ := aM (Kd.R_after (ok := (fun k_ => some k_ ≠ (.slice (some ad369) t363.length co16 : Value).ownBlock)) (by (with_reducible repeat (first | apply Kd.R_alloc | apply Kd.R_drewN | apply Kd.R_drew)); exact Kd.R_mono HL369_0.out (fun _ hk => ⟨hk.2, hk.1⟩)) hg hat); have n3_ := aM (Kd.R_after (ok := (fun k_ => some k_ ≠ (.slice (some ad369) t363.length co16 : Value).ownBlock)) (by (with_reducible repeat (first | apply Kd.R_alloc | apply Kd.R_drewN | apply Kd.R_drew)); exact Kd.R_mono HL373_0.out (fun _ hk => ⟨hk.2, hk.1⟩)) hg hat); have n4_ := aM (hb); have n5_ := aM (ho); clear HO_7; clear BK352; clear HL369_0; clear HL373_0; clear HB; clear HO_6; have HO_7 := n0_; have BK352 := n1_; have HL369_0 := n2_; have HL373_0 := n3_; have HB := n4_; have HO377 := n5_; clear n0_ n1_ n2_ n3_ n4_ n5_; clear ho hb hg hat))
              go_roundg k2
              case measure => have := HK1.out; have := HK2.out; omega
              case rel => exact ⟨(y375), (wrap64 (x8_1 + 1)), (by first | rfl | (simp; done) | (simp [*]; done)), H', ⟨by have := HK1.out; have := HK2.out; omega⟩, ⟨aR HO377⟩, ⟨by (with_reducible repeat (first | apply Kd.S_alloc | apply Kd.S_drewN | apply Kd.S_drew)); exact Kd.S_mono HO_7.out (fun _ hk => hk.2)⟩, ⟨by (with_reducible repeat (first | refine blk_drewN ?_ _ | refine blk_drew ?_ | refine blk_alloc ?_ _)); exact BK352.out⟩, ⟨by repeat (first | (with_reducible first | exact HB.out | apply below_alloc | apply pw_below_drewN | apply below_drew1 | refine below_set ?_ GE352.out) | exact HB.out)⟩⟩
             ·rw [if_neg c25] at H
              exact absurd H (by simp)
            ·rw [if_neg c24] at H
             exact absurd H (by simp)
         ·rw [if_neg c18] at H
          exact absurd H (by simp)
        ·rw [if_neg c17] at H
         exact absurd H (by simp)
     ·rw [if_neg c15] at H
      have c15b0 : decide (x8_1 < (t363.length : Int)) = false := decide_eq_false c15
      clear c15
      replace H := Option.bind_eq_some_iff.mp H
      obtain ⟨t366, A270, H⟩ := H
      replace H : (some (t366, true)) = some (r1, r2) := H
      have A27 := aM A270
      clear A270
      simp only [Option.some.injEq, Prod.mk.injEq] at H
      obtain ⟨rfl, rfl⟩ := H
      obtain ⟨Ao28, co28, eo28⟩ := Kd.S_slice HO_7.out
      subst eo28
      obtain ⟨Ao29, co29, eo29⟩ := Kd.R_slice HO_6.out
      subst eo29
      go_wp2_with (first | ((with_reducible refine gate_callee (f := 85) rfl ?_); refine goesL_ (some 60) rfl rfl Try.func85 (by kernel_rfl) rfl #[.slice Ao29 x6_1.length co29] rfl (by (try simp only [List.map_toArray, List.map_cons, List.map_nil]); first | done | rfl | (simp only [List.length_drop, List.length_take]; rfl)) ?_; (with_reducible refine (spec_l7Sorted.calls k1 _ _ x6_1 t366 _ ?side1 ?side2 A27.out).mono ?_); (case side1 => repeat (first | exact (Kd.R_reads' HO_6.out).2.2 | (with_reducible refine Kd.C_alloc ?_ _) | (with_reducible refine Kd.C_drewN ?_ _) | (with_reducible refine Kd.C_drew ?_))); (case side2 => exact (Kd.R_reads' HO_6.out).2.1); rintro e w30 ⟨v367, rfl, ho0, hb⟩; refine ⟨_, rfl, ?_⟩; have n0_ := aM (Kd.R_elder' (aR HO_6) (Kd.R_base ho0) hb); have n1_ := aM (Kd.S_elder' (aS HO_7) (Kd.R_base ho0) hb); have n2_ := aM (Kd.R_lower (Kd.R_new' ho0 (Kd.R_lt (aR HO_6))) (below_size aG)); have n3_ := aM (blk_below (g := gb352) (o := .cells #[.slice A0_0 l0_0.length c0_0, .slice A0_1 l0_1.length c0_1] 32 (0, 0)) aK hb); have n4_ := aM (below_step aG hb); clear HO_6; clear HO_7; clear BK352; clear HB; have HO_6 := n0_; have HO_7 := n1_; have HO368 := n2_; have BK352 := n3_; have HB := n4_; clear n0_ n1_ n2_ n3_ n4_; (try clear hb); (try clear hb2); (try clear hk); (try clear hi); (try clear ho0)))
      go_ret2
      exact ⟨_, by first | rfl | (simp [errW_none, errW_some] <;> rfl) | (simp [*, errW_none, errW_some] <;> rfl), by (with_reducible repeat (first | apply Kd.R_alloc | apply Kd.R_drewN | apply Kd.R_drew)); exact Kd.R_mono HO368.out (fun _ hk => trivial), by repeat (first | (with_reducible first | exact HB.out | apply below_alloc | apply pw_below_drewN | apply below_drew1 | refine below_set ?_ GE352.out) | exact HB.out)⟩
  ·rw [if_neg c5] at H
   exact absurd H (by simp)
 ·replace c4 := Bool.eq_false_iff.mpr c4
  subst c4
  have H1 : (some ((([] : List Int)), false)) = some (r1, r2) := by rw [if_neg (show ¬ (false = true) by decide)] at H; exact H
  clear H
  have H := H1
  clear H1
  obtain ⟨y354, hy354⟩ : ∃ y_ : List Int, y_ = (([] : List Int)) := ⟨_, rfl⟩
  replace H : (some (y354, false)) = some (r1, r2) := by first | (rw [hy354]; with_reducible exact H) | (have H2_ := (Option.bind_some _ _).symm.trans H; rw [hy354]; with_reducible exact H2_) | (have H2_ := (Option.bind_some _ _).symm.trans H; with_reducible exact H2_) | with_reducible exact H | (rw [hy354]; exact H) | exact H
  have Ny354 := aM hy354
  clear hy354
  simp only [Option.some.injEq, Prod.mk.injEq] at H
  obtain ⟨rfl, rfl⟩ := H
  go_enter Try.func46, Try.ntmps46
  go_wp2_with (first | ((with_reducible refine gate_dst (N := 2) rfl ?_); refine box_event ?hg (N := 2) ?hd (cs := #[.slice A0_0 l0_0.length c0_0, .slice A0_1 l0_1.length c0_1]) (t := 32) ?hr ?_; (case hd => rfl); (case hg => rfl); (case hr => first | (go_simp; done) | (go_simp; rfl)); intro gb352 hg w31 hbox hb; have n0_ := aM (below_step aB hb); have n1_ := aM (hbox); have n2_ := aM ((by rw [hg]; exact (below_size aB) : w.heap.size ≤ gb352)); have n3_ := aM ((by rw [hg]; exact (below_size aB) : w.heap.size ≤ gb352)); clear HB; have HB := n0_; have BK352 := n1_; have GW352 := n2_; have GE352 := n3_; clear n0_ n1_ n2_ n3_; clear hb hbox hg; have hcz32_0 : w31.cell? ⟨gb352, 0, none⟩ = some (.slice A0_0 l0_0.length c0_0) := (blk_cell BK352.out 0).trans rfl; have hcz32_1 : w31.cell? ⟨gb352, 1, none⟩ = some (.slice A0_1 l0_1.length c0_1) := (blk_cell BK352.out 1).trans rfl; have hfz32_0 := blk_frozen BK352.out 0; have hfz32_1 := blk_frozen BK352.out 1) | ((with_reducible refine gate_callee (f := 16) rfl ?_); refine goesL_ (some 13) rfl rfl Try.func16 (by kernel_rfl) rfl #[.agg #[.slice A0_0 l0_0.length c0_0, .slice A0_1 l0_1.length c0_1], .slice A1 l1.length c1] rfl (by (try simp only [List.map_toArray, List.map_cons, List.map_nil]); first | done | rfl | (simp only [List.length_drop, List.length_take]; rfl)) ?_; (with_reducible refine (spec_IsPartialRepair.calls k _ _ l0_0 _ _ l0_1 _ _ l1 false _ ?side1 ?side2 ?side3 ?side4 ?side5 ?side6 A3.out).mono ?_); (case side1 => exact aC); (case side2 => exact HC0_0.out); (case side3 => exact aC); (case side4 => exact HC0_1.out); (case side5 => exact aC); (case side6 => exact HC1.out); rintro e w33 ⟨rfl, hb⟩; refine ⟨_, rfl, ?_⟩; have n0_ := aM (blk_below (g := gb352) (o := .cells #[.slice A0_0 l0_0.length c0_0, .slice A0_1 l0_1.length c0_1] 32 (0, 0)) aK hb); have n1_ := aM (below_step aG hb); clear BK352; clear HB; have BK352 := n0_; have HB := n1_; clear n0_ n1_; (try clear hb); (try clear hb2); (try clear hk); (try clear hi)) | ((with_reducible refine gate_dst (N := 15) rfl ?_); refine Kd.R_lit (Kd.int .i64) _ 3 ?hg (N := 15) ?hd (xs := ([] : List Int)) (inner := []) (ok := fun _ => True) (okp := fun _ => True) ?hr ?hp (fun _ hk => hk) trivial (Below.refl _ _) (Nat.le_refl _) (by simp) ?_; (case hd => rfl); (case hg => rfl); (case hr => first | (go_simp; done) | (go_simp; rfl)); (case hp => exact (Reps.none _ _)); intro v355 w34 ho35 hb hg_ hnew_; clear hg_ hnew_; (first | rw [← Ny354.out] at ho35 | (simp only [Int.reduceToNat] at ho35; rw [← Ny354.out] at ho35)); have n0_ := aM (Kd.R_lower ho35 (below_size aG)); have n1_ := aM (blk_below (g := gb352) (o := .cells #[.slice A0_0 l0_0.length c0_0, .slice A0_1 l0_1.length c0_1] 32 (0, 0)) aK hb); have n2_ := aM (below_step aG hb); clear BK352; clear HB; have HO356 := n0_; have BK352 := n1_; have HB := n2_; clear n0_ n1_ n2_; clear hb ho35))
  go_ret2
  exact ⟨_, by first | rfl | (simp [errW_none, errW_some] <;> rfl) | (simp [*, errW_none, errW_some] <;> rfl), aR HO356, by repeat (first | (with_reducible first | exact HB.out | apply below_alloc | apply pw_below_drewN | apply below_drew1 | refine below_set ?_ GE352.out) | exact HB.out)⟩

-- NOT PRINTED: function 118 (slices_IndexFunc_int_int)

-- NOT PRINTED: function 114 (slices_ContainsFunc_int_int)

/-! ### impl_areValues: function 106 -/
/-- No value: what the literal in areValues asks. -/
def noVal (v : Int) : Bool := !(decide (0 ≤ v) && decide (v ≤ 9))
set_option maxHeartbeats 8000000 in
theorem noVal_calls (v : Int) (w : World) : Calls Try.prog 115 #[.int .i64 v] w fun e w' => e = .returned (.bool (noVal v)) ∧ Below w.heap.size w w' := by
 have hw : ∃ b, impl_within.f v 0 9 = some b ∧ b = (decide (0 ≤ v) && decide (v ≤ 9)) := by
  unfold impl_within.f
  by_cases h : 0 ≤ v
  ·exact ⟨_, if_pos h, by simp [h]⟩
  ·exact ⟨_, if_neg h, by simp [h]⟩
 obtain ⟨b, hb, hv⟩ := hw
 have HB := aM hb
 have HV := aM hv
 clear hb hv
 go_enter Try.func115, Try.ntmps115
 go_wp2_with (go_at_call 86; refine (impl_within.calls v 0 9 b _ HB.out).mono ?_; rintro e w' ⟨rfl, ⟨nd, rfl⟩⟩)
 go_ret
 refine ⟨?_, pw_below_drewN (Below.refl _ _) _⟩
 unfold noVal
 rw [← HV.out]
 rfl
/-- The place of the first number of which p holds, counted from i on; -1 if there is none. -/
def idxI (p : Int → Bool) : List Int → Int → Int
 | [], _ => -1
 | x :: xs, i => if p x = true then i else idxI p xs (i + 1)
theorem idxI_hit (p : Int → Bool) : ∀ (l : List Int) (k : Nat) (i : Int), k < l.length → (∀ j, j < k → p (l.getD j 0) = false) → p (l.getD k 0) = true → idxI p l i = i + k
 | [], k, _, h, _, _ => absurd h (Nat.not_lt_zero _)
 | x :: xs, 0, i, _, _, h => by
  have h' : p x = true := h
  simp [idxI, h']
 | x :: xs, k + 1, i, hk, ha, h => by
  have h0 : p x = false := ha 0 (by omega)
  have := idxI_hit p xs k (i + 1) (by simpa using hk) (fun j hj => by simpa using ha (j + 1) (by omega)) (by simpa using h)
  simp only [idxI, h0, Bool.false_eq_true, if_false, this]
  omega
theorem idxI_miss (p : Int → Bool) : ∀ (l : List Int) (i : Int), (∀ j, j < l.length → p (l.getD j 0) = false) → idxI p l i = -1
 | [], _, _ => rfl
 | x :: xs, i, h => by
  have h0 : p x = false := h 0 (by simp)
  simp only [idxI, h0, Bool.false_eq_true, if_false]
  exact idxI_miss p xs (i + 1) fun j hj => by simpa using h (j + 1) (by simpa using hj)
theorem idxI_any (p : Int → Bool) : ∀ (l : List Int) (i : Int), 0 ≤ i → decide (0 ≤ idxI p l i) = l.any p
 | [], _, _ => rfl
 | x :: xs, i, h => by
  by_cases hp : p x = true
  ·simp [idxI, hp, h]
  ·simp only [idxI, if_neg hp, List.any_cons]
   rw [Bool.eq_false_iff.mpr hp, Bool.false_or]
   exact idxI_any p xs (i + 1) (by omega)
set_option maxHeartbeats 8000000 in
set_option maxRecDepth 100000 in
theorem noValIdx_calls (A0 : Option Addr) (c0 : Nat) (l : List Int) (w : World) (hr : Kd.C (Kd.int .i64) w A0 l.length l) :
  Calls Try.prog 118 #[.slice A0 l.length c0, .func (.func 115) #[] #[]] w fun e w' => e = .returned (.int .i64 (idxI noVal l 0)) ∧ Below w.heap.size w w' := by
 have hl : l.length ≤ 9223372036854775807 := hr.2.1
 have HR := aM hr
 clear hr
 go_enter Try.func118, Try.ntmps118
 go_wp2
 go_loopg [5, 8] l.length (fun gg _ s8 wr => ∃ kk : Nat, kk ≤ l.length ∧ l.length - kk ≤ gg ∧ s8 = .int .i64 kk ∧ Aside0 (Below w.heap.size w wr) ∧ Aside0 (∀ j, j < kk → noVal (l.getD j 0) = false))
 case atStart => exact ⟨0, Nat.zero_le _, by omega, rfl, ⟨Below.refl _ _⟩, ⟨fun j hj => absurd hj (Nat.not_lt_zero _)⟩⟩
 case round =>
  obtain ⟨kk, hkk, hg, rfl, BW, HA⟩ := hrel
  by_cases hltk : kk < l.length
  ·have hltz : (kk : Int) < (l.length : Int) := by omega
   obtain ⟨ad, e, h0⟩ := Kd.at_int (Kd.C_below HR.out BW.out) (kk : Int) (by omega) hltz
   rw [Int.toNat_natCast] at h0
   cases e
   have hcall := noVal_calls (rd l (kk : Int)) wr
   have hrd : rd l (kk : Int) = l.getD kk 0 := by unfold rd; rw [Int.toNat_natCast]
   cases hq : noVal (rd l (kk : Int)) with
   | true =>
    rw [hq] at hcall
    have HQ := aM hq
    have HRD := aM hrd
    clear hq hrd
    go_wp2_with (go_at_call 115; refine hcall.mono ?_; rintro e w' ⟨rfl, hb'⟩)
    go_ret
    refine ⟨?_, below_then BW.out BW.out.size hb'⟩
    rw [idxI_hit noVal l kk 0 hltk HA.out (by rw [← HRD.out]; exact HQ.out)]
    simp
   | false =>
    rw [hq] at hcall
    have HQ := aM hq
    have HRD := aM hrd
    clear hq hrd
    go_wp2_with (go_at_call 115; refine hcall.mono ?_; rintro e w' ⟨rfl, hb'⟩)
    go_roundg (l.length - (kk + 1))
    case measure => omega
    case rel =>
     refine ⟨kk + 1, by omega, by omega, by go_num, ⟨below_then BW.out BW.out.size hb'⟩, ⟨fun j hj => ?_⟩⟩
     by_cases e : j = kk
     ·subst e
      rw [← HRD.out]; exact HQ.out
     ·exact HA.out j (by omega)
  ·have hd : decide (kk < l.length) = false := decide_eq_false hltk
   have HK := aM (show l.length ≤ kk by omega)
   clear hltk
   go_wp2
   go_ret
   refine ⟨?_, BW.out⟩
   have HA := fun j (hj : j < l.length) => HA.out j (Nat.lt_of_lt_of_le hj HK.out)
   rw [idxI_miss noVal l 0 HA]
   rfl
set_option maxHeartbeats 8000000 in
theorem noValAny_calls (A0 : Option Addr) (c0 : Nat) (l : List Int) (w : World) (hr : Kd.C (Kd.int .i64) w A0 l.length l) :
  Calls Try.prog 114 #[.slice A0 l.length c0, .func (.func 115) #[] #[]] w fun e w' => e = .returned (.bool (l.any noVal)) ∧ Below w.heap.size w w' := by
 rw [← idxI_any noVal l 0 (Int.le_refl _)]
 have HR := aM hr
 clear hr
 generalize hx : idxI noVal l 0 = x
 have HX := aM hx
 clear hx
 go_enter Try.func114, Try.ntmps114
 go_wp2_with (go_at_call 118; refine (noValIdx_calls A0 c0 l _ HR.out).mono ?_; rw [HX.out]; rintro e w' ⟨rfl, hb'⟩)
 go_ret
 exact ⟨rfl, hb'⟩
def impl_areValues.f (l0 : List Int) : Option Bool := some (!l0.any noVal)
set_option maxHeartbeats 8000000 in
set_option maxRecDepth 100000 in
theorem impl_areValues.calls (A0 : Option Addr) (c0 : Nat) (l0 : List Int) (r : Bool) (w : World) (hr0 : Kd.C (Kd.int .i64) w A0 l0.length l0) (hc0 : l0.length ≤ c0) (h : impl_areValues.f l0 = some r) :
  Calls Try.prog 106 #[.slice A0 l0.length c0] w fun e w' => e = .returned (.bool r) ∧ Below w.heap.size w w' := by
 obtain rfl := Option.some.inj h
 have HR := aM hr0
 clear hr0 h
 generalize hx : l0.any noVal = x
 have HX := aM hx
 clear hx
 go_enter Try.func106, Try.ntmps106
 go_wp2_with (go_at_call 114; refine (noValAny_calls A0 c0 l0 _ HR.out).mono ?_; rw [HX.out]; rintro e w' ⟨rfl, hb'⟩)
 go_ret
 exact ⟨rfl, hb'⟩


/-! ### impl_isFact: function 91 -/
def impl_isFact.f (l0 : List (S86)) (a1_0 : Int) (l1_1 : List Int) : Option (Bool) := (impl_within.f a1_0 0 (wrap64 ((l0.length : Int) - 1))).bind fun t379 => (if t379 = true then (if 0 ≤ a1_0 then (if a1_0 < (l0.length : Int) then (if (l1_1.length : Int) = ((rd_T86 l0 a1_0).f1) then ((impl_areValues.f l1_1).bind fun t381 => (some t381)) else (some false)) else (none)) else (none)) else (some false))
set_option maxHeartbeats 8000000 in
set_option maxRecDepth 100000 in
theorem impl_isFact.calls (A0 : Option Addr) (c0 : Nat) (l0 : List (S86)) (a1_0 : Int) (A1_1 : Option Addr) (c1_1 : Nat) (l1_1 : List Int) (r : Bool) (w : World) (hr0 : Kd.C k86 w A0 l0.length l0) (hc0 : l0.length ≤ c0) (hr1_1 : Kd.C (Kd.int .i64) w A1_1 l1_1.length l1_1) (hc1_1 : l1_1.length ≤ c1_1) (h : impl_isFact.f l0 a1_0 l1_1 = some r) :
  Calls Try.prog 91 #[.slice A0 l0.length c0, .agg #[.int .i64 a1_0, .slice A1_1 l1_1.length c1_1]] w fun e w' => e = .returned (.bool r) ∧ Below w.heap.size w w' := by
 have hu50 := Try.underlying50
 obtain ⟨W, hW⟩ : ∃ W, w.alloc (.cells #[.int .i64 a1_0, .slice A1_1 l1_1.length c1_1] 50) = W := ⟨_, rfl⟩
 have q0 := qa (w := W) (p := ⟨w.heap.size, 0, none⟩) (v := .int .i64 a1_0) (by subst hW; go_simp)
 have q1 := qa (w := W) (p := ⟨w.heap.size, 1, none⟩) (v := .slice A1_1 l1_1.length c1_1) (by subst hW; go_simp)
 have HB : Below w.heap.size w W := by subst hW; exact zB
 have HW := Below.refl W.heap.size W
 have hb := aM HB
 have rg_ := @bcl w
 have rd_ := @bdr w
 have rG_ := @bcl W
 have rD_ := @bdr W
 unfold impl_isFact.f at h
 replace h := bs h; obtain ⟨t379, B0, h⟩ := h
 replace h := ib h; rcases h with ⟨rfl, h⟩ | ⟨rfl, h⟩
 replace h := ie h; rcases h with ⟨c2, c2a, h⟩ | ⟨c2, c2a, h⟩
 replace h := il h; rcases h with ⟨c3, c3a, h⟩ | ⟨c3, c3a, h⟩
 replace h := iq h; rcases h with ⟨c4, ⟨c4a, c4b⟩, h⟩ | ⟨c4, ⟨c4a, c4b⟩, h⟩
 replace h := bs h; obtain ⟨t381, B5, h⟩ := h
 obtain rfl := si h
 obtain ⟨ad380, e380, hx380_0, hx380_1, hx380_2⟩ := at_T86 hr0 (a1_0 : Int) aD aD
 have p380 := eq_true (aD : 0 ≤ (a1_0 : Int))
 have q380 := eq_true (aD : a1_0 < (l0.length : Int))
 cases e380
 replace hx380_0 := qa hx380_0
 replace hx380_1 := qa hx380_1
 replace hx380_2 := qa hx380_2
 rotate_left
 obtain rfl := si h
 obtain ⟨ad380, e380, hx380_0, hx380_1, hx380_2⟩ := at_T86 hr0 (a1_0 : Int) aD aD
 have p380 := eq_true (aD : 0 ≤ (a1_0 : Int))
 have q380 := eq_true (aD : a1_0 < (l0.length : Int))
 cases e380
 replace hx380_0 := qa hx380_0
 replace hx380_1 := qa hx380_1
 replace hx380_2 := qa hx380_2
 rotate_left
 exact absurd h (by simp)
 exact absurd h (by simp)
 obtain rfl := si h
 rotate_left
 all_goals (go_enter Try.func91, Try.ntmps91; go_wp2; (repeat ((refine nw (w0 := w) zB ?_; intro W1 HB hb hd; have HW : Below W.heap.size W W1 := zB; (first | (refine Txt.rg (id := 1) [0, 1, 2, 3, 4, 5, 6, 7, 8, 9, 10, 11, 12, 13, 14, 15, 16, 17, 18, 19, 20, 21, 22, 23] (by kernel_rfl) (by kernel_rfl) ?_; simp only [List.map_cons, List.map_nil, List.getD_cons_zero, List.getD_cons_succ])); (repeat (first | (refine Txt.off rfl ?_; simp only [Act.put, List.setIfInBounds_toArray, List.set_cons_zero, List.set_cons_succ]) | (refine Txt.take rfl rfl ?_; intro K hK; go_big_quiet_op; go_big_quiet_on) | (refine Txt.call rfl rfl Try.func86 (by kernel_rfl) rfl (impl_within.calls _ _ _ ?_ _ ?h) rfl ?_; (case h => exact zA); rintro e w1 ⟨rfl, hb⟩; replace hb := hb.below; replace hb := aM hb; have HW : Below W.heap.size W w1 := zB; have HB : Below w.heap.size w w1 := zB; refine ⟨_, rfl, zS, ?_⟩; simp only [Act.put, List.setIfInBounds_toArray, List.set_cons_zero, List.set_cons_succ]) | (refine Txt.call rfl rfl Try.func106 (by kernel_rfl) rfl (impl_areValues.calls _ _ _ ?_ _ ?_ ?_ ?h) rfl ?_; (case h => exact zA); (iterate 2 (first | exact zC | exact zA)); rintro e w1 ⟨rfl, hb⟩; replace hb := aM hb; have HW : Below W.heap.size W w1 := zB; have HB : Below w.heap.size w w1 := zB; refine ⟨_, rfl, zS, ?_⟩; simp only [Act.put, List.setIfInBounds_toArray, List.set_cons_zero, List.set_cons_succ]))); refine Txt.nil ?_); (try go_wp2))); go_ret; exact zE zB)

/-! ### impl_compare: function 107 -/
def impl_compare.f (a0 : Int) (a1 : Int) : Option (Int) := if a0 < a1 then (some (-1)) else (if a0 > a1 then (some 1) else (some 0))
set_option maxHeartbeats 8000000 in
set_option maxRecDepth 100000 in
theorem impl_compare.calls (a0 : Int) (a1 : Int) (r : Int) (w : World) (h : impl_compare.f a0 a1 = some r) :
  Calls Try.prog 107 #[.int .i64 a0, .int .i64 a1] w fun e w' => e = .returned (.int .i64 r) ∧ Drawn0 w w' := by
 unfold impl_compare.f at h
 replace h := il h; rcases h with ⟨c0, c0a, h⟩ | ⟨c0, c0a, h⟩
 obtain rfl := si h
 rotate_left
 replace h := ig h; rcases h with ⟨c1, c1a, h⟩ | ⟨c1, c1a, h⟩
 obtain rfl := si h
 rotate_left
 obtain rfl := si h
 rotate_left
 all_goals (go_enter Try.func107, Try.ntmps107; go_wp2; go_ret; exact zE zD)

/-! ### cmp_isNaN_int: function 119 -/
def cmp_isNaN_int.f (a0 : Int) : Option (Bool) := some (a0 != a0)
set_option maxHeartbeats 8000000 in
set_option maxRecDepth 100000 in
theorem cmp_isNaN_int.calls (a0 : Int) (r : Bool) (w : World) (h : cmp_isNaN_int.f a0 = some r) :
  Calls Try.prog 119 #[.int .i64 a0] w fun e w' => e = .returned (.bool r) ∧ Drawn0 w w' := by
 unfold cmp_isNaN_int.f at h
 obtain rfl := si h
 rotate_left
 all_goals (go_enter Try.func119, Try.ntmps119; go_wp2; go_ret; exact zE zD)

end Go.Proofs.Ytehlhbidmanbmaa.PFnExactExtendToRepair
