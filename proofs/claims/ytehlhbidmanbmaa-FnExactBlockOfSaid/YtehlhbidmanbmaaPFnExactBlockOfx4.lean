-- Laid by a program of this claim: what the functions come to, some of them proved by hand.
import Derived.Test.YtehlhbidmanbmaaPFnExactBlockOfx0
import Derived.Test.YtehlhbidmanbmaaPFnExactBlockOfx2
import Derived.Test.YtehlhbidmanbmaaPFnExactBlockOfx3
namespace Go.Proofs.Ytehlhbidmanbmaa.PFnExactBlockOf
open Go.RowKit Go.Proofs.YtehlhbidmanbmaaW.PrintWords Go.Proofs.YtehlhbidmanbmaaW.PrintLast Go.Proofs.YtehlhbidmanbmaaW.PrintMore
attribute [local go_sem] max2_int min2_int max_two min_two max_three min_three max_four min_four   -- for this text's walks alone
set_option linter.unusedVariables false
set_option linter.unusedSimpArgs false

/-! ### spec_BlockOf: function 27 -/
mutual
def spec_BlockOf.l0 : Nat → Int → List Int → Int → List (S86) → List (S50) → Option (List Int)
 | 0, _, _, _, _, _ => none
 | k + 1, x1, x5, x6, x228000, x228001 => if x6 < (x228001.length : Int) then ((spec_IsValidDatabase.f k x228000 x228001).bind fun t231 => (if t231 = true then ((spec_l1In.f x1 0 (wrap64 ((x228001.length : Int) - 1))).bind fun t232 => (spec_BlockOf.j1 k x1 x5 x6 t232 x228000 x228001)) else (spec_BlockOf.j1 k x1 x5 x6 false x228000 x228001))) else (spec_BlockOf.j1 k x1 x5 x6 false x228000 x228001)
def spec_BlockOf.j1 : Nat → Int → List Int → Int → Bool → List (S86) → List (S50) → Option (List Int)
 | 0, _, _, _, _, _, _ => none
 | k + 1, x1, x5, x6, x24, x228000, x228001 => if x24 = true then (if 0 ≤ x1 then (if x1 < (x228001.length : Int) then (if 0 ≤ x6 then (if x6 < (x228001.length : Int) then ((spec_HaveSameKey.f k x228000 ((rd_T50 x228001 x1).f0) ((rd_T50 x228001 x1).f1) ((rd_T50 x228001 x6).f0) ((rd_T50 x228001 x6).f1)).bind fun t235 => (if t235 = true then (if x5.length < 17592186044416 then (spec_BlockOf.l0 k x1 (x5 ++ [x6]) (wrap64 (x6 + 1)) x228000 x228001) else (none)) else (spec_BlockOf.l0 k x1 x5 (wrap64 (x6 + 1)) x228000 x228001))) else (none)) else (none)) else (none)) else (none)) else (some x5)
end
def spec_BlockOf.f (k : Nat) (l0_0 : List (S86)) (l0_1 : List (S50)) (a1 : Int) : Option (List Int) := spec_BlockOf.l0 k a1 (([] : List Int)) 0 l0_0 l0_1
set_option maxHeartbeats 8000000 in
set_option maxRecDepth 100000 in
theorem spec_BlockOf.calls (k : Nat) (A0_0 : Option Addr) (c0_0 : Nat) (l0_0 : List (S86)) (A0_1 : Option Addr) (c0_1 : Nat) (l0_1 : List (S50)) (a1 : Int) (r : List Int) (w : World) (hr0_0 : Kd.C k86 w A0_0 l0_0.length l0_0) (hc0_0 : l0_0.length ≤ c0_0) (hr0_1 : Kd.C k50 w A0_1 l0_1.length l0_1) (hc0_1 : l0_1.length ≤ c0_1) (h : spec_BlockOf.f k l0_0 l0_1 a1 = some r) :
  Calls Try.prog 27 #[.agg #[.slice A0_0 l0_0.length c0_0, .slice A0_1 l0_1.length c0_1], .int .i64 a1] w fun e w' => ∃ v0_ : Value, e = .returned (v0_) ∧ Kd.R (Kd.int .i64) 3 w' w.heap.size (fun _ => True) v0_ r ∧ Below w.heap.size w w' := by
 have hu32 := Try.underlying32
 have hu50 := Try.underlying50
 have HR0_0 := aM hr0_0
 have HC0_0 := aM hc0_0
 clear hr0_0 hc0_0
 have HR0_1 := aM hr0_1
 have HC0_1 := aM hc0_1
 clear hr0_1 hc0_1
 have HB := aM (Below.refl w.heap.size w)
 have H : (spec_BlockOf.l0 k a1 (([] : List Int)) 0 l0_0 l0_1) = some r := h
 clear h
 obtain ⟨y228, hy228⟩ : ∃ y_ : List Int, y_ = (([] : List Int)) := ⟨_, rfl⟩
 replace H : (spec_BlockOf.l0 k a1 y228 0 l0_0 l0_1) = some r := by first | (rw [hy228]; with_reducible exact H) | (have H2_ := (Option.bind_some _ _).symm.trans H; rw [hy228]; with_reducible exact H2_) | (have H2_ := (Option.bind_some _ _).symm.trans H; with_reducible exact H2_) | with_reducible exact H | (rw [hy228]; exact H) | exact H
 have Ny228 := aM hy228
 clear hy228
 have H' := aM H
 clear H
 go_enter Try.func27, Try.ntmps27
 go_wp2_with (first | ((with_reducible refine gate_dst (N := 2) rfl ?_); (try (refine gate_guard (by rfl) ?_; dsimp only)); refine box_event ?hg (N := 2) ?hd (cs := #[.slice A0_0 l0_0.length c0_0, .slice A0_1 l0_1.length c0_1]) (t := 32) ?hr ?_; (case hd => rfl); (case hg => rfl); (case hr => first | (go_simp; done) | (go_simp; rfl)); intro gb227 hg w3 hbox hb; have n0_ := aM (below_step aB hb); have n1_ := aM (hbox); have n2_ := aM ((by rw [hg]; exact (below_size aB) : w.heap.size ≤ gb227)); have n3_ := aM ((by rw [hg]; exact (below_size aB) : w.heap.size ≤ gb227)); clear HB; have HB := n0_; have BK227 := n1_; have GW227 := n2_; have GE227 := n3_; clear n0_ n1_ n2_ n3_; clear hb hbox hg) | ((with_reducible refine gate_dst (N := 7) rfl ?_); (try (refine gate_guard (by rfl) ?_; dsimp only)); refine Kd.R_lit (Kd.int .i64) _ 3 ?hg (N := 7) ?hd (xs := ([] : List Int)) (inner := []) (ok := fun _ => True) (okp := fun _ => True) ?hr ?hp (fun _ hk => hk) trivial (Below.refl _ _) (Nat.le_refl _) (by simp) ?_; (case hd => rfl); (case hg => rfl); (case hr => first | (go_simp; done) | (go_simp; rfl)); (case hp => exact (Reps.none _ _)); intro v229 w4 ho5 hb hg_ hnew_; clear hg_ hnew_; (first | rw [← Ny228.out] at ho5 | (simp only [Int.reduceToNat] at ho5; rw [← Ny228.out] at ho5)); have n0_ := aM (Kd.R_lower ho5 (below_size aG)); have n1_ := aM (blk_below (g := gb227) (o := .cells #[.slice A0_0 l0_0.length c0_0, .slice A0_1 l0_1.length c0_1] 32 (0, 0)) aK hb); have n2_ := aM (below_step aG hb); clear BK227; clear HB; have HO230 := n0_; have BK227 := n1_; have HB := n2_; clear n0_ n1_ n2_; clear hb ho5))
 go_loopg [5, 6] k (fun kq v5 v6 w' => ∃ (x5_1 : List Int) (x6_1 : Int), v6 = .int .i64 x6_1 ∧ Aside0 (spec_BlockOf.l0 kq a1 x5_1 x6_1 l0_0 l0_1 = some r) ∧ Aside0 (kq ≤ k) ∧ Aside0 (Kd.R (Kd.int .i64) 3 w' w.heap.size (fun _ => True) v5 x5_1) ∧ Aside0 (w'.heap[gb227]? = some (.cells #[(.slice A0_0 l0_0.length c0_0), (.slice A0_1 l0_1.length c0_1)] 32 (0, 0))) ∧ Aside0 (Below w.heap.size w w'))
 case atStart => exact ⟨(y228), (0), (by first | rfl | (simp; done) | (simp [*]; done)), H', ⟨Nat.le_refl _⟩, ⟨aR HO230⟩, ⟨by (with_reducible repeat (first | refine blk_drewN ?_ _ | refine blk_drew ?_ | refine blk_alloc ?_ _)); exact BK227.out⟩, ⟨by repeat (first | (with_reducible first | exact HB.out | apply below_alloc | apply pw_below_drewN | apply below_drew1 | refine below_set ?_ GE227.out) | exact HB.out)⟩⟩
 case round =>
  clear H'
  try clear c2
  try clear p2
  obtain ⟨x5_1, x6_1, rfl, HA, HK1, HO_5, BK227, HB⟩ := hrel
  cases gk with
  | zero => exact absurd HA.out (by simp [spec_BlockOf.l0])
  | succ k1 =>
   have H := HA.out
   clear HA
   simp only [spec_BlockOf.l0] at H
   have HC6 := aM H
   clear H
   go_upto_region 3 with (fail)
   go_cut [24] (fun v24 wc => ∃ (kq : Nat) (x24_5 : Bool), v24 = .bool x24_5 ∧ Aside0 (spec_BlockOf.j1 kq a1 x5_1 x6_1 x24_5 l0_0 l0_1 = some r) ∧ Aside0 (kq ≤ k1) ∧ Aside0 (Kd.R (Kd.int .i64) 3 wc w.heap.size (fun _ => True) u5 x5_1) ∧ Aside0 (wc.heap[gb227]? = some (.cells #[(.slice A0_0 l0_0.length c0_0), (.slice A0_1 l0_1.length c0_1)] 32 (0, 0))) ∧ Aside0 (Below w.heap.size w wc))
   case first =>
    have H := HC6.out
    clear HC6
    by_cases c7 : x6_1 < (l0_1.length : Int)
    ·rw [if_pos c7] at H
     have c7b0 : decide (x6_1 < (l0_1.length : Int)) = true := decide_eq_true c7
     clear c7
     (first | rw [c7b0] | (simp only [i64_w, i32_w]; rw [c7b0]) | skip)
     replace H := Option.bind_eq_some_iff.mp H
     obtain ⟨t231, A80, H⟩ := H
     replace H : (if t231 = true then ((spec_l1In.f a1 0 (wrap64 ((l0_1.length : Int) - 1))).bind fun t232 => (spec_BlockOf.j1 k1 a1 x5_1 x6_1 t232 l0_0 l0_1)) else (spec_BlockOf.j1 k1 a1 x5_1 x6_1 false l0_0 l0_1)) = some r := H
     have A8 := aM A80
     clear A80
     by_cases c9 : t231 = true
     ·subst c9
      have H1 : ((spec_l1In.f a1 0 (wrap64 ((l0_1.length : Int) - 1))).bind fun t232 => (spec_BlockOf.j1 k1 a1 x5_1 x6_1 t232 l0_0 l0_1)) = some r := by rw [if_pos rfl] at H; exact H
      clear H
      have H := H1
      clear H1
      replace H := Option.bind_eq_some_iff.mp H
      obtain ⟨t232, A100, H⟩ := H
      replace H : (spec_BlockOf.j1 k1 a1 x5_1 x6_1 t232 l0_0 l0_1) = some r := H
      have A10 := aM A100
      clear A100
      have H' := aM H
      clear H
      have hcz11_0 : wr.cell? ⟨gb227, 0, none⟩ = some (.slice A0_0 l0_0.length c0_0) := (blk_cell BK227.out 0).trans rfl
      have hcz11_1 : wr.cell? ⟨gb227, 1, none⟩ = some (.slice A0_1 l0_1.length c0_1) := (blk_cell BK227.out 1).trans rfl
      have hfz11_0 := blk_frozen BK227.out 0
      have hfz11_1 := blk_frozen BK227.out 1
      go_wp2_with (first | (go_at_call 60; (with_reducible refine (spec_IsValidDatabase.calls k1 _ _ l0_0 _ _ l0_1 true _ ?side1 ?side2 ?side3 ?side4 A8.out).mono ?_); (case side1 => exact aC); (case side2 => exact HC0_0.out); (case side3 => exact aC); (case side4 => exact HC0_1.out); rintro e w12 ⟨rfl, hb⟩; have n0_ := aM (Kd.R_below (aR HO_5) hb); have n1_ := aM (blk_below (g := gb227) (o := .cells #[.slice A0_0 l0_0.length c0_0, .slice A0_1 l0_1.length c0_1] 32 (0, 0)) aK hb); have n2_ := aM (below_step aG hb); clear HO_5; clear BK227; clear HB; have HO_5 := n0_; have BK227 := n1_; have HB := n2_; clear n0_ n1_ n2_; (try clear hb); (try clear hb2); (try clear hk); (try clear hi); have hcz13_0 : w12.cell? ⟨gb227, 0, none⟩ = some (.slice A0_0 l0_0.length c0_0) := (blk_cell BK227.out 0).trans rfl; have hcz13_1 : w12.cell? ⟨gb227, 1, none⟩ = some (.slice A0_1 l0_1.length c0_1) := (blk_cell BK227.out 1).trans rfl; have hfz13_0 := blk_frozen BK227.out 0; have hfz13_1 := blk_frozen BK227.out 1) | (go_at_call 64; (with_reducible refine (spec_l1In.calls a1 0 (wrap64 ((l0_1.length : Int) - 1)) t232 _ A10.out).mono ?_); rintro e w' ⟨rfl, ⟨nd, rfl⟩⟩))
      go_meet
      case rel => exact ⟨_, (t232), (by first | rfl | (simp; done) | (simp [*]; done)), H', ⟨by have := HK1.out; first | omega | exact Nat.le_refl _⟩, ⟨aR HO_5⟩, ⟨by (with_reducible repeat (first | refine blk_drewN ?_ _ | refine blk_drew ?_ | refine blk_alloc ?_ _)); exact BK227.out⟩, ⟨by repeat (first | (with_reducible first | exact HB.out | apply below_alloc | apply pw_below_drewN | apply below_drew1 | refine below_set ?_ GE227.out) | exact HB.out)⟩⟩
     ·replace c9 := Bool.eq_false_iff.mpr c9
      subst c9
      have H1 : (spec_BlockOf.j1 k1 a1 x5_1 x6_1 false l0_0 l0_1) = some r := by rw [if_neg (show ¬ (false = true) by decide)] at H; exact H
      clear H
      have H := H1
      clear H1
      have H' := aM H
      clear H
      have hcz14_0 : wr.cell? ⟨gb227, 0, none⟩ = some (.slice A0_0 l0_0.length c0_0) := (blk_cell BK227.out 0).trans rfl
      have hcz14_1 : wr.cell? ⟨gb227, 1, none⟩ = some (.slice A0_1 l0_1.length c0_1) := (blk_cell BK227.out 1).trans rfl
      have hfz14_0 := blk_frozen BK227.out 0
      have hfz14_1 := blk_frozen BK227.out 1
      go_wp2_with (first | (go_at_call 60; (with_reducible refine (spec_IsValidDatabase.calls k1 _ _ l0_0 _ _ l0_1 false _ ?side1 ?side2 ?side3 ?side4 A8.out).mono ?_); (case side1 => exact aC); (case side2 => exact HC0_0.out); (case side3 => exact aC); (case side4 => exact HC0_1.out); rintro e w15 ⟨rfl, hb⟩; have n0_ := aM (Kd.R_below (aR HO_5) hb); have n1_ := aM (blk_below (g := gb227) (o := .cells #[.slice A0_0 l0_0.length c0_0, .slice A0_1 l0_1.length c0_1] 32 (0, 0)) aK hb); have n2_ := aM (below_step aG hb); clear HO_5; clear BK227; clear HB; have HO_5 := n0_; have BK227 := n1_; have HB := n2_; clear n0_ n1_ n2_; (try clear hb); (try clear hb2); (try clear hk); (try clear hi)))
      go_meet
      case rel => exact ⟨_, (false), (by first | rfl | (simp; done) | (simp [*]; done)), H', ⟨by have := HK1.out; first | omega | exact Nat.le_refl _⟩, ⟨aR HO_5⟩, ⟨by (with_reducible repeat (first | refine blk_drewN ?_ _ | refine blk_drew ?_ | refine blk_alloc ?_ _)); exact BK227.out⟩, ⟨by repeat (first | (with_reducible first | exact HB.out | apply below_alloc | apply pw_below_drewN | apply below_drew1 | refine below_set ?_ GE227.out) | exact HB.out)⟩⟩
    ·rw [if_neg c7] at H
     have c7b0 : decide (x6_1 < (l0_1.length : Int)) = false := decide_eq_false c7
     clear c7
     (first | rw [c7b0] | (simp only [i64_w, i32_w]; rw [c7b0]) | skip)
     have H' := aM H
     clear H
     have hcz16_0 : wr.cell? ⟨gb227, 0, none⟩ = some (.slice A0_0 l0_0.length c0_0) := (blk_cell BK227.out 0).trans rfl
     have hcz16_1 : wr.cell? ⟨gb227, 1, none⟩ = some (.slice A0_1 l0_1.length c0_1) := (blk_cell BK227.out 1).trans rfl
     have hfz16_0 := blk_frozen BK227.out 0
     have hfz16_1 := blk_frozen BK227.out 1
     go_wp2
     go_meet
     case rel => exact ⟨_, (false), (by first | rfl | (simp; done) | (simp [*]; done)), H', ⟨by have := HK1.out; first | omega | exact Nat.le_refl _⟩, ⟨aR HO_5⟩, ⟨by (with_reducible repeat (first | refine blk_drewN ?_ _ | refine blk_drew ?_ | refine blk_alloc ?_ _)); exact BK227.out⟩, ⟨by repeat (first | (with_reducible first | exact HB.out | apply below_alloc | apply pw_below_drewN | apply below_drew1 | refine below_set ?_ GE227.out) | exact HB.out)⟩⟩
   case rest =>
    clear HC6
    try clear c2
    try clear p2
    try clear p6
    try clear c7
    try clear c7b0
    try clear c9
    try clear hcz11_0
    try clear hcz11_1
    try clear hcz13_0
    try clear hcz13_1
    try clear hcz14_0
    try clear hcz14_1
    try clear hcz16_0
    try clear hcz16_1
    try clear hfz11_0
    try clear hfz11_1
    try clear hfz13_0
    try clear hfz13_1
    try clear hfz14_0
    try clear hfz14_1
    try clear hfz16_0
    try clear hfz16_1
    try clear p2
    obtain ⟨kq, x24_5, rfl, HA, HJ5, HO_5, BK227, HB⟩ := hcut
    cases kq with
    | zero => exact absurd HA.out (by simp [spec_BlockOf.j1])
    | succ kj5 =>
     have H := HA.out
     clear HA
     simp only [spec_BlockOf.j1] at H
     by_cases c17 : x24_5 = true
     ·subst c17
      have H1 : (if 0 ≤ a1 then (if a1 < (l0_1.length : Int) then (if 0 ≤ x6_1 then (if x6_1 < (l0_1.length : Int) then ((spec_HaveSameKey.f kj5 l0_0 ((rd_T50 l0_1 a1).f0) ((rd_T50 l0_1 a1).f1) ((rd_T50 l0_1 x6_1).f0) ((rd_T50 l0_1 x6_1).f1)).bind fun t235 => (if t235 = true then (if x5_1.length < 17592186044416 then (spec_BlockOf.l0 kj5 a1 (x5_1 ++ [x6_1]) (wrap64 (x6_1 + 1)) l0_0 l0_1) else (none)) else (spec_BlockOf.l0 kj5 a1 x5_1 (wrap64 (x6_1 + 1)) l0_0 l0_1))) else (none)) else (none)) else (none)) else (none)) = some r := by rw [if_pos rfl] at H; exact H
      clear H
      have H := H1
      clear H1
      by_cases c18 : 0 ≤ a1
      ·rw [if_pos c18] at H
       have c18b0 : decide (0 ≤ a1) = true := decide_eq_true c18
       clear c18
       by_cases c19 : a1 < (l0_1.length : Int)
       ·rw [if_pos c19] at H
        have c19b0 : decide (a1 < (l0_1.length : Int)) = true := decide_eq_true c19
        clear c19
        by_cases c20 : 0 ≤ x6_1
        ·rw [if_pos c20] at H
         have c20b0 : decide (0 ≤ x6_1) = true := decide_eq_true c20
         clear c20
         by_cases c21 : x6_1 < (l0_1.length : Int)
         ·rw [if_pos c21] at H
          have c21b0 : decide (x6_1 < (l0_1.length : Int)) = true := decide_eq_true c21
          clear c21
          replace H := Option.bind_eq_some_iff.mp H
          obtain ⟨t235, A220, H⟩ := H
          replace H : (if t235 = true then (if x5_1.length < 17592186044416 then (spec_BlockOf.l0 kj5 a1 (x5_1 ++ [x6_1]) (wrap64 (x6_1 + 1)) l0_0 l0_1) else (none)) else (spec_BlockOf.l0 kj5 a1 x5_1 (wrap64 (x6_1 + 1)) l0_0 l0_1)) = some r := H
          have A22 := aM A220
          clear A220
          by_cases c23 : t235 = true
          ·subst c23
           have H1 : (if x5_1.length < 17592186044416 then (spec_BlockOf.l0 kj5 a1 (x5_1 ++ [x6_1]) (wrap64 (x6_1 + 1)) l0_0 l0_1) else (none)) = some r := by rw [if_pos rfl] at H; exact H
           clear H
           have H := H1
           clear H1
           by_cases c24 : x5_1.length < 17592186044416
           ·rw [if_pos c24] at H
            have LMc24 := aM c24
            clear c24
            obtain ⟨y236, hy236⟩ : ∃ y_ : List Int, y_ = (x5_1 ++ [x6_1]) := ⟨_, rfl⟩
            replace H : (spec_BlockOf.l0 kj5 a1 y236 (wrap64 (x6_1 + 1)) l0_0 l0_1) = some r := by first | (rw [hy236]; with_reducible exact H) | (have H2_ := (Option.bind_some _ _).symm.trans H; rw [hy236]; with_reducible exact H2_) | (have H2_ := (Option.bind_some _ _).symm.trans H; with_reducible exact H2_) | with_reducible exact H | (rw [hy236]; exact H) | exact H
            have Ny236 := aM hy236
            clear hy236
            have H' := aM H
            clear H
            try go_wp2
            have n0_ := aM (Kd.R_drew HO_5.out)
            have n1_ := aM (blk_drew BK227.out)
            have n2_ := aM (below_drew1 HB.out)
            clear HO_5
            clear BK227
            clear HB
            have HO_5 := n0_
            have BK227 := n1_
            have HB := n2_
            clear n0_ n1_ n2_
            have p233 : 0 ≤ (a1 : Int) := aD
            have q233 : a1 < (l0_1.length : Int) := aD
            obtain ⟨ad233, A233_1, c233_1, e233, hx233_0, hx233_1, hl233_1, hi233_1⟩ := at_T50 HR0_1.out a1 p233 q233
            have hw233_1 := hx233_1
            have hw233_0 := hx233_0
            cases e233
            replace hx233_0 := (HB.out.cell (World.block_lt_of_cell? w _ hx233_0)).trans hx233_0
            replace hx233_1 := (HB.out.cell (World.block_lt_of_cell? w _ hx233_1)).trans hx233_1
            have HR233_1 := aM hi233_1
            have HC233_1 := aM hl233_1
            clear hi233_1 hl233_1
            replace p233 := eq_true p233
            replace q233 := eq_true q233
            have p234 : 0 ≤ (x6_1 : Int) := aD
            have q234 : x6_1 < (l0_1.length : Int) := aD
            obtain ⟨ad234, A234_1, c234_1, e234, hx234_0, hx234_1, hl234_1, hi234_1⟩ := at_T50 HR0_1.out x6_1 p234 q234
            have hw234_1 := hx234_1
            have hw234_0 := hx234_0
            obtain rfl : ad233 = ad234 := (by injection e234)
            replace hx234_0 := (HB.out.cell (World.block_lt_of_cell? w _ hx234_0)).trans hx234_0
            replace hx234_1 := (HB.out.cell (World.block_lt_of_cell? w _ hx234_1)).trans hx234_1
            have HR234_1 := aM hi234_1
            have HC234_1 := aM hl234_1
            clear hi234_1 hl234_1
            replace p234 := eq_true p234
            replace q234 := eq_true q234
            have qf0_ : ∀ (d_ : Nat) (os_ : Array Obj), (Go.Sort.grow (redrawn wc d_) os_).cell? ⟨gb227, 0, none⟩ = some (.slice A0_0 l0_0.length c0_0) := cell_regrown_drew ((blk_cell BK227.out 0).trans rfl)
            have qf1_ : ∀ (d_ : Nat) (os_ : Array Obj), (Go.Sort.grow (redrawn wc d_) os_).cell? ⟨gb227, 1, none⟩ = some (.slice (some ad233) l0_1.length c0_1) := cell_regrown_drew ((blk_cell BK227.out 1).trans rfl)
            have qf2_ : ∀ (d_ : Nat) (os_ : Array Obj), (Go.Sort.grow (redrawn wc d_) os_).cell? (ad233.add ((a1).toNat * 2)) = some (.int .i64 ((rd_T50 l0_1 a1).f0)) := cell_regrown_drew ((pw_cell_below HB.out hw233_0))
            have qf3_ : ∀ (d_ : Nat) (os_ : Array Obj), (Go.Sort.grow (redrawn wc d_) os_).cell? ⟨(ad233.add ((a1).toNat * 2)).block, (ad233.add ((a1).toNat * 2)).off + 1, none⟩ = some (.slice A233_1 ((rd_T50 l0_1 a1).f1).length c233_1) := cell_regrown_drew ((pw_cell_below HB.out hw233_1))
            have qf4_ : ∀ (d_ : Nat) (os_ : Array Obj), (Go.Sort.grow (redrawn wc d_) os_).cell? (ad233.add ((x6_1).toNat * 2)) = some (.int .i64 ((rd_T50 l0_1 x6_1).f0)) := cell_regrown_drew ((pw_cell_below HB.out hw234_0))
            have qf5_ : ∀ (d_ : Nat) (os_ : Array Obj), (Go.Sort.grow (redrawn wc d_) os_).cell? ⟨(ad233.add ((x6_1).toNat * 2)).block, (ad233.add ((x6_1).toNat * 2)).off + 1, none⟩ = some (.slice A234_1 ((rd_T50 l0_1 x6_1).f1).length c234_1) := cell_regrown_drew ((pw_cell_below HB.out hw234_1))
            have HBQ_ := aM (below_class HB.out)
            have HBS_ := HB
            clear HB
            refine wp_region_quiet_below (by kernel_rfl) (by kernel_rfl) ?_
            repeat (go_big_quiet_step ((refine with_class HBQ_.out ?_; intro hbz_; have HB := aM hbz_; clear hbz_; first | (go_at_call 65; apply Calls.regrown_of; with_reducible refine spec_HaveSameKey.calls kj5 _ _ l0_0 ((rd_T50 l0_1 a1).f0) _ _ ((rd_T50 l0_1 a1).f1) ((rd_T50 l0_1 x6_1).f0) _ _ ((rd_T50 l0_1 x6_1).f1) true _ ?side1 ?side2 ?side3 ?side4 ?side5 ?side6 A22.out; (case side1 => repeat (first | exact (Kd.C_below HR0_0.out HB.out) | exact (Kd.C_below HR233_0.out HB.out) | exact (Kd.C_below HR234_0.out HB.out) | (with_reducible refine Kd.C_alloc ?_ _) | (with_reducible refine Kd.C_drewN ?_ _) | (with_reducible refine Kd.C_drew ?_))); (case side2 => first | exact HC0_0.out | exact HC233_0.out | exact HC234_0.out); (case side3 => repeat (first | exact (Kd.C_below HR233_1.out HB.out) | exact (Kd.C_below HR234_1.out HB.out) | (with_reducible refine Kd.C_alloc ?_ _) | (with_reducible refine Kd.C_drewN ?_ _) | (with_reducible refine Kd.C_drew ?_))); (case side4 => first | exact HC233_1.out | exact HC234_1.out); (case side5 => repeat (first | exact (Kd.C_below HR234_1.out HB.out) | exact (Kd.C_below HR233_1.out HB.out) | (with_reducible refine Kd.C_alloc ?_ _) | (with_reducible refine Kd.C_drewN ?_ _) | (with_reducible refine Kd.C_drew ?_))); (case side6 => first | exact HC234_1.out | exact HC233_1.out)))))
            refine wpQuiet_nil ?_
            intro _ hw_
            obtain ⟨⟨dq_, osq_⟩, hw2_⟩ := hw_
            subst hw2_
            have hb := below_regrown_drew wc dq_ osq_
            have HB := HBS_
            clear HBS_
            clear qf0_ qf1_ qf2_ qf3_ qf4_ qf5_
            clear HBQ_
            generalize Go.Sort.grow (redrawn wc dq_) osq_ = w26 at hb ⊢
            generalize wc.drew = wd_ at HO_5 BK227 HB hb
            have n0_ := aM (Kd.R_below (aR HO_5) hb)
            have n1_ := aM (blk_below (g := gb227) (o := .cells #[.slice A0_0 l0_0.length c0_0, .slice (some ad233) l0_1.length c0_1] 32 (0, 0)) aK hb)
            have n2_ := aM (below_step aG hb)
            clear HO_5
            clear BK227
            clear HB
            have HO_5 := n0_
            have BK227 := n1_
            have HB := n2_
            clear n0_ n1_ n2_
            (try clear hb)
            (try clear hb2)
            (try clear hk)
            (try clear hi)
            try go_wp2_with (first | ((with_reducible refine gate_builtin (b := .append) (xs := #[.tmp 40, .tmp 42]) rfl ?_); (try (refine gate_guard (by rfl) ?_; dsimp only)); at_builtin; refine Kd.R_append (Kd.int .i64) (w0 := w) w.heap.size rfl (.tmp 40) (.tmp 42) 26 3 (.int .i64 0) 8 rfl Try.underlying26 info3 rfl (by decide) (by omega) u5 x5_1 x6_1 [.int .i64 x6_1] (fun _ => True) (fun _ => False) rfl rfl ?aP (fun _ hk => hk.elim) ?aF ?aO ?aB ?aS ?aL ?_; (case aP => exact rfl); (case aB => exact aG); (case aF => exact (fun _ _ => trivial)); (case aO => exact (aR HO_5)); (case aS => exact (below_size aG)); (case aL => have := LMc24.out; omega); intro v237 w27 ho hb hg hat; rw [← Ny236.out] at ho; have n0_ := aM (blk_grown (g := gb227) (o := .cells #[.slice A0_0 l0_0.length c0_0, .slice (some ad233) l0_1.length c0_1] 32 (0, 0)) aK hg (Kd.R_ne HO_5.out BK227.out (by decide))); have n1_ := aM (hb); have n2_ := aM (ho); clear BK227; clear HB; clear HO_5; have BK227 := n0_; have HB := n1_; have HO238 := n2_; clear n0_ n1_ n2_; clear ho hb hg hat))
            go_roundg kj5
            case measure => have := HK1.out; have := HJ5.out; omega
            case rel => exact ⟨(y236), (wrap64 (x6_1 + 1)), (by first | rfl | (simp; done) | (simp [*]; done)), H', ⟨by have := HK1.out; have := HJ5.out; omega⟩, ⟨aR HO238⟩, ⟨by (with_reducible repeat (first | refine blk_drewN ?_ _ | refine blk_drew ?_ | refine blk_alloc ?_ _)); exact BK227.out⟩, ⟨by repeat (first | (with_reducible first | exact HB.out | apply below_alloc | apply pw_below_drewN | apply below_drew1 | refine below_set ?_ GE227.out) | exact HB.out)⟩⟩
           ·rw [if_neg c24] at H
            exact absurd H (by simp)
          ·replace c23 := Bool.eq_false_iff.mpr c23
           subst c23
           have H1 : (spec_BlockOf.l0 kj5 a1 x5_1 (wrap64 (x6_1 + 1)) l0_0 l0_1) = some r := by rw [if_neg (show ¬ (false = true) by decide)] at H; exact H
           clear H
           have H := H1
           clear H1
           have H' := aM H
           clear H
           try go_wp2
           have n0_ := aM (Kd.R_drew HO_5.out)
           have n1_ := aM (blk_drew BK227.out)
           have n2_ := aM (below_drew1 HB.out)
           clear HO_5
           clear BK227
           clear HB
           have HO_5 := n0_
           have BK227 := n1_
           have HB := n2_
           clear n0_ n1_ n2_
           have p233 : 0 ≤ (a1 : Int) := aD
           have q233 : a1 < (l0_1.length : Int) := aD
           obtain ⟨ad233, A233_1, c233_1, e233, hx233_0, hx233_1, hl233_1, hi233_1⟩ := at_T50 HR0_1.out a1 p233 q233
           have hw233_1 := hx233_1
           have hw233_0 := hx233_0
           cases e233
           replace hx233_0 := (HB.out.cell (World.block_lt_of_cell? w _ hx233_0)).trans hx233_0
           replace hx233_1 := (HB.out.cell (World.block_lt_of_cell? w _ hx233_1)).trans hx233_1
           have HR233_1 := aM hi233_1
           have HC233_1 := aM hl233_1
           clear hi233_1 hl233_1
           replace p233 := eq_true p233
           replace q233 := eq_true q233
           have p234 : 0 ≤ (x6_1 : Int) := aD
           have q234 : x6_1 < (l0_1.length : Int) := aD
           obtain ⟨ad234, A234_1, c234_1, e234, hx234_0, hx234_1, hl234_1, hi234_1⟩ := at_T50 HR0_1.out x6_1 p234 q234
           have hw234_1 := hx234_1
           have hw234_0 := hx234_0
           obtain rfl : ad233 = ad234 := (by injection e234)
           replace hx234_0 := (HB.out.cell (World.block_lt_of_cell? w _ hx234_0)).trans hx234_0
           replace hx234_1 := (HB.out.cell (World.block_lt_of_cell? w _ hx234_1)).trans hx234_1
           have HR234_1 := aM hi234_1
           have HC234_1 := aM hl234_1
           clear hi234_1 hl234_1
           replace p234 := eq_true p234
           replace q234 := eq_true q234
           have qf0_ : ∀ (d_ : Nat) (os_ : Array Obj), (Go.Sort.grow (redrawn wc d_) os_).cell? ⟨gb227, 0, none⟩ = some (.slice A0_0 l0_0.length c0_0) := cell_regrown_drew ((blk_cell BK227.out 0).trans rfl)
           have qf1_ : ∀ (d_ : Nat) (os_ : Array Obj), (Go.Sort.grow (redrawn wc d_) os_).cell? ⟨gb227, 1, none⟩ = some (.slice (some ad233) l0_1.length c0_1) := cell_regrown_drew ((blk_cell BK227.out 1).trans rfl)
           have qf2_ : ∀ (d_ : Nat) (os_ : Array Obj), (Go.Sort.grow (redrawn wc d_) os_).cell? (ad233.add ((a1).toNat * 2)) = some (.int .i64 ((rd_T50 l0_1 a1).f0)) := cell_regrown_drew ((pw_cell_below HB.out hw233_0))
           have qf3_ : ∀ (d_ : Nat) (os_ : Array Obj), (Go.Sort.grow (redrawn wc d_) os_).cell? ⟨(ad233.add ((a1).toNat * 2)).block, (ad233.add ((a1).toNat * 2)).off + 1, none⟩ = some (.slice A233_1 ((rd_T50 l0_1 a1).f1).length c233_1) := cell_regrown_drew ((pw_cell_below HB.out hw233_1))
           have qf4_ : ∀ (d_ : Nat) (os_ : Array Obj), (Go.Sort.grow (redrawn wc d_) os_).cell? (ad233.add ((x6_1).toNat * 2)) = some (.int .i64 ((rd_T50 l0_1 x6_1).f0)) := cell_regrown_drew ((pw_cell_below HB.out hw234_0))
           have qf5_ : ∀ (d_ : Nat) (os_ : Array Obj), (Go.Sort.grow (redrawn wc d_) os_).cell? ⟨(ad233.add ((x6_1).toNat * 2)).block, (ad233.add ((x6_1).toNat * 2)).off + 1, none⟩ = some (.slice A234_1 ((rd_T50 l0_1 x6_1).f1).length c234_1) := cell_regrown_drew ((pw_cell_below HB.out hw234_1))
           have HBQ_ := aM (below_class HB.out)
           have HBS_ := HB
           clear HB
           refine wp_region_quiet_below (by kernel_rfl) (by kernel_rfl) ?_
           repeat (go_big_quiet_step ((refine with_class HBQ_.out ?_; intro hbz_; have HB := aM hbz_; clear hbz_; first | (go_at_call 65; apply Calls.regrown_of; with_reducible refine spec_HaveSameKey.calls kj5 _ _ l0_0 ((rd_T50 l0_1 a1).f0) _ _ ((rd_T50 l0_1 a1).f1) ((rd_T50 l0_1 x6_1).f0) _ _ ((rd_T50 l0_1 x6_1).f1) false _ ?side1 ?side2 ?side3 ?side4 ?side5 ?side6 A22.out; (case side1 => repeat (first | exact (Kd.C_below HR0_0.out HB.out) | exact (Kd.C_below HR233_0.out HB.out) | exact (Kd.C_below HR234_0.out HB.out) | (with_reducible refine Kd.C_alloc ?_ _) | (with_reducible refine Kd.C_drewN ?_ _) | (with_reducible refine Kd.C_drew ?_))); (case side2 => first | exact HC0_0.out | exact HC233_0.out | exact HC234_0.out); (case side3 => repeat (first | exact (Kd.C_below HR233_1.out HB.out) | exact (Kd.C_below HR234_1.out HB.out) | (with_reducible refine Kd.C_alloc ?_ _) | (with_reducible refine Kd.C_drewN ?_ _) | (with_reducible refine Kd.C_drew ?_))); (case side4 => first | exact HC233_1.out | exact HC234_1.out); (case side5 => repeat (first | exact (Kd.C_below HR234_1.out HB.out) | exact (Kd.C_below HR233_1.out HB.out) | (with_reducible refine Kd.C_alloc ?_ _) | (with_reducible refine Kd.C_drewN ?_ _) | (with_reducible refine Kd.C_drew ?_))); (case side6 => first | exact HC234_1.out | exact HC233_1.out)))))
           refine wpQuiet_nil ?_
           intro _ hw_
           obtain ⟨⟨dq_, osq_⟩, hw2_⟩ := hw_
           subst hw2_
           have hb := below_regrown_drew wc dq_ osq_
           have HB := HBS_
           clear HBS_
           clear qf0_ qf1_ qf2_ qf3_ qf4_ qf5_
           clear HBQ_
           generalize Go.Sort.grow (redrawn wc dq_) osq_ = w29 at hb ⊢
           generalize wc.drew = wd_ at HO_5 BK227 HB hb
           have n0_ := aM (Kd.R_below (aR HO_5) hb)
           have n1_ := aM (blk_below (g := gb227) (o := .cells #[.slice A0_0 l0_0.length c0_0, .slice (some ad233) l0_1.length c0_1] 32 (0, 0)) aK hb)
           have n2_ := aM (below_step aG hb)
           clear HO_5
           clear BK227
           clear HB
           have HO_5 := n0_
           have BK227 := n1_
           have HB := n2_
           clear n0_ n1_ n2_
           (try clear hb)
           (try clear hb2)
           (try clear hk)
           (try clear hi)
           try go_wp2
           go_roundg kj5
           case measure => have := HK1.out; have := HJ5.out; omega
           case rel => exact ⟨(x5_1), (wrap64 (x6_1 + 1)), (by first | rfl | (simp; done) | (simp [*]; done)), H', ⟨by have := HK1.out; have := HJ5.out; omega⟩, ⟨aR HO_5⟩, ⟨by (with_reducible repeat (first | refine blk_drewN ?_ _ | refine blk_drew ?_ | refine blk_alloc ?_ _)); exact BK227.out⟩, ⟨by repeat (first | (with_reducible first | exact HB.out | apply below_alloc | apply pw_below_drewN | apply below_drew1 | refine below_set ?_ GE227.out) | exact HB.out)⟩⟩
         ·rw [if_neg c21] at H
          exact absurd H (by simp)
        ·rw [if_neg c20] at H
         exact absurd H (by simp)
       ·rw [if_neg c19] at H
        exact absurd H (by simp)
      ·rw [if_neg c18] at H
       exact absurd H (by simp)
     ·replace c17 := Bool.eq_false_iff.mpr c17
      subst c17
      have H1 : (some x5_1) = some r := by rw [if_neg (show ¬ (false = true) by decide)] at H; exact H
      clear H
      have H := H1
      clear H1
      obtain rfl := Option.some.inj H
      go_wp2
      go_ret
      exact ⟨_, by first | rfl | (simp [errW_none, errW_some] <;> rfl) | (simp [*, errW_none, errW_some] <;> rfl), aR HO_5, by repeat (first | (with_reducible first | exact HB.out | apply below_alloc | apply pw_below_drewN | apply below_drew1 | refine below_set ?_ GE227.out) | exact HB.out)⟩

-- NOT PRINTED: function 118 (slices_IndexFunc_int_int)

-- NOT PRINTED: function 114 (slices_ContainsFunc_int_int)

/-! ### impl_areValues: function 106 -/
/-- No value: what the literal in areValues asks. -/
def noVal (v : Int) : Bool := !(decide (0 ≤ v) && decide (v ≤ 9))
set_option maxHeartbeats 8000000 in
theorem noVal_calls (v : Int) (w : World) : Calls Try.prog 115 #[.int .i64 v] w fun e w' => e = .returned (.bool (noVal v)) ∧ Below w.heap.size w w' := by
 have hw : ∃ b, impl_within.f v 0 9 = some b ∧ b = (decide (0 ≤ v) && decide (v ≤ 9)) := by
  unfold impl_within.f
  by_cases h : 0 ≤ v
  ·exact ⟨_, if_pos h, by simp [h]⟩
  ·exact ⟨_, if_neg h, by simp [h]⟩
 obtain ⟨b, hb, hv⟩ := hw
 have HB := aM hb
 have HV := aM hv
 clear hb hv
 go_enter Try.func115, Try.ntmps115
 go_wp2_with (go_at_call 86; refine (impl_within.calls v 0 9 b _ HB.out).mono ?_; rintro e w' ⟨rfl, ⟨nd, rfl⟩⟩)
 go_ret
 refine ⟨?_, pw_below_drewN (Below.refl _ _) _⟩
 unfold noVal
 rw [← HV.out]
 rfl
/-- The place of the first number of which p holds, counted from i on; -1 if there is none. -/
def idxI (p : Int → Bool) : List Int → Int → Int
 | [], _ => -1
 | x :: xs, i => if p x = true then i else idxI p xs (i + 1)
theorem idxI_hit (p : Int → Bool) : ∀ (l : List Int) (k : Nat) (i : Int), k < l.length → (∀ j, j < k → p (l.getD j 0) = false) → p (l.getD k 0) = true → idxI p l i = i + k
 | [], k, _, h, _, _ => absurd h (Nat.not_lt_zero _)
 | x :: xs, 0, i, _, _, h => by
  have h' : p x = true := h
  simp [idxI, h']
 | x :: xs, k + 1, i, hk, ha, h => by
  have h0 : p x = false := ha 0 (by omega)
  have := idxI_hit p xs k (i + 1) (by simpa using hk) (fun j hj => by simpa using ha (j + 1) (by omega)) (by simpa using h)
  simp only [idxI, h0, Bool.false_eq_true, if_false, this]
  omega
theorem idxI_miss (p : Int → Bool) : ∀ (l : List Int) (i : Int), (∀ j, j < l.length → p (l.getD j 0) = false) → idxI p l i = -1
 | [], _, _ => rfl
 | x :: xs, i, h => by
  have h0 : p x = false := h 0 (by simp)
  simp only [idxI, h0, Bool.false_eq_true, if_false]
  exact idxI_miss p xs (i + 1) fun j hj => by simpa using h (j + 1) (by simpa using hj)
theorem idxI_any (p : Int → Bool) : ∀ (l : List Int) (i : Int), 0 ≤ i → decide (0 ≤ idxI p l i) = l.any p
 | [], _, _ => rfl
 | x :: xs, i, h => by
  by_cases hp : p x = true
  ·simp [idxI, hp, h]
  ·simp only [idxI, if_neg hp, List.any_cons]
   rw [Bool.eq_false_iff.mpr hp, Bool.false_or]
   exact idxI_any p xs (i + 1) (by omega)
set_option maxHeartbeats 8000000 in
set_option maxRecDepth 100000 in
theorem noValIdx_calls (A0 : Option Addr) (c0 : Nat) (l : List Int) (w : World) (hr : Kd.C (Kd.int .i64) w A0 l.length l) :
  Calls Try.prog 118 #[.slice A0 l.length c0, .func (.func 115) #[] #[]] w fun e w' => e = .returned (.int .i64 (idxI noVal l 0)) ∧ Below w.heap.size w w' := by
 have hl : l.length ≤ 9223372036854775807 := hr.2.1
 have HR := aM hr
 clear hr
 go_enter Try.func118, Try.ntmps118
 go_wp2
 go_loopg [5, 8] l.length (fun gg _ s8 wr => ∃ kk : Nat, kk ≤ l.length ∧ l.length - kk ≤ gg ∧ s8 = .int .i64 kk ∧ Aside0 (Below w.heap.size w wr) ∧ Aside0 (∀ j, j < kk → noVal (l.getD j 0) = false))
 case atStart => exact ⟨0, Nat.zero_le _, by omega, rfl, ⟨Below.refl _ _⟩, ⟨fun j hj => absurd hj (Nat.not_lt_zero _)⟩⟩
 case round =>
  obtain ⟨kk, hkk, hg, rfl, BW, HA⟩ := hrel
  by_cases hltk : kk < l.length
  ·have hltz : (kk : Int) < (l.length : Int) := by omega
   obtain ⟨ad, e, h0⟩ := Kd.at_int (Kd.C_below HR.out BW.out) (kk : Int) (by omega) hltz
   rw [Int.toNat_natCast] at h0
   cases e
   have hcall := noVal_calls (rd l (kk : Int)) wr
   have hrd : rd l (kk : Int) = l.getD kk 0 := by unfold rd; rw [Int.toNat_natCast]
   cases hq : noVal (rd l (kk : Int)) with
   | true =>
    rw [hq] at hcall
    have HQ := aM hq
    have HRD := aM hrd
    clear hq hrd
    go_wp2_with (go_at_call 115; refine hcall.mono ?_; rintro e w' ⟨rfl, hb'⟩)
    go_ret
    refine ⟨?_, below_then BW.out BW.out.size hb'⟩
    rw [idxI_hit noVal l kk 0 hltk HA.out (by rw [← HRD.out]; exact HQ.out)]
    simp
   | false =>
    rw [hq] at hcall
    have HQ := aM hq
    have HRD := aM hrd
    clear hq hrd
    go_wp2_with (go_at_call 115; refine hcall.mono ?_; rintro e w' ⟨rfl, hb'⟩)
    go_roundg (l.length - (kk + 1))
    case measure => omega
    case rel =>
     refine ⟨kk + 1, by omega, by omega, by go_num, ⟨below_then BW.out BW.out.size hb'⟩, ⟨fun j hj => ?_⟩⟩
     by_cases e : j = kk
     ·subst e
      rw [← HRD.out]; exact HQ.out
     ·exact HA.out j (by omega)
  ·have hd : decide (kk < l.length) = false := decide_eq_false hltk
   have HK := aM (show l.length ≤ kk by omega)
   clear hltk
   go_wp2
   go_ret
   refine ⟨?_, BW.out⟩
   have HA := fun j (hj : j < l.length) => HA.out j (Nat.lt_of_lt_of_le hj HK.out)
   rw [idxI_miss noVal l 0 HA]
   rfl
set_option maxHeartbeats 8000000 in
theorem noValAny_calls (A0 : Option Addr) (c0 : Nat) (l : List Int) (w : World) (hr : Kd.C (Kd.int .i64) w A0 l.length l) :
  Calls Try.prog 114 #[.slice A0 l.length c0, .func (.func 115) #[] #[]] w fun e w' => e = .returned (.bool (l.any noVal)) ∧ Below w.heap.size w w' := by
 rw [← idxI_any noVal l 0 (Int.le_refl _)]
 have HR := aM hr
 clear hr
 generalize hx : idxI noVal l 0 = x
 have HX := aM hx
 clear hx
 go_enter Try.func114, Try.ntmps114
 go_wp2_with (go_at_call 118; refine (noValIdx_calls A0 c0 l _ HR.out).mono ?_; rw [HX.out]; rintro e w' ⟨rfl, hb'⟩)
 go_ret
 exact ⟨rfl, hb'⟩
def impl_areValues.f (l0 : List Int) : Option Bool := some (!l0.any noVal)
set_option maxHeartbeats 8000000 in
set_option maxRecDepth 100000 in
theorem impl_areValues.calls (A0 : Option Addr) (c0 : Nat) (l0 : List Int) (r : Bool) (w : World) (hr0 : Kd.C (Kd.int .i64) w A0 l0.length l0) (hc0 : l0.length ≤ c0) (h : impl_areValues.f l0 = some r) :
  Calls Try.prog 106 #[.slice A0 l0.length c0] w fun e w' => e = .returned (.bool r) ∧ Below w.heap.size w w' := by
 obtain rfl := Option.some.inj h
 have HR := aM hr0
 clear hr0 h
 generalize hx : l0.any noVal = x
 have HX := aM hx
 clear hx
 go_enter Try.func106, Try.ntmps106
 go_wp2_with (go_at_call 114; refine (noValAny_calls A0 c0 l0 _ HR.out).mono ?_; rw [HX.out]; rintro e w' ⟨rfl, hb'⟩)
 go_ret
 exact ⟨rfl, hb'⟩


/-! ### impl_isFact: function 91 -/
def impl_isFact.f (l0 : List (S86)) (a1_0 : Int) (l1_1 : List Int) : Option (Bool) := (impl_within.f a1_0 0 (wrap64 ((l0.length : Int) - 1))).bind fun t240 => (if t240 = true then (if 0 ≤ a1_0 then (if a1_0 < (l0.length : Int) then (if (l1_1.length : Int) = ((rd_T86 l0 a1_0).f1) then ((impl_areValues.f l1_1).bind fun t242 => (some t242)) else (some false)) else (none)) else (none)) else (some false))
set_option maxHeartbeats 8000000 in
set_option maxRecDepth 100000 in
theorem impl_isFact.calls (A0 : Option Addr) (c0 : Nat) (l0 : List (S86)) (a1_0 : Int) (A1_1 : Option Addr) (c1_1 : Nat) (l1_1 : List Int) (r : Bool) (w : World) (hr0 : Kd.C k86 w A0 l0.length l0) (hc0 : l0.length ≤ c0) (hr1_1 : Kd.C (Kd.int .i64) w A1_1 l1_1.length l1_1) (hc1_1 : l1_1.length ≤ c1_1) (h : impl_isFact.f l0 a1_0 l1_1 = some r) :
  Calls Try.prog 91 #[.slice A0 l0.length c0, .agg #[.int .i64 a1_0, .slice A1_1 l1_1.length c1_1]] w fun e w' => e = .returned (.bool r) ∧ Below w.heap.size w w' := by
 have hu50 := Try.underlying50
 obtain ⟨W, hW⟩ : ∃ W, w.alloc (.cells #[.int .i64 a1_0, .slice A1_1 l1_1.length c1_1] 50) = W := ⟨_, rfl⟩
 have q0 := qa (w := W) (p := ⟨w.heap.size, 0, none⟩) (v := .int .i64 a1_0) (by subst hW; go_simp)
 have q1 := qa (w := W) (p := ⟨w.heap.size, 1, none⟩) (v := .slice A1_1 l1_1.length c1_1) (by subst hW; go_simp)
 have HB : Below w.heap.size w W := by subst hW; exact zB
 have HW := Below.refl W.heap.size W
 have hb := aM HB
 have rg_ := @bcl w
 have rd_ := @bdr w
 have rG_ := @bcl W
 have rD_ := @bdr W
 unfold impl_isFact.f at h
 replace h := bs h; obtain ⟨t240, B0, h⟩ := h
 replace h := ib h; rcases h with ⟨rfl, h⟩ | ⟨rfl, h⟩
 replace h := ie h; rcases h with ⟨c2, c2a, h⟩ | ⟨c2, c2a, h⟩
 replace h := il h; rcases h with ⟨c3, c3a, h⟩ | ⟨c3, c3a, h⟩
 replace h := iq h; rcases h with ⟨c4, ⟨c4a, c4b⟩, h⟩ | ⟨c4, ⟨c4a, c4b⟩, h⟩
 replace h := bs h; obtain ⟨t242, B5, h⟩ := h
 obtain rfl := si h
 obtain ⟨ad241, e241, hx241_0, hx241_1, hx241_2⟩ := at_T86 hr0 (a1_0 : Int) aD aD
 have p241 := eq_true (aD : 0 ≤ (a1_0 : Int))
 have q241 := eq_true (aD : a1_0 < (l0.length : Int))
 cases e241
 replace hx241_0 := qa hx241_0
 replace hx241_1 := qa hx241_1
 replace hx241_2 := qa hx241_2
 rotate_left
 obtain rfl := si h
 obtain ⟨ad241, e241, hx241_0, hx241_1, hx241_2⟩ := at_T86 hr0 (a1_0 : Int) aD aD
 have p241 := eq_true (aD : 0 ≤ (a1_0 : Int))
 have q241 := eq_true (aD : a1_0 < (l0.length : Int))
 cases e241
 replace hx241_0 := qa hx241_0
 replace hx241_1 := qa hx241_1
 replace hx241_2 := qa hx241_2
 rotate_left
 exact absurd h (by simp)
 exact absurd h (by simp)
 obtain rfl := si h
 rotate_left
 all_goals (go_enter Try.func91, Try.ntmps91; go_wp2; (repeat ((refine nw (w0 := w) zB ?_; intro W1 HB hb hd; have HW : Below W.heap.size W W1 := zB; (first | (refine Txt.rg (id := 1) [0, 1, 2, 3, 4, 5, 6, 7, 8, 9, 10, 11, 12, 13, 14, 15, 16, 17, 18, 19, 20, 21, 22, 23] (by kernel_rfl) (by kernel_rfl) ?_; simp only [List.map_cons, List.map_nil, List.getD_cons_zero, List.getD_cons_succ])); (repeat (first | (refine Txt.off rfl ?_; simp only [Act.put, List.setIfInBounds_toArray, List.set_cons_zero, List.set_cons_succ]) | (refine Txt.take rfl rfl ?_; intro K hK; go_big_quiet_op; go_big_quiet_on) | (refine Txt.call rfl rfl Try.func86 (by kernel_rfl) rfl (impl_within.calls _ _ _ ?_ _ ?h) rfl ?_; (case h => exact zA); rintro e w1 ⟨rfl, hb⟩; replace hb := hb.below; replace hb := aM hb; have HW : Below W.heap.size W w1 := zB; have HB : Below w.heap.size w w1 := zB; refine ⟨_, rfl, zS, ?_⟩; simp only [Act.put, List.setIfInBounds_toArray, List.set_cons_zero, List.set_cons_succ]) | (refine Txt.call rfl rfl Try.func106 (by kernel_rfl) rfl (impl_areValues.calls _ _ _ ?_ _ ?_ ?_ ?h) rfl ?_; (case h => exact zA); (iterate 2 (first | exact zC | exact zA)); rintro e w1 ⟨rfl, hb⟩; replace hb := aM hb; have HW : Below W.heap.size W w1 := zB; have HB : Below w.heap.size w w1 := zB; refine ⟨_, rfl, zS, ?_⟩; simp only [Act.put, List.setIfInBounds_toArray, List.set_cons_zero, List.set_cons_succ]))); refine Txt.nil ?_); (try go_wp2))); go_ret; exact zE zB)

/-! ### impl_compare: function 107 -/
def impl_compare.f (a0 : Int) (a1 : Int) : Option (Int) := if a0 < a1 then (some (-1)) else (if a0 > a1 then (some 1) else (some 0))
set_option maxHeartbeats 8000000 in
set_option maxRecDepth 100000 in
theorem impl_compare.calls (a0 : Int) (a1 : Int) (r : Int) (w : World) (h : impl_compare.f a0 a1 = some r) :
  Calls Try.prog 107 #[.int .i64 a0, .int .i64 a1] w fun e w' => e = .returned (.int .i64 r) ∧ Drawn0 w w' := by
 unfold impl_compare.f at h
 replace h := il h; rcases h with ⟨c0, c0a, h⟩ | ⟨c0, c0a, h⟩
 obtain rfl := si h
 rotate_left
 replace h := ig h; rcases h with ⟨c1, c1a, h⟩ | ⟨c1, c1a, h⟩
 obtain rfl := si h
 rotate_left
 obtain rfl := si h
 rotate_left
 all_goals (go_enter Try.func107, Try.ntmps107; go_wp2; go_ret; exact zE zD)

/-! ### cmp_isNaN_int: function 119 -/
def cmp_isNaN_int.f (a0 : Int) : Option (Bool) := some (a0 != a0)
set_option maxHeartbeats 8000000 in
set_option maxRecDepth 100000 in
theorem cmp_isNaN_int.calls (a0 : Int) (r : Bool) (w : World) (h : cmp_isNaN_int.f a0 = some r) :
  Calls Try.prog 119 #[.int .i64 a0] w fun e w' => e = .returned (.bool r) ∧ Drawn0 w w' := by
 unfold cmp_isNaN_int.f at h
 obtain rfl := si h
 rotate_left
 all_goals (go_enter Try.func119, Try.ntmps119; go_wp2; go_ret; exact zE zD)

/-! ### cmp_Compare_int: function 116 -/
def cmp_Compare_int.f (a0 : Int) (a1 : Int) : Option (Int) := (cmp_isNaN_int.f a0).bind fun t243 => ((cmp_isNaN_int.f a1).bind fun t244 => (if t243 = true then (if t244 = true then (some 0) else (some (-1))) else (if t244 = true then (some 1) else (if a0 < a1 then (some (-1)) else (if a0 > a1 then (some 1) else (some 0))))))
set_option maxHeartbeats 8000000 in
set_option maxRecDepth 100000 in
theorem cmp_Compare_int.calls (a0 : Int) (a1 : Int) (r : Int) (w : World) (h : cmp_Compare_int.f a0 a1 = some r) :
  Calls Try.prog 116 #[.int .i64 a0, .int .i64 a1] w fun e w' => e = .returned (.int .i64 r) ∧ Drawn0 w w' := by
 unfold cmp_Compare_int.f at h
 replace h := bs h; obtain ⟨t243, B0, h⟩ := h
 replace h := bs h; obtain ⟨t244, B1, h⟩ := h
 replace h := ib h; rcases h with ⟨rfl, h⟩ | ⟨rfl, h⟩
 replace h := ib h; rcases h with ⟨rfl, h⟩ | ⟨rfl, h⟩
 obtain rfl := si h
 rotate_left
 obtain rfl := si h
 rotate_left
 replace h := ib h; rcases h with ⟨rfl, h⟩ | ⟨rfl, h⟩
 obtain rfl := si h
 rotate_left
 replace h := il h; rcases h with ⟨c5, c5a, h⟩ | ⟨c5, c5a, h⟩
 obtain rfl := si h
 rotate_left
 replace h := ig h; rcases h with ⟨c6, c6a, h⟩ | ⟨c6, c6a, h⟩
 obtain rfl := si h
 rotate_left
 obtain rfl := si h
 rotate_left
 all_goals (go_enter Try.func116, Try.ntmps116; go_wp2_with (first | (go_at_call 119; refine (cmp_isNaN_int.calls _ ?_ _ ?h).mono ?_; (case h => exact zA); rintro e w1 ⟨rfl, hb⟩; have hd := hb; replace hb := hb.below; replace hb := aM hb; have HB : Below w.heap.size w w1 := zB)); go_ret; exact zE zD)

/-! ### slices_Compare_int_int: function 108 -/
def slices_Compare_int_int.l0 : Nat → List Int → List Int → List Int → Int → Int → Option (Int)
 | 0, _, _, _, _, _ => none
 | k + 1, x0, x1, x9, x10, x11 => if x11 < x10 then (if 0 ≤ x11 then (if x11 < (x9.length : Int) then (if x11 ≥ (x1.length : Int) then (some 1) else (if x11 < (x1.length : Int) then ((cmp_Compare_int.f (rd x9 x11) (rd x1 x11)).bind fun t247 => (if t247 = 0 then (slices_Compare_int_int.l0 k x0 x1 x9 x10 (wrap64 (x11 + 1))) else (some t247))) else (none))) else (none)) else (none)) else (if (x0.length : Int) < (x1.length : Int) then (some (-1)) else (some 0))
def slices_Compare_int_int.f (k : Nat) (l0 : List Int) (l1 : List Int) : Option (Int) := slices_Compare_int_int.l0 k l0 l1 l0 (l0.length : Int) 0
set_option maxHeartbeats 8000000 in
set_option maxRecDepth 100000 in
theorem slices_Compare_int_int.calls (k : Nat) (A0 : Option Addr) (c0 : Nat) (l0 : List Int) (A1 : Option Addr) (c1 : Nat) (l1 : List Int) (r : Int) (w : World) (hr0 : Kd.C (Kd.int .i64) w A0 l0.length l0) (hc0 : l0.length ≤ c0) (hr1 : Kd.C (Kd.int .i64) w A1 l1.length l1) (hc1 : l1.length ≤ c1) (h : slices_Compare_int_int.f k l0 l1 = some r) :
  Calls Try.prog 108 #[.slice A0 l0.length c0, .slice A1 l1.length c1] w fun e w' => e = .returned (.int .i64 r) ∧ Drawn0 w w' := by
 unfold slices_Compare_int_int.f at h
 ·go_enter Try.func108, Try.ntmps108
  go_wp2_with (first | (go_at_call 116; refine (cmp_Compare_int.calls _ _ ?_ _ ?h).mono ?_; (case h => exact zA); rintro e w1 ⟨rfl, hb⟩; have hd := hb; replace hb := hb.below; replace hb := aM hb; have HB : Below w.heap.size w w1 := zB))
  go_loopg [11] k (fun kq v11 w' => ∃ (x11_0 : Int), v11 = .int .i64 x11_0 ∧ slices_Compare_int_int.l0 kq l0 l1 l0 (l0.length : Int) x11_0 = some r ∧ Drawn0 w w')
  case atStart => exact ⟨_, zR, zA, zD⟩
  case round =>
   clear h
   obtain ⟨x11_0, rfl, h, hb⟩ := hrel
   have hd := hb
   replace hb := hb.below
   replace hb := aM hb
   have HB : Below w.heap.size w wr := zB
   rcases gk with _ | kk0
   exact absurd h (by simp [slices_Compare_int_int.l0])
   simp only [slices_Compare_int_int.l0] at h
   replace h := il h; rcases h with ⟨c1, c1a, h⟩ | ⟨c1, c1a, h⟩
   replace h := ie h; rcases h with ⟨c2, c2a, h⟩ | ⟨c2, c2a, h⟩
   replace h := il h; rcases h with ⟨c3, c3a, h⟩ | ⟨c3, c3a, h⟩
   replace h := ih h; rcases h with ⟨c4, c4a, h⟩ | ⟨c4, c4a, h⟩
   obtain rfl := si h
   obtain ⟨ad245, e245, hx245_0⟩ := Kd.at_int hr0 (x11_0 : Int) aD aD
   have p245 := eq_true (aD : 0 ≤ (x11_0 : Int))
   have q245 := eq_true (aD : x11_0 < (l0.length : Int))
   cases e245
   replace hx245_0 := qa hx245_0
   rotate_left
   replace h := il h; rcases h with ⟨c5, c5a, h⟩ | ⟨c5, c5a, h⟩
   replace h := bs h; obtain ⟨t247, B6, h⟩ := h
   replace h := iq h; rcases h with ⟨c7, ⟨c7a, c7b⟩, h⟩ | ⟨c7, ⟨c7a, c7b⟩, h⟩
   obtain ⟨kf, hkf⟩ : ∃ kf, kf = kk0 := ⟨_, rfl⟩; rw [← hkf] at h
   obtain ⟨ad245, e245, hx245_0⟩ := Kd.at_int hr0 (x11_0 : Int) aD aD
   have p245 := eq_true (aD : 0 ≤ (x11_0 : Int))
   have q245 := eq_true (aD : x11_0 < (l0.length : Int))
   cases e245
   replace hx245_0 := qa hx245_0
   obtain ⟨ad246, e246, hx246_0⟩ := Kd.at_int hr1 (x11_0 : Int) aD aD
   have p246 := eq_true (aD : 0 ≤ (x11_0 : Int))
   have q246 := eq_true (aD : x11_0 < (l1.length : Int))
   cases e246
   replace hx246_0 := qa hx246_0
   rotate_left
   obtain rfl := si h
   obtain ⟨ad245, e245, hx245_0⟩ := Kd.at_int hr0 (x11_0 : Int) aD aD
   have p245 := eq_true (aD : 0 ≤ (x11_0 : Int))
   have q245 := eq_true (aD : x11_0 < (l0.length : Int))
   cases e245
   replace hx245_0 := qa hx245_0
   obtain ⟨ad246, e246, hx246_0⟩ := Kd.at_int hr1 (x11_0 : Int) aD aD
   have p246 := eq_true (aD : 0 ≤ (x11_0 : Int))
   have q246 := eq_true (aD : x11_0 < (l1.length : Int))
   cases e246
   replace hx246_0 := qa hx246_0
   rotate_left
   exact absurd h (by simp)
   exact absurd h (by simp)
   exact absurd h (by simp)
   replace h := il h; rcases h with ⟨c8, c8a, h⟩ | ⟨c8, c8a, h⟩
   have cz := c8.out
   have c8x1 : decide (l0.length < l1.length) = true := decide_eq_true (Int.ofNat_lt.mp cz)
   clear cz
   obtain rfl := si h
   rotate_left
   have cz := c8.out
   have c8x1 : decide (l0.length < l1.length) = false := decide_eq_false (fun h => cz (Int.ofNat_lt.mpr h))
   clear cz
   obtain rfl := si h
   rotate_left
   all_goals (go_wp2_with (first | (go_at_call 116; refine (cmp_Compare_int.calls _ _ ?_ _ ?h).mono ?_; (case h => exact zA); rintro e w1 ⟨rfl, hb⟩; have hd := hb; replace hb := hb.below; replace hb := aM hb; have HB : Below w.heap.size w w1 := zB)); first | (go_ret; exact zE zD) | (go_roundg kf; (case measure => omega); (case rel => exact ⟨_, zR, zA, zD⟩)))

/-! ### impl_CompareFacts: function 92 -/
def impl_CompareFacts.f (k : Nat) (a0_0 : Int) (l0_1 : List Int) (a1_0 : Int) (l1_1 : List Int) : Option (Int) := if a0_0 = a1_0 then ((slices_Compare_int_int.f k l0_1 l1_1).bind fun t250 => (some t250)) else ((impl_compare.f a0_0 a1_0).bind fun t251 => (some t251))
set_option maxHeartbeats 8000000 in
set_option maxRecDepth 100000 in
theorem impl_CompareFacts.calls (k : Nat) (a0_0 : Int) (A0_1 : Option Addr) (c0_1 : Nat) (l0_1 : List Int) (a1_0 : Int) (A1_1 : Option Addr) (c1_1 : Nat) (l1_1 : List Int) (r : Int) (w : World) (hr0_1 : Kd.C (Kd.int .i64) w A0_1 l0_1.length l0_1) (hc0_1 : l0_1.length ≤ c0_1) (hr1_1 : Kd.C (Kd.int .i64) w A1_1 l1_1.length l1_1) (hc1_1 : l1_1.length ≤ c1_1) (h : impl_CompareFacts.f k a0_0 l0_1 a1_0 l1_1 = some r) :
  Calls Try.prog 92 #[.agg #[.int .i64 a0_0, .slice A0_1 l0_1.length c0_1], .agg #[.int .i64 a1_0, .slice A1_1 l1_1.length c1_1]] w fun e w' => e = .returned (.int .i64 r) ∧ Below w.heap.size w w' := by
 have hu50 := Try.underlying50
 obtain ⟨W, hW⟩ : ∃ W, (w.alloc (.cells #[.int .i64 a0_0, .slice A0_1 l0_1.length c0_1] 50)).alloc (.cells #[.int .i64 a1_0, .slice A1_1 l1_1.length c1_1] 50) = W := ⟨_, rfl⟩
 have q0 := qa (w := W) (p := ⟨w.heap.size, 0, none⟩) (v := .int .i64 a0_0) (by subst hW; go_simp)
 have q1 := qa (w := W) (p := ⟨w.heap.size, 1, none⟩) (v := .slice A0_1 l0_1.length c0_1) (by subst hW; go_simp)
 have q2 := qa (w := W) (p := ⟨w.heap.size + 1, 0, none⟩) (v := .int .i64 a1_0) (by subst hW; go_simp)
 have q3 := qa (w := W) (p := ⟨w.heap.size + 1, 1, none⟩) (v := .slice A1_1 l1_1.length c1_1) (by subst hW; go_simp)
 have HB : Below w.heap.size w W := by subst hW; exact zB
 have HW := Below.refl W.heap.size W
 have hb := aM HB
 unfold impl_CompareFacts.f at h
 replace h := iq h; rcases h with ⟨c0, ⟨c0a, c0b⟩, h⟩ | ⟨c0, ⟨c0a, c0b⟩, h⟩
 replace h := bs h; obtain ⟨t250, B1, h⟩ := h
 obtain rfl := si h
 rotate_left
 replace h := bs h; obtain ⟨t251, B2, h⟩ := h
 obtain rfl := si h
 rotate_left
 all_goals (go_enter Try.func92, Try.ntmps92; go_wp2_with (first | (go_at_call 107; refine (impl_compare.calls _ _ ?_ _ ?h).mono ?_; (case h => exact zA); rintro e w1 ⟨rfl, hb⟩; replace hb := hb.below; replace hb := aM hb; have HW : Below W.heap.size W w1 := zB; have HB : Below w.heap.size w w1 := zB) | (go_at_call 108; refine (slices_Compare_int_int.calls ?_ _ _ _ _ _ _ ?_ _ ?_ ?_ ?_ ?_ ?h).mono ?_; (case h => exact zA); (iterate 4 (first | exact zC | exact zA)); rintro e w1 ⟨rfl, hb⟩; replace hb := hb.below; replace hb := aM hb; have HW : Below W.heap.size W w1 := zB; have HB : Below w.heap.size w w1 := zB)); go_ret; exact zE zB)

/-! ### impl_AreValidRelations: function 101 -/

def impl_AreValidRelations.f (l0 : List S86) : Option Bool := some (vRels l0)
set_option maxHeartbeats 4000000 in
set_option maxRecDepth 100000 in
theorem impl_AreValidRelations.calls (A0 : Option Addr) (c0 : Nat) (l0 : List S86) (r : Bool) (w : World) (hr0 : Kd.C k86 w A0 l0.length l0) (hc0 : l0.length ≤ c0) (h : impl_AreValidRelations.f l0 = some r) :
  Calls Try.prog 101 #[.slice A0 l0.length c0] w fun e w' => e = .returned (.bool r) ∧ Below w.heap.size w w' := by
 obtain rfl := Option.some.inj h
 have hl : l0.length ≤ 9223372036854775807 := hr0.2.1
 have HR := aM hr0
 clear hr0 h
 go_enter Try.func101, Try.ntmps101
 go_wp2
 go_loopg [7] l0.length (fun gg s7 wr => ∃ i : Nat, i ≤ l0.length ∧ l0.length - i ≤ gg ∧ s7 = .int .i64 i ∧ Aside0 (Below w.heap.size w wr) ∧ Aside0 (vRelsFrom l0 (l0.length - i) i = vRels l0))
 case atStart => exact ⟨0, Nat.zero_le _, by omega, rfl, ⟨Below.refl _ _⟩, ⟨rfl⟩⟩
 case round =>
  obtain ⟨i, hi, hg, rfl, BW, HA⟩ := hrel
  by_cases hlt : i < l0.length
  ·have hltz : (i : Int) < (l0.length : Int) := by omega
   obtain ⟨ad, e, h0, h1, h2⟩ := at_T86 (Kd.C_below HR.out BW.out) (i : Int) (by omega) hltz
   rw [Int.toNat_natCast] at h0 h1 h2
   cases e
   have hrd : rd_T86 l0 (i : Int) = l0.getD i z86 := by unfold rd_T86; rw [Int.toNat_natCast]
   rw [hrd] at h0 h1 h2
   clear hrd
   have HX : Aside0 (vRelsFrom l0 (l0.length - i) i = (vRel (l0.getD i z86) && (decide (i = 0) || Op.bytesLess (l0.getD (i - 1) z86).f0.toList (l0.getD i z86).f0.toList) && vRelsFrom l0 (l0.length - (i + 1)) (i + 1))) := ⟨by
    rw [show l0.length - i = (l0.length - (i + 1)) + 1 by omega]; rfl⟩
   generalize l0.getD i z86 = x at h0 h1 h2 HX
   have F0 : Aside0 ((wr.alloc (.cells #[.string x.f0, .int .i64 x.f1, .int .i64 x.f2] 86)).cell? ⟨wr.heap.size, 0, none⟩ = some (.string x.f0)) := ⟨(blk_cell (heap_alloc_new wr _) 0).trans rfl⟩
   have F1 : Aside0 ((wr.alloc (.cells #[.string x.f0, .int .i64 x.f1, .int .i64 x.f2] 86)).cell? ⟨wr.heap.size, 1, none⟩ = some (.int .i64 x.f1)) := ⟨(blk_cell (heap_alloc_new wr _) 1).trans rfl⟩
   have F2 : Aside0 ((wr.alloc (.cells #[.string x.f0, .int .i64 x.f1, .int .i64 x.f2] 86)).cell? ⟨wr.heap.size, 2, none⟩ = some (.int .i64 x.f2)) := ⟨(blk_cell (heap_alloc_new wr _) 2).trans rfl⟩
   have B2 : Aside0 (Below w.heap.size w (wr.alloc (.cells #[.string x.f0, .int .i64 x.f1, .int .i64 x.f2] 86))) := ⟨below_alloc BW.out _⟩
   have HC : Aside0 (∀ (W : World) d os, Calls Try.prog 112 #[.agg #[.string x.f0, .int .i64 x.f1, .int .i64 x.f2]] (Go.Sort.grow (redrawn W d) os) fun e w'' => e = .returned (.bool (vRel x)) ∧ ∃ p : Regrown, w'' = Go.Sort.grow (redrawn W p.d) p.os) := ⟨fun W d os => Calls.regrown_of (impl_IsValidRelation.calls x.f0 x.f1 x.f2 (vRel x) _ (vRelI x))⟩
   by_cases hi0 : i = 0 ∨ vRel x = false
   ·have hd0 : vRel x = true → decide (0 < i) = false := fun hx => by
     rcases hi0 with h | h
     ·simp [h]
     ·rw [hx] at h; cases h
    have hX : vRelsFrom l0 (l0.length - i) i = (vRel x && vRelsFrom l0 (l0.length - (i + 1)) (i + 1)) := by
     rw [HX.out]
     rcases hi0 with h | h
     ·simp [h]
     ·simp [h]
    have HX := aM hX
    clear hX hi0
    cases hv : vRel x with
    | false =>
     have HV := aM hv
     clear hv hd0
     go_wp2_with fail
     clear h0 h1 h2
     generalize wr.alloc (.cells #[.string x.f0, .int .i64 x.f1, .int .i64 x.f2] 86) = w2 at F0 F1 F2 B2 ⊢
     generalize wr.heap.size = gb at F0 F1 F2 ⊢
     have f0 := cell_regrown F0.out
     have f1 := cell_regrown F1.out
     have f2 := cell_regrown F2.out
     have hc := HC.out w2
     rw [HV.out] at hc
     have HC := aM hc
     clear hc
     refine wp_region_quiet_below (by kernel_rfl) (by kernel_rfl) ?_
     repeat (go_big_quiet_step (exact HC.out _ _))
     refine wpQuiet_nil ?_
     intro _ hw'
     obtain ⟨⟨dq, osq⟩, hw''⟩ := hw'
     subst hw''
     go_wp2
     go_ret
     exact ⟨by rw [← HA.out, HX.out, HV.out]; rfl, below_then B2.out B2.out.size (below_regrown _ _ _)⟩
    | true =>
     have hd0 := hd0 hv
     have HV := aM hv
     clear hv
     go_wp2_with fail
     clear h0 h1 h2
     generalize wr.alloc (.cells #[.string x.f0, .int .i64 x.f1, .int .i64 x.f2] 86) = w2 at F0 F1 F2 B2 ⊢
     generalize wr.heap.size = gb at F0 F1 F2 ⊢
     have f0 := cell_regrown F0.out
     have f1 := cell_regrown F1.out
     have f2 := cell_regrown F2.out
     have hc := HC.out w2
     rw [HV.out] at hc
     have HC := aM hc
     clear hc
     refine wp_region_quiet_below (by kernel_rfl) (by kernel_rfl) ?_
     repeat (go_big_quiet_step (exact HC.out _ _))
     refine wpQuiet_nil ?_
     intro _ hw'
     obtain ⟨⟨dq, osq⟩, hw''⟩ := hw'
     subst hw''
     go_wp2
     go_roundg (l0.length - (i + 1))
     case measure => omega
     case rel => exact ⟨i + 1, by omega, by omega, by go_num, ⟨below_then B2.out B2.out.size (below_regrown _ _ _)⟩, ⟨by rw [← HA.out, HX.out, HV.out]; rfl⟩⟩
   ·have hi1 : i ≠ 0 := fun h => hi0 (.inl h)
    have hv : vRel x = true := by
     cases h : vRel x with
     | true => rfl
     | false => exact absurd (.inr h) hi0
    clear hi0
    obtain ⟨ad', e', k0, _, _⟩ := at_T86 (Kd.C_below HR.out BW.out) ((i - 1 : Nat) : Int) (by omega) (by omega)
    cases e'
    rw [Int.toNat_natCast] at k0
    have hrd : rd_T86 l0 ((i - 1 : Nat) : Int) = l0.getD (i - 1) z86 := by unfold rd_T86; rw [Int.toNat_natCast]
    rw [hrd] at k0
    clear hrd
    have hX : vRelsFrom l0 (l0.length - i) i = (Op.bytesLess (l0.getD (i - 1) z86).f0.toList x.f0.toList && vRelsFrom l0 (l0.length - (i + 1)) (i + 1)) := by
     rw [HX.out, hv]; simp [hi1]
    have HX := aM hX
    have HV := aM hv
    clear hX hv
    generalize (l0.getD (i - 1) z86).f0 = y at k0 HX
    have K0 : Aside0 ((wr.alloc (.cells #[.string x.f0, .int .i64 x.f1, .int .i64 x.f2] 86)).cell? (ad.add ((i - 1) * 3)) = some (.string y)) := ⟨(World.cell?_alloc_lt _ _ _ (World.block_lt_of_cell? wr _ k0)).trans k0⟩
    clear k0
    have e3 : IntKind.i64.wrap ((i : Int) - 1) = ((i - 1 : Nat) : Int) := by rw [IntKind.wrap_i64]; omega
    have hd0 : decide (0 < i) = true := by simp; omega
    have hm0 : (0 : Int) ≤ ((i - 1 : Nat) : Int) := by omega
    have hm1 : ((i - 1 : Nat) : Int) < (l0.length : Int) := by omega
    go_wp2_with fail
    clear h0 h1 h2
    generalize wr.alloc (.cells #[.string x.f0, .int .i64 x.f1, .int .i64 x.f2] 86) = w2 at F0 F1 F2 B2 K0 ⊢
    generalize wr.heap.size = gb at F0 F1 F2 ⊢
    have f0 := cell_regrown F0.out
    have f1 := cell_regrown F1.out
    have f2 := cell_regrown F2.out
    have f3 := cell_regrown K0.out
    have hc := HC.out w2
    rw [HV.out] at hc
    have HC := aM hc
    clear hc
    cases hb : Op.bytesLess y.toList x.f0.toList with
    | false =>
     refine wp_region_quiet_below (by kernel_rfl) (by kernel_rfl) ?_
     repeat (go_big_quiet_step (exact HC.out _ _))
     refine wpQuiet_nil ?_
     intro _ hw'
     obtain ⟨⟨dq, osq⟩, hw''⟩ := hw'
     subst hw''
     have HB := aM hb
     clear hb
     go_wp2
     go_ret
     exact ⟨by rw [← HA.out, HX.out, HB.out]; rfl, below_then B2.out B2.out.size (below_regrown _ _ _)⟩
    | true =>
     refine wp_region_quiet_below (by kernel_rfl) (by kernel_rfl) ?_
     repeat (go_big_quiet_step (exact HC.out _ _))
     refine wpQuiet_nil ?_
     intro _ hw'
     obtain ⟨⟨dq, osq⟩, hw''⟩ := hw'
     subst hw''
     have HB := aM hb
     clear hb
     go_wp2
     go_roundg (l0.length - (i + 1))
     case measure => omega
     case rel => exact ⟨i + 1, by omega, by omega, by go_num, ⟨below_then B2.out B2.out.size (below_regrown _ _ _)⟩, ⟨by rw [← HA.out, HX.out, HB.out]; rfl⟩⟩
  ·have hd : decide (i < l0.length) = false := decide_eq_false hlt
   have hle : l0.length ≤ i := by omega
   have HX : Aside0 (vRels l0 = decide (l0.length ≤ 4)) := ⟨by rw [← HA.out, show l0.length - i = 0 by omega]; exact decide_eq_decide.2 (by omega)⟩
   clear hlt
   go_wp2
   go_ret
   exact ⟨by rw [HX.out]; first | rfl | (simp; done) | (simp; omega), BW.out⟩


end Go.Proofs.Ytehlhbidmanbmaa.PFnExactBlockOf
