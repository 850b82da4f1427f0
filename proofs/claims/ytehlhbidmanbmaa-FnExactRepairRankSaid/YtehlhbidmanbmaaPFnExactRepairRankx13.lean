-- Laid by a program of this claim: what the functions come to, some of them proved by hand.
import Derived.Test.YtehlhbidmanbmaaPFnExactRepairRankx0
import Derived.Test.YtehlhbidmanbmaaPFnExactRepairRankx4
import Derived.Test.YtehlhbidmanbmaaPFnExactRepairRankx8
import Derived.Test.YtehlhbidmanbmaaPFnExactRepairRankx12
namespace Go.Proofs.Ytehlhbidmanbmaa.PFnExactRepairRank
open Go.RowKit Go.Proofs.YtehlhbidmanbmaaW.PrintWords Go.Proofs.YtehlhbidmanbmaaW.PrintLast Go.Proofs.YtehlhbidmanbmaaW.PrintMore
attribute [local go_sem] max2_int min2_int max_two min_two max_three min_three max_four min_four   -- for this text's walks alone
set_option linter.unusedVariables false
set_option linter.unusedSimpArgs false

/-! ### spec_BlockOf: function 27 -/
mutual
def spec_BlockOf.l0 : Nat → Int → List Int → Int → List (S86) → List (S50) → Option (List Int)
 | 0, _, _, _, _, _ => none
 | k + 1, x1, x5, x6, x247000, x247001 => if x6 < (x247001.length : Int) then ((spec_IsValidDatabase.f k x247000 x247001).bind fun t250 => (if t250 = true then ((spec_l1In.f x1 0 (wrap64 ((x247001.length : Int) - 1))).bind fun t251 => (spec_BlockOf.j1 k x1 x5 x6 t251 x247000 x247001)) else (spec_BlockOf.j1 k x1 x5 x6 false x247000 x247001))) else (spec_BlockOf.j1 k x1 x5 x6 false x247000 x247001)
def spec_BlockOf.j1 : Nat → Int → List Int → Int → Bool → List (S86) → List (S50) → Option (List Int)
 | 0, _, _, _, _, _, _ => none
 | k + 1, x1, x5, x6, x24, x247000, x247001 => if x24 = true then (if 0 ≤ x1 then (if x1 < (x247001.length : Int) then (if 0 ≤ x6 then (if x6 < (x247001.length : Int) then ((spec_HaveSameKey.f k x247000 ((rd_T50 x247001 x1).f0) ((rd_T50 x247001 x1).f1) ((rd_T50 x247001 x6).f0) ((rd_T50 x247001 x6).f1)).bind fun t254 => (if t254 = true then (if x5.length < 17592186044416 then (spec_BlockOf.l0 k x1 (x5 ++ [x6]) (wrap64 (x6 + 1)) x247000 x247001) else (none)) else (spec_BlockOf.l0 k x1 x5 (wrap64 (x6 + 1)) x247000 x247001))) else (none)) else (none)) else (none)) else (none)) else (some x5)
end
def spec_BlockOf.f (k : Nat) (l0_0 : List (S86)) (l0_1 : List (S50)) (a1 : Int) : Option (List Int) := spec_BlockOf.l0 k a1 (([] : List Int)) 0 l0_0 l0_1
theorem spec_BlockOf.mono_l : ∀ k, (∀ y0 y1 y2 y3 y4, LeO (spec_BlockOf.l0 k y0 y1 y2 y3 y4) (spec_BlockOf.l0 (k + 1) y0 y1 y2 y3 y4)) ∧ (∀ y0 y1 y2 y3 y4 y5, LeO (spec_BlockOf.j1 k y0 y1 y2 y3 y4 y5) (spec_BlockOf.j1 (k + 1) y0 y1 y2 y3 y4 y5))
 | 0 => ⟨fun _ _ _ _ _ r h => by simp [spec_BlockOf.l0] at h, fun _ _ _ _ _ _ r h => by simp [spec_BlockOf.j1] at h⟩
 | k + 1 => by
  obtain ⟨ih0, ih1⟩ := spec_BlockOf.mono_l k
  refine ⟨?_, ?_⟩
  ·intro y0 y1 y2 y3 y4
   unfold spec_BlockOf.l0
   repeat' first
   | (with_reducible exact ih0 _ _ _ _ _)
   | (with_reducible exact ih1 _ _ _ _ _ _)
   | (with_reducible exact spec_HaveSameKey.mono _ _ _ _ _ _)
   | (with_reducible exact spec_IsValidDatabase.mono _ _ _)
   | (with_reducible exact LeO.refl _)
   | (with_reducible exact LeO.none _)
   | (with_reducible refine LeO.ite ?_ ?_)
   | (with_reducible refine LeO.bind ?_ (fun _ => ?_))
   | exact ih0 _ _ _ _ _
   | exact ih1 _ _ _ _ _ _
   | exact spec_HaveSameKey.mono _ _ _ _ _ _
   | exact spec_IsValidDatabase.mono _ _ _
   | exact LeO.none _
   | refine LeO.ite ?_ ?_
   | refine LeO.bind ?_ (fun _ => ?_)
  ·intro y0 y1 y2 y3 y4 y5
   unfold spec_BlockOf.j1
   repeat' first
   | (with_reducible exact ih0 _ _ _ _ _)
   | (with_reducible exact ih1 _ _ _ _ _ _)
   | (with_reducible exact spec_HaveSameKey.mono _ _ _ _ _ _)
   | (with_reducible exact spec_IsValidDatabase.mono _ _ _)
   | (with_reducible exact LeO.refl _)
   | (with_reducible exact LeO.none _)
   | (with_reducible refine LeO.ite ?_ ?_)
   | (with_reducible refine LeO.bind ?_ (fun _ => ?_))
   | exact ih0 _ _ _ _ _
   | exact ih1 _ _ _ _ _ _
   | exact spec_HaveSameKey.mono _ _ _ _ _ _
   | exact spec_IsValidDatabase.mono _ _ _
   | exact LeO.none _
   | refine LeO.ite ?_ ?_
   | refine LeO.bind ?_ (fun _ => ?_)
theorem spec_BlockOf.mono : ∀ a0 a1 a2 k, LeO (spec_BlockOf.f k a0 a1 a2) (spec_BlockOf.f (k + 1) a0 a1 a2) := by
 intro a0 a1 a2 k
 obtain ⟨ih0, ih1⟩ := spec_BlockOf.mono_l k
 unfold spec_BlockOf.f
 repeat' first
   | (with_reducible exact ih0 _ _ _ _ _)
   | (with_reducible exact ih1 _ _ _ _ _ _)
   | (with_reducible exact spec_HaveSameKey.mono _ _ _ _ _ _)
   | (with_reducible exact spec_IsValidDatabase.mono _ _ _)
   | (with_reducible exact LeO.refl _)
   | (with_reducible exact LeO.none _)
   | (with_reducible refine LeO.ite ?_ ?_)
   | (with_reducible refine LeO.bind ?_ (fun _ => ?_))
   | exact ih0 _ _ _ _ _
   | exact ih1 _ _ _ _ _ _
   | exact spec_HaveSameKey.mono _ _ _ _ _ _
   | exact spec_IsValidDatabase.mono _ _ _
   | exact LeO.none _
   | refine LeO.ite ?_ ?_
   | refine LeO.bind ?_ (fun _ => ?_)
set_option maxHeartbeats 8000000 in
set_option maxRecDepth 100000 in
theorem spec_BlockOf.calls (k : Nat) (A0_0 : Option Addr) (c0_0 : Nat) (l0_0 : List (S86)) (A0_1 : Option Addr) (c0_1 : Nat) (l0_1 : List (S50)) (a1 : Int) (r : List Int) (w : World) (hr0_0 : Kd.C k86 w A0_0 l0_0.length l0_0) (hc0_0 : l0_0.length ≤ c0_0) (hr0_1 : Kd.C k50 w A0_1 l0_1.length l0_1) (hc0_1 : l0_1.length ≤ c0_1) (h : spec_BlockOf.f k l0_0 l0_1 a1 = some r) :
  Calls Try.prog 27 #[.agg #[.slice A0_0 l0_0.length c0_0, .slice A0_1 l0_1.length c0_1], .int .i64 a1] w fun e w' => ∃ v0_ : Value, e = .returned (v0_) ∧ Kd.R (Kd.int .i64) 3 w' w.heap.size (fun _ => True) v0_ r ∧ Below w.heap.size w w' := by
 have hu32 := Try.underlying32
 have hu50 := Try.underlying50
 have HR0_0 := aM hr0_0
 have HC0_0 := aM hc0_0
 clear hr0_0 hc0_0
 have HR0_1 := aM hr0_1
 have HC0_1 := aM hc0_1
 clear hr0_1 hc0_1
 have HB := aM (Below.refl w.heap.size w)
 have H : (spec_BlockOf.l0 k a1 (([] : List Int)) 0 l0_0 l0_1) = some r := h
 clear h
 obtain ⟨y247, hy247⟩ : ∃ y_ : List Int, y_ = (([] : List Int)) := ⟨_, rfl⟩
 replace H : (spec_BlockOf.l0 k a1 y247 0 l0_0 l0_1) = some r := by first | (rw [hy247]; with_reducible exact H) | (have H2_ := (Option.bind_some _ _).symm.trans H; rw [hy247]; with_reducible exact H2_) | (have H2_ := (Option.bind_some _ _).symm.trans H; with_reducible exact H2_) | with_reducible exact H | (rw [hy247]; exact H) | exact H
 have Ny247 := aM hy247
 clear hy247
 have H' := aM H
 clear H
 go_enter Try.func27, Try.ntmps27
 go_wp2_with (first | ((with_reducible refine gate_dst (N := 2) rfl ?_); (try (refine gate_guard (by rfl) ?_; dsimp only)); refine box_event ?hg (N := 2) ?hd (cs := #[.slice A0_0 l0_0.length c0_0, .slice A0_1 l0_1.length c0_1]) (t := 32) ?hr ?_; (case hd => rfl); (case hg => rfl); (case hr => first | (go_simp; done) | (go_simp; rfl)); intro gb246 hg w3 hbox hb; have n0_ := aM (below_step aB hb); have n1_ := aM (hbox); have n2_ := aM ((by rw [hg]; exact (below_size aB) : w.heap.size ≤ gb246)); have n3_ := aM ((by rw [hg]; exact (below_size aB) : w.heap.size ≤ gb246)); clear HB; have HB := n0_; have BK246 := n1_; have GW246 := n2_; have GE246 := n3_; clear n0_ n1_ n2_ n3_; clear hb hbox hg) | ((with_reducible refine gate_dst (N := 7) rfl ?_); (try (refine gate_guard (by rfl) ?_; dsimp only)); refine Kd.R_lit (Kd.int .i64) _ 3 ?hg (N := 7) ?hd (xs := ([] : List Int)) (inner := []) (ok := fun _ => True) (okp := fun _ => True) ?hr ?hp (fun _ hk => hk) trivial (Below.refl _ _) (Nat.le_refl _) (by simp) ?_; (case hd => rfl); (case hg => rfl); (case hr => first | (go_simp; done) | (go_simp; rfl)); (case hp => exact (Reps.none _ _)); intro v248 w4 ho5 hb hg_ hnew_; clear hg_ hnew_; (first | rw [← Ny247.out] at ho5 | (simp only [Int.reduceToNat] at ho5; rw [← Ny247.out] at ho5)); have n0_ := aM (Kd.R_lower ho5 (below_size aG)); have n1_ := aM (blk_below (g := gb246) (o := .cells #[.slice A0_0 l0_0.length c0_0, .slice A0_1 l0_1.length c0_1] 32 (0, 0)) aK hb); have n2_ := aM (below_step aG hb); clear BK246; clear HB; have HO249 := n0_; have BK246 := n1_; have HB := n2_; clear n0_ n1_ n2_; clear hb ho5))
 go_loopg [5, 6] k (fun kq v5 v6 w' => ∃ (x5_1 : List Int) (x6_1 : Int), v6 = .int .i64 x6_1 ∧ Aside0 (spec_BlockOf.l0 kq a1 x5_1 x6_1 l0_0 l0_1 = some r) ∧ Aside0 (kq ≤ k) ∧ Aside0 (Kd.R (Kd.int .i64) 3 w' w.heap.size (fun _ => True) v5 x5_1) ∧ Aside0 (w'.heap[gb246]? = some (.cells #[(.slice A0_0 l0_0.length c0_0), (.slice A0_1 l0_1.length c0_1)] 32 (0, 0))) ∧ Aside0 (Below w.heap.size w w'))
 case atStart => exact ⟨(y247), (0), (by first | rfl | (simp; done) | (simp [*]; done)), H', ⟨Nat.le_refl _⟩, ⟨aR HO249⟩, ⟨by (with_reducible repeat (first | refine blk_drewN ?_ _ | refine blk_drew ?_ | refine blk_alloc ?_ _)); exact BK246.out⟩, ⟨by repeat (first | (with_reducible first | exact HB.out | apply below_alloc | apply pw_below_drewN | apply below_drew1 | refine below_set ?_ GE246.out) | exact HB.out)⟩⟩
 case round =>
  clear H'
  try clear c2
  try clear p2
  obtain ⟨x5_1, x6_1, rfl, HA, HK1, HO_5, BK246, HB⟩ := hrel
  cases gk with
  | zero => exact absurd HA.out (by simp [spec_BlockOf.l0])
  | succ k1 =>
   have H := HA.out
   clear HA
   simp only [spec_BlockOf.l0] at H
   have HC6 := aM H
   clear H
   go_upto_region 3 with (fail)
   go_cut [24] (fun v24 wc => ∃ (kq : Nat) (x24_5 : Bool), v24 = .bool x24_5 ∧ Aside0 (spec_BlockOf.j1 kq a1 x5_1 x6_1 x24_5 l0_0 l0_1 = some r) ∧ Aside0 (kq ≤ k1) ∧ Aside0 (Kd.R (Kd.int .i64) 3 wc w.heap.size (fun _ => True) u5 x5_1) ∧ Aside0 (wc.heap[gb246]? = some (.cells #[(.slice A0_0 l0_0.length c0_0), (.slice A0_1 l0_1.length c0_1)] 32 (0, 0))) ∧ Aside0 (Below w.heap.size w wc))
   case first =>
    have H := HC6.out
    clear HC6
    by_cases c7 : x6_1 < (l0_1.length : Int)
    ·rw [if_pos c7] at H
     have c7b0 : decide (x6_1 < (l0_1.length : Int)) = true := decide_eq_true c7
     clear c7
     (first | rw [c7b0] | (simp only [i64_w, i32_w]; rw [c7b0]) | skip)
     replace H := Option.bind_eq_some_iff.mp H
     obtain ⟨t250, A80, H⟩ := H
     replace H : (if t250 = true then ((spec_l1In.f a1 0 (wrap64 ((l0_1.length : Int) - 1))).bind fun t251 => (spec_BlockOf.j1 k1 a1 x5_1 x6_1 t251 l0_0 l0_1)) else (spec_BlockOf.j1 k1 a1 x5_1 x6_1 false l0_0 l0_1)) = some r := H
     have A8 := aM A80
     clear A80
     by_cases c9 : t250 = true
     ·subst c9
      have H1 : ((spec_l1In.f a1 0 (wrap64 ((l0_1.length : Int) - 1))).bind fun t251 => (spec_BlockOf.j1 k1 a1 x5_1 x6_1 t251 l0_0 l0_1)) = some r := by rw [if_pos rfl] at H; exact H
      clear H
      have H := H1
      clear H1
      replace H := Option.bind_eq_some_iff.mp H
      obtain ⟨t251, A100, H⟩ := H
      replace H : (spec_BlockOf.j1 k1 a1 x5_1 x6_1 t251 l0_0 l0_1) = some r := H
      have A10 := aM A100
      clear A100
      have H' := aM H
      clear H
      have hcz11_0 : wr.cell? ⟨gb246, 0, none⟩ = some (.slice A0_0 l0_0.length c0_0) := (blk_cell BK246.out 0).trans rfl
      have hcz11_1 : wr.cell? ⟨gb246, 1, none⟩ = some (.slice A0_1 l0_1.length c0_1) := (blk_cell BK246.out 1).trans rfl
      have hfz11_0 := blk_frozen BK246.out 0
      have hfz11_1 := blk_frozen BK246.out 1
      go_wp2_with (first | (go_at_call 60; (with_reducible refine (spec_IsValidDatabase.calls k1 _ _ l0_0 _ _ l0_1 true _ ?side1 ?side2 ?side3 ?side4 A8.out).mono ?_); (case side1 => exact aC); (case side2 => exact HC0_0.out); (case side3 => exact aC); (case side4 => exact HC0_1.out); rintro e w12 ⟨rfl, hb⟩; have n0_ := aM (Kd.R_below (aR HO_5) hb); have n1_ := aM (blk_below (g := gb246) (o := .cells #[.slice A0_0 l0_0.length c0_0, .slice A0_1 l0_1.length c0_1] 32 (0, 0)) aK hb); have n2_ := aM (below_step aG hb); clear HO_5; clear BK246; clear HB; have HO_5 := n0_; have BK246 := n1_; have HB := n2_; clear n0_ n1_ n2_; (try clear hb); (try clear hb2); (try clear hk); (try clear hi); have hcz13_0 : w12.cell? ⟨gb246, 0, none⟩ = some (.slice A0_0 l0_0.length c0_0) := (blk_cell BK246.out 0).trans rfl; have hcz13_1 : w12.cell? ⟨gb246, 1, none⟩ = some (.slice A0_1 l0_1.length c0_1) := (blk_cell BK246.out 1).trans rfl; have hfz13_0 := blk_frozen BK246.out 0; have hfz13_1 := blk_frozen BK246.out 1) | (go_at_call 64; (with_reducible refine (spec_l1In.calls a1 0 (wrap64 ((l0_1.length : Int) - 1)) t251 _ A10.out).mono ?_); rintro e w' ⟨rfl, ⟨nd, rfl⟩⟩))
      go_meet
      case rel => exact ⟨_, (t251), (by first | rfl | (simp; done) | (simp [*]; done)), H', ⟨by have := HK1.out; first | omega | exact Nat.le_refl _⟩, ⟨aR HO_5⟩, ⟨by (with_reducible repeat (first | refine blk_drewN ?_ _ | refine blk_drew ?_ | refine blk_alloc ?_ _)); exact BK246.out⟩, ⟨by repeat (first | (with_reducible first | exact HB.out | apply below_alloc | apply pw_below_drewN | apply below_drew1 | refine below_set ?_ GE246.out) | exact HB.out)⟩⟩
     ·replace c9 := Bool.eq_false_iff.mpr c9
      subst c9
      have H1 : (spec_BlockOf.j1 k1 a1 x5_1 x6_1 false l0_0 l0_1) = some r := by rw [if_neg (show ¬ (false = true) by decide)] at H; exact H
      clear H
      have H := H1
      clear H1
      have H' := aM H
      clear H
      have hcz14_0 : wr.cell? ⟨gb246, 0, none⟩ = some (.slice A0_0 l0_0.length c0_0) := (blk_cell BK246.out 0).trans rfl
      have hcz14_1 : wr.cell? ⟨gb246, 1, none⟩ = some (.slice A0_1 l0_1.length c0_1) := (blk_cell BK246.out 1).trans rfl
      have hfz14_0 := blk_frozen BK246.out 0
      have hfz14_1 := blk_frozen BK246.out 1
      go_wp2_with (first | (go_at_call 60; (with_reducible refine (spec_IsValidDatabase.calls k1 _ _ l0_0 _ _ l0_1 false _ ?side1 ?side2 ?side3 ?side4 A8.out).mono ?_); (case side1 => exact aC); (case side2 => exact HC0_0.out); (case side3 => exact aC); (case side4 => exact HC0_1.out); rintro e w15 ⟨rfl, hb⟩; have n0_ := aM (Kd.R_below (aR HO_5) hb); have n1_ := aM (blk_below (g := gb246) (o := .cells #[.slice A0_0 l0_0.length c0_0, .slice A0_1 l0_1.length c0_1] 32 (0, 0)) aK hb); have n2_ := aM (below_step aG hb); clear HO_5; clear BK246; clear HB; have HO_5 := n0_; have BK246 := n1_; have HB := n2_; clear n0_ n1_ n2_; (try clear hb); (try clear hb2); (try clear hk); (try clear hi)))
      go_meet
      case rel => exact ⟨_, (false), (by first | rfl | (simp; done) | (simp [*]; done)), H', ⟨by have := HK1.out; first | omega | exact Nat.le_refl _⟩, ⟨aR HO_5⟩, ⟨by (with_reducible repeat (first | refine blk_drewN ?_ _ | refine blk_drew ?_ | refine blk_alloc ?_ _)); exact BK246.out⟩, ⟨by repeat (first | (with_reducible first | exact HB.out | apply below_alloc | apply pw_below_drewN | apply below_drew1 | refine below_set ?_ GE246.out) | exact HB.out)⟩⟩
    ·rw [if_neg c7] at H
     have c7b0 : decide (x6_1 < (l0_1.length : Int)) = false := decide_eq_false c7
     clear c7
     (first | rw [c7b0] | (simp only [i64_w, i32_w]; rw [c7b0]) | skip)
     have H' := aM H
     clear H
     have hcz16_0 : wr.cell? ⟨gb246, 0, none⟩ = some (.slice A0_0 l0_0.length c0_0) := (blk_cell BK246.out 0).trans rfl
     have hcz16_1 : wr.cell? ⟨gb246, 1, none⟩ = some (.slice A0_1 l0_1.length c0_1) := (blk_cell BK246.out 1).trans rfl
     have hfz16_0 := blk_frozen BK246.out 0
     have hfz16_1 := blk_frozen BK246.out 1
     go_wp2
     go_meet
     case rel => exact ⟨_, (false), (by first | rfl | (simp; done) | (simp [*]; done)), H', ⟨by have := HK1.out; first | omega | exact Nat.le_refl _⟩, ⟨aR HO_5⟩, ⟨by (with_reducible repeat (first | refine blk_drewN ?_ _ | refine blk_drew ?_ | refine blk_alloc ?_ _)); exact BK246.out⟩, ⟨by repeat (first | (with_reducible first | exact HB.out | apply below_alloc | apply pw_below_drewN | apply below_drew1 | refine below_set ?_ GE246.out) | exact HB.out)⟩⟩
   case rest =>
    clear HC6
    try clear c2
    try clear p2
    try clear p6
    try clear c7
    try clear c7b0
    try clear c9
    try clear hcz11_0
    try clear hcz11_1
    try clear hcz13_0
    try clear hcz13_1
    try clear hcz14_0
    try clear hcz14_1
    try clear hcz16_0
    try clear hcz16_1
    try clear hfz11_0
    try clear hfz11_1
    try clear hfz13_0
    try clear hfz13_1
    try clear hfz14_0
    try clear hfz14_1
    try clear hfz16_0
    try clear hfz16_1
    try clear p2
    obtain ⟨kq, x24_5, rfl, HA, HJ5, HO_5, BK246, HB⟩ := hcut
    cases kq with
    | zero => exact absurd HA.out (by simp [spec_BlockOf.j1])
    | succ kj5 =>
     have H := HA.out
     clear HA
     simp only [spec_BlockOf.j1] at H
     by_cases c17 : x24_5 = true
     ·subst c17
      have H1 : (if 0 ≤ a1 then (if a1 < (l0_1.length : Int) then (if 0 ≤ x6_1 then (if x6_1 < (l0_1.length : Int) then ((spec_HaveSameKey.f kj5 l0_0 ((rd_T50 l0_1 a1).f0) ((rd_T50 l0_1 a1).f1) ((rd_T50 l0_1 x6_1).f0) ((rd_T50 l0_1 x6_1).f1)).bind fun t254 => (if t254 = true then (if x5_1.length < 17592186044416 then (spec_BlockOf.l0 kj5 a1 (x5_1 ++ [x6_1]) (wrap64 (x6_1 + 1)) l0_0 l0_1) else (none)) else (spec_BlockOf.l0 kj5 a1 x5_1 (wrap64 (x6_1 + 1)) l0_0 l0_1))) else (none)) else (none)) else (none)) else (none)) = some r := by rw [if_pos rfl] at H; exact H
      clear H
      have H := H1
      clear H1
      by_cases c18 : 0 ≤ a1
      ·rw [if_pos c18] at H
       have c18b0 : decide (0 ≤ a1) = true := decide_eq_true c18
       clear c18
       by_cases c19 : a1 < (l0_1.length : Int)
       ·rw [if_pos c19] at H
        have c19b0 : decide (a1 < (l0_1.length : Int)) = true := decide_eq_true c19
        clear c19
        by_cases c20 : 0 ≤ x6_1
        ·rw [if_pos c20] at H
         have c20b0 : decide (0 ≤ x6_1) = true := decide_eq_true c20
         clear c20
         by_cases c21 : x6_1 < (l0_1.length : Int)
         ·rw [if_pos c21] at H
          have c21b0 : decide (x6_1 < (l0_1.length : Int)) = true := decide_eq_true c21
          clear c21
          replace H := Option.bind_eq_some_iff.mp H
          obtain ⟨t254, A220, H⟩ := H
          replace H : (if t254 = true then (if x5_1.length < 17592186044416 then (spec_BlockOf.l0 kj5 a1 (x5_1 ++ [x6_1]) (wrap64 (x6_1 + 1)) l0_0 l0_1) else (none)) else (spec_BlockOf.l0 kj5 a1 x5_1 (wrap64 (x6_1 + 1)) l0_0 l0_1)) = some r := H
          have A22 := aM A220
          clear A220
          by_cases c23 : t254 = true
          ·subst c23
           have H1 : (if x5_1.length < 17592186044416 then (spec_BlockOf.l0 kj5 a1 (x5_1 ++ [x6_1]) (wrap64 (x6_1 + 1)) l0_0 l0_1) else (none)) = some r := by rw [if_pos rfl] at H; exact H
           clear H
           have H := H1
           clear H1
           by_cases c24 : x5_1.length < 17592186044416
           ·rw [if_pos c24] at H
            have LMc24 := aM c24
            clear c24
            obtain ⟨y255, hy255⟩ : ∃ y_ : List Int, y_ = (x5_1 ++ [x6_1]) := ⟨_, rfl⟩
            replace H : (spec_BlockOf.l0 kj5 a1 y255 (wrap64 (x6_1 + 1)) l0_0 l0_1) = some r := by first | (rw [hy255]; with_reducible exact H) | (have H2_ := (Option.bind_some _ _).symm.trans H; rw [hy255]; with_reducible exact H2_) | (have H2_ := (Option.bind_some _ _).symm.trans H; with_reducible exact H2_) | with_reducible exact H | (rw [hy255]; exact H) | exact H
            have Ny255 := aM hy255
            clear hy255
            have H' := aM H
            clear H
            try go_wp2
            have n0_ := aM (Kd.R_drew HO_5.out)
            have n1_ := aM (blk_drew BK246.out)
            have n2_ := aM (below_drew1 HB.out)
            clear HO_5
            clear BK246
            clear HB
            have HO_5 := n0_
            have BK246 := n1_
            have HB := n2_
            clear n0_ n1_ n2_
            have p252 : 0 ≤ (a1 : Int) := aD
            have q252 : a1 < (l0_1.length : Int) := aD
            obtain ⟨ad252, A252_1, c252_1, e252, hx252_0, hx252_1, hl252_1, hi252_1⟩ := at_T50 HR0_1.out a1 p252 q252
            have hw252_1 := hx252_1
            have hw252_0 := hx252_0
            cases e252
            replace hx252_0 := (HB.out.cell (World.block_lt_of_cell? w _ hx252_0)).trans hx252_0
            replace hx252_1 := (HB.out.cell (World.block_lt_of_cell? w _ hx252_1)).trans hx252_1
            have HR252_1 := aM hi252_1
            have HC252_1 := aM hl252_1
            clear hi252_1 hl252_1
            replace p252 := eq_true p252
            replace q252 := eq_true q252
            have p253 : 0 ≤ (x6_1 : Int) := aD
            have q253 : x6_1 < (l0_1.length : Int) := aD
            obtain ⟨ad253, A253_1, c253_1, e253, hx253_0, hx253_1, hl253_1, hi253_1⟩ := at_T50 HR0_1.out x6_1 p253 q253
            have hw253_1 := hx253_1
            have hw253_0 := hx253_0
            obtain rfl : ad252 = ad253 := (by injection e253)
            replace hx253_0 := (HB.out.cell (World.block_lt_of_cell? w _ hx253_0)).trans hx253_0
            replace hx253_1 := (HB.out.cell (World.block_lt_of_cell? w _ hx253_1)).trans hx253_1
            have HR253_1 := aM hi253_1
            have HC253_1 := aM hl253_1
            clear hi253_1 hl253_1
            replace p253 := eq_true p253
            replace q253 := eq_true q253
            have qf0_ : ∀ (d_ : Nat) (os_ : Array Obj), (Go.Sort.grow (redrawn wc d_) os_).cell? ⟨gb246, 0, none⟩ = some (.slice A0_0 l0_0.length c0_0) := cell_regrown_drew ((blk_cell BK246.out 0).trans rfl)
            have qf1_ : ∀ (d_ : Nat) (os_ : Array Obj), (Go.Sort.grow (redrawn wc d_) os_).cell? ⟨gb246, 1, none⟩ = some (.slice (some ad252) l0_1.length c0_1) := cell_regrown_drew ((blk_cell BK246.out 1).trans rfl)
            have qf2_ : ∀ (d_ : Nat) (os_ : Array Obj), (Go.Sort.grow (redrawn wc d_) os_).cell? (ad252.add ((a1).toNat * 2)) = some (.int .i64 ((rd_T50 l0_1 a1).f0)) := cell_regrown_drew ((pw_cell_below HB.out hw252_0))
            have qf3_ : ∀ (d_ : Nat) (os_ : Array Obj), (Go.Sort.grow (redrawn wc d_) os_).cell? ⟨(ad252.add ((a1).toNat * 2)).block, (ad252.add ((a1).toNat * 2)).off + 1, none⟩ = some (.slice A252_1 ((rd_T50 l0_1 a1).f1).length c252_1) := cell_regrown_drew ((pw_cell_below HB.out hw252_1))
            have qf4_ : ∀ (d_ : Nat) (os_ : Array Obj), (Go.Sort.grow (redrawn wc d_) os_).cell? (ad252.add ((x6_1).toNat * 2)) = some (.int .i64 ((rd_T50 l0_1 x6_1).f0)) := cell_regrown_drew ((pw_cell_below HB.out hw253_0))
            have qf5_ : ∀ (d_ : Nat) (os_ : Array Obj), (Go.Sort.grow (redrawn wc d_) os_).cell? ⟨(ad252.add ((x6_1).toNat * 2)).block, (ad252.add ((x6_1).toNat * 2)).off + 1, none⟩ = some (.slice A253_1 ((rd_T50 l0_1 x6_1).f1).length c253_1) := cell_regrown_drew ((pw_cell_below HB.out hw253_1))
            have HBQ_ := aM (below_class HB.out)
            have HBS_ := HB
            clear HB
            refine wp_region_quiet_below (by kernel_rfl) (by kernel_rfl) ?_
            repeat (go_big_quiet_step ((refine with_class HBQ_.out ?_; intro hbz_; have HB := aM hbz_; clear hbz_; first | (go_at_call 65; apply Calls.regrown_of; with_reducible refine spec_HaveSameKey.calls kj5 _ _ l0_0 ((rd_T50 l0_1 a1).f0) _ _ ((rd_T50 l0_1 a1).f1) ((rd_T50 l0_1 x6_1).f0) _ _ ((rd_T50 l0_1 x6_1).f1) true _ ?side1 ?side2 ?side3 ?side4 ?side5 ?side6 A22.out; (case side1 => repeat (first | exact (Kd.C_below HR0_0.out HB.out) | exact (Kd.C_below HR252_0.out HB.out) | exact (Kd.C_below HR253_0.out HB.out) | (with_reducible refine Kd.C_alloc ?_ _) | (with_reducible refine Kd.C_drewN ?_ _) | (with_reducible refine Kd.C_drew ?_))); (case side2 => first | exact HC0_0.out | exact HC252_0.out | exact HC253_0.out); (case side3 => repeat (first | exact (Kd.C_below HR252_1.out HB.out) | exact (Kd.C_below HR253_1.out HB.out) | (with_reducible refine Kd.C_alloc ?_ _) | (with_reducible refine Kd.C_drewN ?_ _) | (with_reducible refine Kd.C_drew ?_))); (case side4 => first | exact HC252_1.out | exact HC253_1.out); (case side5 => repeat (first | exact (Kd.C_below HR253_1.out HB.out) | exact (Kd.C_below HR252_1.out HB.out) | (with_reducible refine Kd.C_alloc ?_ _) | (with_reducible refine Kd.C_drewN ?_ _) | (with_reducible refine Kd.C_drew ?_))); (case side6 => first | exact HC253_1.out | exact HC252_1.out)))))
            refine wpQuiet_nil ?_
            intro _ hw_
            obtain ⟨⟨dq_, osq_⟩, hw2_⟩ := hw_
            subst hw2_
            have hb := below_regrown_drew wc dq_ osq_
            have HB := HBS_
            clear HBS_
            clear qf0_ qf1_ qf2_ qf3_ qf4_ qf5_
            clear HBQ_
            generalize Go.Sort.grow (redrawn wc dq_) osq_ = w26 at hb ⊢
            generalize wc.drew = wd_ at HO_5 BK246 HB hb
            have n0_ := aM (Kd.R_below (aR HO_5) hb)
            have n1_ := aM (blk_below (g := gb246) (o := .cells #[.slice A0_0 l0_0.length c0_0, .slice (some ad252) l0_1.length c0_1] 32 (0, 0)) aK hb)
            have n2_ := aM (below_step aG hb)
            clear HO_5
            clear BK246
            clear HB
            have HO_5 := n0_
            have BK246 := n1_
            have HB := n2_
            clear n0_ n1_ n2_
            (try clear hb)
            (try clear hb2)
            (try clear hk)
            (try clear hi)
            try go_wp2_with (first | ((with_reducible refine gate_builtin (b := .append) (xs := #[.tmp 40, .tmp 42]) rfl ?_); (try (refine gate_guard (by rfl) ?_; dsimp only)); at_builtin; refine Kd.R_append (Kd.int .i64) (w0 := w) w.heap.size rfl (.tmp 40) (.tmp 42) 26 3 (.int .i64 0) 8 rfl Try.underlying26 info3 rfl (by decide) (by omega) u5 x5_1 x6_1 [.int .i64 x6_1] (fun _ => True) (fun _ => False) rfl rfl ?aP (fun _ hk => hk.elim) ?aF ?aO ?aB ?aS ?aL ?_; (case aP => exact rfl); (case aB => exact aG); (case aF => exact (fun _ _ => trivial)); (case aO => exact (aR HO_5)); (case aS => exact (below_size aG)); (case aL => have := LMc24.out; omega); intro v256 w27 ho hb hg hat; rw [← Ny255.out] at ho; have n0_ := aM (blk_grown (g := gb246) (o := .cells #[.slice A0_0 l0_0.length c0_0, .slice (some ad252) l0_1.length c0_1] 32 (0, 0)) aK hg (Kd.R_ne HO_5.out BK246.out (by decide))); have n1_ := aM (hb); have n2_ := aM (ho); clear BK246; clear HB; clear HO_5; have BK246 := n0_; have HB := n1_; have HO257 := n2_; clear n0_ n1_ n2_; clear ho hb hg hat))
            go_roundg kj5
            case measure => have := HK1.out; have := HJ5.out; omega
            case rel => exact ⟨(y255), (wrap64 (x6_1 + 1)), (by first | rfl | (simp; done) | (simp [*]; done)), H', ⟨by have := HK1.out; have := HJ5.out; omega⟩, ⟨aR HO257⟩, ⟨by (with_reducible repeat (first | refine blk_drewN ?_ _ | refine blk_drew ?_ | refine blk_alloc ?_ _)); exact BK246.out⟩, ⟨by repeat (first | (with_reducible first | exact HB.out | apply below_alloc | apply pw_below_drewN | apply below_drew1 | refine below_set ?_ GE246.out) | exact HB.out)⟩⟩
           ·rw [if_neg c24] at H
            exact absurd H (by simp)
          ·replace c23 := Bool.eq_false_iff.mpr c23
           subst c23
           have H1 : (spec_BlockOf.l0 kj5 a1 x5_1 (wrap64 (x6_1 + 1)) l0_0 l0_1) = some r := by rw [if_neg (show ¬ (false = true) by decide)] at H; exact H
           clear H
           have H := H1
           clear H1
           have H' := aM H
           clear H
           try go_wp2
           have n0_ := aM (Kd.R_drew HO_5.out)
           have n1_ := aM (blk_drew BK246.out)
           have n2_ := aM (below_drew1 HB.out)
           clear HO_5
           clear BK246
           clear HB
           have HO_5 := n0_
           have BK246 := n1_
           have HB := n2_
           clear n0_ n1_ n2_
           have p252 : 0 ≤ (a1 : Int) := aD
           have q252 : a1 < (l0_1.length : Int) := aD
           obtain ⟨ad252, A252_1, c252_1, e252, hx252_0, hx252_1, hl252_1, hi252_1⟩ := at_T50 HR0_1.out a1 p252 q252
           have hw252_1 := hx252_1
           have hw252_0 := hx252_0
           cases e252
           replace hx252_0 := (HB.out.cell (World.block_lt_of_cell? w _ hx252_0)).trans hx252_0
           replace hx252_1 := (HB.out.cell (World.block_lt_of_cell? w _ hx252_1)).trans hx252_1
           have HR252_1 := aM hi252_1
           have HC252_1 := aM hl252_1
           clear hi252_1 hl252_1
           replace p252 := eq_true p252
           replace q252 := eq_true q252
           have p253 : 0 ≤ (x6_1 : Int) := aD
           have q253 : x6_1 < (l0_1.length : Int) := aD
           obtain ⟨ad253, A253_1, c253_1, e253, hx253_0, hx253_1, hl253_1, hi253_1⟩ := at_T50 HR0_1.out x6_1 p253 q253
           have hw253_1 := hx253_1
           have hw253_0 := hx253_0
           obtain rfl : ad252 = ad253 := (by injection e253)
           replace hx253_0 := (HB.out.cell (World.block_lt_of_cell? w _ hx253_0)).trans hx253_0
           replace hx253_1 := (HB.out.cell (World.block_lt_of_cell? w _ hx253_1)).trans hx253_1
           have HR253_1 := aM hi253_1
           have HC253_1 := aM hl253_1
           clear hi253_1 hl253_1
           replace p253 := eq_true p253
           replace q253 := eq_true q253
           have qf0_ : ∀ (d_ : Nat) (os_ : Array Obj), (Go.Sort.grow (redrawn wc d_) os_).cell? ⟨gb246, 0, none⟩ = some (.slice A0_0 l0_0.length c0_0) := cell_regrown_drew ((blk_cell BK246.out 0).trans rfl)
           have qf1_ : ∀ (d_ : Nat) (os_ : Array Obj), (Go.Sort.grow (redrawn wc d_) os_).cell? ⟨gb246, 1, none⟩ = some (.slice (some ad252) l0_1.length c0_1) := cell_regrown_drew ((blk_cell BK246.out 1).trans rfl)
           have qf2_ : ∀ (d_ : Nat) (os_ : Array Obj), (Go.Sort.grow (redrawn wc d_) os_).cell? (ad252.add ((a1).toNat * 2)) = some (.int .i64 ((rd_T50 l0_1 a1).f0)) := cell_regrown_drew ((pw_cell_below HB.out hw252_0))
           have qf3_ : ∀ (d_ : Nat) (os_ : Array Obj), (Go.Sort.grow (redrawn wc d_) os_).cell? ⟨(ad252.add ((a1).toNat * 2)).block, (ad252.add ((a1).toNat * 2)).off + 1, none⟩ = some (.slice A252_1 ((rd_T50 l0_1 a1).f1).length c252_1) := cell_regrown_drew ((pw_cell_below HB.out hw252_1))
           have qf4_ : ∀ (d_ : Nat) (os_ : Array Obj), (Go.Sort.grow (redrawn wc d_) os_).cell? (ad252.add ((x6_1).toNat * 2)) = some (.int .i64 ((rd_T50 l0_1 x6_1).f0)) := cell_regrown_drew ((pw_cell_below HB.out hw253_0))
           have qf5_ : ∀ (d_ : Nat) (os_ : Array Obj), (Go.Sort.grow (redrawn wc d_) os_).cell? ⟨(ad252.add ((x6_1).toNat * 2)).block, (ad252.add ((x6_1).toNat * 2)).off + 1, none⟩ = some (.slice A253_1 ((rd_T50 l0_1 x6_1).f1).length c253_1) := cell_regrown_drew ((pw_cell_below HB.out hw253_1))
           have HBQ_ := aM (below_class HB.out)
           have HBS_ := HB
           clear HB
           refine wp_region_quiet_below (by kernel_rfl) (by kernel_rfl) ?_
           repeat (go_big_quiet_step ((refine with_class HBQ_.out ?_; intro hbz_; have HB := aM hbz_; clear hbz_; first | (go_at_call 65; apply Calls.regrown_of; with_reducible refine spec_HaveSameKey.calls kj5 _ _ l0_0 ((rd_T50 l0_1 a1).f0) _ _ ((rd_T50 l0_1 a1).f1) ((rd_T50 l0_1 x6_1).f0) _ _ ((rd_T50 l0_1 x6_1).f1) false _ ?side1 ?side2 ?side3 ?side4 ?side5 ?side6 A22.out; (case side1 => repeat (first | exact (Kd.C_below HR0_0.out HB.out) | exact (Kd.C_below HR252_0.out HB.out) | exact (Kd.C_below HR253_0.out HB.out) | (with_reducible refine Kd.C_alloc ?_ _) | (with_reducible refine Kd.C_drewN ?_ _) | (with_reducible refine Kd.C_drew ?_))); (case side2 => first | exact HC0_0.out | exact HC252_0.out | exact HC253_0.out); (case side3 => repeat (first | exact (Kd.C_below HR252_1.out HB.out) | exact (Kd.C_below HR253_1.out HB.out) | (with_reducible refine Kd.C_alloc ?_ _) | (with_reducible refine Kd.C_drewN ?_ _) | (with_reducible refine Kd.C_drew ?_))); (case side4 => first | exact HC252_1.out | exact HC253_1.out); (case side5 => repeat (first | exact (Kd.C_below HR253_1.out HB.out) | exact (Kd.C_below HR252_1.out HB.out) | (with_reducible refine Kd.C_alloc ?_ _) | (with_reducible refine Kd.C_drewN ?_ _) | (with_reducible refine Kd.C_drew ?_))); (case side6 => first | exact HC253_1.out | exact HC252_1.out)))))
           refine wpQuiet_nil ?_
           intro _ hw_
           obtain ⟨⟨dq_, osq_⟩, hw2_⟩ := hw_
           subst hw2_
           have hb := below_regrown_drew wc dq_ osq_
           have HB := HBS_
           clear HBS_
           clear qf0_ qf1_ qf2_ qf3_ qf4_ qf5_
           clear HBQ_
           generalize Go.Sort.grow (redrawn wc dq_) osq_ = w29 at hb ⊢
           generalize wc.drew = wd_ at HO_5 BK246 HB hb
           have n0_ := aM (Kd.R_below (aR HO_5) hb)
           have n1_ := aM (blk_below (g := gb246) (o := .cells #[.slice A0_0 l0_0.length c0_0, .slice (some ad252) l0_1.length c0_1] 32 (0, 0)) aK hb)
           have n2_ := aM (below_step aG hb)
           clear HO_5
           clear BK246
           clear HB
           have HO_5 := n0_
           have BK246 := n1_
           have HB := n2_
           clear n0_ n1_ n2_
           (try clear hb)
           (try clear hb2)
           (try clear hk)
           (try clear hi)
           try go_wp2
           go_roundg kj5
           case measure => have := HK1.out; have := HJ5.out; omega
           case rel => exact ⟨(x5_1), (wrap64 (x6_1 + 1)), (by first | rfl | (simp; done) | (simp [*]; done)), H', ⟨by have := HK1.out; have := HJ5.out; omega⟩, ⟨aR HO_5⟩, ⟨by (with_reducible repeat (first | refine blk_drewN ?_ _ | refine blk_drew ?_ | refine blk_alloc ?_ _)); exact BK246.out⟩, ⟨by repeat (first | (with_reducible first | exact HB.out | apply below_alloc | apply pw_below_drewN | apply below_drew1 | refine below_set ?_ GE246.out) | exact HB.out)⟩⟩
         ·rw [if_neg c21] at H
          exact absurd H (by simp)
        ·rw [if_neg c20] at H
         exact absurd H (by simp)
       ·rw [if_neg c19] at H
        exact absurd H (by simp)
      ·rw [if_neg c18] at H
       exact absurd H (by simp)
     ·replace c17 := Bool.eq_false_iff.mpr c17
      subst c17
      have H1 : (some x5_1) = some r := by rw [if_neg (show ¬ (false = true) by decide)] at H; exact H
      clear H
      have H := H1
      clear H1
      obtain rfl := Option.some.inj H
      go_wp2
      go_ret
      exact ⟨_, by first | rfl | (simp [errW_none, errW_some] <;> rfl) | (simp [*, errW_none, errW_some] <;> rfl), aR HO_5, by repeat (first | (with_reducible first | exact HB.out | apply below_alloc | apply pw_below_drewN | apply below_drew1 | refine below_set ?_ GE246.out) | exact HB.out)⟩

end Go.Proofs.Ytehlhbidmanbmaa.PFnExactRepairRank
