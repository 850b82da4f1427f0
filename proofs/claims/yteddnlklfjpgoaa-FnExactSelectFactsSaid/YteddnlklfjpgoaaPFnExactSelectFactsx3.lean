-- Laid by a program of this claim: what the functions come to, some of them proved by hand.
import Derived.Test.YteddnlklfjpgoaaPFnExactSelectFactsx0
import Derived.Test.YteddnlklfjpgoaaPFnExactSelectFactsx2
namespace Go.Proofs.Yteddnlklfjpgoaa.PFnExactSelectFacts
open Go.RowKit Go.Proofs.YteddnlklfjpgoaaW.PrintWords Go.Proofs.YteddnlklfjpgoaaW.PrintLast Go.Proofs.YteddnlklfjpgoaaW.PrintMore
attribute [local go_sem] max2_int min2_int max_two min_two max_three min_three max_four min_four   -- for this text's walks alone
set_option linter.unusedVariables false
set_option linter.unusedSimpArgs false

/-! ### spec_SelectFacts: function 8 -/
mutual
def spec_SelectFacts.j0 : Nat → List Int → Bool → List (S74) → List (S45) → Option ((List (S74)) × (List (S45)) × Bool)
 | 0, _, _, _, _ => none
 | k + 1, x1, x17, x143000, x143001 => if x17 = true then (some (([] : List (S74)), ([] : List (S45)), false)) else ((some (([] : List (S74)) : List (S74))).bind fun y146 => (if y146.length + x143000.length < 4398046511104 then (spec_SelectFacts.l0 k x1 0 x143000 x143001 (y146 ++ x143000) ([] : List (S45))) else (none)))
def spec_SelectFacts.l0 : Nat → List Int → Int → List (S74) → List (S45) → List (S74) → List (S45) → Option ((List (S74)) × (List (S45)) × Bool)
 | 0, _, _, _, _, _, _ => none
 | k + 1, x1, x7, x143000, x143001, x153000, x153001 => if x7 < (x1.length : Int) then (if 0 ≤ x7 then (if 0 ≤ (rd x1 x7) then (if (rd x1 x7) < (x143001.length : Int) then ((some (([] : List Int) : List Int)).bind fun y156 => (if y156.length + ((rd_T45 x143001 (rd x1 x7)).f1).length < 17592186044416 then (if x153001.length < 4398046511104 then (spec_SelectFacts.l0 k x1 (wrap64 (x7 + 1)) x143000 x143001 x153000 (x153001 ++ [(⟨(rd_T45 x143001 (rd x1 x7)).f0, (y156 ++ ((rd_T45 x143001 (rd x1 x7)).f1))⟩ : S45)])) else (none)) else (none))) else (none)) else (none)) else (none)) else (some (x153000, x153001, true))
end
def spec_SelectFacts.f (k : Nat) (l0_0 : List (S74)) (l0_1 : List (S45)) (l1 : List Int) : Option ((List (S74)) × (List (S45)) × Bool) := (spec_IsValidDatabase.f k l0_0 l0_1).bind fun t144 => (if t144 = true then ((spec_l4Set.f k l0_0 l0_1 l1).bind fun t145 => (spec_SelectFacts.j0 k l1 (!t145) l0_0 l0_1)) else (spec_SelectFacts.j0 k l1 true l0_0 l0_1))
def spec_SelectFacts.T7 : Bool × List (List Nat × List Nat) := (true, [([], []), ([0], [0]), ([], []), ([], []), ([2, 3], [2, 3]), ([4], [4]), ([1, 5], [1, 5]), ([6], [6]), ([], []), ([8, 7, 0, 1, 2, 3, 4, 5, 6, 7, 8], [7, 8])])
def spec_SelectFacts.B7 : List Nat := [0, 1, 0, 0, 12, 28, 63, 127, 0, 511]
theorem spec_SelectFacts.tab7 : rtab .any (opsOf Try.f8 7) = spec_SelectFacts.T7 := by kernel_rfl
theorem spec_SelectFacts.bits7 : waitsOk spec_SelectFacts.T7.2 spec_SelectFacts.B7 = true := by kernel_rfl
def spec_SelectFacts.T8 : Bool × List (List Nat × List Nat) := (true, [([], []), ([0], [0]), ([], []), ([2], [2]), ([], []), ([], []), ([5], [5]), ([4, 6], [4, 6]), ([3, 7], [3, 7]), ([8], [8]), ([1, 9, 7], [1, 9]), ([0, 1, 2, 3, 4, 5, 6, 7, 8, 9, 10], []), ([11, 10, 10, 0, 1, 2, 3, 4, 5, 6, 7, 8, 9, 10], [10, 11])])
def spec_SelectFacts.B8 : List Nat := [0, 1, 0, 4, 0, 0, 32, 112, 252, 508, 1023, 2047, 4095]
theorem spec_SelectFacts.tab8 : rtab .any (opsOf Try.f8 8) = spec_SelectFacts.T8 := by kernel_rfl
theorem spec_SelectFacts.bits8 : waitsOk spec_SelectFacts.T8.2 spec_SelectFacts.B8 = true := by kernel_rfl
set_option maxHeartbeats 8000000 in
set_option maxRecDepth 100000 in
theorem spec_SelectFacts.calls (k : Nat) (A0_0 : Option Addr) (c0_0 : Nat) (l0_0 : List (S74)) (A0_1 : Option Addr) (c0_1 : Nat) (l0_1 : List (S45)) (A1 : Option Addr) (c1 : Nat) (l1 : List Int) (r1 : List (S74)) (r2 : List (S45)) (r3 : Bool) (w : World) (hr0_0 : Kd.C k74 w A0_0 l0_0.length l0_0) (hc0_0 : l0_0.length ≤ c0_0) (hr0_1 : Kd.C k45 w A0_1 l0_1.length l0_1) (hc0_1 : l0_1.length ≤ c0_1) (hr1 : Kd.C (Kd.int .i64) w A1 l1.length l1) (hc1 : l1.length ≤ c1) (h : spec_SelectFacts.f k l0_0 l0_1 l1 = some (r1, r2, r3)) :
  Calls Try.prog 8 #[.agg #[.slice A0_0 l0_0.length c0_0, .slice A0_1 l0_1.length c0_1], .slice A1 l1.length c1] w fun e w' => ∃ v0_ v1_ : Value, e = .returned (.tuple #[.agg #[v0_, v1_], .bool r3]) ∧ Kd.R k74 74 w' w.heap.size (fun _ => True) v0_ r1 ∧ Kd.S k45 45 w' w.heap.size (fun _ => True) v1_ r2 ∧ Below w.heap.size w w' := by
 have hu31 := Try.underlying31
 have hu45 := Try.underlying45
 have HR0_0 := aM hr0_0
 have HC0_0 := aM hc0_0
 clear hr0_0 hc0_0
 have HR0_1 := aM hr0_1
 have HC0_1 := aM hc0_1
 clear hr0_1 hc0_1
 have HR1 := aM hr1
 have HC1 := aM hc1
 clear hr1 hc1
 have HB := aM (Below.refl w.heap.size w)
 have H : ((spec_IsValidDatabase.f k l0_0 l0_1).bind fun t144 => (if t144 = true then ((spec_l4Set.f k l0_0 l0_1 l1).bind fun t145 => (spec_SelectFacts.j0 k l1 (!t145) l0_0 l0_1)) else (spec_SelectFacts.j0 k l1 true l0_0 l0_1))) = some (r1, r2, r3) := h
 clear h
 have HC3 := aM H
 clear H
 go_enter Try.func8, Try.ntmps8
 go_upto_region 1 with (first | ((with_reducible refine gate_dst (N := 2) rfl ?_); refine box_event ?hg (N := 2) ?hd (cs := #[.slice A0_0 l0_0.length c0_0, .slice A0_1 l0_1.length c0_1]) (t := 31) ?hr ?_; (case hd => rfl); (case hg => rfl); (case hr => first | (go_simp; done) | (go_simp; rfl)); intro gb142 hg w4 hbox hb; have n0_ := aM (below_step aB hb); have n1_ := aM (hbox); have n2_ := aM ((by rw [hg]; exact (below_size aB) : w.heap.size ≤ gb142)); have n3_ := aM ((by rw [hg]; exact (below_size aB) : w.heap.size ≤ gb142)); clear HB; have HB := n0_; have BK142 := n1_; have GW142 := n2_; have GE142 := n3_; clear n0_ n1_ n2_ n3_; clear hb hbox hg) | ((with_reducible refine gate_dst (N := 4) rfl ?_); refine box_event ?hg (N := 4) ?hd (cs := #[.slice none 0 0, .slice none 0 0]) (t := 31) ?hr ?_; (case hd => rfl); (case hg => rfl); (case hr => first | (go_simp; done) | (go_simp; rfl)); intro gb143 hg w5 hbox hb; have n0_ := aM (blk_below (g := gb142) (o := .cells #[.slice A0_0 l0_0.length c0_0, .slice A0_1 l0_1.length c0_1] 31 (0, 0)) aK hb); have n1_ := aM (below_step aG hb); have n2_ := aM (hbox); have n3_ := aM ((by rw [hg]; exact (below_size aG) : w.heap.size ≤ gb143)); have n4_ := aM ((by rw [hg]; exact (below_size aG) : w.heap.size ≤ gb143)); have n5_ := aM ((by rw [hg]; exact Nat.ne_of_lt (blk_lt (g := gb142) (o := .cells #[.slice A0_0 l0_0.length c0_0, .slice A0_1 l0_1.length c0_1] 31 (0, 0)) aK) : gb142 ≠ gb143)); have n6_ := aM ((by rw [hg]; exact Nat.ne_of_gt (blk_lt (g := gb142) (o := .cells #[.slice A0_0 l0_0.length c0_0, .slice A0_1 l0_1.length c0_1] 31 (0, 0)) aK) : gb143 ≠ gb142)); clear BK142; clear HB; have BK142 := n0_; have HB := n1_; have BK143 := n2_; have GW143 := n3_; have GE143 := n4_; have NB142_143 := n5_; have NB143_142 := n6_; clear n0_ n1_ n2_ n3_ n4_ n5_ n6_; clear hb hbox hg))
 (try simp only [Act.put, List.setIfInBounds_toArray, List.set_cons_zero, List.set_cons_succ])
 go_cut [17] (fun v17 wc => ∃ (kq : Nat) (x17_2 : Bool), v17 = .bool x17_2 ∧ Aside0 (spec_SelectFacts.j0 kq l1 x17_2 l0_0 l0_1 = some (r1, r2, r3)) ∧ Aside0 (kq ≤ k) ∧ Aside0 (wc.heap[gb142]? = some (.cells #[(.slice A0_0 l0_0.length c0_0), (.slice A0_1 l0_1.length c0_1)] 31 (0, 0))) ∧ Aside0 (wc.heap[gb143]? = some (.cells #[(.slice none 0 0), (.slice none 0 0)] 31 (0, 0))) ∧ Aside0 (Below w.heap.size w wc))
 case first =>
  have H := HC3.out
  clear HC3
  replace H := Option.bind_eq_some_iff.mp H
  obtain ⟨t144, A60, H⟩ := H
  replace H : (if t144 = true then ((spec_l4Set.f k l0_0 l0_1 l1).bind fun t145 => (spec_SelectFacts.j0 k l1 (!t145) l0_0 l0_1)) else (spec_SelectFacts.j0 k l1 true l0_0 l0_1)) = some (r1, r2, r3) := H
  have A6 := aM A60
  clear A60
  by_cases c7 : t144 = true
  ·subst c7
   have H1 : ((spec_l4Set.f k l0_0 l0_1 l1).bind fun t145 => (spec_SelectFacts.j0 k l1 (!t145) l0_0 l0_1)) = some (r1, r2, r3) := by rw [if_pos rfl] at H; exact H
   clear H
   have H := H1
   clear H1
   replace H := Option.bind_eq_some_iff.mp H
   obtain ⟨t145, A80, H⟩ := H
   replace H : (spec_SelectFacts.j0 k l1 (!t145) l0_0 l0_1) = some (r1, r2, r3) := H
   have A8 := aM A80
   clear A80
   have H' := aM H
   clear H
   have hnb9 := NB142_143.out
   have hnc9 := NB143_142.out
   have hcz10_0 : w5.cell? ⟨gb142, 0, none⟩ = some (.slice A0_0 l0_0.length c0_0) := (blk_cell BK142.out 0).trans rfl
   have hcz10_1 : w5.cell? ⟨gb142, 1, none⟩ = some (.slice A0_1 l0_1.length c0_1) := (blk_cell BK142.out 1).trans rfl
   have hfz10_0 := blk_frozen BK142.out 0
   have hfz10_1 := blk_frozen BK142.out 1
   go_wp2_with (first | ((with_reducible refine gate_callee (f := 28) rfl ?_); refine goesL_ (some 10) rfl rfl Try.func28 (by kernel_rfl) rfl #[.agg #[.slice A0_0 l0_0.length c0_0, .slice A0_1 l0_1.length c0_1]] rfl (by (try simp only [List.map_toArray, List.map_cons, List.map_nil]); first | done | rfl | (simp only [List.length_drop, List.length_take]; rfl)) ?_; (with_reducible refine (spec_IsValidDatabase.calls k _ _ l0_0 _ _ l0_1 true _ ?side1 ?side2 ?side3 ?side4 A6.out).mono ?_); (case side1 => exact aC); (case side2 => exact HC0_0.out); (case side3 => exact aC); (case side4 => exact HC0_1.out); rintro e w11 ⟨rfl, hb⟩; refine ⟨_, rfl, ?_⟩; have n0_ := aM (blk_below (g := gb142) (o := .cells #[.slice A0_0 l0_0.length c0_0, .slice A0_1 l0_1.length c0_1] 31 (0, 0)) aK hb); have n1_ := aM (blk_below (g := gb143) (o := .cells #[.slice none 0 0, .slice none 0 0] 31 (0, 0)) aK hb); have n2_ := aM (below_step aG hb); clear BK142; clear BK143; clear HB; have BK142 := n0_; have BK143 := n1_; have HB := n2_; clear n0_ n1_ n2_; (try clear hb); (try clear hb2); (try clear hk); (try clear hi); have hcz12_0 : w11.cell? ⟨gb142, 0, none⟩ = some (.slice A0_0 l0_0.length c0_0) := (blk_cell BK142.out 0).trans rfl; have hcz12_1 : w11.cell? ⟨gb142, 1, none⟩ = some (.slice A0_1 l0_1.length c0_1) := (blk_cell BK142.out 1).trans rfl; have hfz12_0 := blk_frozen BK142.out 0; have hfz12_1 := blk_frozen BK142.out 1) | (go_at_call 34; (with_reducible refine (spec_l4Set.calls k _ _ l0_0 _ _ l0_1 _ _ l1 t145 _ ?side1 ?side2 ?side3 ?side4 ?side5 ?side6 A8.out).mono ?_); (case side1 => exact aC); (case side2 => exact HC0_0.out); (case side3 => exact aC); (case side4 => exact HC0_1.out); (case side5 => exact aC); (case side6 => exact HC1.out); rintro e w13 ⟨rfl, hb⟩; have n0_ := aM (blk_below (g := gb142) (o := .cells #[.slice A0_0 l0_0.length c0_0, .slice A0_1 l0_1.length c0_1] 31 (0, 0)) aK hb); have n1_ := aM (blk_below (g := gb143) (o := .cells #[.slice none 0 0, .slice none 0 0] 31 (0, 0)) aK hb); have n2_ := aM (below_step aG hb); clear BK142; clear BK143; clear HB; have BK142 := n0_; have BK143 := n1_; have HB := n2_; clear n0_ n1_ n2_; (try clear hb); (try clear hb2); (try clear hk); (try clear hi)))
   go_meet
   case rel => exact ⟨_, (!t145), (by first | rfl | (simp; done) | (simp [*]; done)), H', ⟨by first | omega | exact Nat.le_refl _⟩, ⟨by (with_reducible repeat (first | refine blk_drewN ?_ _ | refine blk_drew ?_ | refine blk_alloc ?_ _)); exact BK142.out⟩, ⟨by (with_reducible repeat (first | refine blk_drewN ?_ _ | refine blk_drew ?_ | refine blk_alloc ?_ _)); exact BK143.out⟩, ⟨by repeat (first | (with_reducible first | exact HB.out | apply below_alloc | apply pw_below_drewN | apply below_drew1 | refine below_set ?_ GE142.out | refine below_set ?_ GE143.out) | exact HB.out)⟩⟩
  ·replace c7 := Bool.eq_false_iff.mpr c7
   subst c7
   have H1 : (spec_SelectFacts.j0 k l1 true l0_0 l0_1) = some (r1, r2, r3) := by rw [if_neg (show ¬ (false = true) by decide)] at H; exact H
   clear H
   have H := H1
   clear H1
   have H' := aM H
   clear H
   have hnb14 := NB142_143.out
   have hnc14 := NB143_142.out
   have hcz15_0 : w5.cell? ⟨gb142, 0, none⟩ = some (.slice A0_0 l0_0.length c0_0) := (blk_cell BK142.out 0).trans rfl
   have hcz15_1 : w5.cell? ⟨gb142, 1, none⟩ = some (.slice A0_1 l0_1.length c0_1) := (blk_cell BK142.out 1).trans rfl
   have hfz15_0 := blk_frozen BK142.out 0
   have hfz15_1 := blk_frozen BK142.out 1
   go_wp2_with (first | ((with_reducible refine gate_callee (f := 28) rfl ?_); refine goesL_ (some 10) rfl rfl Try.func28 (by kernel_rfl) rfl #[.agg #[.slice A0_0 l0_0.length c0_0, .slice A0_1 l0_1.length c0_1]] rfl (by (try simp only [List.map_toArray, List.map_cons, List.map_nil]); first | done | rfl | (simp only [List.length_drop, List.length_take]; rfl)) ?_; (with_reducible refine (spec_IsValidDatabase.calls k _ _ l0_0 _ _ l0_1 false _ ?side1 ?side2 ?side3 ?side4 A6.out).mono ?_); (case side1 => exact aC); (case side2 => exact HC0_0.out); (case side3 => exact aC); (case side4 => exact HC0_1.out); rintro e w16 ⟨rfl, hb⟩; refine ⟨_, rfl, ?_⟩; have n0_ := aM (blk_below (g := gb142) (o := .cells #[.slice A0_0 l0_0.length c0_0, .slice A0_1 l0_1.length c0_1] 31 (0, 0)) aK hb); have n1_ := aM (blk_below (g := gb143) (o := .cells #[.slice none 0 0, .slice none 0 0] 31 (0, 0)) aK hb); have n2_ := aM (below_step aG hb); clear BK142; clear BK143; clear HB; have BK142 := n0_; have BK143 := n1_; have HB := n2_; clear n0_ n1_ n2_; (try clear hb); (try clear hb2); (try clear hk); (try clear hi)))
   go_meet
   case rel => exact ⟨_, (true), (by first | rfl | (simp; done) | (simp [*]; done)), H', ⟨by first | omega | exact Nat.le_refl _⟩, ⟨by (with_reducible repeat (first | refine blk_drewN ?_ _ | refine blk_drew ?_ | refine blk_alloc ?_ _)); exact BK142.out⟩, ⟨by (with_reducible repeat (first | refine blk_drewN ?_ _ | refine blk_drew ?_ | refine blk_alloc ?_ _)); exact BK143.out⟩, ⟨by repeat (first | (with_reducible first | exact HB.out | apply below_alloc | apply pw_below_drewN | apply below_drew1 | refine below_set ?_ GE142.out | refine below_set ?_ GE143.out) | exact HB.out)⟩⟩
 case rest =>
  clear HC3
  try clear c1
  try clear c2
  try clear p2
  try clear c7
  try clear c8
  try clear c9
  try clear c14
  try clear hcz10_0
  try clear hcz10_1
  try clear hcz12_0
  try clear hcz12_1
  try clear hcz15_0
  try clear hcz15_1
  try clear hfz10_0
  try clear hfz10_1
  try clear hfz12_0
  try clear hfz12_1
  try clear hfz15_0
  try clear hfz15_1
  obtain ⟨kq, x17_2, rfl, HA, HJ2, BK142, BK143, HB⟩ := hcut
  cases kq with
  | zero => exact absurd HA.out (by simp [spec_SelectFacts.j0])
  | succ kj2 =>
   have H := HA.out
   clear HA
   simp only [spec_SelectFacts.j0] at H
   by_cases c17 : x17_2 = true
   ·subst c17
    have H1 : (some (([] : List (S74)), ([] : List (S45)), false)) = some (r1, r2, r3) := by rw [if_pos rfl] at H; exact H
    clear H
    have H := H1
    clear H1
    simp only [Option.some.injEq, Prod.mk.injEq] at H
    obtain ⟨rfl, rfl, rfl⟩ := H
    have hnb18 := NB143_142.out
    have hnc18 := NB142_143.out
    have hcz19_0 : wc.cell? ⟨gb143, 0, none⟩ = some (.slice none 0 0) := (blk_cell BK143.out 0).trans rfl
    have hcz19_1 : wc.cell? ⟨gb143, 1, none⟩ = some (.slice none 0 0) := (blk_cell BK143.out 1).trans rfl
    have hfz19_0 := blk_frozen BK143.out 0
    have hfz19_1 := blk_frozen BK143.out 1
    go_wp2
    refine bodyPost_ret (results_ct rfl _ _ gb143 31 #[.slice none 0 0, .slice none 0 0] (0, 0) _ rfl (by (with_reducible repeat (first | refine blk_drewN ?_ _ | refine blk_drew ?_ | refine blk_alloc ?_ _)); refine blk_put (cs := #[.slice none 0 0, .slice none 0 0]) ?_ 1 _ rfl; (with_reducible repeat (first | refine blk_drewN ?_ _ | refine blk_drew ?_ | refine blk_alloc ?_ _)); refine blk_put (cs := #[.slice none 0 0, .slice none 0 0]) ?_ 0 _ rfl; (with_reducible repeat (first | refine blk_drewN ?_ _ | refine blk_drew ?_ | refine blk_alloc ?_ _)); exact BK143.out) Try.underlying31 rfl (by kernel_rfl)) rfl ?_
    exact ⟨_, _, by first | rfl | (simp [errW_none, errW_some] <;> rfl) | (simp [*, errW_none, errW_some] <;> rfl), by first | exact Kd.R_nil _ _ _ _ _ | exact Kd.N_nil _ _ _ _ _ | exact Kd.V_nil _ _ _ _ _ | exact Kd.Q_nil _ _ _ _ _ | exact Kd.S_nil _ _ _ _ _, by first | exact Kd.S_nil _ _ _ _ _ | exact Kd.N_nil _ _ _ _ _ | exact Kd.V_nil _ _ _ _ _ | exact Kd.Q_nil _ _ _ _ _ | exact Kd.R_nil _ _ _ _ _, by repeat (first | (with_reducible first | exact HB.out | apply below_alloc | apply pw_below_drewN | apply below_drew1 | refine below_set ?_ GE142.out | refine below_set ?_ GE143.out) | exact HB.out)⟩
   ·replace c17 := Bool.eq_false_iff.mpr c17
    subst c17
    have H1 : ((some (([] : List (S74)) : List (S74))).bind fun y146 => (if y146.length + l0_0.length < 4398046511104 then (spec_SelectFacts.l0 kj2 l1 0 l0_0 l0_1 (y146 ++ l0_0) ([] : List (S45))) else (none))) = some (r1, r2, r3) := by rw [if_neg (show ¬ (false = true) by decide)] at H; exact H
    clear H
    have H := H1
    clear H1
    obtain ⟨y146, hy146⟩ : ∃ y_ : List (S74), y_ = (([] : List (S74))) := ⟨_, rfl⟩
    replace H : (if y146.length + l0_0.length < 4398046511104 then (spec_SelectFacts.l0 kj2 l1 0 l0_0 l0_1 (y146 ++ l0_0) ([] : List (S45))) else (none)) = some (r1, r2, r3) := by first | (rw [hy146]; with_reducible exact H) | (have H2_ := (Option.bind_some _ _).symm.trans H; rw [hy146]; with_reducible exact H2_) | (have H2_ := (Option.bind_some _ _).symm.trans H; with_reducible exact H2_) | with_reducible exact H | (rw [hy146]; exact H) | exact H
    have Ny146 := aM hy146
    clear hy146
    by_cases c20 : y146.length + l0_0.length < 4398046511104
    ·rw [if_pos c20] at H
     have LMc20 := aM c20
     clear c20
     obtain ⟨y149, hy149⟩ : ∃ y_ : List (S74), y_ = (y146 ++ l0_0) := ⟨_, rfl⟩
     replace H : (spec_SelectFacts.l0 kj2 l1 0 l0_0 l0_1 y149 ([] : List (S45))) = some (r1, r2, r3) := by first | (rw [hy149]; with_reducible exact H) | (have H2_ := (Option.bind_some _ _).symm.trans H; rw [hy149]; with_reducible exact H2_) | (have H2_ := (Option.bind_some _ _).symm.trans H; with_reducible exact H2_) | with_reducible exact H | (rw [hy149]; exact H) | exact H
     have Ny149 := aM hy149
     clear hy149
     have H' := aM H
     clear H
     go_wp2_with (first | ((with_reducible refine gate_dst (N := 19) rfl ?_); refine Kd.R_lit k74 _ 74 ?hg (N := 19) ?hd (xs := ([] : List (S74))) (inner := []) (ok := fun _ => True) (okp := fun _ => True) ?hr ?hp (fun _ hk => hk) trivial (Below.refl _ _) (Nat.le_refl _) (by simp) ?_; (case hd => rfl); (case hg => rfl); (case hr => first | (go_simp; done) | (go_simp; rfl)); (case hp => exact (Reps.none _ _)); intro v147 w21 ho22 hb hg_ hnew_; clear hg_ hnew_; (first | rw [← Ny146.out] at ho22 | (simp only [Int.reduceToNat] at ho22; rw [← Ny146.out] at ho22)); have n0_ := aM (Kd.R_lower ho22 (below_size aG)); have n1_ := aM (blk_below (g := gb142) (o := .cells #[.slice A0_0 l0_0.length c0_0, .slice A0_1 l0_1.length c0_1] 31 (0, 0)) aK hb); have n2_ := aM (blk_below (g := gb143) (o := .cells #[.slice none 0 0, .slice none 0 0] 31 (0, 0)) aK hb); have n3_ := aM (below_step aG hb); clear BK142; clear BK143; clear HB; have HO148 := n0_; have BK142 := n1_; have BK143 := n2_; have HB := n3_; clear n0_ n1_ n2_ n3_; clear hb ho22; have hnb23 := NB142_143.out; have hnc23 := NB143_142.out; have hcz24_0 : w21.cell? ⟨gb142, 0, none⟩ = some (.slice A0_0 l0_0.length c0_0) := (blk_cell BK142.out 0).trans rfl; have hcz24_1 : w21.cell? ⟨gb142, 1, none⟩ = some (.slice A0_1 l0_1.length c0_1) := (blk_cell BK142.out 1).trans rfl; have hfz24_0 := blk_frozen BK142.out 0; have hfz24_1 := blk_frozen BK142.out 1) | ((with_reducible refine gate_builtin (b := .append) (xs := #[.tmp 19, .tmp 21]) rfl ?_); at_builtin; refine Kd.R_append_rows k74 (w0 := w) w.heap.size rfl (.tmp 19) (.tmp 21) 28 74 (.agg #[(.string ⟨#[]⟩), (.int .i64 0), (.int .i64 0)]) 32 rfl Try.underlying28 info74 rfl (by decide) (by omega) v147 y146 l0_0 _ _ _ (fun _ => True) (fun _ => False) rfl rfl ?aO ?aR (fun _ _ h => h) (fun _ h => h.elim) ?aF ?aB ?aS ?aL ?_; (case aR => exact aC); (case aB => exact aG); (case aF => exact (fun _ _ => trivial)); (case aO => exact (aR HO148)); (case aS => exact (below_size aG)); (case aL => have := LMc20.out; omega); intro v150 w25 ho hb hg hat; rw [← Ny149.out] at ho; have n0_ := aM (blk_grown (g := gb142) (o := .cells #[.slice A0_0 l0_0.length c0_0, .slice A0_1 l0_1.length c0_1] 31 (0, 0)) aK hg (Kd.R_ne HO148.out BK142.out (by decide))); have n1_ := aM (blk_grown (g := gb143) (o := .cells #[.slice none 0 0, .slice none 0 0] 31 (0, 0)) aK hg (Kd.R_ne HO148.out BK143.out (by decide))); have n2_ := aM (hb); have n3_ := aM (ho); clear BK142; clear BK143; clear HB; clear HO148; have BK142 := n0_; have BK143 := n1_; have HB := n2_; have HO151 := n3_; clear n0_ n1_ n2_ n3_; clear ho hb hg hat; obtain ⟨Ao26, co26, eo26⟩ := Kd.R_slice HO151.out; subst eo26) | ((with_reducible refine gate_dst (N := 6) rfl ?_); refine box_event ?hg (N := 6) ?hd (cs := #[.slice none 0 0, .slice none 0 0]) (t := 31) ?hr ?_; (case hd => rfl); (case hg => rfl); (case hr => first | (go_simp; done) | (go_simp; rfl)); intro gb152 hg w27 hbox hb; have n0_ := aM (Kd.R_below (aR HO151) hb); have n1_ := aM (blk_below (g := gb142) (o := .cells #[.slice A0_0 l0_0.length c0_0, .slice A0_1 l0_1.length c0_1] 31 (0, 0)) aK hb); have n2_ := aM (blk_below (g := gb143) (o := .cells #[.slice none 0 0, .slice none 0 0] 31 (0, 0)) aK hb); have n3_ := aM (below_step aG hb); have n4_ := aM (hbox); have n5_ := aM ((by rw [hg]; exact (below_size aG) : w.heap.size ≤ gb152)); have n6_ := aM ((by rw [hg]; exact (below_size aG) : w.heap.size ≤ gb152)); have n7_ := aM ((by rw [hg]; exact Nat.ne_of_lt (blk_lt (g := gb142) (o := .cells #[.slice A0_0 l0_0.length c0_0, .slice A0_1 l0_1.length c0_1] 31 (0, 0)) aK) : gb142 ≠ gb152)); have n8_ := aM ((by rw [hg]; exact Nat.ne_of_gt (blk_lt (g := gb142) (o := .cells #[.slice A0_0 l0_0.length c0_0, .slice A0_1 l0_1.length c0_1] 31 (0, 0)) aK) : gb152 ≠ gb142)); have n9_ := aM ((by rw [hg]; exact Nat.ne_of_lt (blk_lt (g := gb143) (o := .cells #[.slice none 0 0, .slice none 0 0] 31 (0, 0)) aK) : gb143 ≠ gb152)); have n10_ := aM ((by rw [hg]; exact Nat.ne_of_gt (blk_lt (g := gb143) (o := .cells #[.slice none 0 0, .slice none 0 0] 31 (0, 0)) aK) : gb152 ≠ gb143)); clear HO151; clear BK142; clear BK143; clear HB; have HO151 := n0_; have BK142 := n1_; have BK143 := n2_; have HB := n3_; have BK152 := n4_; have GW152 := n5_; have GE152 := n6_; have NB142_152 := n7_; have NB152_142 := n8_; have NB143_152 := n9_; have NB152_143 := n10_; clear n0_ n1_ n2_ n3_ n4_ n5_ n6_ n7_ n8_ n9_ n10_; clear hb hbox hg; have hnb28 := NB152_142.out; have hnc28 := NB142_152.out; have hnb29 := NB152_143.out; have hnc29 := NB143_152.out; have hcz30_0 : w27.cell? ⟨gb152, 0, none⟩ = some (.slice none 0 0) := (blk_cell BK152.out 0).trans rfl; have hcz30_1 : w27.cell? ⟨gb152, 1, none⟩ = some (.slice none 0 0) := (blk_cell BK152.out 1).trans rfl; have hfz30_0 := blk_frozen BK152.out 0; have hfz30_1 := blk_frozen BK152.out 1))
     go_loopg [7] kj2 (fun kq v7 w' => ∃ (x7_2 : Int) (x153001_2 : List (S45)) (u153001 : Value), v7 = .int .i64 x7_2 ∧ Aside0 (spec_SelectFacts.l0 kq l1 x7_2 l0_0 l0_1 y149 x153001_2 = some (r1, r2, r3)) ∧ Aside0 (kq ≤ kj2) ∧ Aside0 (Kd.R k74 74 w' w.heap.size (fun _ => True) (.slice Ao26 y149.length co26) y149) ∧ Aside0 (Kd.S k45 45 w' w.heap.size (fun _ => True) u153001 x153001_2) ∧ Aside0 (w'.heap[gb142]? = some (.cells #[(.slice A0_0 l0_0.length c0_0), (.slice A0_1 l0_1.length c0_1)] 31 (0, 0))) ∧ Aside0 (w'.heap[gb143]? = some (.cells #[(.slice none 0 0), (.slice none 0 0)] 31 (0, 0))) ∧ Aside0 (w'.heap[gb152]? = some (.cells #[(.slice Ao26 y149.length co26), u153001] 31 (0, 0))) ∧ Aside0 (Below w.heap.size w w'))
     case atStart => exact ⟨(0), (([] : List (S45))), (.slice none 0 0), (by first | rfl | (simp; done) | (simp [*]; done)), H', ⟨Nat.le_refl _⟩, ⟨by (with_reducible repeat (first | apply Kd.R_alloc | apply Kd.R_drewN | apply Kd.R_drew)); exact Kd.R_mono (Kd.R_far (p := ⟨gb152, 1, none⟩) (Kd.R_far (p := ⟨gb152, 0, none⟩) (Kd.R_types HO151.out BK152.out (by decide)) (fun _ hk => hk.2) (.slice Ao26 y149.length co26)) (fun _ hk => hk.2) (.slice none 0 0)) (fun _ hk => trivial)⟩, ⟨by first | exact Kd.S_nil _ _ _ _ _ | exact Kd.N_nil _ _ _ _ _ | exact Kd.V_nil _ _ _ _ _ | exact Kd.Q_nil _ _ _ _ _ | exact Kd.R_nil _ _ _ _ _⟩, ⟨by (with_reducible repeat (first | refine blk_drewN ?_ _ | refine blk_drew ?_ | refine blk_alloc ?_ _)); refine blk_far ?_ NB142_152.out _; (with_reducible repeat (first | refine blk_drewN ?_ _ | refine blk_drew ?_ | refine blk_alloc ?_ _)); refine blk_far ?_ NB142_152.out _; (with_reducible repeat (first | refine blk_drewN ?_ _ | refine blk_drew ?_ | refine blk_alloc ?_ _)); exact BK142.out⟩, ⟨by (with_reducible repeat (first | refine blk_drewN ?_ _ | refine blk_drew ?_ | refine blk_alloc ?_ _)); refine blk_far ?_ NB143_152.out _; (with_reducible repeat (first | refine blk_drewN ?_ _ | refine blk_drew ?_ | refine blk_alloc ?_ _)); refine blk_far ?_ NB143_152.out _; (with_reducible repeat (first | refine blk_drewN ?_ _ | refine blk_drew ?_ | refine blk_alloc ?_ _)); exact BK143.out⟩, ⟨by (with_reducible repeat (first | refine blk_drewN ?_ _ | refine blk_drew ?_ | refine blk_alloc ?_ _)); refine blk_put (cs := #[.slice Ao26 y149.length co26, .slice none 0 0]) ?_ 1 _ rfl; (with_reducible repeat (first | refine blk_drewN ?_ _ | refine blk_drew ?_ | refine blk_alloc ?_ _)); refine blk_put (cs := #[.slice none 0 0, .slice none 0 0]) ?_ 0 _ rfl; (with_reducible repeat (first | refine blk_drewN ?_ _ | refine blk_drew ?_ | refine blk_alloc ?_ _)); exact BK152.out⟩, ⟨by repeat (first | (with_reducible first | exact HB.out | apply below_alloc | apply pw_below_drewN | apply below_drew1 | refine below_set ?_ GE142.out | refine below_set ?_ GE143.out | refine below_set ?_ GE152.out) | exact HB.out)⟩⟩
     case round =>
      clear H'
      try clear c1
      try clear c2
      try clear p2
      try clear c7
      try clear c8
      try clear c9
      try clear c14
      try clear c17
      try clear c18
      try clear c20
      try clear c23
      try clear c28
      try clear c29
      try clear hcz10_0
      try clear hcz10_1
      try clear hcz12_0
      try clear hcz12_1
      try clear hcz15_0
      try clear hcz15_1
      try clear hcz19_0
      try clear hcz19_1
      try clear hcz24_0
      try clear hcz24_1
      try clear hcz30_0
      try clear hcz30_1
      try clear hfz10_0
      try clear hfz10_1
      try clear hfz12_0
      try clear hfz12_1
      try clear hfz15_0
      try clear hfz15_1
      try clear hfz19_0
      try clear hfz19_1
      try clear hfz24_0
      try clear hfz24_1
      try clear hfz30_0
      try clear hfz30_1
      try clear p2
      obtain ⟨x7_2, x153001_2, u153001, rfl, HA, HK2, HO_153000, HO_153001, BK142, BK143, BK152, HB⟩ := hrel
      cases gk with
      | zero => exact absurd HA.out (by simp [spec_SelectFacts.l0])
      | succ k2 =>
       have H := HA.out
       clear HA
       simp only [spec_SelectFacts.l0] at H
       by_cases c31 : x7_2 < (l1.length : Int)
       ·rw [if_pos c31] at H
        have c31b0 : decide (x7_2 < (l1.length : Int)) = true := decide_eq_true c31
        clear c31
        by_cases c32 : 0 ≤ x7_2
        ·rw [if_pos c32] at H
         have c32b0 : decide (0 ≤ x7_2) = true := decide_eq_true c32
         clear c32
         by_cases c33 : 0 ≤ (rd l1 x7_2)
         ·rw [if_pos c33] at H
          have c33b0 : decide (0 ≤ (rd l1 x7_2)) = true := decide_eq_true c33
          clear c33
          by_cases c34 : (rd l1 x7_2) < (l0_1.length : Int)
          ·rw [if_pos c34] at H
           have c34b0 : decide ((rd l1 x7_2) < (l0_1.length : Int)) = true := decide_eq_true c34
           clear c34
           obtain ⟨y156, hy156⟩ : ∃ y_ : List Int, y_ = (([] : List Int)) := ⟨_, rfl⟩
           replace H : (if y156.length + ((rd_T45 l0_1 (rd l1 x7_2)).f1).length < 17592186044416 then (if x153001_2.length < 4398046511104 then (spec_SelectFacts.l0 k2 l1 (wrap64 (x7_2 + 1)) l0_0 l0_1 y149 (x153001_2 ++ [(⟨(rd_T45 l0_1 (rd l1 x7_2)).f0, (y156 ++ ((rd_T45 l0_1 (rd l1 x7_2)).f1))⟩ : S45)])) else (none)) else (none)) = some (r1, r2, r3) := by first | (rw [hy156]; with_reducible exact H) | (have H2_ := (Option.bind_some _ _).symm.trans H; rw [hy156]; with_reducible exact H2_) | (have H2_ := (Option.bind_some _ _).symm.trans H; with_reducible exact H2_) | with_reducible exact H | (rw [hy156]; exact H) | exact H
           have Ny156 := aM hy156
           clear hy156
           by_cases c35 : y156.length + ((rd_T45 l0_1 (rd l1 x7_2)).f1).length < 17592186044416
           ·rw [if_pos c35] at H
            have LMc35 := aM c35
            clear c35
            obtain ⟨y159, hy159⟩ : ∃ y_ : List Int, y_ = (y156 ++ ((rd_T45 l0_1 (rd l1 x7_2)).f1)) := ⟨_, rfl⟩
            replace H : (if x153001_2.length < 4398046511104 then (spec_SelectFacts.l0 k2 l1 (wrap64 (x7_2 + 1)) l0_0 l0_1 y149 (x153001_2 ++ [(⟨(rd_T45 l0_1 (rd l1 x7_2)).f0, y159⟩ : S45)])) else (none)) = some (r1, r2, r3) := by first | (rw [hy159]; with_reducible exact H) | (have H2_ := (Option.bind_some _ _).symm.trans H; rw [hy159]; with_reducible exact H2_) | (have H2_ := (Option.bind_some _ _).symm.trans H; with_reducible exact H2_) | with_reducible exact H | (rw [hy159]; exact H) | exact H
            have Ny159 := aM hy159
            clear hy159
            by_cases c36 : x153001_2.length < 4398046511104
            ·rw [if_pos c36] at H
             have LMc36 := aM c36
             clear c36
             obtain ⟨y162, hy162⟩ : ∃ y_ : List (S45), y_ = (x153001_2 ++ [(⟨(rd_T45 l0_1 (rd l1 x7_2)).f0, y159⟩ : S45)]) := ⟨_, rfl⟩
             replace H : (spec_SelectFacts.l0 k2 l1 (wrap64 (x7_2 + 1)) l0_0 l0_1 y149 y162) = some (r1, r2, r3) := by first | (rw [hy162]; with_reducible exact H) | (have H2_ := (Option.bind_some _ _).symm.trans H; rw [hy162]; with_reducible exact H2_) | (have H2_ := (Option.bind_some _ _).symm.trans H; with_reducible exact H2_) | with_reducible exact H | (rw [hy162]; exact H) | exact H
             have Ny162 := aM hy162
             clear hy162
             have H' := aM H
             clear H
             try go_wp2
             have n0_ := aM (Kd.R_drew HO_153000.out)
             have n1_ := aM (Kd.S_drew HO_153001.out)
             have n2_ := aM (blk_drew BK142.out)
             have n3_ := aM (blk_drew BK143.out)
             have n4_ := aM (blk_drew BK152.out)
             have n5_ := aM (below_drew1 HB.out)
             clear HO_153000
             clear HO_153001
             clear BK142
             clear BK143
             clear BK152
             clear HB
             have HO_153000 := n0_
             have HO_153001 := n1_
             have BK142 := n2_
             have BK143 := n3_
             have BK152 := n4_
             have HB := n5_
             clear n0_ n1_ n2_ n3_ n4_ n5_
             have p153 : 0 ≤ (x7_2 : Int) := aD
             have q153 : x7_2 < (l1.length : Int) := aD
             obtain ⟨ad153, e153, hx153_0⟩ := Kd.at_int HR1.out x7_2 p153 q153
             have hw153_0 := hx153_0
             cases e153
             replace hx153_0 := (HB.out.cell (World.block_lt_of_cell? w _ hx153_0)).trans hx153_0
             replace p153 := eq_true p153
             replace q153 := eq_true q153
             have p154 : 0 ≤ ((rd l1 x7_2) : Int) := aD
             have q154 : (rd l1 x7_2) < (l0_1.length : Int) := aD
             obtain ⟨ad154, A154_1, c154_1, e154, hx154_0, hx154_1, hl154_1, hi154_1⟩ := at_T45 HR0_1.out (rd l1 x7_2) p154 q154
             have hw154_1 := hx154_1
             have hw154_0 := hx154_0
             cases e154
             replace hx154_0 := (HB.out.cell (World.block_lt_of_cell? w _ hx154_0)).trans hx154_0
             replace hx154_1 := (HB.out.cell (World.block_lt_of_cell? w _ hx154_1)).trans hx154_1
             have HR154_1 := aM hi154_1
             have HC154_1 := aM hl154_1
             clear hi154_1 hl154_1
             replace p154 := eq_true p154
             replace q154 := eq_true q154
             refine start_ (n := 10) (S := fun w' => w'.cell? ⟨gb142, 0, none⟩ = some (.slice A0_0 l0_0.length c0_0) ∧ w'.cell? ⟨gb142, 1, none⟩ = some (.slice (some ad154) l0_1.length c0_1) ∧ w'.cell? (ad153.add (x7_2).toNat) = some (.int .i64 (rd l1 x7_2)) ∧ w'.cell? (ad154.add (((rd l1 x7_2)).toNat * 2)) = some (.int .i64 ((rd_T45 l0_1 (rd l1 x7_2)).f0)) ∧ w'.cell? ⟨(ad154.add (((rd l1 x7_2)).toNat * 2)).block, (ad154.add (((rd l1 x7_2)).toNat * 2)).off + 1, none⟩ = some (.slice A154_1 ((rd_T45 l0_1 (rd l1 x7_2)).f1).length c154_1)) (ds := []) #[false, false, false, false, false, false, false, false, false, false] (by kernel_rfl) rfl rfl ⟨(blk_cell BK142.out 0).trans rfl, (blk_cell BK142.out 1).trans rfl, (pw_cell_below HB.out hw153_0), (pw_cell_below HB.out hw154_0), (pw_cell_below HB.out hw154_1)⟩ (fun hHeld => ?_); refine with_tabW spec_SelectFacts.tab7 spec_SelectFacts.bits7 (fun HT_ HW_ => ?_)
             generalize wr.drew = w37 at HO_153000 HO_153001 BK142 BK143 BK152 HB HR154_1 hx153_0 hx154_0 hx154_1 hHeld ⊢
             refine pure_ (i := 0) (N := some 30) (v := ?_) (a' := ?_) #[true, false, false, false, false, false, false, false, false, false] rfl rfl (any_of HT_.out (by kernel_rfl)) (fun _ _ _ h => h) (Or.inl ⟨by rfl, ?_⟩) ?_ ?_
             rotate_left
             ·exact aI
             rotate_left
             ·exact aP
             refine pure_ (i := 2) (N := some 32) (v := ?_) (a' := ?_) #[true, false, true, false, false, false, false, false, false, false] rfl rfl (any_of HT_.out (by kernel_rfl)) (fun _ _ _ h => h) (Or.inl ⟨by rfl, ?_⟩) ?_ ?_
             rotate_left
             ·exact aI
             rotate_left
             ·exact aP
             refine pure_ (i := 3) (N := some 33) (v := ?_) (a' := ?_) #[true, false, true, true, false, false, false, false, false, false] rfl rfl (any_of HT_.out (by kernel_rfl)) (fun _ _ _ h => h) (Or.inl ⟨by rfl, ?_⟩) ?_ ?_
             rotate_left
             ·exact aI
             rotate_left
             ·exact aP
             refine pure_ (i := 4) (N := some 34) (v := ?_) (a' := ?_) #[true, false, true, true, true, false, false, false, false, false] rfl rfl (any_of HT_.out (by kernel_rfl)) (fun _ _ _ h => h) (Or.inl ⟨by rfl, ?_⟩) ?_ ?_
             rotate_left
             ·exact aI
             rotate_left
             ·exact aP
             refine take_ (i := 1) (N := some 31) (v := ?_) (a' := ?_) #[true, true, true, true, true, false, false, false, false, false] rfl rfl (take_ofW HT_.out HW_.out (by kernel_rfl)) (fun _ _ _ h => h) (Or.inl ⟨by rfl, ?_⟩) hHeld ?_ ?_
             rotate_left
             ·rintro w' ⟨s0, s1, s2, s3, s4⟩
              go_simp
              with_reducible rfl
             rotate_left
             ·exact aP
             refine take_ (i := 5) (N := some 35) (v := ?_) (a' := ?_) #[true, true, true, true, true, true, false, false, false, false] rfl rfl (take_ofW HT_.out HW_.out (by kernel_rfl)) (fun _ _ _ h => h) (Or.inl ⟨by rfl, ?_⟩) hHeld ?_ ?_
             rotate_left
             ·rintro w' ⟨s0, s1, s2, s3, s4⟩
              go_simp
              with_reducible rfl
             rotate_left
             ·exact aP
             refine pure_ (i := 6) (N := some 36) (v := ?_) (a' := ?_) #[true, true, true, true, true, true, true, false, false, false] rfl rfl (any_of HT_.out (by kernel_rfl)) (fun _ _ _ h => h) (Or.inl ⟨by rfl, ?_⟩) ?_ ?_
             rotate_left
             ·exact aI
             rotate_left
             ·exact aP
             refine take_ (i := 7) (N := some 37) (v := ?_) (a' := ?_) #[true, true, true, true, true, true, true, true, false, false] rfl rfl (take_ofW HT_.out HW_.out (by kernel_rfl)) (fun _ _ _ h => h) (Or.inl ⟨by rfl, ?_⟩) hHeld ?_ ?_
             rotate_left
             ·rintro w' ⟨s0, s1, s2, s3, s4⟩
              go_simp
              with_reducible rfl
             rotate_left
             ·exact aP
             refine one_ (i := 8) (N := some 8) #[true, true, true, true, true, true, true, true, true, false] rfl rfl (one_of HT_.out (by kernel_rfl)) (by decide) (fun K hK => ?_)
             refine box_step ?hg (N := 8) ?hd (cs := #[.int .i64 0, .slice none 0 0]) (t := 45) ?hr ?_; (case hd => rfl); (case hg => rfl); (case hr => first | (go_simp; done) | (go_simp; rfl))
             intro gb155 hg w38 hbox hb
             have n0_ := aM (Kd.R_below (aR HO_153000) hb)
             have n1_ := aM (Kd.S_below (Kd.S_elderB (aS HO_153001) gb155 (Nat.le_of_eq hg.symm)) hb)
             have n2_ := aM (blk_below (g := gb142) (o := .cells #[.slice A0_0 l0_0.length c0_0, .slice (some ad154) l0_1.length c0_1] 31 (0, 0)) aK hb)
             have n3_ := aM (blk_below (g := gb143) (o := .cells #[.slice none 0 0, .slice none 0 0] 31 (0, 0)) aK hb)
             have n4_ := aM (blk_below (g := gb152) (o := .cells #[.slice Ao26 y149.length co26, u153001] 31 (0, 0)) aK hb)
             have n5_ := aM (below_step aG hb)
             have n6_ := aM (hbox)
             have n7_ := aM ((by rw [hg]; exact (below_size aG) : w.heap.size ≤ gb155))
             have n8_ := aM ((by rw [hg]; exact (below_size aG) : w.heap.size ≤ gb155))
             have n9_ := aM ((by rw [hg]; exact Nat.ne_of_lt (blk_lt (g := gb142) (o := .cells #[.slice A0_0 l0_0.length c0_0, .slice (some ad154) l0_1.length c0_1] 31 (0, 0)) aK) : gb142 ≠ gb155))
             have n10_ := aM ((by rw [hg]; exact Nat.ne_of_gt (blk_lt (g := gb142) (o := .cells #[.slice A0_0 l0_0.length c0_0, .slice (some ad154) l0_1.length c0_1] 31 (0, 0)) aK) : gb155 ≠ gb142))
             have n11_ := aM ((by rw [hg]; exact Nat.ne_of_lt (blk_lt (g := gb143) (o := .cells #[.slice none 0 0, .slice none 0 0] 31 (0, 0)) aK) : gb143 ≠ gb155))
             have n12_ := aM ((by rw [hg]; exact Nat.ne_of_gt (blk_lt (g := gb143) (o := .cells #[.slice none 0 0, .slice none 0 0] 31 (0, 0)) aK) : gb155 ≠ gb143))
             have n13_ := aM ((by rw [hg]; exact Nat.ne_of_lt (blk_lt (g := gb152) (o := .cells #[.slice Ao26 y149.length co26, u153001] 31 (0, 0)) aK) : gb152 ≠ gb155))
             have n14_ := aM ((by rw [hg]; exact Nat.ne_of_gt (blk_lt (g := gb152) (o := .cells #[.slice Ao26 y149.length co26, u153001] 31 (0, 0)) aK) : gb155 ≠ gb152))
             clear HO_153000
             clear HO_153001
             clear BK142
             clear BK143
             clear BK152
             clear HB
             have HO_153000 := n0_
             have HO_153001 := n1_
             have BK142 := n2_
             have BK143 := n3_
             have BK152 := n4_
             have HB := n5_
             have BK155 := n6_
             have GW155 := n7_
             have GE155 := n8_
             have NB142_155 := n9_
             have NB155_142 := n10_
             have NB143_155 := n11_
             have NB155_143 := n12_
             have NB152_155 := n13_
             have NB155_152 := n14_
             clear n0_ n1_ n2_ n3_ n4_ n5_ n6_ n7_ n8_ n9_ n10_ n11_ n12_ n13_ n14_
             clear hb hbox hg
             refine hK.out _ _ ⟨(blk_cell BK142.out 0).trans rfl, (blk_cell BK142.out 1).trans rfl, (pw_cell_below HB.out hw153_0), (pw_cell_below HB.out hw154_0), (pw_cell_below HB.out hw154_1)⟩ (fun hHeld => ?_)
             clear hK K
             refine norm_ (a' := ?_) ?_ ?_
             rotate_left
             ·show Act.put _ (some 8) _ = _
              simp only [Act.put, List.setIfInBounds_toArray, List.set_cons_zero, List.set_cons_succ, i64_w, i32_w]
              rfl
             refine one_ (i := 9) (N := none) #[true, true, true, true, true, true, true, true, true, true] rfl rfl (one_of HT_.out (by kernel_rfl)) (by decide) (fun K hK => ?_)
             have hs39 : w38.cell? ⟨gb155, 0, none⟩ = some (.int .i64 0) := (blk_cell BK155.out 0).trans rfl
             have hfs39 := blk_frozen BK155.out 0
             have hns39_0 := NB142_155.out
             have hns39_1 := NB143_155.out
             have hns39_2 := NB152_155.out
             have hms39_0 := NB155_142.out
             have hms39_1 := NB155_143.out
             have hms39_2 := NB155_152.out
             have hs40 : w38.cell? ⟨gb155, 1, none⟩ = some (.slice none 0 0) := (blk_cell BK155.out 1).trans rfl
             have hfs40 := blk_frozen BK155.out 1
             have hns40_0 := NB142_155.out
             have hns40_1 := NB143_155.out
             have hns40_2 := NB152_155.out
             have hms40_0 := NB155_142.out
             have hms40_1 := NB155_143.out
             have hms40_2 := NB155_152.out
             refine skip_ (w1 := ?_) (by rfl) rfl ?_ ?_
             rotate_left
             ·go_simp
              rfl
             refine hK.out _ _ ⟨((cell_far (p := ⟨gb155, _, none⟩) NB142_155.out _).trans (((cell_far (p := ⟨gb155, _, none⟩) NB142_155.out _).trans (hHeld.1)))), ((cell_far (p := ⟨gb155, _, none⟩) NB142_155.out _).trans (((cell_far (p := ⟨gb155, _, none⟩) NB142_155.out _).trans (hHeld.2.1)))), ((cell_far (p := ⟨gb155, _, none⟩) (by first | exact Nat.ne_of_lt (Nat.lt_of_lt_of_le (by have := World.block_lt_of_cell? _ _ hw153_0; first | rwa [add_block] at this | exact this) GW155.out) | (rw [add_block]; exact Nat.ne_of_lt (Nat.lt_of_lt_of_le (by have := World.block_lt_of_cell? _ _ hw153_0; first | rwa [add_block] at this | exact this) GW155.out)) | (show (Addr.add _ _).block ≠ _; rw [add_block]; exact Nat.ne_of_lt (Nat.lt_of_lt_of_le (by have := World.block_lt_of_cell? _ _ hw153_0; first | rwa [add_block] at this | exact this) GW155.out)) | (dsimp only; exact Nat.ne_of_lt (Nat.lt_of_lt_of_le (by have := World.block_lt_of_cell? _ _ hw153_0; first | rwa [add_block] at this | exact this) GW155.out))) _).trans (((cell_far (p := ⟨gb155, _, none⟩) (by first | exact Nat.ne_of_lt (Nat.lt_of_lt_of_le (by have := World.block_lt_of_cell? _ _ hw153_0; first | rwa [add_block] at this | exact this) GW155.out) | (rw [add_block]; exact Nat.ne_of_lt (Nat.lt_of_lt_of_le (by have := World.block_lt_of_cell? _ _ hw153_0; first | rwa [add_block] at this | exact this) GW155.out)) | (show (Addr.add _ _).block ≠ _; rw [add_block]; exact Nat.ne_of_lt (Nat.lt_of_lt_of_le (by have := World.block_lt_of_cell? _ _ hw153_0; first | rwa [add_block] at this | exact this) GW155.out)) | (dsimp only; exact Nat.ne_of_lt (Nat.lt_of_lt_of_le (by have := World.block_lt_of_cell? _ _ hw153_0; first | rwa [add_block] at this | exact this) GW155.out))) _).trans (hHeld.2.2.1)))), ((cell_far (p := ⟨gb155, _, none⟩) (by first | exact Nat.ne_of_lt (Nat.lt_of_lt_of_le (by have := World.block_lt_of_cell? _ _ hw154_0; first | rwa [add_block] at this | exact this) GW155.out) | (rw [add_block]; exact Nat.ne_of_lt (Nat.lt_of_lt_of_le (by have := World.block_lt_of_cell? _ _ hw154_0; first | rwa [add_block] at this | exact this) GW155.out)) | (show (Addr.add _ _).block ≠ _; rw [add_block]; exact Nat.ne_of_lt (Nat.lt_of_lt_of_le (by have := World.block_lt_of_cell? _ _ hw154_0; first | rwa [add_block] at this | exact this) GW155.out)) | (dsimp only; exact Nat.ne_of_lt (Nat.lt_of_lt_of_le (by have := World.block_lt_of_cell? _ _ hw154_0; first | rwa [add_block] at this | exact this) GW155.out))) _).trans (((cell_far (p := ⟨gb155, _, none⟩) (by first | exact Nat.ne_of_lt (Nat.lt_of_lt_of_le (by have := World.block_lt_of_cell? _ _ hw154_0; first | rwa [add_block] at this | exact this) GW155.out) | (rw [add_block]; exact Nat.ne_of_lt (Nat.lt_of_lt_of_le (by have := World.block_lt_of_cell? _ _ hw154_0; first | rwa [add_block] at this | exact this) GW155.out)) | (show (Addr.add _ _).block ≠ _; rw [add_block]; exact Nat.ne_of_lt (Nat.lt_of_lt_of_le (by have := World.block_lt_of_cell? _ _ hw154_0; first | rwa [add_block] at this | exact this) GW155.out)) | (dsimp only; exact Nat.ne_of_lt (Nat.lt_of_lt_of_le (by have := World.block_lt_of_cell? _ _ hw154_0; first | rwa [add_block] at this | exact this) GW155.out))) _).trans (hHeld.2.2.2.1)))), ((cell_far (p := ⟨gb155, _, none⟩) (by first | exact Nat.ne_of_lt (Nat.lt_of_lt_of_le (by have := World.block_lt_of_cell? _ _ hw154_1; first | rwa [add_block] at this | exact this) GW155.out) | (rw [add_block]; exact Nat.ne_of_lt (Nat.lt_of_lt_of_le (by have := World.block_lt_of_cell? _ _ hw154_1; first | rwa [add_block] at this | exact this) GW155.out)) | (show (Addr.add _ _).block ≠ _; rw [add_block]; exact Nat.ne_of_lt (Nat.lt_of_lt_of_le (by have := World.block_lt_of_cell? _ _ hw154_1; first | rwa [add_block] at this | exact this) GW155.out)) | (dsimp only; exact Nat.ne_of_lt (Nat.lt_of_lt_of_le (by have := World.block_lt_of_cell? _ _ hw154_1; first | rwa [add_block] at this | exact this) GW155.out))) _).trans (((cell_far (p := ⟨gb155, _, none⟩) (by first | exact Nat.ne_of_lt (Nat.lt_of_lt_of_le (by have := World.block_lt_of_cell? _ _ hw154_1; first | rwa [add_block] at this | exact this) GW155.out) | (rw [add_block]; exact Nat.ne_of_lt (Nat.lt_of_lt_of_le (by have := World.block_lt_of_cell? _ _ hw154_1; first | rwa [add_block] at this | exact this) GW155.out)) | (show (Addr.add _ _).block ≠ _; rw [add_block]; exact Nat.ne_of_lt (Nat.lt_of_lt_of_le (by have := World.block_lt_of_cell? _ _ hw154_1; first | rwa [add_block] at this | exact this) GW155.out)) | (dsimp only; exact Nat.ne_of_lt (Nat.lt_of_lt_of_le (by have := World.block_lt_of_cell? _ _ hw154_1; first | rwa [add_block] at this | exact this) GW155.out))) _).trans (hHeld.2.2.2.2))))⟩ (fun hHeld => ?_)
             clear hK K
             refine done_ (done_of HT_.out (by kernel_rfl)) ?_
             try go_wp2
             have n0_ : Aside0 (Kd.R k74 74 ((w38.setCell ⟨gb155, 0, none⟩ (.int .i64 ((rd_T45 l0_1 (rd l1 x7_2)).f0))).setCell ⟨gb155, 1, none⟩ (.slice A154_1 ((rd_T45 l0_1 (rd l1 x7_2)).f1).length c154_1)) w.heap.size (fun _ => True) (.slice Ao26 y149.length co26) y149) := ⟨by (with_reducible repeat (first | apply Kd.R_alloc | apply Kd.R_drewN | apply Kd.R_drew)); exact Kd.R_mono (Kd.R_far (p := ⟨gb155, 1, none⟩) (Kd.R_far (p := ⟨gb155, 0, none⟩) (Kd.R_types HO_153000.out BK155.out (by decide)) (fun _ hk => hk.2) (.int .i64 ((rd_T45 l0_1 (rd l1 x7_2)).f0))) (fun _ hk => hk.2) (.slice A154_1 ((rd_T45 l0_1 (rd l1 x7_2)).f1).length c154_1)) (fun _ hk => trivial)⟩
             have n1_ : Aside0 (Kd.S k45 45 ((w38.setCell ⟨gb155, 0, none⟩ (.int .i64 ((rd_T45 l0_1 (rd l1 x7_2)).f0))).setCell ⟨gb155, 1, none⟩ (.slice A154_1 ((rd_T45 l0_1 (rd l1 x7_2)).f1).length c154_1)) w.heap.size (fun k_ => k_ ≠ gb155) u153001 x153001_2) := ⟨by (with_reducible repeat (first | apply Kd.S_alloc | apply Kd.S_drewN | apply Kd.S_drew)); exact Kd.S_mono (Kd.S_far (p := ⟨gb155, 1, none⟩) (Kd.S_far (p := ⟨gb155, 0, none⟩) (Kd.S_mono HO_153001.out (fun k_ hk => (⟨hk, hk.2⟩ : _ ∧ k_ ≠ gb155))) (fun _ hk => hk.2) (.int .i64 ((rd_T45 l0_1 (rd l1 x7_2)).f0))) (fun _ hk => hk.2) (.slice A154_1 ((rd_T45 l0_1 (rd l1 x7_2)).f1).length c154_1)) (fun _ hk => hk.1.2)⟩
             have n2_ : Aside0 (((w38.setCell ⟨gb155, 0, none⟩ (.int .i64 ((rd_T45 l0_1 (rd l1 x7_2)).f0))).setCell ⟨gb155, 1, none⟩ (.slice A154_1 ((rd_T45 l0_1 (rd l1 x7_2)).f1).length c154_1)).heap[gb142]? = some (.cells #[.slice A0_0 l0_0.length c0_0, .slice (some ad154) l0_1.length c0_1] 31 (0, 0))) := ⟨by (with_reducible repeat (first | refine blk_drewN ?_ _ | refine blk_drew ?_ | refine blk_alloc ?_ _)); refine blk_far ?_ NB142_155.out _; (with_reducible repeat (first | refine blk_drewN ?_ _ | refine blk_drew ?_ | refine blk_alloc ?_ _)); refine blk_far ?_ NB142_155.out _; (with_reducible repeat (first | refine blk_drewN ?_ _ | refine blk_drew ?_ | refine blk_alloc ?_ _)); exact BK142.out⟩
             have n3_ : Aside0 (((w38.setCell ⟨gb155, 0, none⟩ (.int .i64 ((rd_T45 l0_1 (rd l1 x7_2)).f0))).setCell ⟨gb155, 1, none⟩ (.slice A154_1 ((rd_T45 l0_1 (rd l1 x7_2)).f1).length c154_1)).heap[gb143]? = some (.cells #[.slice none 0 0, .slice none 0 0] 31 (0, 0))) := ⟨by (with_reducible repeat (first | refine blk_drewN ?_ _ | refine blk_drew ?_ | refine blk_alloc ?_ _)); refine blk_far ?_ NB143_155.out _; (with_reducible repeat (first | refine blk_drewN ?_ _ | refine blk_drew ?_ | refine blk_alloc ?_ _)); refine blk_far ?_ NB143_155.out _; (with_reducible repeat (first | refine blk_drewN ?_ _ | refine blk_drew ?_ | refine blk_alloc ?_ _)); exact BK143.out⟩
             have n4_ : Aside0 (((w38.setCell ⟨gb155, 0, none⟩ (.int .i64 ((rd_T45 l0_1 (rd l1 x7_2)).f0))).setCell ⟨gb155, 1, none⟩ (.slice A154_1 ((rd_T45 l0_1 (rd l1 x7_2)).f1).length c154_1)).heap[gb152]? = some (.cells #[.slice Ao26 y149.length co26, u153001] 31 (0, 0))) := ⟨by (with_reducible repeat (first | refine blk_drewN ?_ _ | refine blk_drew ?_ | refine blk_alloc ?_ _)); refine blk_far ?_ NB152_155.out _; (with_reducible repeat (first | refine blk_drewN ?_ _ | refine blk_drew ?_ | refine blk_alloc ?_ _)); refine blk_far ?_ NB152_155.out _; (with_reducible repeat (first | refine blk_drewN ?_ _ | refine blk_drew ?_ | refine blk_alloc ?_ _)); exact BK152.out⟩
             have n5_ : Aside0 (((w38.setCell ⟨gb155, 0, none⟩ (.int .i64 ((rd_T45 l0_1 (rd l1 x7_2)).f0))).setCell ⟨gb155, 1, none⟩ (.slice A154_1 ((rd_T45 l0_1 (rd l1 x7_2)).f1).length c154_1)).heap[gb155]? = some (.cells #[.int .i64 ((rd_T45 l0_1 (rd l1 x7_2)).f0), .slice A154_1 ((rd_T45 l0_1 (rd l1 x7_2)).f1).length c154_1] 45 (0, 0))) := ⟨by (with_reducible repeat (first | refine blk_drewN ?_ _ | refine blk_drew ?_ | refine blk_alloc ?_ _)); refine blk_put (cs := #[.int .i64 ((rd_T45 l0_1 (rd l1 x7_2)).f0), .slice none 0 0]) ?_ 1 _ rfl; (with_reducible repeat (first | refine blk_drewN ?_ _ | refine blk_drew ?_ | refine blk_alloc ?_ _)); refine blk_put (cs := #[.int .i64 0, .slice none 0 0]) ?_ 0 _ rfl; (with_reducible repeat (first | refine blk_drewN ?_ _ | refine blk_drew ?_ | refine blk_alloc ?_ _)); exact BK155.out⟩
             have n6_ : Aside0 (Below w.heap.size w ((w38.setCell ⟨gb155, 0, none⟩ (.int .i64 ((rd_T45 l0_1 (rd l1 x7_2)).f0))).setCell ⟨gb155, 1, none⟩ (.slice A154_1 ((rd_T45 l0_1 (rd l1 x7_2)).f1).length c154_1))) := ⟨by repeat (first | (with_reducible first | exact HB.out | apply below_alloc | apply pw_below_drewN | apply below_drew1 | refine below_set ?_ GE142.out | refine below_set ?_ GE143.out | refine below_set ?_ GE152.out | refine below_set ?_ GE155.out) | exact HB.out)⟩
             (try clear HO_153000)
             (try clear HO_153001)
             (try clear BK142)
             (try clear BK143)
             (try clear BK152)
             (try clear BK155)
             (try clear HB)
             generalize ((w38.setCell ⟨gb155, 0, none⟩ (.int .i64 ((rd_T45 l0_1 (rd l1 x7_2)).f0))).setCell ⟨gb155, 1, none⟩ (.slice A154_1 ((rd_T45 l0_1 (rd l1 x7_2)).f1).length c154_1)) = w41 at n0_ n1_ n2_ n3_ n4_ n5_ n6_ ⊢
             have HO_153000 := n0_
             have HO_153001 := n1_
             have BK142 := n2_
             have BK143 := n3_
             have BK152 := n4_
             have BK155 := n5_
             have HB := n6_
             clear n0_ n1_ n2_ n3_ n4_ n5_ n6_
             have n0_ := aM (Kd.R_drew HO_153000.out)
             have n1_ := aM (Kd.S_drew HO_153001.out)
             have n2_ := aM (blk_drew BK142.out)
             have n3_ := aM (blk_drew BK143.out)
             have n4_ := aM (blk_drew BK152.out)
             have n5_ := aM (blk_drew BK155.out)
             have n6_ := aM (below_drew1 HB.out)
             clear HO_153000
             clear HO_153001
             clear BK142
             clear BK143
             clear BK152
             clear BK155
             clear HB
             have HO_153000 := n0_
             have HO_153001 := n1_
             have BK142 := n2_
             have BK143 := n3_
             have BK152 := n4_
             have BK155 := n5_
             have HB := n6_
             clear n0_ n1_ n2_ n3_ n4_ n5_ n6_
             refine start_ (n := 13) (S := fun w' => w'.cell? ⟨gb152, 0, none⟩ = some (.slice Ao26 y149.length co26) ∧ w'.cell? ⟨gb152, 1, none⟩ = some (u153001) ∧ w'.cell? ⟨gb155, 0, none⟩ = some (.int .i64 ((rd_T45 l0_1 (rd l1 x7_2)).f0)) ∧ w'.cell? ⟨gb155, 1, none⟩ = some (.slice A154_1 ((rd_T45 l0_1 (rd l1 x7_2)).f1).length c154_1)) (ds := [12]) #[false, false, false, false, false, false, false, false, false, false, false, false, false] (by kernel_rfl) rfl rfl ⟨(blk_cell BK152.out 0).trans rfl, (blk_cell BK152.out 1).trans rfl, (blk_cell BK155.out 0).trans rfl, (blk_cell BK155.out 1).trans rfl⟩ (fun hHeld => ?_); refine with_tabW spec_SelectFacts.tab8 spec_SelectFacts.bits8 (fun HT_ HW_ => ?_)
             generalize w41.drew = w42 at HO_153000 HO_153001 BK142 BK143 BK152 BK155 HB hHeld ⊢
             refine pure_ (i := 0) (N := some 38) (v := ?_) (a' := ?_) #[true, false, false, false, false, false, false, false, false, false, false, false, false] rfl rfl (any_of HT_.out (by kernel_rfl)) (fun _ _ _ h => h) (Or.inl ⟨by rfl, ?_⟩) ?_ ?_
             rotate_left
             ·exact aI
             rotate_left
             ·exact aP
             refine pure_ (i := 2) (N := some 40) (v := ?_) (a' := ?_) #[true, false, true, false, false, false, false, false, false, false, false, false, false] rfl rfl (any_of HT_.out (by kernel_rfl)) (fun _ _ _ h => h) (Or.inl ⟨by rfl, ?_⟩) ?_ ?_
             rotate_left
             ·exact aI
             rotate_left
             ·exact aP
             refine pure_ (i := 5) (N := some 43) (v := ?_) (a' := ?_) #[true, false, true, false, false, true, false, false, false, false, false, false, false] rfl rfl (any_of HT_.out (by kernel_rfl)) (fun _ _ _ h => h) (Or.inl ⟨by rfl, ?_⟩) ?_ ?_
             rotate_left
             ·exact aI
             rotate_left
             ·exact aP
             refine take_ (i := 1) (N := some 39) (v := ?_) (a' := ?_) #[true, true, true, false, false, true, false, false, false, false, false, false, false] rfl rfl (take_ofW HT_.out HW_.out (by kernel_rfl)) (fun _ _ _ h => h) (Or.inl ⟨by rfl, ?_⟩) hHeld ?_ ?_
             rotate_left
             ·rintro w' ⟨s0, s1, s2, s3⟩
              go_simp
              with_reducible rfl
             rotate_left
             ·exact aP
             refine take_ (i := 3) (N := some 41) (v := ?_) (a' := ?_) #[true, true, true, true, false, true, false, false, false, false, false, false, false] rfl rfl (take_ofW HT_.out HW_.out (by kernel_rfl)) (fun _ _ _ h => h) (Or.inl ⟨by rfl, ?_⟩) hHeld ?_ ?_
             rotate_left
             ·rintro w' ⟨s0, s1, s2, s3⟩
              go_simp
              with_reducible rfl
             rotate_left
             ·exact aP
             refine take_ (i := 6) (N := some 44) (v := ?_) (a' := ?_) #[true, true, true, true, false, true, true, false, false, false, false, false, false] rfl rfl (take_ofW HT_.out HW_.out (by kernel_rfl)) (fun _ _ _ h => h) (Or.inl ⟨by rfl, ?_⟩) hHeld ?_ ?_
             rotate_left
             ·rintro w' ⟨s0, s1, s2, s3⟩
              go_simp
              with_reducible rfl
             rotate_left
             ·exact aP
             refine one_ (i := 4) (N := some 42) #[true, true, true, true, true, true, true, false, false, false, false, false, false] rfl rfl (one_of HT_.out (by kernel_rfl)) (by decide) (fun K hK => ?_)
             refine Kd.R_lit_step (Kd.int .i64) _ 3 ?hg (N := 42) ?hd (xs := ([] : List Int)) (inner := []) (ok := fun _ => True) (okp := fun _ => True) ?hr ?hp (fun _ hk => hk) trivial (Below.refl _ _) (Nat.le_refl _) (by simp) ?_; (case hd => rfl); (case hg => rfl); (case hr => first | (go_simp; done) | (go_simp; rfl)); (case hp => exact (Reps.none _ _))
             intro v157 w43 ho44 hb hg_ hnew_
             clear hg_ hnew_
             (first | rw [← Ny156.out] at ho44 | (simp only [Int.reduceToNat] at ho44; rw [← Ny156.out] at ho44))
             have n0_ := aM (Kd.R_below (aR HO_153000) hb)
             have n1_ := aM (Kd.S_elder' (aS HO_153001) (Kd.R_base ho44) hb)
             have n2_ := aM (Kd.R_lower ho44 (below_size aG))
             have n3_ := aM (blk_below (g := gb142) (o := .cells #[.slice A0_0 l0_0.length c0_0, .slice (some ad154) l0_1.length c0_1] 31 (0, 0)) aK hb)
             have n4_ := aM (blk_below (g := gb143) (o := .cells #[.slice none 0 0, .slice none 0 0] 31 (0, 0)) aK hb)
             have n5_ := aM (blk_below (g := gb152) (o := .cells #[.slice Ao26 y149.length co26, u153001] 31 (0, 0)) aK hb)
             have n6_ := aM (blk_below (g := gb155) (o := .cells #[.int .i64 ((rd_T45 l0_1 (rd l1 x7_2)).f0), .slice A154_1 ((rd_T45 l0_1 (rd l1 x7_2)).f1).length c154_1] 45 (0, 0)) aK hb)
             have n7_ := aM (below_step aG hb)
             clear HO_153000
             clear HO_153001
             clear BK142
             clear BK143
             clear BK152
             clear BK155
             clear HB
             have HO_153000 := n0_
             have HO_153001 := n1_
             have HO158 := n2_
             have BK142 := n3_
             have BK143 := n4_
             have BK152 := n5_
             have BK155 := n6_
             have HB := n7_
             clear n0_ n1_ n2_ n3_ n4_ n5_ n6_ n7_
             clear hb ho44
             refine hK.out _ _ ⟨(blk_cell BK152.out 0).trans rfl, (blk_cell BK152.out 1).trans rfl, (blk_cell BK155.out 0).trans rfl, (blk_cell BK155.out 1).trans rfl⟩ (fun hHeld => ?_)
             clear hK K
             refine norm_ (a' := ?_) ?_ ?_
             rotate_left
             ·show Act.put _ (some 42) _ = _
              simp only [Act.put, List.setIfInBounds_toArray, List.set_cons_zero, List.set_cons_succ, i64_w, i32_w]
              rfl
             refine one_ (i := 7) (N := some 45) #[true, true, true, true, true, true, true, true, false, false, false, false, false] rfl rfl (one_of HT_.out (by kernel_rfl)) (by decide) (fun K hK => ?_)
             refine Kd.R_append_rows_step (Kd.int .i64) (w0 := w) w.heap.size (by rfl) (.tmp 42) (.tmp 44) 26 3 (.int .i64 0) 8 rfl Try.underlying26 info3 rfl (by decide) (by omega) v157 y156 ((rd_T45 l0_1 (rd l1 x7_2)).f1) _ _ _ (fun _ => True) (fun _ => False) rfl rfl ?aO ?aR (fun _ _ h => h) (fun _ h => h.elim) ?aF ?aB ?aS ?aL ?_
             (case aR => exact aC)
             (case aB => exact aG)
             (case aF => exact (fun _ _ => trivial))
             (case aO => exact (aR HO158))
             (case aS => exact (below_size aG))
             (case aL => have := LMc35.out; omega)
             intro v160 w45 ho hb hg hat
             rw [← Ny159.out] at ho
             have n0_ := aM (Kd.R_over' (aR HO_153000) (Kd.R_typed (aR HO158)) (by decide) hg)
             have n1_ := aM (Kd.S_after (ok := (fun k_ => k_ ≠ gb155)) (aS HO_153001) hg hat)
             have n2_ := aM (blk_grown (g := gb142) (o := .cells #[.slice A0_0 l0_0.length c0_0, .slice (some ad154) l0_1.length c0_1] 31 (0, 0)) aK hg (Kd.R_ne HO158.out BK142.out (by decide)))
             have n3_ := aM (blk_grown (g := gb143) (o := .cells #[.slice none 0 0, .slice none 0 0] 31 (0, 0)) aK hg (Kd.R_ne HO158.out BK143.out (by decide)))
             have n4_ := aM (blk_grown (g := gb152) (o := .cells #[.slice Ao26 y149.length co26, u153001] 31 (0, 0)) aK hg (Kd.R_ne HO158.out BK152.out (by decide)))
             have n5_ := aM (blk_grown (g := gb155) (o := .cells #[.int .i64 ((rd_T45 l0_1 (rd l1 x7_2)).f0), .slice A154_1 ((rd_T45 l0_1 (rd l1 x7_2)).f1).length c154_1] 45 (0, 0)) aK hg (Kd.R_ne HO158.out BK155.out (by decide)))
             have n6_ := aM (hb)
             have n7_ := aM (ho)
             clear HO_153000
             clear HO_153001
             clear BK142
             clear BK143
             clear BK152
             clear BK155
             clear HB
             clear HO158
             have HO_153000 := n0_
             have HO_153001 := n1_
             have BK142 := n2_
             have BK143 := n3_
             have BK152 := n4_
             have BK155 := n5_
             have HB := n6_
             have HO161 := n7_
             clear n0_ n1_ n2_ n3_ n4_ n5_ n6_ n7_
             clear ho hb hg hat
             obtain ⟨Ao46, co46, eo46⟩ := Kd.R_slice HO161.out
             (first | subst eo46 | (injection eo46 with f1_ f2_ f3_; have f4_ := f1_.symm; have f5_ := f3_.symm; clear f1_ f2_ f3_; subst f4_; subst f5_))
             refine hK.out _ _ ⟨(blk_cell BK152.out 0).trans rfl, (blk_cell BK152.out 1).trans rfl, (blk_cell BK155.out 0).trans rfl, (blk_cell BK155.out 1).trans rfl⟩ (fun hHeld => ?_)
             clear hK K
             refine norm_ (a' := ?_) ?_ ?_
             rotate_left
             ·show Act.put _ (some 45) _ = _
              simp only [Act.put, List.setIfInBounds_toArray, List.set_cons_zero, List.set_cons_succ, i64_w, i32_w]
              rfl
             refine pure_ (i := 8) (N := some 46) (v := ?_) (a' := ?_) #[true, true, true, true, true, true, true, true, true, false, false, false, false] rfl rfl (any_of HT_.out (by kernel_rfl)) (fun _ _ _ h => h) (Or.inl ⟨by rfl, ?_⟩) ?_ ?_
             rotate_left
             ·exact aI
             rotate_left
             ·exact aP
             refine one_ (i := 9) (N := some 47) #[true, true, true, true, true, true, true, true, true, true, false, false, false] rfl rfl (one_of HT_.out (by kernel_rfl)) (by decide) (fun K hK => ?_)
             refine value_ (w1 := ?_) (v := ?_) (by rfl) rfl ?_ ?_
             rotate_left 2
             ·go_simp
              constructor
              ·rfl
              ·rfl
             refine hK.out _ _ ⟨(blk_cell (blk_alloc BK152.out _) 0).trans rfl, (blk_cell (blk_alloc BK152.out _) 1).trans rfl, (blk_cell (blk_alloc BK155.out _) 0).trans rfl, (blk_cell (blk_alloc BK155.out _) 1).trans rfl⟩ (fun hHeld => ?_)
             clear hK K
             refine norm_ (a' := ?_) ?_ ?_
             rotate_left
             ·show Act.put _ (some 47) _ = _
              simp only [Act.put, List.setIfInBounds_toArray, List.set_cons_zero, List.set_cons_succ, i64_w, i32_w]
              rfl
             refine one_ (i := 10) (N := some 48) #[true, true, true, true, true, true, true, true, true, true, true, false, false] rfl rfl (one_of HT_.out (by kernel_rfl)) (by decide) (fun K hK => ?_)
             refine Kd.S_append_step k45 (w0 := w) w.heap.size (by rfl) (.tmp 39) (.tmp 47) 29 45 (.agg #[(.int .i64 0), (.slice none 0 0)]) 32 rfl Try.underlying29 info45 rfl (by decide) (by omega) u153001 x153001_2 (⟨(rd_T45 l0_1 (rd l1 x7_2)).f0, y159⟩ : S45) [.int .i64 ((rd_T45 l0_1 (rd l1 x7_2)).f0), .slice Ao46 y159.length co46] (fun k_ => k_ ≠ gb155) (fun k_ => some k_ = (.slice Ao46 y159.length co46 : Value).ownBlock) rfl rfl ?aP (fun k_ hk_ => ((Kd.R_mono (ok' := fun k_ => ((fun k_ => k_ ≠ gb155)) k_ ∧ some k_ ≠ (u153001 : Value).ownBlock) (Kd.R_types (Kd.R_apart' (HO161.out) (Kd.S_typed HO_153001.out) (by decide)) BK155.out (by decide)) (fun k_ hk => ⟨hk.2, hk.1.2⟩))).1 k_ hk_.symm) ?aF ?aO ?aB ?aS ?aL ?_
             (case aP => exact k45_mkM _ _ _ (⟨(rd_T45 l0_1 (rd l1 x7_2)).f0, y159⟩ : S45) (Kd.R_mono (Kd.R_tight rfl (Kd.R_mono (ok' := fun k_ => ((fun k_ => k_ ≠ gb155)) k_ ∧ some k_ ≠ (u153001 : Value).ownBlock) (Kd.R_types (Kd.R_apart' (HO161.out) (Kd.S_typed HO_153001.out) (by decide)) BK155.out (by decide)) (fun k_ hk => ⟨hk.2, hk.1.2⟩))) (fun _ h_ => h_)))
             (case aB => exact aG)
             (case aF => exact (fun k_ hk => Kd.freshB (g := gb155) (o := .cells #[.int .i64 ((rd_T45 l0_1 (rd l1 x7_2)).f0), .slice A154_1 ((rd_T45 l0_1 (rd l1 x7_2)).f1).length c154_1] 45 (0, 0)) aK k_ hk))
             (case aO => exact (by (with_reducible repeat (first | apply Kd.S_alloc | apply Kd.S_drewN | apply Kd.S_drew)); exact Kd.S_mono HO_153001.out (fun k_ hk => ⟨hk.1, fun e_ => hk.2 e_⟩)))
             (case aS => exact (below_size aG))
             (case aL => have := LMc36.out; omega)
             intro v163 w47 ho hb hg hat
             rw [← Ny162.out] at ho
             have n0_ := aM (Kd.R_over' (aR HO_153000) (Kd.S_typed (aS HO_153001)) (by decide) hg)
             have n1_ := aM (blk_grown (g := gb142) (o := .cells #[.slice A0_0 l0_0.length c0_0, .slice (some ad154) l0_1.length c0_1] 31 (0, 0)) aK hg (Kd.S_ne HO_153001.out BK142.out (by decide)))
             have n2_ := aM (blk_grown (g := gb143) (o := .cells #[.slice none 0 0, .slice none 0 0] 31 (0, 0)) aK hg (Kd.S_ne HO_153001.out BK143.out (by decide)))
             have n3_ := aM (blk_grown (g := gb152) (o := .cells #[.slice Ao26 y149.length co26, u153001] 31 (0, 0)) aK hg (Kd.S_ne HO_153001.out BK152.out (by decide)))
             have n4_ := aM (blk_grown (g := gb155) (o := .cells #[.int .i64 ((rd_T45 l0_1 (rd l1 x7_2)).f0), .slice A154_1 ((rd_T45 l0_1 (rd l1 x7_2)).f1).length c154_1] 45 (0, 0)) aK hg (Kd.S_away HO_153001.out (fun _ hk => hk.1)))
             have n5_ := aM (hb)
             have n6_ := aM (ho)
             clear HO_153000
             clear BK142
             clear BK143
             clear BK152
             clear BK155
             clear HB
             clear HO_153001
             clear HO161
             have HO_153000 := n0_
             have BK142 := n1_
             have BK143 := n2_
             have BK152 := n3_
             have BK155 := n4_
             have HB := n5_
             have HO164 := n6_
             clear n0_ n1_ n2_ n3_ n4_ n5_ n6_
             clear ho hb hg hat
             obtain ⟨Ao48, co48, eo48⟩ := Kd.S_slice HO164.out
             (first | subst eo48 | (injection eo48 with f1_ f2_ f3_; have f4_ := f1_.symm; have f5_ := f3_.symm; clear f1_ f2_ f3_; subst f4_; subst f5_))
             refine hK.out _ _ ⟨(blk_cell BK152.out 0).trans rfl, (blk_cell BK152.out 1).trans rfl, (blk_cell BK155.out 0).trans rfl, (blk_cell BK155.out 1).trans rfl⟩ (fun hHeld => ?_)
             clear hK K
             refine norm_ (a' := ?_) ?_ ?_
             rotate_left
             ·show Act.put _ (some 48) _ = _
              simp only [Act.put, List.setIfInBounds_toArray, List.set_cons_zero, List.set_cons_succ, i64_w, i32_w]
              rfl
             refine pure_ (i := 11) (N := some 49) (v := ?_) (a' := ?_) #[true, true, true, true, true, true, true, true, true, true, true, true, false] rfl rfl (any_of HT_.out (by kernel_rfl)) (fun _ _ _ h => h) (Or.inl ⟨by rfl, ?_⟩) ?_ ?_
             rotate_left
             ·exact aI
             rotate_left
             ·exact aP
             refine last_ (i := 12) (N := none) #[true, true, true, true, true, true, true, true, true, true, true, true, true] rfl rfl (one_of HT_.out (by kernel_rfl)) (by decide) (fun K hK => ?_)
             have hs49 : w47.cell? ⟨gb152, 1, none⟩ = some (u153001) := (blk_cell BK152.out 1).trans rfl
             have hfs49 := blk_frozen BK152.out 1
             have hns49_0 := NB142_152.out
             have hns49_1 := NB143_152.out
             have hns49_3 := NB155_152.out
             have hms49_0 := NB152_142.out
             have hms49_1 := NB152_143.out
             have hms49_3 := NB152_155.out
             refine skip_ (w1 := ?_) (by rfl) rfl ?_ ?_
             rotate_left
             ·go_simp
              rfl
             refine hK.out _ _ ?_
             clear hK K
             refine done_ (done_of HT_.out (by kernel_rfl)) ?_
             try go_wp2
             go_roundg k2
             case measure => have := HJ2.out; have := HK2.out; omega
             case rel => exact ⟨(wrap64 (x7_2 + 1)), (y162), (.slice Ao48 y162.length co48), (by first | rfl | (simp; done) | (simp [*]; done)), H', ⟨by have := HJ2.out; have := HK2.out; omega⟩, ⟨by (with_reducible repeat (first | apply Kd.R_alloc | apply Kd.R_drewN | apply Kd.R_drew)); exact Kd.R_mono (Kd.R_far (p := ⟨gb152, 1, none⟩) (Kd.R_types HO_153000.out BK152.out (by decide)) (fun _ hk => hk.2) (.slice Ao48 y162.length co48)) (fun _ hk => trivial)⟩, ⟨by (with_reducible repeat (first | apply Kd.S_alloc | apply Kd.S_drewN | apply Kd.S_drew)); exact Kd.S_mono (Kd.S_far (p := ⟨gb152, 1, none⟩) (Kd.S_types HO164.out BK152.out (by decide)) (fun _ hk => hk.2) (.slice Ao48 y162.length co48)) (fun _ hk => trivial)⟩, ⟨by (with_reducible repeat (first | refine blk_drewN ?_ _ | refine blk_drew ?_ | refine blk_alloc ?_ _)); refine blk_far ?_ NB142_152.out _; (with_reducible repeat (first | refine blk_drewN ?_ _ | refine blk_drew ?_ | refine blk_alloc ?_ _)); exact BK142.out⟩, ⟨by (with_reducible repeat (first | refine blk_drewN ?_ _ | refine blk_drew ?_ | refine blk_alloc ?_ _)); refine blk_far ?_ NB143_152.out _; (with_reducible repeat (first | refine blk_drewN ?_ _ | refine blk_drew ?_ | refine blk_alloc ?_ _)); exact BK143.out⟩, ⟨by (with_reducible repeat (first | refine blk_drewN ?_ _ | refine blk_drew ?_ | refine blk_alloc ?_ _)); refine blk_put (cs := #[.slice Ao26 y149.length co26, u153001]) ?_ 1 _ rfl; (with_reducible repeat (first | refine blk_drewN ?_ _ | refine blk_drew ?_ | refine blk_alloc ?_ _)); exact BK152.out⟩, ⟨by repeat (first | (with_reducible first | exact HB.out | apply below_alloc | apply pw_below_drewN | apply below_drew1 | refine below_set ?_ GE142.out | refine below_set ?_ GE143.out | refine below_set ?_ GE152.out | refine below_set ?_ GE155.out) | exact HB.out)⟩⟩
            ·rw [if_neg c36] at H
             exact absurd H (by simp)
           ·rw [if_neg c35] at H
            exact absurd H (by simp)
          ·rw [if_neg c34] at H
           exact absurd H (by simp)
         ·rw [if_neg c33] at H
          exact absurd H (by simp)
        ·rw [if_neg c32] at H
         exact absurd H (by simp)
       ·rw [if_neg c31] at H
        have c31b0 : decide (x7_2 < (l1.length : Int)) = false := decide_eq_false c31
        clear c31
        simp only [Option.some.injEq, Prod.mk.injEq] at H
        obtain ⟨rfl, rfl, rfl⟩ := H
        have hnb50 := NB152_142.out
        have hnc50 := NB142_152.out
        have hnb51 := NB152_143.out
        have hnc51 := NB143_152.out
        have hcz52_0 : wr.cell? ⟨gb152, 0, none⟩ = some (.slice Ao26 y149.length co26) := (blk_cell BK152.out 0).trans rfl
        have hcz52_1 : wr.cell? ⟨gb152, 1, none⟩ = some (u153001) := (blk_cell BK152.out 1).trans rfl
        have hfz52_0 := blk_frozen BK152.out 0
        have hfz52_1 := blk_frozen BK152.out 1
        have hnb53 := NB143_142.out
        have hnc53 := NB142_143.out
        have hcz54_0 : wr.cell? ⟨gb143, 0, none⟩ = some (.slice none 0 0) := (blk_cell BK143.out 0).trans rfl
        have hcz54_1 : wr.cell? ⟨gb143, 1, none⟩ = some (.slice none 0 0) := (blk_cell BK143.out 1).trans rfl
        have hfz54_0 := blk_frozen BK143.out 0
        have hfz54_1 := blk_frozen BK143.out 1
        obtain ⟨Ao55, co55, eo55⟩ := Kd.S_slice HO_153001.out
        subst eo55
        go_wp2
        refine bodyPost_ret (results_ct rfl _ _ gb143 31 #[.slice Ao26 y149.length co26, .slice Ao55 x153001_2.length co55] (0, 0) _ rfl (by (with_reducible repeat (first | refine blk_drewN ?_ _ | refine blk_drew ?_ | refine blk_alloc ?_ _)); refine blk_put (cs := #[.slice Ao26 y149.length co26, .slice none 0 0]) ?_ 1 _ rfl; (with_reducible repeat (first | refine blk_drewN ?_ _ | refine blk_drew ?_ | refine blk_alloc ?_ _)); refine blk_put (cs := #[.slice none 0 0, .slice none 0 0]) ?_ 0 _ rfl; (with_reducible repeat (first | refine blk_drewN ?_ _ | refine blk_drew ?_ | refine blk_alloc ?_ _)); exact BK143.out) Try.underlying31 rfl (by kernel_rfl)) rfl ?_
        exact ⟨_, _, by first | rfl | (simp [errW_none, errW_some] <;> rfl) | (simp [*, errW_none, errW_some] <;> rfl), by (with_reducible repeat (first | apply Kd.R_alloc | apply Kd.R_drewN | apply Kd.R_drew)); exact Kd.R_mono (Kd.R_far (p := ⟨gb143, 1, none⟩) (Kd.R_far (p := ⟨gb143, 0, none⟩) (Kd.R_types HO_153000.out BK143.out (by decide)) (fun _ hk => hk.2) (.slice Ao26 y149.length co26)) (fun _ hk => hk.2) (.slice Ao55 x153001_2.length co55)) (fun _ hk => trivial), by (with_reducible repeat (first | apply Kd.S_alloc | apply Kd.S_drewN | apply Kd.S_drew)); exact Kd.S_mono (Kd.S_far (p := ⟨gb143, 1, none⟩) (Kd.S_far (p := ⟨gb143, 0, none⟩) (Kd.S_types HO_153001.out BK143.out (by decide)) (fun _ hk => hk.2) (.slice Ao26 y149.length co26)) (fun _ hk => hk.2) (.slice Ao55 x153001_2.length co55)) (fun _ hk => trivial), by repeat (first | (with_reducible first | exact HB.out | apply below_alloc | apply pw_below_drewN | apply below_drew1 | refine below_set ?_ GE142.out | refine below_set ?_ GE143.out | refine below_set ?_ GE152.out) | exact HB.out)⟩
    ·rw [if_neg c20] at H
     exact absurd H (by simp)

end Go.Proofs.Yteddnlklfjpgoaa.PFnExactSelectFacts
