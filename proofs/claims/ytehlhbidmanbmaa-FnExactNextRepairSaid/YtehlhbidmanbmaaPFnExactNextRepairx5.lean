-- Laid by a program of this claim: what the functions come to, some of them proved by hand.
import Derived.Test.YtehlhbidmanbmaaPFnExactNextRepairx0
import Derived.Test.YtehlhbidmanbmaaPFnExactNextRepairx4
namespace Go.Proofs.Ytehlhbidmanbmaa.PFnExactNextRepair
open Go.RowKit Go.Proofs.YtehlhbidmanbmaaW.PrintWords Go.Proofs.YtehlhbidmanbmaaW.PrintLast Go.Proofs.YtehlhbidmanbmaaW.PrintMore
attribute [local go_sem] max2_int min2_int max_two min_two max_three min_three max_four min_four   -- for this text's walks alone
set_option linter.unusedVariables false
set_option linter.unusedSimpArgs false

/-! ### spec_SelectFacts: function 33 -/
mutual
def spec_SelectFacts.j0 : Nat → List Int → Bool → List (S86) → List (S50) → Option ((List (S86)) × (List (S50)) × Bool)
 | 0, _, _, _, _ => none
 | k + 1, x1, x17, x209000, x209001 => if x17 = true then (some (([] : List (S86)), ([] : List (S50)), false)) else ((some (([] : List (S86)) : List (S86))).bind fun y212 => (if y212.length + x209000.length < 4398046511104 then (spec_SelectFacts.l0 k x1 0 x209000 x209001 (y212 ++ x209000) ([] : List (S50))) else (none)))
def spec_SelectFacts.l0 : Nat → List Int → Int → List (S86) → List (S50) → List (S86) → List (S50) → Option ((List (S86)) × (List (S50)) × Bool)
 | 0, _, _, _, _, _, _ => none
 | k + 1, x1, x7, x209000, x209001, x219000, x219001 => if x7 < (x1.length : Int) then (if 0 ≤ x7 then (if 0 ≤ (rd x1 x7) then (if (rd x1 x7) < (x209001.length : Int) then ((some (([] : List Int) : List Int)).bind fun y222 => (if y222.length + ((rd_T50 x209001 (rd x1 x7)).f1).length < 17592186044416 then (if x219001.length < 4398046511104 then (spec_SelectFacts.l0 k x1 (wrap64 (x7 + 1)) x209000 x209001 x219000 (x219001 ++ [(⟨(rd_T50 x209001 (rd x1 x7)).f0, (y222 ++ ((rd_T50 x209001 (rd x1 x7)).f1))⟩ : S50)])) else (none)) else (none))) else (none)) else (none)) else (none)) else (some (x219000, x219001, true))
end
def spec_SelectFacts.f (k : Nat) (l0_0 : List (S86)) (l0_1 : List (S50)) (l1 : List Int) : Option ((List (S86)) × (List (S50)) × Bool) := (spec_IsValidDatabase.f k l0_0 l0_1).bind fun t210 => (if t210 = true then ((spec_l4Set.f k l0_0 l0_1 l1).bind fun t211 => (spec_SelectFacts.j0 k l1 (!t211) l0_0 l0_1)) else (spec_SelectFacts.j0 k l1 true l0_0 l0_1))
def spec_SelectFacts.T7 : Bool × List (List Nat × List Nat) := (true, [([], []), ([0], [0]), ([], []), ([], []), ([2, 3], [2, 3]), ([4], [4]), ([1, 5], [1, 5]), ([6], [6]), ([], []), ([8, 7, 0, 1, 2, 3, 4, 5, 6, 7, 8], [7, 8])])
def spec_SelectFacts.B7 : List Nat := [0, 1, 0, 0, 12, 28, 63, 127, 0, 511]
theorem spec_SelectFacts.tab7 : rtab .any (opsOf Try.f33 7) = spec_SelectFacts.T7 := by kernel_rfl
theorem spec_SelectFacts.bits7 : waitsOk spec_SelectFacts.T7.2 spec_SelectFacts.B7 = true := by kernel_rfl
def spec_SelectFacts.T8 : Bool × List (List Nat × List Nat) := (true, [([], []), ([0], [0]), ([], []), ([2], [2]), ([], []), ([], []), ([5], [5]), ([4, 6], [4, 6]), ([3, 7], [3, 7]), ([8], [8]), ([1, 9, 7], [1, 9]), ([0, 1, 2, 3, 4, 5, 6, 7, 8, 9, 10], []), ([11, 10, 10, 0, 1, 2, 3, 4, 5, 6, 7, 8, 9, 10], [10, 11])])
def spec_SelectFacts.B8 : List Nat := [0, 1, 0, 4, 0, 0, 32, 112, 252, 508, 1023, 2047, 4095]
theorem spec_SelectFacts.tab8 : rtab .any (opsOf Try.f33 8) = spec_SelectFacts.T8 := by kernel_rfl
theorem spec_SelectFacts.bits8 : waitsOk spec_SelectFacts.T8.2 spec_SelectFacts.B8 = true := by kernel_rfl
set_option maxHeartbeats 8000000 in
set_option maxRecDepth 100000 in
theorem spec_SelectFacts.calls (k : Nat) (A0_0 : Option Addr) (c0_0 : Nat) (l0_0 : List (S86)) (A0_1 : Option Addr) (c0_1 : Nat) (l0_1 : List (S50)) (A1 : Option Addr) (c1 : Nat) (l1 : List Int) (r1 : List (S86)) (r2 : List (S50)) (r3 : Bool) (w : World) (hr0_0 : Kd.C k86 w A0_0 l0_0.length l0_0) (hc0_0 : l0_0.length ≤ c0_0) (hr0_1 : Kd.C k50 w A0_1 l0_1.length l0_1) (hc0_1 : l0_1.length ≤ c0_1) (hr1 : Kd.C (Kd.int .i64) w A1 l1.length l1) (hc1 : l1.length ≤ c1) (h : spec_SelectFacts.f k l0_0 l0_1 l1 = some (r1, r2, r3)) :
  Calls Try.prog 33 #[.agg #[.slice A0_0 l0_0.length c0_0, .slice A0_1 l0_1.length c0_1], .slice A1 l1.length c1] w fun e w' => ∃ v0_ v1_ : Value, e = .returned (.tuple #[.agg #[v0_, v1_], .bool r3]) ∧ Kd.R k86 86 w' w.heap.size (fun _ => True) v0_ r1 ∧ Kd.S k50 50 w' w.heap.size (fun _ => True) v1_ r2 ∧ Below w.heap.size w w' := by
 have hu32 := Try.underlying32
 have hu50 := Try.underlying50
 have HR0_0 := aM hr0_0
 have HC0_0 := aM hc0_0
 clear hr0_0 hc0_0
 have HR0_1 := aM hr0_1
 have HC0_1 := aM hc0_1
 clear hr0_1 hc0_1
 have HR1 := aM hr1
 have HC1 := aM hc1
 clear hr1 hc1
 have HB := aM (Below.refl w.heap.size w)
 have H : ((spec_IsValidDatabase.f k l0_0 l0_1).bind fun t210 => (if t210 = true then ((spec_l4Set.f k l0_0 l0_1 l1).bind fun t211 => (spec_SelectFacts.j0 k l1 (!t211) l0_0 l0_1)) else (spec_SelectFacts.j0 k l1 true l0_0 l0_1))) = some (r1, r2, r3) := h
 clear h
 have HC3 := aM H
 clear H
 go_enter Try.func33, Try.ntmps33
 go_upto_region 1 with (first | ((with_reducible refine gate_dst (N := 2) rfl ?_); refine box_event ?hg (N := 2) ?hd (cs := #[.slice A0_0 l0_0.length c0_0, .slice A0_1 l0_1.length c0_1]) (t := 32) ?hr ?_; (case hd => rfl); (case hg => rfl); (case hr => first | (go_simp; done) | (go_simp; rfl)); intro gb208 hg w4 hbox hb; have n0_ := aM (below_step aB hb); have n1_ := aM (hbox); have n2_ := aM ((by rw [hg]; exact (below_size aB) : w.heap.size ≤ gb208)); have n3_ := aM ((by rw [hg]; exact (below_size aB) : w.heap.size ≤ gb208)); clear HB; have HB := n0_; have BK208 := n1_; have GW208 := n2_; have GE208 := n3_; clear n0_ n1_ n2_ n3_; clear hb hbox hg) | ((with_reducible refine gate_dst (N := 4) rfl ?_); refine box_event ?hg (N := 4) ?hd (cs := #[.slice none 0 0, .slice none 0 0]) (t := 32) ?hr ?_; (case hd => rfl); (case hg => rfl); (case hr => first | (go_simp; done) | (go_simp; rfl)); intro gb209 hg w5 hbox hb; have n0_ := aM (blk_below (g := gb208) (o := .cells #[.slice A0_0 l0_0.length c0_0, .slice A0_1 l0_1.length c0_1] 32 (0, 0)) aK hb); have n1_ := aM (below_step aG hb); have n2_ := aM (hbox); have n3_ := aM ((by rw [hg]; exact (below_size aG) : w.heap.size ≤ gb209)); have n4_ := aM ((by rw [hg]; exact (below_size aG) : w.heap.size ≤ gb209)); have n5_ := aM ((by rw [hg]; exact Nat.ne_of_lt (blk_lt (g := gb208) (o := .cells #[.slice A0_0 l0_0.length c0_0, .slice A0_1 l0_1.length c0_1] 32 (0, 0)) aK) : gb208 ≠ gb209)); have n6_ := aM ((by rw [hg]; exact Nat.ne_of_gt (blk_lt (g := gb208) (o := .cells #[.slice A0_0 l0_0.length c0_0, .slice A0_1 l0_1.length c0_1] 32 (0, 0)) aK) : gb209 ≠ gb208)); clear BK208; clear HB; have BK208 := n0_; have HB := n1_; have BK209 := n2_; have GW209 := n3_; have GE209 := n4_; have NB208_209 := n5_; have NB209_208 := n6_; clear n0_ n1_ n2_ n3_ n4_ n5_ n6_; clear hb hbox hg))
 (try simp only [Act.put, List.setIfInBounds_toArray, List.set_cons_zero, List.set_cons_succ])
 go_cut [17] (fun v17 wc => ∃ (kq : Nat) (x17_2 : Bool), v17 = .bool x17_2 ∧ Aside0 (spec_SelectFacts.j0 kq l1 x17_2 l0_0 l0_1 = some (r1, r2, r3)) ∧ Aside0 (kq ≤ k) ∧ Aside0 (wc.heap[gb208]? = some (.cells #[(.slice A0_0 l0_0.length c0_0), (.slice A0_1 l0_1.length c0_1)] 32 (0, 0))) ∧ Aside0 (wc.heap[gb209]? = some (.cells #[(.slice none 0 0), (.slice none 0 0)] 32 (0, 0))) ∧ Aside0 (Below w.heap.size w wc))
 case first =>
  have H := HC3.out
  clear HC3
  replace H := Option.bind_eq_some_iff.mp H
  obtain ⟨t210, A60, H⟩ := H
  replace H : (if t210 = true then ((spec_l4Set.f k l0_0 l0_1 l1).bind fun t211 => (spec_SelectFacts.j0 k l1 (!t211) l0_0 l0_1)) else (spec_SelectFacts.j0 k l1 true l0_0 l0_1)) = some (r1, r2, r3) := H
  have A6 := aM A60
  clear A60
  by_cases c7 : t210 = true
  ·subst c7
   have H1 : ((spec_l4Set.f k l0_0 l0_1 l1).bind fun t211 => (spec_SelectFacts.j0 k l1 (!t211) l0_0 l0_1)) = some (r1, r2, r3) := by rw [if_pos rfl] at H; exact H
   clear H
   have H := H1
   clear H1
   replace H := Option.bind_eq_some_iff.mp H
   obtain ⟨t211, A80, H⟩ := H
   replace H : (spec_SelectFacts.j0 k l1 (!t211) l0_0 l0_1) = some (r1, r2, r3) := H
   have A8 := aM A80
   clear A80
   have H' := aM H
   clear H
   have hnb9 := NB208_209.out
   have hnc9 := NB209_208.out
   have hcz10_0 : w5.cell? ⟨gb208, 0, none⟩ = some (.slice A0_0 l0_0.length c0_0) := (blk_cell BK208.out 0).trans rfl
   have hcz10_1 : w5.cell? ⟨gb208, 1, none⟩ = some (.slice A0_1 l0_1.length c0_1) := (blk_cell BK208.out 1).trans rfl
   have hfz10_0 := blk_frozen BK208.out 0
   have hfz10_1 := blk_frozen BK208.out 1
   go_wp2_with (first | ((with_reducible refine gate_callee (f := 60) rfl ?_); refine goesL_ (some 10) rfl rfl Try.func60 (by kernel_rfl) rfl #[.agg #[.slice A0_0 l0_0.length c0_0, .slice A0_1 l0_1.length c0_1]] rfl (by (try simp only [List.map_toArray, List.map_cons, List.map_nil]); first | done | rfl | (simp only [List.length_drop, List.length_take]; rfl)) ?_; (with_reducible refine (spec_IsValidDatabase.calls k _ _ l0_0 _ _ l0_1 true _ ?side1 ?side2 ?side3 ?side4 A6.out).mono ?_); (case side1 => exact aC); (case side2 => exact HC0_0.out); (case side3 => exact aC); (case side4 => exact HC0_1.out); rintro e w11 ⟨rfl, hb⟩; refine ⟨_, rfl, ?_⟩; have n0_ := aM (blk_below (g := gb208) (o := .cells #[.slice A0_0 l0_0.length c0_0, .slice A0_1 l0_1.length c0_1] 32 (0, 0)) aK hb); have n1_ := aM (blk_below (g := gb209) (o := .cells #[.slice none 0 0, .slice none 0 0] 32 (0, 0)) aK hb); have n2_ := aM (below_step aG hb); clear BK208; clear BK209; clear HB; have BK208 := n0_; have BK209 := n1_; have HB := n2_; clear n0_ n1_ n2_; (try clear hb); (try clear hb2); (try clear hk); (try clear hi); have hcz12_0 : w11.cell? ⟨gb208, 0, none⟩ = some (.slice A0_0 l0_0.length c0_0) := (blk_cell BK208.out 0).trans rfl; have hcz12_1 : w11.cell? ⟨gb208, 1, none⟩ = some (.slice A0_1 l0_1.length c0_1) := (blk_cell BK208.out 1).trans rfl; have hfz12_0 := blk_frozen BK208.out 0; have hfz12_1 := blk_frozen BK208.out 1) | (go_at_call 68; (with_reducible refine (spec_l4Set.calls k _ _ l0_0 _ _ l0_1 _ _ l1 t211 _ ?side1 ?side2 ?side3 ?side4 ?side5 ?side6 A8.out).mono ?_); (case side1 => exact aC); (case side2 => exact HC0_0.out); (case side3 => exact aC); (case side4 => exact HC0_1.out); (case side5 => exact aC); (case side6 => exact HC1.out); rintro e w13 ⟨rfl, hb⟩; have n0_ := aM (blk_below (g := gb208) (o := .cells #[.slice A0_0 l0_0.length c0_0, .slice A0_1 l0_1.length c0_1] 32 (0, 0)) aK hb); have n1_ := aM (blk_below (g := gb209) (o := .cells #[.slice none 0 0, .slice none 0 0] 32 (0, 0)) aK hb); have n2_ := aM (below_step aG hb); clear BK208; clear BK209; clear HB; have BK208 := n0_; have BK209 := n1_; have HB := n2_; clear n0_ n1_ n2_; (try clear hb); (try clear hb2); (try clear hk); (try clear hi)))
   go_meet
   case rel => exact ⟨_, (!t211), (by first | rfl | (simp; done) | (simp [*]; done)), H', ⟨by first | omega | exact Nat.le_refl _⟩, ⟨by (with_reducible repeat (first | refine blk_drewN ?_ _ | refine blk_drew ?_ | refine blk_alloc ?_ _)); exact BK208.out⟩, ⟨by (with_reducible repeat (first | refine blk_drewN ?_ _ | refine blk_drew ?_ | refine blk_alloc ?_ _)); exact BK209.out⟩, ⟨by repeat (first | (with_reducible first | exact HB.out | apply below_alloc | apply pw_below_drewN | apply below_drew1 | refine below_set ?_ GE208.out | refine below_set ?_ GE209.out) | exact HB.out)⟩⟩
  ·replace c7 := Bool.eq_false_iff.mpr c7
   subst c7
   have H1 : (spec_SelectFacts.j0 k l1 true l0_0 l0_1) = some (r1, r2, r3) := by rw [if_neg (show ¬ (false = true) by decide)] at H; exact H
   clear H
   have H := H1
   clear H1
   have H' := aM H
   clear H
   have hnb14 := NB208_209.out
   have hnc14 := NB209_208.out
   have hcz15_0 : w5.cell? ⟨gb208, 0, none⟩ = some (.slice A0_0 l0_0.length c0_0) := (blk_cell BK208.out 0).trans rfl
   have hcz15_1 : w5.cell? ⟨gb208, 1, none⟩ = some (.slice A0_1 l0_1.length c0_1) := (blk_cell BK208.out 1).trans rfl
   have hfz15_0 := blk_frozen BK208.out 0
   have hfz15_1 := blk_frozen BK208.out 1
   go_wp2_with (first | ((with_reducible refine gate_callee (f := 60) rfl ?_); refine goesL_ (some 10) rfl rfl Try.func60 (by kernel_rfl) rfl #[.agg #[.slice A0_0 l0_0.length c0_0, .slice A0_1 l0_1.length c0_1]] rfl (by (try simp only [List.map_toArray, List.map_cons, List.map_nil]); first | done | rfl | (simp only [List.length_drop, List.length_take]; rfl)) ?_; (with_reducible refine (spec_IsValidDatabase.calls k _ _ l0_0 _ _ l0_1 false _ ?side1 ?side2 ?side3 ?side4 A6.out).mono ?_); (case side1 => exact aC); (case side2 => exact HC0_0.out); (case side3 => exact aC); (case side4 => exact HC0_1.out); rintro e w16 ⟨rfl, hb⟩; refine ⟨_, rfl, ?_⟩; have n0_ := aM (blk_below (g := gb208) (o := .cells #[.slice A0_0 l0_0.length c0_0, .slice A0_1 l0_1.length c0_1] 32 (0, 0)) aK hb); have n1_ := aM (blk_below (g := gb209) (o := .cells #[.slice none 0 0, .slice none 0 0] 32 (0, 0)) aK hb); have n2_ := aM (below_step aG hb); clear BK208; clear BK209; clear HB; have BK208 := n0_; have BK209 := n1_; have HB := n2_; clear n0_ n1_ n2_; (try clear hb); (try clear hb2); (try clear hk); (try clear hi)))
   go_meet
   case rel => exact ⟨_, (true), (by first | rfl | (simp; done) | (simp [*]; done)), H', ⟨by first | omega | exact Nat.le_refl _⟩, ⟨by (with_reducible repeat (first | refine blk_drewN ?_ _ | refine blk_drew ?_ | refine blk_alloc ?_ _)); exact BK208.out⟩, ⟨by (with_reducible repeat (first | refine blk_drewN ?_ _ | refine blk_drew ?_ | refine blk_alloc ?_ _)); exact BK209.out⟩, ⟨by repeat (first | (with_reducible first | exact HB.out | apply below_alloc | apply pw_below_drewN | apply below_drew1 | refine below_set ?_ GE208.out | refine below_set ?_ GE209.out) | exact HB.out)⟩⟩
 case rest =>
  clear HC3
  try clear c1
  try clear p2
  try clear c3
  try clear c6
  try clear c7
  try clear c9
  try clear c14
  try clear hcz10_0
  try clear hcz10_1
  try clear hcz12_0
  try clear hcz12_1
  try clear hcz15_0
  try clear hcz15_1
  try clear hfz10_0
  try clear hfz10_1
  try clear hfz12_0
  try clear hfz12_1
  try clear hfz15_0
  try clear hfz15_1
  obtain ⟨kq, x17_2, rfl, HA, HJ2, BK208, BK209, HB⟩ := hcut
  cases kq with
  | zero => exact absurd HA.out (by simp [spec_SelectFacts.j0])
  | succ kj2 =>
   have H := HA.out
   clear HA
   simp only [spec_SelectFacts.j0] at H
   by_cases c17 : x17_2 = true
   ·subst c17
    have H1 : (some (([] : List (S86)), ([] : List (S50)), false)) = some (r1, r2, r3) := by rw [if_pos rfl] at H; exact H
    clear H
    have H := H1
    clear H1
    simp only [Option.some.injEq, Prod.mk.injEq] at H
    obtain ⟨rfl, rfl, rfl⟩ := H
    have hnb18 := NB209_208.out
    have hnc18 := NB208_209.out
    have hcz19_0 : wc.cell? ⟨gb209, 0, none⟩ = some (.slice none 0 0) := (blk_cell BK209.out 0).trans rfl
    have hcz19_1 : wc.cell? ⟨gb209, 1, none⟩ = some (.slice none 0 0) := (blk_cell BK209.out 1).trans rfl
    have hfz19_0 := blk_frozen BK209.out 0
    have hfz19_1 := blk_frozen BK209.out 1
    go_wp2
    refine bodyPost_ret (results_ct rfl _ _ gb209 32 #[.slice none 0 0, .slice none 0 0] (0, 0) _ rfl (by (with_reducible repeat (first | refine blk_drewN ?_ _ | refine blk_drew ?_ | refine blk_alloc ?_ _)); refine blk_put (cs := #[.slice none 0 0, .slice none 0 0]) ?_ 1 _ rfl; (with_reducible repeat (first | refine blk_drewN ?_ _ | refine blk_drew ?_ | refine blk_alloc ?_ _)); refine blk_put (cs := #[.slice none 0 0, .slice none 0 0]) ?_ 0 _ rfl; (with_reducible repeat (first | refine blk_drewN ?_ _ | refine blk_drew ?_ | refine blk_alloc ?_ _)); exact BK209.out) Try.underlying32 rfl (by kernel_rfl)) rfl ?_
    exact ⟨_, _, by first | rfl | (simp [errW_none, errW_some] <;> rfl) | (simp [*, errW_none, errW_some] <;> rfl), by first | exact Kd.R_nil _ _ _ _ _ | exact Kd.N_nil _ _ _ _ _ | exact Kd.V_nil _ _ _ _ _ | exact Kd.Q_nil _ _ _ _ _ | exact Kd.S_nil _ _ _ _ _, by first | exact Kd.S_nil _ _ _ _ _ | exact Kd.N_nil _ _ _ _ _ | exact Kd.V_nil _ _ _ _ _ | exact Kd.Q_nil _ _ _ _ _ | exact Kd.R_nil _ _ _ _ _, by repeat (first | (with_reducible first | exact HB.out | apply below_alloc | apply pw_below_drewN | apply below_drew1 | refine below_set ?_ GE208.out | refine below_set ?_ GE209.out) | exact HB.out)⟩
   ·replace c17 := Bool.eq_false_iff.mpr c17
    subst c17
    have H1 : ((some (([] : List (S86)) : List (S86))).bind fun y212 => (if y212.length + l0_0.length < 4398046511104 then (spec_SelectFacts.l0 kj2 l1 0 l0_0 l0_1 (y212 ++ l0_0) ([] : List (S50))) else (none))) = some (r1, r2, r3) := by rw [if_neg (show ¬ (false = true) by decide)] at H; exact H
    clear H
    have H := H1
    clear H1
    obtain ⟨y212, hy212⟩ : ∃ y_ : List (S86), y_ = (([] : List (S86))) := ⟨_, rfl⟩
    replace H : (if y212.length + l0_0.length < 4398046511104 then (spec_SelectFacts.l0 kj2 l1 0 l0_0 l0_1 (y212 ++ l0_0) ([] : List (S50))) else (none)) = some (r1, r2, r3) := by first | (rw [hy212]; with_reducible exact H) | (have H2_ := (Option.bind_some _ _).symm.trans H; rw [hy212]; with_reducible exact H2_) | (have H2_ := (Option.bind_some _ _).symm.trans H; with_reducible exact H2_) | with_reducible exact H | (rw [hy212]; exact H) | exact H
    have Ny212 := aM hy212
    clear hy212
    by_cases c20 : y212.length + l0_0.length < 4398046511104
    ·rw [if_pos c20] at H
     have LMc20 := aM c20
     clear c20
     obtain ⟨y215, hy215⟩ : ∃ y_ : List (S86), y_ = (y212 ++ l0_0) := ⟨_, rfl⟩
     replace H : (spec_SelectFacts.l0 kj2 l1 0 l0_0 l0_1 y215 ([] : List (S50))) = some (r1, r2, r3) := by first | (rw [hy215]; with_reducible exact H) | (have H2_ := (Option.bind_some _ _).symm.trans H; rw [hy215]; with_reducible exact H2_) | (have H2_ := (Option.bind_some _ _).symm.trans H; with_reducible exact H2_) | with_reducible exact H | (rw [hy215]; exact H) | exact H
     have Ny215 := aM hy215
     clear hy215
     have H' := aM H
     clear H
     go_wp2_with (first | ((with_reducible refine gate_dst (N := 19) rfl ?_); refine Kd.R_lit k86 _ 86 ?hg (N := 19) ?hd (xs := ([] : List (S86))) (inner := []) (ok := fun _ => True) (okp := fun _ => True) ?hr ?hp (fun _ hk => hk) trivial (Below.refl _ _) (Nat.le_refl _) (by simp) ?_; (case hd => rfl); (case hg => rfl); (case hr => first | (go_simp; done) | (go_simp; rfl)); (case hp => exact (Reps.none _ _)); intro v213 w21 ho22 hb hg_ hnew_; clear hg_ hnew_; (first | rw [← Ny212.out] at ho22 | (simp only [Int.reduceToNat] at ho22; rw [← Ny212.out] at ho22)); have n0_ := aM (Kd.R_lower ho22 (below_size aG)); have n1_ := aM (blk_below (g := gb208) (o := .cells #[.slice A0_0 l0_0.length c0_0, .slice A0_1 l0_1.length c0_1] 32 (0, 0)) aK hb); have n2_ := aM (blk_below (g := gb209) (o := .cells #[.slice none 0 0, .slice none 0 0] 32 (0, 0)) aK hb); have n3_ := aM (below_step aG hb); clear BK208; clear BK209; clear HB; have HO214 := n0_; have BK208 := n1_; have BK209 := n2_; have HB := n3_; clear n0_ n1_ n2_ n3_; clear hb ho22; have hnb23 := NB208_209.out; have hnc23 := NB209_208.out; have hcz24_0 : w21.cell? ⟨gb208, 0, none⟩ = some (.slice A0_0 l0_0.length c0_0) := (blk_cell BK208.out 0).trans rfl; have hcz24_1 : w21.cell? ⟨gb208, 1, none⟩ = some (.slice A0_1 l0_1.length c0_1) := (blk_cell BK208.out 1).trans rfl; have hfz24_0 := blk_frozen BK208.out 0; have hfz24_1 := blk_frozen BK208.out 1) | ((with_reducible refine gate_builtin (b := .append) (xs := #[.tmp 19, .tmp 21]) rfl ?_); at_builtin; refine Kd.R_append_rows k86 (w0 := w) w.heap.size rfl (.tmp 19) (.tmp 21) 29 86 (.agg #[(.string ⟨#[]⟩), (.int .i64 0), (.int .i64 0)]) 32 rfl Try.underlying29 info86 rfl (by decide) (by omega) v213 y212 l0_0 _ _ _ (fun _ => True) (fun _ => False) rfl rfl ?aO ?aR (fun _ _ h => h) (fun _ h => h.elim) ?aF ?aB ?aS ?aL ?_; (case aR => exact aC); (case aB => exact aG); (case aF => exact (fun _ _ => trivial)); (case aO => exact (aR HO214)); (case aS => exact (below_size aG)); (case aL => have := LMc20.out; omega); intro v216 w25 ho hb hg hat; rw [← Ny215.out] at ho; have n0_ := aM (blk_grown (g := gb208) (o := .cells #[.slice A0_0 l0_0.length c0_0, .slice A0_1 l0_1.length c0_1] 32 (0, 0)) aK hg (Kd.R_ne HO214.out BK208.out (by decide))); have n1_ := aM (blk_grown (g := gb209) (o := .cells #[.slice none 0 0, .slice none 0 0] 32 (0, 0)) aK hg (Kd.R_ne HO214.out BK209.out (by decide))); have n2_ := aM (hb); have n3_ := aM (ho); clear BK208; clear BK209; clear HB; clear HO214; have BK208 := n0_; have BK209 := n1_; have HB := n2_; have HO217 := n3_; clear n0_ n1_ n2_ n3_; clear ho hb hg hat; obtain ⟨Ao26, co26, eo26⟩ := Kd.R_slice HO217.out; subst eo26) | ((with_reducible refine gate_dst (N := 6) rfl ?_); refine box_event ?hg (N := 6) ?hd (cs := #[.slice none 0 0, .slice none 0 0]) (t := 32) ?hr ?_; (case hd => rfl); (case hg => rfl); (case hr => first | (go_simp; done) | (go_simp; rfl)); intro gb218 hg w27 hbox hb; have n0_ := aM (Kd.R_below (aR HO217) hb); have n1_ := aM (blk_below (g := gb208) (o := .cells #[.slice A0_0 l0_0.length c0_0, .slice A0_1 l0_1.length c0_1] 32 (0, 0)) aK hb); have n2_ := aM (blk_below (g := gb209) (o := .cells #[.slice none 0 0, .slice none 0 0] 32 (0, 0)) aK hb); have n3_ := aM (below_step aG hb); have n4_ := aM (hbox); have n5_ := aM ((by rw [hg]; exact (below_size aG) : w.heap.size ≤ gb218)); have n6_ := aM ((by rw [hg]; exact (below_size aG) : w.heap.size ≤ gb218)); have n7_ := aM ((by rw [hg]; exact Nat.ne_of_lt (blk_lt (g := gb208) (o := .cells #[.slice A0_0 l0_0.length c0_0, .slice A0_1 l0_1.length c0_1] 32 (0, 0)) aK) : gb208 ≠ gb218)); have n8_ := aM ((by rw [hg]; exact Nat.ne_of_gt (blk_lt (g := gb208) (o := .cells #[.slice A0_0 l0_0.length c0_0, .slice A0_1 l0_1.length c0_1] 32 (0, 0)) aK) : gb218 ≠ gb208)); have n9_ := aM ((by rw [hg]; exact Nat.ne_of_lt (blk_lt (g := gb209) (o := .cells #[.slice none 0 0, .slice none 0 0] 32 (0, 0)) aK) : gb209 ≠ gb218)); have n10_ := aM ((by rw [hg]; exact Nat.ne_of_gt (blk_lt (g := gb209) (o := .cells #[.slice none 0 0, .slice none 0 0] 32 (0, 0)) aK) : gb218 ≠ gb209)); clear HO217; clear BK208; clear BK209; clear HB; have HO217 := n0_; have BK208 := n1_; have BK209 := n2_; have HB := n3_; have BK218 := n4_; have GW218 := n5_; have GE218 := n6_; have NB208_218 := n7_; have NB218_208 := n8_; have NB209_218 := n9_; have NB218_209 := n10_; clear n0_ n1_ n2_ n3_ n4_ n5_ n6_ n7_ n8_ n9_ n10_; clear hb hbox hg; have hnb28 := NB218_208.out; have hnc28 := NB208_218.out; have hnb29 := NB218_209.out; have hnc29 := NB209_218.out; have hcz30_0 : w27.cell? ⟨gb218, 0, none⟩ = some (.slice none 0 0) := (blk_cell BK218.out 0).trans rfl; have hcz30_1 : w27.cell? ⟨gb218, 1, none⟩ = some (.slice none 0 0) := (blk_cell BK218.out 1).trans rfl; have hfz30_0 := blk_frozen BK218.out 0; have hfz30_1 := blk_frozen BK218.out 1))
     go_loopg [7] kj2 (fun kq v7 w' => ∃ (x7_2 : Int) (x219001_2 : List (S50)) (u219001 : Value), v7 = .int .i64 x7_2 ∧ Aside0 (spec_SelectFacts.l0 kq l1 x7_2 l0_0 l0_1 y215 x219001_2 = some (r1, r2, r3)) ∧ Aside0 (kq ≤ kj2) ∧ Aside0 (Kd.R k86 86 w' w.heap.size (fun _ => True) (.slice Ao26 y215.length co26) y215) ∧ Aside0 (Kd.S k50 50 w' w.heap.size (fun _ => True) u219001 x219001_2) ∧ Aside0 (w'.heap[gb208]? = some (.cells #[(.slice A0_0 l0_0.length c0_0), (.slice A0_1 l0_1.length c0_1)] 32 (0, 0))) ∧ Aside0 (w'.heap[gb209]? = some (.cells #[(.slice none 0 0), (.slice none 0 0)] 32 (0, 0))) ∧ Aside0 (w'.heap[gb218]? = some (.cells #[(.slice Ao26 y215.length co26), u219001] 32 (0, 0))) ∧ Aside0 (Below w.heap.size w w'))
     case atStart => exact ⟨(0), (([] : List (S50))), (.slice none 0 0), (by first | rfl | (simp; done) | (simp [*]; done)), H', ⟨Nat.le_refl _⟩, ⟨by (with_reducible repeat (first | apply Kd.R_alloc | apply Kd.R_drewN | apply Kd.R_drew)); exact Kd.R_mono (Kd.R_far (p := ⟨gb218, 1, none⟩) (Kd.R_far (p := ⟨gb218, 0, none⟩) (Kd.R_types HO217.out BK218.out (by decide)) (fun _ hk => hk.2) (.slice Ao26 y215.length co26)) (fun _ hk => hk.2) (.slice none 0 0)) (fun _ hk => trivial)⟩, ⟨by first | exact Kd.S_nil _ _ _ _ _ | exact Kd.N_nil _ _ _ _ _ | exact Kd.V_nil _ _ _ _ _ | exact Kd.Q_nil _ _ _ _ _ | exact Kd.R_nil _ _ _ _ _⟩, ⟨by (with_reducible repeat (first | refine blk_drewN ?_ _ | refine blk_drew ?_ | refine blk_alloc ?_ _)); refine blk_far ?_ NB208_218.out _; (with_reducible repeat (first | refine blk_drewN ?_ _ | refine blk_drew ?_ | refine blk_alloc ?_ _)); refine blk_far ?_ NB208_218.out _; (with_reducible repeat (first | refine blk_drewN ?_ _ | refine blk_drew ?_ | refine blk_alloc ?_ _)); exact BK208.out⟩, ⟨by (with_reducible repeat (first | refine blk_drewN ?_ _ | refine blk_drew ?_ | refine blk_alloc ?_ _)); refine blk_far ?_ NB209_218.out _; (with_reducible repeat (first | refine blk_drewN ?_ _ | refine blk_drew ?_ | refine blk_alloc ?_ _)); refine blk_far ?_ NB209_218.out _; (with_reducible repeat (first | refine blk_drewN ?_ _ | refine blk_drew ?_ | refine blk_alloc ?_ _)); exact BK209.out⟩, ⟨by (with_reducible repeat (first | refine blk_drewN ?_ _ | refine blk_drew ?_ | refine blk_alloc ?_ _)); refine blk_put (cs := #[.slice Ao26 y215.length co26, .slice none 0 0]) ?_ 1 _ rfl; (with_reducible repeat (first | refine blk_drewN ?_ _ | refine blk_drew ?_ | refine blk_alloc ?_ _)); refine blk_put (cs := #[.slice none 0 0, .slice none 0 0]) ?_ 0 _ rfl; (with_reducible repeat (first | refine blk_drewN ?_ _ | refine blk_drew ?_ | refine blk_alloc ?_ _)); exact BK218.out⟩, ⟨by repeat (first | (with_reducible first | exact HB.out | apply below_alloc | apply pw_below_drewN | apply below_drew1 | refine below_set ?_ GE208.out | refine below_set ?_ GE209.out | refine below_set ?_ GE218.out) | exact HB.out)⟩⟩
     case round =>
      clear H'
      try clear c1
      try clear c2
      try clear p2
      try clear c3
      try clear c6
      try clear c7
      try clear c9
      try clear c14
      try clear c17
      try clear c18
      try clear c20
      try clear c23
      try clear c28
      try clear c29
      try clear hcz10_0
      try clear hcz10_1
      try clear hcz12_0
      try clear hcz12_1
      try clear hcz15_0
      try clear hcz15_1
      try clear hcz19_0
      try clear hcz19_1
      try clear hcz24_0
      try clear hcz24_1
      try clear hcz30_0
      try clear hcz30_1
      try clear hfz10_0
      try clear hfz10_1
      try clear hfz12_0
      try clear hfz12_1
      try clear hfz15_0
      try clear hfz15_1
      try clear hfz19_0
      try clear hfz19_1
      try clear hfz24_0
      try clear hfz24_1
      try clear hfz30_0
      try clear hfz30_1
      try clear p2
      obtain ⟨x7_2, x219001_2, u219001, rfl, HA, HK2, HO_219000, HO_219001, BK208, BK209, BK218, HB⟩ := hrel
      cases gk with
      | zero => exact absurd HA.out (by simp [spec_SelectFacts.l0])
      | succ k2 =>
       have H := HA.out
       clear HA
       simp only [spec_SelectFacts.l0] at H
       by_cases c31 : x7_2 < (l1.length : Int)
       ·rw [if_pos c31] at H
        have c31b0 : decide (x7_2 < (l1.length : Int)) = true := decide_eq_true c31
        clear c31
        by_cases c32 : 0 ≤ x7_2
        ·rw [if_pos c32] at H
         have c32b0 : decide (0 ≤ x7_2) = true := decide_eq_true c32
         clear c32
         by_cases c33 : 0 ≤ (rd l1 x7_2)
         ·rw [if_pos c33] at H
          have c33b0 : decide (0 ≤ (rd l1 x7_2)) = true := decide_eq_true c33
          clear c33
          by_cases c34 : (rd l1 x7_2) < (l0_1.length : Int)
          ·rw [if_pos c34] at H
           have c34b0 : decide ((rd l1 x7_2) < (l0_1.length : Int)) = true := decide_eq_true c34
           clear c34
           obtain ⟨y222, hy222⟩ : ∃ y_ : List Int, y_ = (([] : List Int)) := ⟨_, rfl⟩
           replace H : (if y222.length + ((rd_T50 l0_1 (rd l1 x7_2)).f1).length < 17592186044416 then (if x219001_2.length < 4398046511104 then (spec_SelectFacts.l0 k2 l1 (wrap64 (x7_2 + 1)) l0_0 l0_1 y215 (x219001_2 ++ [(⟨(rd_T50 l0_1 (rd l1 x7_2)).f0, (y222 ++ ((rd_T50 l0_1 (rd l1 x7_2)).f1))⟩ : S50)])) else (none)) else (none)) = some (r1, r2, r3) := by first | (rw [hy222]; with_reducible exact H) | (have H2_ := (Option.bind_some _ _).symm.trans H; rw [hy222]; with_reducible exact H2_) | (have H2_ := (Option.bind_some _ _).symm.trans H; with_reducible exact H2_) | with_reducible exact H | (rw [hy222]; exact H) | exact H
           have Ny222 := aM hy222
           clear hy222
           by_cases c35 : y222.length + ((rd_T50 l0_1 (rd l1 x7_2)).f1).length < 17592186044416
           ·rw [if_pos c35] at H
            have LMc35 := aM c35
            clear c35
            obtain ⟨y225, hy225⟩ : ∃ y_ : List Int, y_ = (y222 ++ ((rd_T50 l0_1 (rd l1 x7_2)).f1)) := ⟨_, rfl⟩
            replace H : (if x219001_2.length < 4398046511104 then (spec_SelectFacts.l0 k2 l1 (wrap64 (x7_2 + 1)) l0_0 l0_1 y215 (x219001_2 ++ [(⟨(rd_T50 l0_1 (rd l1 x7_2)).f0, y225⟩ : S50)])) else (none)) = some (r1, r2, r3) := by first | (rw [hy225]; with_reducible exact H) | (have H2_ := (Option.bind_some _ _).symm.trans H; rw [hy225]; with_reducible exact H2_) | (have H2_ := (Option.bind_some _ _).symm.trans H; with_reducible exact H2_) | with_reducible exact H | (rw [hy225]; exact H) | exact H
            have Ny225 := aM hy225
            clear hy225
            by_cases c36 : x219001_2.length < 4398046511104
            ·rw [if_pos c36] at H
             have LMc36 := aM c36
             clear c36
             obtain ⟨y228, hy228⟩ : ∃ y_ : List (S50), y_ = (x219001_2 ++ [(⟨(rd_T50 l0_1 (rd l1 x7_2)).f0, y225⟩ : S50)]) := ⟨_, rfl⟩
             replace H : (spec_SelectFacts.l0 k2 l1 (wrap64 (x7_2 + 1)) l0_0 l0_1 y215 y228) = some (r1, r2, r3) := by first | (rw [hy228]; with_reducible exact H) | (have H2_ := (Option.bind_some _ _).symm.trans H; rw [hy228]; with_reducible exact H2_) | (have H2_ := (Option.bind_some _ _).symm.trans H; with_reducible exact H2_) | with_reducible exact H | (rw [hy228]; exact H) | exact H
             have Ny228 := aM hy228
             clear hy228
             have H' := aM H
             clear H
             try go_wp2
             have n0_ := aM (Kd.R_drew HO_219000.out)
             have n1_ := aM (Kd.S_drew HO_219001.out)
             have n2_ := aM (blk_drew BK208.out)
             have n3_ := aM (blk_drew BK209.out)
             have n4_ := aM (blk_drew BK218.out)
             have n5_ := aM (below_drew1 HB.out)
             clear HO_219000
             clear HO_219001
             clear BK208
             clear BK209
             clear BK218
             clear HB
             have HO_219000 := n0_
             have HO_219001 := n1_
             have BK208 := n2_
             have BK209 := n3_
             have BK218 := n4_
             have HB := n5_
             clear n0_ n1_ n2_ n3_ n4_ n5_
             have p219 : 0 ≤ (x7_2 : Int) := aD
             have q219 : x7_2 < (l1.length : Int) := aD
             obtain ⟨ad219, e219, hx219_0⟩ := Kd.at_int HR1.out x7_2 p219 q219
             have hw219_0 := hx219_0
             cases e219
             replace hx219_0 := (HB.out.cell (World.block_lt_of_cell? w _ hx219_0)).trans hx219_0
             replace p219 := eq_true p219
             replace q219 := eq_true q219
             have p220 : 0 ≤ ((rd l1 x7_2) : Int) := aD
             have q220 : (rd l1 x7_2) < (l0_1.length : Int) := aD
             obtain ⟨ad220, A220_1, c220_1, e220, hx220_0, hx220_1, hl220_1, hi220_1⟩ := at_T50 HR0_1.out (rd l1 x7_2) p220 q220
             have hw220_1 := hx220_1
             have hw220_0 := hx220_0
             cases e220
             replace hx220_0 := (HB.out.cell (World.block_lt_of_cell? w _ hx220_0)).trans hx220_0
             replace hx220_1 := (HB.out.cell (World.block_lt_of_cell? w _ hx220_1)).trans hx220_1
             have HR220_1 := aM hi220_1
             have HC220_1 := aM hl220_1
             clear hi220_1 hl220_1
             replace p220 := eq_true p220
             replace q220 := eq_true q220
             refine start_ (n := 10) (S := fun w' => w'.cell? ⟨gb208, 0, none⟩ = some (.slice A0_0 l0_0.length c0_0) ∧ w'.cell? ⟨gb208, 1, none⟩ = some (.slice (some ad220) l0_1.length c0_1) ∧ w'.cell? (ad219.add (x7_2).toNat) = some (.int .i64 (rd l1 x7_2)) ∧ w'.cell? (ad220.add (((rd l1 x7_2)).toNat * 2)) = some (.int .i64 ((rd_T50 l0_1 (rd l1 x7_2)).f0)) ∧ w'.cell? ⟨(ad220.add (((rd l1 x7_2)).toNat * 2)).block, (ad220.add (((rd l1 x7_2)).toNat * 2)).off + 1, none⟩ = some (.slice A220_1 ((rd_T50 l0_1 (rd l1 x7_2)).f1).length c220_1)) (ds := []) #[false, false, false, false, false, false, false, false, false, false] (by kernel_rfl) rfl rfl ⟨(blk_cell BK208.out 0).trans rfl, (blk_cell BK208.out 1).trans rfl, (pw_cell_below HB.out hw219_0), (pw_cell_below HB.out hw220_0), (pw_cell_below HB.out hw220_1)⟩ (fun hHeld => ?_); refine with_tabW spec_SelectFacts.tab7 spec_SelectFacts.bits7 (fun HT_ HW_ => ?_)
             generalize wr.drew = w37 at HO_219000 HO_219001 BK208 BK209 BK218 HB HR220_1 hx219_0 hx220_0 hx220_1 hHeld ⊢
             refine pure_ (i := 0) (N := some 30) (v := ?_) (a' := ?_) #[true, false, false, false, false, false, false, false, false, false] rfl rfl (any_of HT_.out (by kernel_rfl)) (fun _ _ _ h => h) (Or.inl ⟨by rfl, ?_⟩) ?_ ?_
             rotate_left
             ·exact aI
             rotate_left
             ·exact aP
             refine pure_ (i := 2) (N := some 32) (v := ?_) (a' := ?_) #[true, false, true, false, false, false, false, false, false, false] rfl rfl (any_of HT_.out (by kernel_rfl)) (fun _ _ _ h => h) (Or.inl ⟨by rfl, ?_⟩) ?_ ?_
             rotate_left
             ·exact aI
             rotate_left
             ·exact aP
             refine pure_ (i := 3) (N := some 33) (v := ?_) (a' := ?_) #[true, false, true, true, false, false, false, false, false, false] rfl rfl (any_of HT_.out (by kernel_rfl)) (fun _ _ _ h => h) (Or.inl ⟨by rfl, ?_⟩) ?_ ?_
             rotate_left
             ·exact aI
             rotate_left
             ·exact aP
             refine pure_ (i := 4) (N := some 34) (v := ?_) (a' := ?_) #[true, false, true, true, true, false, false, false, false, false] rfl rfl (any_of HT_.out (by kernel_rfl)) (fun _ _ _ h => h) (Or.inl ⟨by rfl, ?_⟩) ?_ ?_
             rotate_left
             ·exact aI
             rotate_left
             ·exact aP
             refine take_ (i := 1) (N := some 31) (v := ?_) (a' := ?_) #[true, true, true, true, true, false, false, false, false, false] rfl rfl (take_ofW HT_.out HW_.out (by kernel_rfl)) (fun _ _ _ h => h) (Or.inl ⟨by rfl, ?_⟩) hHeld ?_ ?_
             rotate_left
             ·rintro w' ⟨s0, s1, s2, s3, s4⟩
              go_simp
              with_reducible rfl
             rotate_left
             ·exact aP
             refine take_ (i := 5) (N := some 35) (v := ?_) (a' := ?_) #[true, true, true, true, true, true, false, false, false, false] rfl rfl (take_ofW HT_.out HW_.out (by kernel_rfl)) (fun _ _ _ h => h) (Or.inl ⟨by rfl, ?_⟩) hHeld ?_ ?_
             rotate_left
             ·rintro w' ⟨s0, s1, s2, s3, s4⟩
              go_simp
              with_reducible rfl
             rotate_left
             ·exact aP
             refine pure_ (i := 6) (N := some 36) (v := ?_) (a' := ?_) #[true, true, true, true, true, true, true, false, false, false] rfl rfl (any_of HT_.out (by kernel_rfl)) (fun _ _ _ h => h) (Or.inl ⟨by rfl, ?_⟩) ?_ ?_
             rotate_left
             ·exact aI
             rotate_left
             ·exact aP
             refine take_ (i := 7) (N := some 37) (v := ?_) (a' := ?_) #[true, true, true, true, true, true, true, true, false, false] rfl rfl (take_ofW HT_.out HW_.out (by kernel_rfl)) (fun _ _ _ h => h) (Or.inl ⟨by rfl, ?_⟩) hHeld ?_ ?_
             rotate_left
             ·rintro w' ⟨s0, s1, s2, s3, s4⟩
              go_simp
              with_reducible rfl
             rotate_left
             ·exact aP
             refine one_ (i := 8) (N := some 8) #[true, true, true, true, true, true, true, true, true, false] rfl rfl (one_of HT_.out (by kernel_rfl)) (by decide) (fun K hK => ?_)
             refine box_step ?hg (N := 8) ?hd (cs := #[.int .i64 0, .slice none 0 0]) (t := 50) ?hr ?_; (case hd => rfl); (case hg => rfl); (case hr => first | (go_simp; done) | (go_simp; rfl))
             intro gb221 hg w38 hbox hb
             have n0_ := aM (Kd.R_below (aR HO_219000) hb)
             have n1_ := aM (Kd.S_below (Kd.S_elderB (aS HO_219001) gb221 (Nat.le_of_eq hg.symm)) hb)
             have n2_ := aM (blk_below (g := gb208) (o := .cells #[.slice A0_0 l0_0.length c0_0, .slice (some ad220) l0_1.length c0_1] 32 (0, 0)) aK hb)
             have n3_ := aM (blk_below (g := gb209) (o := .cells #[.slice none 0 0, .slice none 0 0] 32 (0, 0)) aK hb)
             have n4_ := aM (blk_below (g := gb218) (o := .cells #[.slice Ao26 y215.length co26, u219001] 32 (0, 0)) aK hb)
             have n5_ := aM (below_step aG hb)
             have n6_ := aM (hbox)
             have n7_ := aM ((by rw [hg]; exact (below_size aG) : w.heap.size ≤ gb221))
             have n8_ := aM ((by rw [hg]; exact (below_size aG) : w.heap.size ≤ gb221))
             have n9_ := aM ((by rw [hg]; exact Nat.ne_of_lt (blk_lt (g := gb208) (o := .cells #[.slice A0_0 l0_0.length c0_0, .slice (some ad220) l0_1.length c0_1] 32 (0, 0)) aK) : gb208 ≠ gb221))
             have n10_ := aM ((by rw [hg]; exact Nat.ne_of_gt (blk_lt (g := gb208) (o := .cells #[.slice A0_0 l0_0.length c0_0, .slice (some ad220) l0_1.length c0_1] 32 (0, 0)) aK) : gb221 ≠ gb208))
             have n11_ := aM ((by rw [hg]; exact Nat.ne_of_lt (blk_lt (g := gb209) (o := .cells #[.slice none 0 0, .slice none 0 0] 32 (0, 0)) aK) : gb209 ≠ gb221))
             have n12_ := aM ((by rw [hg]; exact Nat.ne_of_gt (blk_lt (g := gb209) (o := .cells #[.slice none 0 0, .slice none 0 0] 32 (0, 0)) aK) : gb221 ≠ gb209))
             have n13_ := aM ((by rw [hg]; exact Nat.ne_of_lt (blk_lt (g := gb218) (o := .cells #[.slice Ao26 y215.length co26, u219001] 32 (0, 0)) aK) : gb218 ≠ gb221))
             have n14_ := aM ((by rw [hg]; exact Nat.ne_of_gt (blk_lt (g := gb218) (o := .cells #[.slice Ao26 y215.length co26, u219001] 32 (0, 0)) aK) : gb221 ≠ gb218))
             clear HO_219000
             clear HO_219001
             clear BK208
             clear BK209
             clear BK218
             clear HB
             have HO_219000 := n0_
             have HO_219001 := n1_
             have BK208 := n2_
             have BK209 := n3_
             have BK218 := n4_
             have HB := n5_
             have BK221 := n6_
             have GW221 := n7_
             have GE221 := n8_
             have NB208_221 := n9_
             have NB221_208 := n10_
             have NB209_221 := n11_
             have NB221_209 := n12_
             have NB218_221 := n13_
             have NB221_218 := n14_
             clear n0_ n1_ n2_ n3_ n4_ n5_ n6_ n7_ n8_ n9_ n10_ n11_ n12_ n13_ n14_
             clear hb hbox hg
             refine hK.out _ _ ⟨(blk_cell BK208.out 0).trans rfl, (blk_cell BK208.out 1).trans rfl, (pw_cell_below HB.out hw219_0), (pw_cell_below HB.out hw220_0), (pw_cell_below HB.out hw220_1)⟩ (fun hHeld => ?_)
             clear hK K
             refine norm_ (a' := ?_) ?_ ?_
             rotate_left
             ·show Act.put _ (some 8) _ = _
              simp only [Act.put, List.setIfInBounds_toArray, List.set_cons_zero, List.set_cons_succ, i64_w, i32_w]
              rfl
             refine one_ (i := 9) (N := none) #[true, true, true, true, true, true, true, true, true, true] rfl rfl (one_of HT_.out (by kernel_rfl)) (by decide) (fun K hK => ?_)
             have hs39 : w38.cell? ⟨gb221, 0, none⟩ = some (.int .i64 0) := (blk_cell BK221.out 0).trans rfl
             have hfs39 := blk_frozen BK221.out 0
             have hns39_0 := NB208_221.out
             have hns39_1 := NB209_221.out
             have hns39_2 := NB218_221.out
             have hms39_0 := NB221_208.out
             have hms39_1 := NB221_209.out
             have hms39_2 := NB221_218.out
             have hs40 : w38.cell? ⟨gb221, 1, none⟩ = some (.slice none 0 0) := (blk_cell BK221.out 1).trans rfl
             have hfs40 := blk_frozen BK221.out 1
             have hns40_0 := NB208_221.out
             have hns40_1 := NB209_221.out
             have hns40_2 := NB218_221.out
             have hms40_0 := NB221_208.out
             have hms40_1 := NB221_209.out
             have hms40_2 := NB221_218.out
             refine skip_ (w1 := ?_) (by rfl) rfl ?_ ?_
             rotate_left
             ·go_simp
              rfl
             refine hK.out _ _ ⟨((cell_far (p := ⟨gb221, _, none⟩) NB208_221.out _).trans (((cell_far (p := ⟨gb221, _, none⟩) NB208_221.out _).trans (hHeld.1)))), ((cell_far (p := ⟨gb221, _, none⟩) NB208_221.out _).trans (((cell_far (p := ⟨gb221, _, none⟩) NB208_221.out _).trans (hHeld.2.1)))), ((cell_far (p := ⟨gb221, _, none⟩) (by first | exact Nat.ne_of_lt (Nat.lt_of_lt_of_le (by have := World.block_lt_of_cell? _ _ hw219_0; first | rwa [add_block] at this | exact this) GW221.out) | (rw [add_block]; exact Nat.ne_of_lt (Nat.lt_of_lt_of_le (by have := World.block_lt_of_cell? _ _ hw219_0; first | rwa [add_block] at this | exact this) GW221.out)) | (show (Addr.add _ _).block ≠ _; rw [add_block]; exact Nat.ne_of_lt (Nat.lt_of_lt_of_le (by have := World.block_lt_of_cell? _ _ hw219_0; first | rwa [add_block] at this | exact this) GW221.out)) | (dsimp only; exact Nat.ne_of_lt (Nat.lt_of_lt_of_le (by have := World.block_lt_of_cell? _ _ hw219_0; first | rwa [add_block] at this | exact this) GW221.out))) _).trans (((cell_far (p := ⟨gb221, _, none⟩) (by first | exact Nat.ne_of_lt (Nat.lt_of_lt_of_le (by have := World.block_lt_of_cell? _ _ hw219_0; first | rwa [add_block] at this | exact this) GW221.out) | (rw [add_block]; exact Nat.ne_of_lt (Nat.lt_of_lt_of_le (by have := World.block_lt_of_cell? _ _ hw219_0; first | rwa [add_block] at this | exact this) GW221.out)) | (show (Addr.add _ _).block ≠ _; rw [add_block]; exact Nat.ne_of_lt (Nat.lt_of_lt_of_le (by have := World.block_lt_of_cell? _ _ hw219_0; first | rwa [add_block] at this | exact this) GW221.out)) | (dsimp only; exact Nat.ne_of_lt (Nat.lt_of_lt_of_le (by have := World.block_lt_of_cell? _ _ hw219_0; first | rwa [add_block] at this | exact this) GW221.out))) _).trans (hHeld.2.2.1)))), ((cell_far (p := ⟨gb221, _, none⟩) (by first | exact Nat.ne_of_lt (Nat.lt_of_lt_of_le (by have := World.block_lt_of_cell? _ _ hw220_0; first | rwa [add_block] at this | exact this) GW221.out) | (rw [add_block]; exact Nat.ne_of_lt (Nat.lt_of_lt_of_le (by have := World.block_lt_of_cell? _ _ hw220_0; first | rwa [add_block] at this | exact this) GW221.out)) | (show (Addr.add _ _).block ≠ _; rw [add_block]; exact Nat.ne_of_lt (Nat.lt_of_lt_of_le (by have := World.block_lt_of_cell? _ _ hw220_0; first | rwa [add_block] at this | exact this) GW221.out)) | (dsimp only; exact Nat.ne_of_lt (Nat.lt_of_lt_of_le (by have := World.block_lt_of_cell? _ _ hw220_0; first | rwa [add_block] at this | exact this) GW221.out))) _).trans (((cell_far (p := ⟨gb221, _, none⟩) (by first | exact Nat.ne_of_lt (Nat.lt_of_lt_of_le (by have := World.block_lt_of_cell? _ _ hw220_0; first | rwa [add_block] at this | exact this) GW221.out) | (rw [add_block]; exact Nat.ne_of_lt (Nat.lt_of_lt_of_le (by have := World.block_lt_of_cell? _ _ hw220_0; first | rwa [add_block] at this | exact this) GW221.out)) | (show (Addr.add _ _).block ≠ _; rw [add_block]; exact Nat.ne_of_lt (Nat.lt_of_lt_of_le (by have := World.block_lt_of_cell? _ _ hw220_0; first | rwa [add_block] at this | exact this) GW221.out)) | (dsimp only; exact Nat.ne_of_lt (Nat.lt_of_lt_of_le (by have := World.block_lt_of_cell? _ _ hw220_0; first | rwa [add_block] at this | exact this) GW221.out))) _).trans (hHeld.2.2.2.1)))), ((cell_far (p := ⟨gb221, _, none⟩) (by first | exact Nat.ne_of_lt (Nat.lt_of_lt_of_le (by have := World.block_lt_of_cell? _ _ hw220_1; first | rwa [add_block] at this | exact this) GW221.out) | (rw [add_block]; exact Nat.ne_of_lt (Nat.lt_of_lt_of_le (by have := World.block_lt_of_cell? _ _ hw220_1; first | rwa [add_block] at this | exact this) GW221.out)) | (show (Addr.add _ _).block ≠ _; rw [add_block]; exact Nat.ne_of_lt (Nat.lt_of_lt_of_le (by have := World.block_lt_of_cell? _ _ hw220_1; first | rwa [add_block] at this | exact this) GW221.out)) | (dsimp only; exact Nat.ne_of_lt (Nat.lt_of_lt_of_le (by have := World.block_lt_of_cell? _ _ hw220_1; first | rwa [add_block] at this | exact this) GW221.out))) _).trans (((cell_far (p := ⟨gb221, _, none⟩) (by first | exact Nat.ne_of_lt (Nat.lt_of_lt_of_le (by have := World.block_lt_of_cell? _ _ hw220_1; first | rwa [add_block] at this | exact this) GW221.out) | (rw [add_block]; exact Nat.ne_of_lt (Nat.lt_of_lt_of_le (by have := World.block_lt_of_cell? _ _ hw220_1; first | rwa [add_block] at this | exact this) GW221.out)) | (show (Addr.add _ _).block ≠ _; rw [add_block]; exact Nat.ne_of_lt (Nat.lt_of_lt_of_le (by have := World.block_lt_of_cell? _ _ hw220_1; first | rwa [add_block] at this | exact this) GW221.out)) | (dsimp only; exact Nat.ne_of_lt (Nat.lt_of_lt_of_le (by have := World.block_lt_of_cell? _ _ hw220_1; first | rwa [add_block] at this | exact this) GW221.out))) _).trans (hHeld.2.2.2.2))))⟩ (fun hHeld => ?_)
             clear hK K
             refine done_ (done_of HT_.out (by kernel_rfl)) ?_
             try go_wp2
             have n0_ : Aside0 (Kd.R k86 86 ((w38.setCell ⟨gb221, 0, none⟩ (.int .i64 ((rd_T50 l0_1 (rd l1 x7_2)).f0))).setCell ⟨gb221, 1, none⟩ (.slice A220_1 ((rd_T50 l0_1 (rd l1 x7_2)).f1).length c220_1)) w.heap.size (fun _ => True) (.slice Ao26 y215.length co26) y215) := ⟨by (with_reducible repeat (first | apply Kd.R_alloc | apply Kd.R_drewN | apply Kd.R_drew)); exact Kd.R_mono (Kd.R_far (p := ⟨gb221, 1, none⟩) (Kd.R_far (p := ⟨gb221, 0, none⟩) (Kd.R_types HO_219000.out BK221.out (by decide)) (fun _ hk => hk.2) (.int .i64 ((rd_T50 l0_1 (rd l1 x7_2)).f0))) (fun _ hk => hk.2) (.slice A220_1 ((rd_T50 l0_1 (rd l1 x7_2)).f1).length c220_1)) (fun _ hk => trivial)⟩
             have n1_ : Aside0 (Kd.S k50 50 ((w38.setCell ⟨gb221, 0, none⟩ (.int .i64 ((rd_T50 l0_1 (rd l1 x7_2)).f0))).setCell ⟨gb221, 1, none⟩ (.slice A220_1 ((rd_T50 l0_1 (rd l1 x7_2)).f1).length c220_1)) w.heap.size (fun k_ => k_ ≠ gb221) u219001 x219001_2) := ⟨by (with_reducible repeat (first | apply Kd.S_alloc | apply Kd.S_drewN | apply Kd.S_drew)); exact Kd.S_mono (Kd.S_far (p := ⟨gb221, 1, none⟩) (Kd.S_far (p := ⟨gb221, 0, none⟩) (Kd.S_mono HO_219001.out (fun k_ hk => (⟨hk, hk.2⟩ : _ ∧ k_ ≠ gb221))) (fun _ hk => hk.2) (.int .i64 ((rd_T50 l0_1 (rd l1 x7_2)).f0))) (fun _ hk => hk.2) (.slice A220_1 ((rd_T50 l0_1 (rd l1 x7_2)).f1).length c220_1)) (fun _ hk => hk.1.2)⟩
             have n2_ : Aside0 (((w38.setCell ⟨gb221, 0, none⟩ (.int .i64 ((rd_T50 l0_1 (rd l1 x7_2)).f0))).setCell ⟨gb221, 1, none⟩ (.slice A220_1 ((rd_T50 l0_1 (rd l1 x7_2)).f1).length c220_1)).heap[gb208]? = some (.cells #[.slice A0_0 l0_0.length c0_0, .slice (some ad220) l0_1.length c0_1] 32 (0, 0))) := ⟨by (with_reducible repeat (first | refine blk_drewN ?_ _ | refine blk_drew ?_ | refine blk_alloc ?_ _)); refine blk_far ?_ NB208_221.out _; (with_reducible repeat (first | refine blk_drewN ?_ _ | refine blk_drew ?_ | refine blk_alloc ?_ _)); refine blk_far ?_ NB208_221.out _; (with_reducible repeat (first | refine blk_drewN ?_ _ | refine blk_drew ?_ | refine blk_alloc ?_ _)); exact BK208.out⟩
             have n3_ : Aside0 (((w38.setCell ⟨gb221, 0, none⟩ (.int .i64 ((rd_T50 l0_1 (rd l1 x7_2)).f0))).setCell ⟨gb221, 1, none⟩ (.slice A220_1 ((rd_T50 l0_1 (rd l1 x7_2)).f1).length c220_1)).heap[gb209]? = some (.cells #[.slice none 0 0, .slice none 0 0] 32 (0, 0))) := ⟨by (with_reducible repeat (first | refine blk_drewN ?_ _ | refine blk_drew ?_ | refine blk_alloc ?_ _)); refine blk_far ?_ NB209_221.out _; (with_reducible repeat (first | refine blk_drewN ?_ _ | refine blk_drew ?_ | refine blk_alloc ?_ _)); refine blk_far ?_ NB209_221.out _; (with_reducible repeat (first | refine blk_drewN ?_ _ | refine blk_drew ?_ | refine blk_alloc ?_ _)); exact BK209.out⟩
             have n4_ : Aside0 (((w38.setCell ⟨gb221, 0, none⟩ (.int .i64 ((rd_T50 l0_1 (rd l1 x7_2)).f0))).setCell ⟨gb221, 1, none⟩ (.slice A220_1 ((rd_T50 l0_1 (rd l1 x7_2)).f1).length c220_1)).heap[gb218]? = some (.cells #[.slice Ao26 y215.length co26, u219001] 32 (0, 0))) := ⟨by (with_reducible repeat (first | refine blk_drewN ?_ _ | refine blk_drew ?_ | refine blk_alloc ?_ _)); refine blk_far ?_ NB218_221.out _; (with_reducible repeat (first | refine blk_drewN ?_ _ | refine blk_drew ?_ | refine blk_alloc ?_ _)); refine blk_far ?_ NB218_221.out _; (with_reducible repeat (first | refine blk_drewN ?_ _ | refine blk_drew ?_ | refine blk_alloc ?_ _)); exact BK218.out⟩
             have n5_ : Aside0 (((w38.setCell ⟨gb221, 0, none⟩ (.int .i64 ((rd_T50 l0_1 (rd l1 x7_2)).f0))).setCell ⟨gb221, 1, none⟩ (.slice A220_1 ((rd_T50 l0_1 (rd l1 x7_2)).f1).length c220_1)).heap[gb221]? = some (.cells #[.int .i64 ((rd_T50 l0_1 (rd l1 x7_2)).f0), .slice A220_1 ((rd_T50 l0_1 (rd l1 x7_2)).f1).length c220_1] 50 (0, 0))) := ⟨by (with_reducible repeat (first | refine blk_drewN ?_ _ | refine blk_drew ?_ | refine blk_alloc ?_ _)); refine blk_put (cs := #[.int .i64 ((rd_T50 l0_1 (rd l1 x7_2)).f0), .slice none 0 0]) ?_ 1 _ rfl; (with_reducible repeat (first | refine blk_drewN ?_ _ | refine blk_drew ?_ | refine blk_alloc ?_ _)); refine blk_put (cs := #[.int .i64 0, .slice none 0 0]) ?_ 0 _ rfl; (with_reducible repeat (first | refine blk_drewN ?_ _ | refine blk_drew ?_ | refine blk_alloc ?_ _)); exact BK221.out⟩
             have n6_ : Aside0 (Below w.heap.size w ((w38.setCell ⟨gb221, 0, none⟩ (.int .i64 ((rd_T50 l0_1 (rd l1 x7_2)).f0))).setCell ⟨gb221, 1, none⟩ (.slice A220_1 ((rd_T50 l0_1 (rd l1 x7_2)).f1).length c220_1))) := ⟨by repeat (first | (with_reducible first | exact HB.out | apply below_alloc | apply pw_below_drewN | apply below_drew1 | refine below_set ?_ GE208.out | refine below_set ?_ GE209.out | refine below_set ?_ GE218.out | refine below_set ?_ GE221.out) | exact HB.out)⟩
             (try clear HO_219000)
             (try clear HO_219001)
             (try clear BK208)
             (try clear BK209)
             (try clear BK218)
             (try clear BK221)
             (try clear HB)
             generalize ((w38.setCell ⟨gb221, 0, none⟩ (.int .i64 ((rd_T50 l0_1 (rd l1 x7_2)).f0))).setCell ⟨gb221, 1, none⟩ (.slice A220_1 ((rd_T50 l0_1 (rd l1 x7_2)).f1).length c220_1)) = w41 at n0_ n1_ n2_ n3_ n4_ n5_ n6_ ⊢
             have HO_219000 := n0_
             have HO_219001 := n1_
             have BK208 := n2_
             have BK209 := n3_
             have BK218 := n4_
             have BK221 := n5_
             have HB := n6_
             clear n0_ n1_ n2_ n3_ n4_ n5_ n6_
             have n0_ := aM (Kd.R_drew HO_219000.out)
             have n1_ := aM (Kd.S_drew HO_219001.out)
             have n2_ := aM (blk_drew BK208.out)
             have n3_ := aM (blk_drew BK209.out)
             have n4_ := aM (blk_drew BK218.out)
             have n5_ := aM (blk_drew BK221.out)
             have n6_ := aM (below_drew1 HB.out)
             clear HO_219000
             clear HO_219001
             clear BK208
             clear BK209
             clear BK218
             clear BK221
             clear HB
             have HO_219000 := n0_
             have HO_219001 := n1_
             have BK208 := n2_
             have BK209 := n3_
             have BK218 := n4_
             have BK221 := n5_
             have HB := n6_
             clear n0_ n1_ n2_ n3_ n4_ n5_ n6_
             refine start_ (n := 13) (S := fun w' => w'.cell? ⟨gb218, 0, none⟩ = some (.slice Ao26 y215.length co26) ∧ w'.cell? ⟨gb218, 1, none⟩ = some (u219001) ∧ w'.cell? ⟨gb221, 0, none⟩ = some (.int .i64 ((rd_T50 l0_1 (rd l1 x7_2)).f0)) ∧ w'.cell? ⟨gb221, 1, none⟩ = some (.slice A220_1 ((rd_T50 l0_1 (rd l1 x7_2)).f1).length c220_1)) (ds := [12]) #[false, false, false, false, false, false, false, false, false, false, false, false, false] (by kernel_rfl) rfl rfl ⟨(blk_cell BK218.out 0).trans rfl, (blk_cell BK218.out 1).trans rfl, (blk_cell BK221.out 0).trans rfl, (blk_cell BK221.out 1).trans rfl⟩ (fun hHeld => ?_); refine with_tabW spec_SelectFacts.tab8 spec_SelectFacts.bits8 (fun HT_ HW_ => ?_)
             generalize w41.drew = w42 at HO_219000 HO_219001 BK208 BK209 BK218 BK221 HB hHeld ⊢
             refine pure_ (i := 0) (N := some 38) (v := ?_) (a' := ?_) #[true, false, false, false, false, false, false, false, false, false, false, false, false] rfl rfl (any_of HT_.out (by kernel_rfl)) (fun _ _ _ h => h) (Or.inl ⟨by rfl, ?_⟩) ?_ ?_
             rotate_left
             ·exact aI
             rotate_left
             ·exact aP
             refine pure_ (i := 2) (N := some 40) (v := ?_) (a' := ?_) #[true, false, true, false, false, false, false, false, false, false, false, false, false] rfl rfl (any_of HT_.out (by kernel_rfl)) (fun _ _ _ h => h) (Or.inl ⟨by rfl, ?_⟩) ?_ ?_
             rotate_left
             ·exact aI
             rotate_left
             ·exact aP
             refine pure_ (i := 5) (N := some 43) (v := ?_) (a' := ?_) #[true, false, true, false, false, true, false, false, false, false, false, false, false] rfl rfl (any_of HT_.out (by kernel_rfl)) (fun _ _ _ h => h) (Or.inl ⟨by rfl, ?_⟩) ?_ ?_
             rotate_left
             ·exact aI
             rotate_left
             ·exact aP
             refine take_ (i := 1) (N := some 39) (v := ?_) (a' := ?_) #[true, true, true, false, false, true, false, false, false, false, false, false, false] rfl rfl (take_ofW HT_.out HW_.out (by kernel_rfl)) (fun _ _ _ h => h) (Or.inl ⟨by rfl, ?_⟩) hHeld ?_ ?_
             rotate_left
             ·rintro w' ⟨s0, s1, s2, s3⟩
              go_simp
              with_reducible rfl
             rotate_left
             ·exact aP
             refine take_ (i := 3) (N := some 41) (v := ?_) (a' := ?_) #[true, true, true, true, false, true, false, false, false, false, false, false, false] rfl rfl (take_ofW HT_.out HW_.out (by kernel_rfl)) (fun _ _ _ h => h) (Or.inl ⟨by rfl, ?_⟩) hHeld ?_ ?_
             rotate_left
             ·rintro w' ⟨s0, s1, s2, s3⟩
              go_simp
              with_reducible rfl
             rotate_left
             ·exact aP
             refine take_ (i := 6) (N := some 44) (v := ?_) (a' := ?_) #[true, true, true, true, false, true, true, false, false, false, false, false, false] rfl rfl (take_ofW HT_.out HW_.out (by kernel_rfl)) (fun _ _ _ h => h) (Or.inl ⟨by rfl, ?_⟩) hHeld ?_ ?_
             rotate_left
             ·rintro w' ⟨s0, s1, s2, s3⟩
              go_simp
              with_reducible rfl
             rotate_left
             ·exact aP
             refine one_ (i := 4) (N := some 42) #[true, true, true, true, true, true, true, false, false, false, false, false, false] rfl rfl (one_of HT_.out (by kernel_rfl)) (by decide) (fun K hK => ?_)
             refine Kd.R_lit_step (Kd.int .i64) _ 3 ?hg (N := 42) ?hd (xs := ([] : List Int)) (inner := []) (ok := fun _ => True) (okp := fun _ => True) ?hr ?hp (fun _ hk => hk) trivial (Below.refl _ _) (Nat.le_refl _) (by simp) ?_; (case hd => rfl); (case hg => rfl); (case hr => first | (go_simp; done) | (go_simp; rfl)); (case hp => exact (Reps.none _ _))
             intro v223 w43 ho44 hb hg_ hnew_
             clear hg_ hnew_
             (first | rw [← Ny222.out] at ho44 | (simp only [Int.reduceToNat] at ho44; rw [← Ny222.out] at ho44))
             have n0_ := aM (Kd.R_below (aR HO_219000) hb)
             have n1_ := aM (Kd.S_elder' (aS HO_219001) (Kd.R_base ho44) hb)
             have n2_ := aM (Kd.R_lower ho44 (below_size aG))
             have n3_ := aM (blk_below (g := gb208) (o := .cells #[.slice A0_0 l0_0.length c0_0, .slice (some ad220) l0_1.length c0_1] 32 (0, 0)) aK hb)
             have n4_ := aM (blk_below (g := gb209) (o := .cells #[.slice none 0 0, .slice none 0 0] 32 (0, 0)) aK hb)
             have n5_ := aM (blk_below (g := gb218) (o := .cells #[.slice Ao26 y215.length co26, u219001] 32 (0, 0)) aK hb)
             have n6_ := aM (blk_below (g := gb221) (o := .cells #[.int .i64 ((rd_T50 l0_1 (rd l1 x7_2)).f0), .slice A220_1 ((rd_T50 l0_1 (rd l1 x7_2)).f1).length c220_1] 50 (0, 0)) aK hb)
             have n7_ := aM (below_step aG hb)
             clear HO_219000
             clear HO_219001
             clear BK208
             clear BK209
             clear BK218
             clear BK221
             clear HB
             have HO_219000 := n0_
             have HO_219001 := n1_
             have HO224 := n2_
             have BK208 := n3_
             have BK209 := n4_
             have BK218 := n5_
             have BK221 := n6_
             have HB := n7_
             clear n0_ n1_ n2_ n3_ n4_ n5_ n6_ n7_
             clear hb ho44
             refine hK.out _ _ ⟨(blk_cell BK218.out 0).trans rfl, (blk_cell BK218.out 1).trans rfl, (blk_cell BK221.out 0).trans rfl, (blk_cell BK221.out 1).trans rfl⟩ (fun hHeld => ?_)
             clear hK K
             refine norm_ (a' := ?_) ?_ ?_
             rotate_left
             ·show Act.put _ (some 42) _ = _
              simp only [Act.put, List.setIfInBounds_toArray, List.set_cons_zero, List.set_cons_succ, i64_w, i32_w]
              rfl
             refine one_ (i := 7) (N := some 45) #[true, true, true, true, true, true, true, true, false, false, false, false, false] rfl rfl (one_of HT_.out (by kernel_rfl)) (by decide) (fun K hK => ?_)
             refine Kd.R_append_rows_step (Kd.int .i64) (w0 := w) w.heap.size (by rfl) (.tmp 42) (.tmp 44) 26 3 (.int .i64 0) 8 rfl Try.underlying26 info3 rfl (by decide) (by omega) v223 y222 ((rd_T50 l0_1 (rd l1 x7_2)).f1) _ _ _ (fun _ => True) (fun _ => False) rfl rfl ?aO ?aR (fun _ _ h => h) (fun _ h => h.elim) ?aF ?aB ?aS ?aL ?_
             (case aR => exact aC)
             (case aB => exact aG)
             (case aF => exact (fun _ _ => trivial))
             (case aO => exact (aR HO224))
             (case aS => exact (below_size aG))
             (case aL => have := LMc35.out; omega)
             intro v226 w45 ho hb hg hat
             rw [← Ny225.out] at ho
             have n0_ := aM (Kd.R_over' (aR HO_219000) (Kd.R_typed (aR HO224)) (by decide) hg)
             have n1_ := aM (Kd.S_after (ok := (fun k_ => k_ ≠ gb221)) (aS HO_219001) hg hat)
             have n2_ := aM (blk_grown (g := gb208) (o := .cells #[.slice A0_0 l0_0.length c0_0, .slice (some ad220) l0_1.length c0_1] 32 (0, 0)) aK hg (Kd.R_ne HO224.out BK208.out (by decide)))
             have n3_ := aM (blk_grown (g := gb209) (o := .cells #[.slice none 0 0, .slice none 0 0] 32 (0, 0)) aK hg (Kd.R_ne HO224.out BK209.out (by decide)))
             have n4_ := aM (blk_grown (g := gb218) (o := .cells #[.slice Ao26 y215.length co26, u219001] 32 (0, 0)) aK hg (Kd.R_ne HO224.out BK218.out (by decide)))
             have n5_ := aM (blk_grown (g := gb221) (o := .cells #[.int .i64 ((rd_T50 l0_1 (rd l1 x7_2)).f0), .slice A220_1 ((rd_T50 l0_1 (rd l1 x7_2)).f1).length c220_1] 50 (0, 0)) aK hg (Kd.R_ne HO224.out BK221.out (by decide)))
             have n6_ := aM (hb)
             have n7_ := aM (ho)
             clear HO_219000
             clear HO_219001
             clear BK208
             clear BK209
             clear BK218
             clear BK221
             clear HB
             clear HO224
             have HO_219000 := n0_
             have HO_219001 := n1_
             have BK208 := n2_
             have BK209 := n3_
             have BK218 := n4_
             have BK221 := n5_
             have HB := n6_
             have HO227 := n7_
             clear n0_ n1_ n2_ n3_ n4_ n5_ n6_ n7_
             clear ho hb hg hat
             obtain ⟨Ao46, co46, eo46⟩ := Kd.R_slice HO227.out
             (first | subst eo46 | (injection eo46 with f1_ f2_ f3_; have f4_ := f1_.symm; have f5_ := f3_.symm; clear f1_ f2_ f3_; subst f4_; subst f5_))
             refine hK.out _ _ ⟨(blk_cell BK218.out 0).trans rfl, (blk_cell BK218.out 1).trans rfl, (blk_cell BK221.out 0).trans rfl, (blk_cell BK221.out 1).trans rfl⟩ (fun hHeld => ?_)
             clear hK K
             refine norm_ (a' := ?_) ?_ ?_
             rotate_left
             ·show Act.put _ (some 45) _ = _
              simp only [Act.put, List.setIfInBounds_toArray, List.set_cons_zero, List.set_cons_succ, i64_w, i32_w]
              rfl
             refine pure_ (i := 8) (N := some 46) (v := ?_) (a' := ?_) #[true, true, true, true, true, true, true, true, true, false, false, false, false] rfl rfl (any_of HT_.out (by kernel_rfl)) (fun _ _ _ h => h) (Or.inl ⟨by rfl, ?_⟩) ?_ ?_
             rotate_left
             ·exact aI
             rotate_left
             ·exact aP
             refine one_ (i := 9) (N := some 47) #[true, true, true, true, true, true, true, true, true, true, false, false, false] rfl rfl (one_of HT_.out (by kernel_rfl)) (by decide) (fun K hK => ?_)
             refine value_ (w1 := ?_) (v := ?_) (by rfl) rfl ?_ ?_
             rotate_left 2
             ·go_simp
              constructor
              ·rfl
              ·rfl
             refine hK.out _ _ ⟨(blk_cell (blk_alloc BK218.out _) 0).trans rfl, (blk_cell (blk_alloc BK218.out _) 1).trans rfl, (blk_cell (blk_alloc BK221.out _) 0).trans rfl, (blk_cell (blk_alloc BK221.out _) 1).trans rfl⟩ (fun hHeld => ?_)
             clear hK K
             refine norm_ (a' := ?_) ?_ ?_
             rotate_left
             ·show Act.put _ (some 47) _ = _
              simp only [Act.put, List.setIfInBounds_toArray, List.set_cons_zero, List.set_cons_succ, i64_w, i32_w]
              rfl
             refine one_ (i := 10) (N := some 48) #[true, true, true, true, true, true, true, true, true, true, true, false, false] rfl rfl (one_of HT_.out (by kernel_rfl)) (by decide) (fun K hK => ?_)
             refine Kd.S_append_step k50 (w0 := w) w.heap.size (by rfl) (.tmp 39) (.tmp 47) 30 50 (.agg #[(.int .i64 0), (.slice none 0 0)]) 32 rfl Try.underlying30 info50 rfl (by decide) (by omega) u219001 x219001_2 (⟨(rd_T50 l0_1 (rd l1 x7_2)).f0, y225⟩ : S50) [.int .i64 ((rd_T50 l0_1 (rd l1 x7_2)).f0), .slice Ao46 y225.length co46] (fun k_ => k_ ≠ gb221) (fun k_ => some k_ = (.slice Ao46 y225.length co46 : Value).ownBlock) rfl rfl ?aP (fun k_ hk_ => ((Kd.R_mono (ok' := fun k_ => ((fun k_ => k_ ≠ gb221)) k_ ∧ some k_ ≠ (u219001 : Value).ownBlock) (Kd.R_types (Kd.R_apart' (HO227.out) (Kd.S_typed HO_219001.out) (by decide)) BK221.out (by decide)) (fun k_ hk => ⟨hk.2, hk.1.2⟩))).1 k_ hk_.symm) ?aF ?aO ?aB ?aS ?aL ?_
             (case aP => exact k50_mkM _ _ _ (⟨(rd_T50 l0_1 (rd l1 x7_2)).f0, y225⟩ : S50) (Kd.R_mono (Kd.R_tight rfl (Kd.R_mono (ok' := fun k_ => ((fun k_ => k_ ≠ gb221)) k_ ∧ some k_ ≠ (u219001 : Value).ownBlock) (Kd.R_types (Kd.R_apart' (HO227.out) (Kd.S_typed HO_219001.out) (by decide)) BK221.out (by decide)) (fun k_ hk => ⟨hk.2, hk.1.2⟩))) (fun _ h_ => h_)))
             (case aB => exact aG)
             (case aF => exact (fun k_ hk => Kd.freshB (g := gb221) (o := .cells #[.int .i64 ((rd_T50 l0_1 (rd l1 x7_2)).f0), .slice A220_1 ((rd_T50 l0_1 (rd l1 x7_2)).f1).length c220_1] 50 (0, 0)) aK k_ hk))
             (case aO => exact (by (with_reducible repeat (first | apply Kd.S_alloc | apply Kd.S_drewN | apply Kd.S_drew)); exact Kd.S_mono HO_219001.out (fun k_ hk => ⟨hk.1, fun e_ => hk.2 e_⟩)))
             (case aS => exact (below_size aG))
             (case aL => have := LMc36.out; omega)
             intro v229 w47 ho hb hg hat
             rw [← Ny228.out] at ho
             have n0_ := aM (Kd.R_over' (aR HO_219000) (Kd.S_typed (aS HO_219001)) (by decide) hg)
             have n1_ := aM (blk_grown (g := gb208) (o := .cells #[.slice A0_0 l0_0.length c0_0, .slice (some ad220) l0_1.length c0_1] 32 (0, 0)) aK hg (Kd.S_ne HO_219001.out BK208.out (by decide)))
             have n2_ := aM (blk_grown (g := gb209) (o := .cells #[.slice none 0 0, .slice none 0 0] 32 (0, 0)) aK hg (Kd.S_ne HO_219001.out BK209.out (by decide)))
             have n3_ := aM (blk_grown (g := gb218) (o := .cells #[.slice Ao26 y215.length co26, u219001] 32 (0, 0)) aK hg (Kd.S_ne HO_219001.out BK218.out (by decide)))
             have n4_ := aM (blk_grown (g := gb221) (o := .cells #[.int .i64 ((rd_T50 l0_1 (rd l1 x7_2)).f0), .slice A220_1 ((rd_T50 l0_1 (rd l1 x7_2)).f1).length c220_1] 50 (0, 0)) aK hg (Kd.S_away HO_219001.out (fun _ hk => hk.1)))
             have n5_ := aM (hb)
             have n6_ := aM (ho)
             clear HO_219000
             clear BK208
             clear BK209
             clear BK218
             clear BK221
             clear HB
             clear HO_219001
             clear HO227
             have HO_219000 := n0_
             have BK208 := n1_
             have BK209 := n2_
             have BK218 := n3_
             have BK221 := n4_
             have HB := n5_
             have HO230 := n6_
             clear n0_ n1_ n2_ n3_ n4_ n5_ n6_
             clear ho hb hg hat
             obtain ⟨Ao48, co48, eo48⟩ := Kd.S_slice HO230.out
             (first | subst eo48 | (injection eo48 with f1_ f2_ f3_; have f4_ := f1_.symm; have f5_ := f3_.symm; clear f1_ f2_ f3_; subst f4_; subst f5_))
             refine hK.out _ _ ⟨(blk_cell BK218.out 0).trans rfl, (blk_cell BK218.out 1).trans rfl, (blk_cell BK221.out 0).trans rfl, (blk_cell BK221.out 1).trans rfl⟩ (fun hHeld => ?_)
             clear hK K
             refine norm_ (a' := ?_) ?_ ?_
             rotate_left
             ·show Act.put _ (some 48) _ = _
              simp only [Act.put, List.setIfInBounds_toArray, List.set_cons_zero, List.set_cons_succ, i64_w, i32_w]
              rfl
             refine pure_ (i := 11) (N := some 49) (v := ?_) (a' := ?_) #[true, true, true, true, true, true, true, true, true, true, true, true, false] rfl rfl (any_of HT_.out (by kernel_rfl)) (fun _ _ _ h => h) (Or.inl ⟨by rfl, ?_⟩) ?_ ?_
             rotate_left
             ·exact aI
             rotate_left
             ·exact aP
             refine last_ (i := 12) (N := none) #[true, true, true, true, true, true, true, true, true, true, true, true, true] rfl rfl (one_of HT_.out (by kernel_rfl)) (by decide) (fun K hK => ?_)
             have hs49 : w47.cell? ⟨gb218, 1, none⟩ = some (u219001) := (blk_cell BK218.out 1).trans rfl
             have hfs49 := blk_frozen BK218.out 1
             have hns49_0 := NB208_218.out
             have hns49_1 := NB209_218.out
             have hns49_3 := NB221_218.out
             have hms49_0 := NB218_208.out
             have hms49_1 := NB218_209.out
             have hms49_3 := NB218_221.out
             refine skip_ (w1 := ?_) (by rfl) rfl ?_ ?_
             rotate_left
             ·go_simp
              rfl
             refine hK.out _ _ ?_
             clear hK K
             refine done_ (done_of HT_.out (by kernel_rfl)) ?_
             try go_wp2
             go_roundg k2
             case measure => have := HJ2.out; have := HK2.out; omega
             case rel => exact ⟨(wrap64 (x7_2 + 1)), (y228), (.slice Ao48 y228.length co48), (by first | rfl | (simp; done) | (simp [*]; done)), H', ⟨by have := HJ2.out; have := HK2.out; omega⟩, ⟨by (with_reducible repeat (first | apply Kd.R_alloc | apply Kd.R_drewN | apply Kd.R_drew)); exact Kd.R_mono (Kd.R_far (p := ⟨gb218, 1, none⟩) (Kd.R_types HO_219000.out BK218.out (by decide)) (fun _ hk => hk.2) (.slice Ao48 y228.length co48)) (fun _ hk => trivial)⟩, ⟨by (with_reducible repeat (first | apply Kd.S_alloc | apply Kd.S_drewN | apply Kd.S_drew)); exact Kd.S_mono (Kd.S_far (p := ⟨gb218, 1, none⟩) (Kd.S_types HO230.out BK218.out (by decide)) (fun _ hk => hk.2) (.slice Ao48 y228.length co48)) (fun _ hk => trivial)⟩, ⟨by (with_reducible repeat (first | refine blk_drewN ?_ _ | refine blk_drew ?_ | refine blk_alloc ?_ _)); refine blk_far ?_ NB208_218.out _; (with_reducible repeat (first | refine blk_drewN ?_ _ | refine blk_drew ?_ | refine blk_alloc ?_ _)); exact BK208.out⟩, ⟨by (with_reducible repeat (first | refine blk_drewN ?_ _ | refine blk_drew ?_ | refine blk_alloc ?_ _)); refine blk_far ?_ NB209_218.out _; (with_reducible repeat (first | refine blk_drewN ?_ _ | refine blk_drew ?_ | refine blk_alloc ?_ _)); exact BK209.out⟩, ⟨by (with_reducible repeat (first | refine blk_drewN ?_ _ | refine blk_drew ?_ | refine blk_alloc ?_ _)); refine blk_put (cs := #[.slice Ao26 y215.length co26, u219001]) ?_ 1 _ rfl; (with_reducible repeat (first | refine blk_drewN ?_ _ | refine blk_drew ?_ | refine blk_alloc ?_ _)); exact BK218.out⟩, ⟨by repeat (first | (with_reducible first | exact HB.out | apply below_alloc | apply pw_below_drewN | apply below_drew1 | refine below_set ?_ GE208.out | refine below_set ?_ GE209.out | refine below_set ?_ GE218.out | refine below_set ?_ GE221.out) | exact HB.out)⟩⟩
            ·rw [if_neg c36] at H
             exact absurd H (by simp)
           ·rw [if_neg c35] at H
            exact absurd H (by simp)
          ·rw [if_neg c34] at H
           exact absurd H (by simp)
         ·rw [if_neg c33] at H
          exact absurd H (by simp)
        ·rw [if_neg c32] at H
         exact absurd H (by simp)
       ·rw [if_neg c31] at H
        have c31b0 : decide (x7_2 < (l1.length : Int)) = false := decide_eq_false c31
        clear c31
        simp only [Option.some.injEq, Prod.mk.injEq] at H
        obtain ⟨rfl, rfl, rfl⟩ := H
        have hnb50 := NB218_208.out
        have hnc50 := NB208_218.out
        have hnb51 := NB218_209.out
        have hnc51 := NB209_218.out
        have hcz52_0 : wr.cell? ⟨gb218, 0, none⟩ = some (.slice Ao26 y215.length co26) := (blk_cell BK218.out 0).trans rfl
        have hcz52_1 : wr.cell? ⟨gb218, 1, none⟩ = some (u219001) := (blk_cell BK218.out 1).trans rfl
        have hfz52_0 := blk_frozen BK218.out 0
        have hfz52_1 := blk_frozen BK218.out 1
        have hnb53 := NB209_208.out
        have hnc53 := NB208_209.out
        have hcz54_0 : wr.cell? ⟨gb209, 0, none⟩ = some (.slice none 0 0) := (blk_cell BK209.out 0).trans rfl
        have hcz54_1 : wr.cell? ⟨gb209, 1, none⟩ = some (.slice none 0 0) := (blk_cell BK209.out 1).trans rfl
        have hfz54_0 := blk_frozen BK209.out 0
        have hfz54_1 := blk_frozen BK209.out 1
        obtain ⟨Ao55, co55, eo55⟩ := Kd.S_slice HO_219001.out
        subst eo55
        go_wp2
        refine bodyPost_ret (results_ct rfl _ _ gb209 32 #[.slice Ao26 y215.length co26, .slice Ao55 x219001_2.length co55] (0, 0) _ rfl (by (with_reducible repeat (first | refine blk_drewN ?_ _ | refine blk_drew ?_ | refine blk_alloc ?_ _)); refine blk_put (cs := #[.slice Ao26 y215.length co26, .slice none 0 0]) ?_ 1 _ rfl; (with_reducible repeat (first | refine blk_drewN ?_ _ | refine blk_drew ?_ | refine blk_alloc ?_ _)); refine blk_put (cs := #[.slice none 0 0, .slice none 0 0]) ?_ 0 _ rfl; (with_reducible repeat (first | refine blk_drewN ?_ _ | refine blk_drew ?_ | refine blk_alloc ?_ _)); exact BK209.out) Try.underlying32 rfl (by kernel_rfl)) rfl ?_
        exact ⟨_, _, by first | rfl | (simp [errW_none, errW_some] <;> rfl) | (simp [*, errW_none, errW_some] <;> rfl), by (with_reducible repeat (first | apply Kd.R_alloc | apply Kd.R_drewN | apply Kd.R_drew)); exact Kd.R_mono (Kd.R_far (p := ⟨gb209, 1, none⟩) (Kd.R_far (p := ⟨gb209, 0, none⟩) (Kd.R_types HO_219000.out BK209.out (by decide)) (fun _ hk => hk.2) (.slice Ao26 y215.length co26)) (fun _ hk => hk.2) (.slice Ao55 x219001_2.length co55)) (fun _ hk => trivial), by (with_reducible repeat (first | apply Kd.S_alloc | apply Kd.S_drewN | apply Kd.S_drew)); exact Kd.S_mono (Kd.S_far (p := ⟨gb209, 1, none⟩) (Kd.S_far (p := ⟨gb209, 0, none⟩) (Kd.S_types HO_219001.out BK209.out (by decide)) (fun _ hk => hk.2) (.slice Ao26 y215.length co26)) (fun _ hk => hk.2) (.slice Ao55 x219001_2.length co55)) (fun _ hk => trivial), by repeat (first | (with_reducible first | exact HB.out | apply below_alloc | apply pw_below_drewN | apply below_drew1 | refine below_set ?_ GE208.out | refine below_set ?_ GE209.out | refine below_set ?_ GE218.out) | exact HB.out)⟩
    ·rw [if_neg c20] at H
     exact absurd H (by simp)

end Go.Proofs.Ytehlhbidmanbmaa.PFnExactNextRepair
