-- Laid by a program of this claim: what the functions come to, some of them proved by hand.
import Derived.Test.YtehlhbidmanbmaaPFnExactNextRepairx0
import Derived.Test.YtehlhbidmanbmaaPFnExactNextRepairx13
import Derived.Test.YtehlhbidmanbmaaPFnExactNextRepairx14
namespace Go.Proofs.Ytehlhbidmanbmaa.PFnExactNextRepair
open Go.RowKit Go.Proofs.YtehlhbidmanbmaaW.PrintWords Go.Proofs.YtehlhbidmanbmaaW.PrintLast Go.Proofs.YtehlhbidmanbmaaW.PrintMore
attribute [local go_sem] max2_int min2_int max_two min_two max_three min_three max_four min_four   -- for this text's walks alone
set_option linter.unusedVariables false
set_option linter.unusedSimpArgs false

/-! ### impl_SelectFacts: function 34 -/
mutual
def impl_SelectFacts.j0 : Nat → List Int → Bool → List (S86) → List (S50) → Option ((List (S86)) × (List (S50)) × Bool)
 | 0, _, _, _, _ => none
 | k + 1, x1, x20, x456000, x456001 => if x20 = true then (some (([] : List (S86)), ([] : List (S50)), false)) else ((impl_copyDatabase.f k x456000 x456001).bind fun bt459 => (impl_SelectFacts.l0 k x1 (x1.length : Int) 0 bt459.1 bt459.2 bt459.1 ([] : List (S50))))
def impl_SelectFacts.l0 : Nat → List Int → Int → Int → List (S86) → List (S50) → List (S86) → List (S50) → Option ((List (S86)) × (List (S50)) × Bool)
 | 0, _, _, _, _, _, _, _ => none
 | k + 1, x27, x28, x29, x466000, x466001, x467000, x467001 => if x29 < x28 then (if 0 ≤ x29 then (if x29 < (x27.length : Int) then (if 0 ≤ (rd x27 x29) then (if (rd x27 x29) < (x466001.length : Int) then (if x467001.length < 4398046511104 then (impl_SelectFacts.l0 k x27 x28 (wrap64 (x29 + 1)) x466000 x466001 x467000 (x467001 ++ [(⟨(rd_T50 x466001 (rd x27 x29)).f0, (rd_T50 x466001 (rd x27 x29)).f1⟩ : S50)])) else (none)) else (none)) else (none)) else (none)) else (none)) else (some (x467000, x467001, true))
end
def impl_SelectFacts.f (k : Nat) (l0_0 : List (S86)) (l0_1 : List (S50)) (l1 : List Int) : Option ((List (S86)) × (List (S50)) × Bool) := (impl_IsValidDatabase.f l0_0 l0_1).bind fun t457 => (if t457 = true then ((impl_areIndices.f k l1 (l0_1.length : Int)).bind fun t458 => (impl_SelectFacts.j0 k l1 (!t458) l0_0 l0_1)) else (impl_SelectFacts.j0 k l1 true l0_0 l0_1))
def impl_SelectFacts.T8 : Bool × List (List Nat × List Nat) := (true, [([], []), ([0], [0]), ([], []), ([2], [2]), ([], []), ([3, 4], [3, 4]), ([5], [5]), ([6], [6]), ([1, 7], [1, 7]), ([0, 1, 2, 3, 4, 5, 6, 7, 8], []), ([9, 8, 8, 0, 1, 2, 3, 4, 5, 6, 7, 8], [8, 9])])
def impl_SelectFacts.B8 : List Nat := [0, 1, 0, 4, 0, 28, 60, 124, 255, 511, 1023]
theorem impl_SelectFacts.tab8 : rtab .any (opsOf Try.f34 8) = impl_SelectFacts.T8 := by kernel_rfl
theorem impl_SelectFacts.bits8 : waitsOk impl_SelectFacts.T8.2 impl_SelectFacts.B8 = true := by kernel_rfl
set_option maxHeartbeats 8000000 in
set_option maxRecDepth 100000 in
theorem impl_SelectFacts.calls (k : Nat) (A0_0 : Option Addr) (c0_0 : Nat) (l0_0 : List (S86)) (A0_1 : Option Addr) (c0_1 : Nat) (l0_1 : List (S50)) (A1 : Option Addr) (c1 : Nat) (l1 : List Int) (r1 : List (S86)) (r2 : List (S50)) (r3 : Bool) (w : World) (hr0_0 : Kd.C k86 w A0_0 l0_0.length l0_0) (hc0_0 : l0_0.length ≤ c0_0) (hr0_1 : Kd.C k50 w A0_1 l0_1.length l0_1) (hc0_1 : l0_1.length ≤ c0_1) (hr1 : Kd.C (Kd.int .i64) w A1 l1.length l1) (hc1 : l1.length ≤ c1) (h : impl_SelectFacts.f k l0_0 l0_1 l1 = some (r1, r2, r3)) :
  Calls Try.prog 34 #[.agg #[.slice A0_0 l0_0.length c0_0, .slice A0_1 l0_1.length c0_1], .slice A1 l1.length c1] w fun e w' => ∃ v0_ v1_ : Value, e = .returned (.tuple #[.agg #[v0_, v1_], .bool r3]) ∧ Kd.R k86 86 w' w.heap.size (fun k_ => (w.heap.size ≤ k_)) v0_ r1 ∧ Kd.N k50 50 w' w.heap.size (fun k_ => (w.heap.size ≤ k_) ∧ some k_ ≠ (v0_ : Value).ownBlock) v1_ r2 ∧ Below w.heap.size w w' := by
 have hu32 := Try.underlying32
 have hu50 := Try.underlying50
 have HR0_0 := aM hr0_0
 have HC0_0 := aM hc0_0
 clear hr0_0 hc0_0
 have HR0_1 := aM hr0_1
 have HC0_1 := aM hc0_1
 clear hr0_1 hc0_1
 have HR1 := aM hr1
 have HC1 := aM hc1
 clear hr1 hc1
 have HB := aM (Below.refl w.heap.size w)
 have H : ((impl_IsValidDatabase.f l0_0 l0_1).bind fun t457 => (if t457 = true then ((impl_areIndices.f k l1 (l0_1.length : Int)).bind fun t458 => (impl_SelectFacts.j0 k l1 (!t458) l0_0 l0_1)) else (impl_SelectFacts.j0 k l1 true l0_0 l0_1))) = some (r1, r2, r3) := h
 clear h
 have HC3 := aM H
 clear H
 go_enter Try.func34, Try.ntmps34
 go_upto_region 1 with (first | ((with_reducible refine gate_dst (N := 2) rfl ?_); (try (refine gate_guard (by rfl) ?_; dsimp only)); refine box_event ?hg (N := 2) ?hd (cs := #[.slice A0_0 l0_0.length c0_0, .slice A0_1 l0_1.length c0_1]) (t := 32) ?hr ?_; (case hd => rfl); (case hg => rfl); (case hr => first | (go_simp; done) | (go_simp; rfl)); intro gb455 hg w4 hbox hb; have n0_ := aM (below_step aB hb); have n1_ := aM (hbox); have n2_ := aM ((by rw [hg]; exact (below_size aB) : w.heap.size ≤ gb455)); have n3_ := aM ((by rw [hg]; exact (below_size aB) : w.heap.size ≤ gb455)); clear HB; have HB := n0_; have BK455 := n1_; have GW455 := n2_; have GE455 := n3_; clear n0_ n1_ n2_ n3_; clear hb hbox hg) | ((with_reducible refine gate_dst (N := 4) rfl ?_); (try (refine gate_guard (by rfl) ?_; dsimp only)); refine box_event ?hg (N := 4) ?hd (cs := #[.slice none 0 0, .slice none 0 0]) (t := 32) ?hr ?_; (case hd => rfl); (case hg => rfl); (case hr => first | (go_simp; done) | (go_simp; rfl)); intro gb456 hg w5 hbox hb; have n0_ := aM (blk_below (g := gb455) (o := .cells #[.slice A0_0 l0_0.length c0_0, .slice A0_1 l0_1.length c0_1] 32 (0, 0)) aK hb); have n1_ := aM (below_step aG hb); have n2_ := aM (hbox); have n3_ := aM ((by rw [hg]; exact (below_size aG) : w.heap.size ≤ gb456)); have n4_ := aM ((by rw [hg]; exact (below_size aG) : w.heap.size ≤ gb456)); have n5_ := aM ((by rw [hg]; exact Nat.ne_of_lt (blk_lt (g := gb455) (o := .cells #[.slice A0_0 l0_0.length c0_0, .slice A0_1 l0_1.length c0_1] 32 (0, 0)) aK) : gb455 ≠ gb456)); have n6_ := aM ((by rw [hg]; exact Nat.ne_of_gt (blk_lt (g := gb455) (o := .cells #[.slice A0_0 l0_0.length c0_0, .slice A0_1 l0_1.length c0_1] 32 (0, 0)) aK) : gb456 ≠ gb455)); clear BK455; clear HB; have BK455 := n0_; have HB := n1_; have BK456 := n2_; have GW456 := n3_; have GE456 := n4_; have NB455_456 := n5_; have NB456_455 := n6_; clear n0_ n1_ n2_ n3_ n4_ n5_ n6_; clear hb hbox hg))
 (try simp only [Act.put, List.setIfInBounds_toArray, List.set_cons_zero, List.set_cons_succ])
 go_cut [20] (fun v20 wc => ∃ (kq : Nat) (x20_2 : Bool), v20 = .bool x20_2 ∧ Aside0 (impl_SelectFacts.j0 kq l1 x20_2 l0_0 l0_1 = some (r1, r2, r3)) ∧ Aside0 (kq ≤ k) ∧ Aside0 (wc.heap[gb455]? = some (.cells #[(.slice A0_0 l0_0.length c0_0), (.slice A0_1 l0_1.length c0_1)] 32 (0, 0))) ∧ Aside0 (wc.heap[gb456]? = some (.cells #[(.slice none 0 0), (.slice none 0 0)] 32 (0, 0))) ∧ Aside0 (Below w.heap.size w wc))
 case first =>
  have H := HC3.out
  clear HC3
  replace H := Option.bind_eq_some_iff.mp H
  obtain ⟨t457, A60, H⟩ := H
  replace H : (if t457 = true then ((impl_areIndices.f k l1 (l0_1.length : Int)).bind fun t458 => (impl_SelectFacts.j0 k l1 (!t458) l0_0 l0_1)) else (impl_SelectFacts.j0 k l1 true l0_0 l0_1)) = some (r1, r2, r3) := H
  have A6 := aM A60
  clear A60
  by_cases c7 : t457 = true
  ·subst c7
   have H1 : ((impl_areIndices.f k l1 (l0_1.length : Int)).bind fun t458 => (impl_SelectFacts.j0 k l1 (!t458) l0_0 l0_1)) = some (r1, r2, r3) := by rw [if_pos rfl] at H; exact H
   clear H
   have H := H1
   clear H1
   replace H := Option.bind_eq_some_iff.mp H
   obtain ⟨t458, A80, H⟩ := H
   replace H : (impl_SelectFacts.j0 k l1 (!t458) l0_0 l0_1) = some (r1, r2, r3) := H
   have A8 := aM A80
   clear A80
   have H' := aM H
   clear H
   have hnb9 := NB455_456.out
   have hnc9 := NB456_455.out
   have hcz10_0 : w5.cell? ⟨gb455, 0, none⟩ = some (.slice A0_0 l0_0.length c0_0) := (blk_cell BK455.out 0).trans rfl
   have hcz10_1 : w5.cell? ⟨gb455, 1, none⟩ = some (.slice A0_1 l0_1.length c0_1) := (blk_cell BK455.out 1).trans rfl
   have hfz10_0 := blk_frozen BK455.out 0
   have hfz10_1 := blk_frozen BK455.out 1
   go_wp2_with (first | ((with_reducible refine gate_callee (f := 69) rfl ?_); refine goesL_ (some 11) rfl rfl Try.func69 (by kernel_rfl) rfl #[.agg #[.slice A0_0 l0_0.length c0_0, .slice A0_1 l0_1.length c0_1]] rfl (by (try simp only [List.map_toArray, List.map_cons, List.map_nil]); first | done | rfl | (simp only [List.length_drop, List.length_take]; rfl)) ?_; (with_reducible refine (impl_IsValidDatabase.calls _ _ l0_0 _ _ l0_1 true _ ?side1 ?side2 ?side3 ?side4 A6.out).mono ?_); (case side1 => exact aC); (case side2 => exact HC0_0.out); (case side3 => exact aC); (case side4 => exact HC0_1.out); rintro e w11 ⟨rfl, hb⟩; refine ⟨_, rfl, ?_⟩; have n0_ := aM (blk_below (g := gb455) (o := .cells #[.slice A0_0 l0_0.length c0_0, .slice A0_1 l0_1.length c0_1] 32 (0, 0)) aK hb); have n1_ := aM (blk_below (g := gb456) (o := .cells #[.slice none 0 0, .slice none 0 0] 32 (0, 0)) aK hb); have n2_ := aM (below_step aG hb); clear BK455; clear BK456; clear HB; have BK455 := n0_; have BK456 := n1_; have HB := n2_; clear n0_ n1_ n2_; (try clear hb); (try clear hb2); (try clear hk); (try clear hi); have hcz12_0 : w11.cell? ⟨gb455, 0, none⟩ = some (.slice A0_0 l0_0.length c0_0) := (blk_cell BK455.out 0).trans rfl; have hcz12_1 : w11.cell? ⟨gb455, 1, none⟩ = some (.slice A0_1 l0_1.length c0_1) := (blk_cell BK455.out 1).trans rfl; have hfz12_0 := blk_frozen BK455.out 0; have hfz12_1 := blk_frozen BK455.out 1) | (go_at_call 70; (with_reducible refine (impl_areIndices.calls k _ _ l1 (l0_1.length : Int) t458 _ ?side1 ?side2 A8.out).mono ?_); (case side1 => exact aC); (case side2 => exact HC1.out); rintro e w' ⟨rfl, ⟨nd, rfl⟩⟩))
   go_meet
   case rel => exact ⟨_, (!t458), (by first | rfl | (simp; done) | (simp [*]; done)), H', ⟨by first | omega | exact Nat.le_refl _⟩, ⟨by (with_reducible repeat (first | refine blk_drewN ?_ _ | refine blk_drew ?_ | refine blk_alloc ?_ _)); exact BK455.out⟩, ⟨by (with_reducible repeat (first | refine blk_drewN ?_ _ | refine blk_drew ?_ | refine blk_alloc ?_ _)); exact BK456.out⟩, ⟨by repeat (first | (with_reducible first | exact HB.out | apply below_alloc | apply pw_below_drewN | apply below_drew1 | refine below_set ?_ GE455.out | refine below_set ?_ GE456.out) | exact HB.out)⟩⟩
  ·replace c7 := Bool.eq_false_iff.mpr c7
   subst c7
   have H1 : (impl_SelectFacts.j0 k l1 true l0_0 l0_1) = some (r1, r2, r3) := by rw [if_neg (show ¬ (false = true) by decide)] at H; exact H
   clear H
   have H := H1
   clear H1
   have H' := aM H
   clear H
   have hnb13 := NB455_456.out
   have hnc13 := NB456_455.out
   have hcz14_0 : w5.cell? ⟨gb455, 0, none⟩ = some (.slice A0_0 l0_0.length c0_0) := (blk_cell BK455.out 0).trans rfl
   have hcz14_1 : w5.cell? ⟨gb455, 1, none⟩ = some (.slice A0_1 l0_1.length c0_1) := (blk_cell BK455.out 1).trans rfl
   have hfz14_0 := blk_frozen BK455.out 0
   have hfz14_1 := blk_frozen BK455.out 1
   go_wp2_with (first | ((with_reducible refine gate_callee (f := 69) rfl ?_); refine goesL_ (some 11) rfl rfl Try.func69 (by kernel_rfl) rfl #[.agg #[.slice A0_0 l0_0.length c0_0, .slice A0_1 l0_1.length c0_1]] rfl (by (try simp only [List.map_toArray, List.map_cons, List.map_nil]); first | done | rfl | (simp only [List.length_drop, List.length_take]; rfl)) ?_; (with_reducible refine (impl_IsValidDatabase.calls _ _ l0_0 _ _ l0_1 false _ ?side1 ?side2 ?side3 ?side4 A6.out).mono ?_); (case side1 => exact aC); (case side2 => exact HC0_0.out); (case side3 => exact aC); (case side4 => exact HC0_1.out); rintro e w15 ⟨rfl, hb⟩; refine ⟨_, rfl, ?_⟩; have n0_ := aM (blk_below (g := gb455) (o := .cells #[.slice A0_0 l0_0.length c0_0, .slice A0_1 l0_1.length c0_1] 32 (0, 0)) aK hb); have n1_ := aM (blk_below (g := gb456) (o := .cells #[.slice none 0 0, .slice none 0 0] 32 (0, 0)) aK hb); have n2_ := aM (below_step aG hb); clear BK455; clear BK456; clear HB; have BK455 := n0_; have BK456 := n1_; have HB := n2_; clear n0_ n1_ n2_; (try clear hb); (try clear hb2); (try clear hk); (try clear hi)))
   go_meet
   case rel => exact ⟨_, (true), (by first | rfl | (simp; done) | (simp [*]; done)), H', ⟨by first | omega | exact Nat.le_refl _⟩, ⟨by (with_reducible repeat (first | refine blk_drewN ?_ _ | refine blk_drew ?_ | refine blk_alloc ?_ _)); exact BK455.out⟩, ⟨by (with_reducible repeat (first | refine blk_drewN ?_ _ | refine blk_drew ?_ | refine blk_alloc ?_ _)); exact BK456.out⟩, ⟨by repeat (first | (with_reducible first | exact HB.out | apply below_alloc | apply pw_below_drewN | apply below_drew1 | refine below_set ?_ GE455.out | refine below_set ?_ GE456.out) | exact HB.out)⟩⟩
 case rest =>
  clear HC3
  try clear c1
  try clear p2
  try clear c3
  try clear c6
  try clear c7
  try clear c9
  try clear c13
  try clear hcz10_0
  try clear hcz10_1
  try clear hcz12_0
  try clear hcz12_1
  try clear hcz14_0
  try clear hcz14_1
  try clear hfz10_0
  try clear hfz10_1
  try clear hfz12_0
  try clear hfz12_1
  try clear hfz14_0
  try clear hfz14_1
  obtain ⟨kq, x20_2, rfl, HA, HJ2, BK455, BK456, HB⟩ := hcut
  cases kq with
  | zero => exact absurd HA.out (by simp [impl_SelectFacts.j0])
  | succ kj2 =>
   have H := HA.out
   clear HA
   simp only [impl_SelectFacts.j0] at H
   by_cases c16 : x20_2 = true
   ·subst c16
    have H1 : (some (([] : List (S86)), ([] : List (S50)), false)) = some (r1, r2, r3) := by rw [if_pos rfl] at H; exact H
    clear H
    have H := H1
    clear H1
    simp only [Option.some.injEq, Prod.mk.injEq] at H
    obtain ⟨rfl, rfl, rfl⟩ := H
    have hnb17 := NB456_455.out
    have hnc17 := NB455_456.out
    have hcz18_0 : wc.cell? ⟨gb456, 0, none⟩ = some (.slice none 0 0) := (blk_cell BK456.out 0).trans rfl
    have hcz18_1 : wc.cell? ⟨gb456, 1, none⟩ = some (.slice none 0 0) := (blk_cell BK456.out 1).trans rfl
    have hfz18_0 := blk_frozen BK456.out 0
    have hfz18_1 := blk_frozen BK456.out 1
    go_wp2
    refine bodyPost_ret (results_ct rfl _ _ gb456 32 #[.slice none 0 0, .slice none 0 0] (0, 0) _ rfl (by (with_reducible repeat (first | refine blk_drewN ?_ _ | refine blk_drew ?_ | refine blk_alloc ?_ _)); refine blk_put (cs := #[.slice none 0 0, .slice none 0 0]) ?_ 1 _ rfl; (with_reducible repeat (first | refine blk_drewN ?_ _ | refine blk_drew ?_ | refine blk_alloc ?_ _)); refine blk_put (cs := #[.slice none 0 0, .slice none 0 0]) ?_ 0 _ rfl; (with_reducible repeat (first | refine blk_drewN ?_ _ | refine blk_drew ?_ | refine blk_alloc ?_ _)); exact BK456.out) Try.underlying32 rfl (by kernel_rfl)) rfl ?_
    exact ⟨_, _, by first | rfl | (simp [errW_none, errW_some] <;> rfl) | (simp [*, errW_none, errW_some] <;> rfl), by first | exact Kd.R_nil _ _ _ _ _ | exact Kd.N_nil _ _ _ _ _ | exact Kd.V_nil _ _ _ _ _ | exact Kd.Q_nil _ _ _ _ _ | exact Kd.S_nil _ _ _ _ _, by first | exact Kd.S_nil _ _ _ _ _ | exact Kd.N_nil _ _ _ _ _ | exact Kd.V_nil _ _ _ _ _ | exact Kd.Q_nil _ _ _ _ _ | exact Kd.R_nil _ _ _ _ _, by repeat (first | (with_reducible first | exact HB.out | apply below_alloc | apply pw_below_drewN | apply below_drew1 | refine below_set ?_ GE455.out | refine below_set ?_ GE456.out) | exact HB.out)⟩
   ·replace c16 := Bool.eq_false_iff.mpr c16
    subst c16
    have H1 : ((impl_copyDatabase.f kj2 l0_0 l0_1).bind fun bt459 => (impl_SelectFacts.l0 kj2 l1 (l1.length : Int) 0 bt459.1 bt459.2 bt459.1 ([] : List (S50)))) = some (r1, r2, r3) := by rw [if_neg (show ¬ (false = true) by decide)] at H; exact H
    clear H
    have H := H1
    clear H1
    replace H := Option.bind_eq_some_iff.mp H
    obtain ⟨⟨t459, t462⟩, A190, H⟩ := H
    replace H : (impl_SelectFacts.l0 kj2 l1 (l1.length : Int) 0 t459 t462 t459 ([] : List (S50))) = some (r1, r2, r3) := H
    have A19 := aM A190
    clear A190
    have H' := aM H
    clear H
    have hnb20 := NB455_456.out
    have hnc20 := NB456_455.out
    have hcz21_0 : wc.cell? ⟨gb455, 0, none⟩ = some (.slice A0_0 l0_0.length c0_0) := (blk_cell BK455.out 0).trans rfl
    have hcz21_1 : wc.cell? ⟨gb455, 1, none⟩ = some (.slice A0_1 l0_1.length c0_1) := (blk_cell BK455.out 1).trans rfl
    have hfz21_0 := blk_frozen BK455.out 0
    have hfz21_1 := blk_frozen BK455.out 1
    go_wp2_with (first | ((with_reducible refine gate_callee (f := 71) rfl ?_); refine goesL_ (some 23) rfl rfl Try.func71 (by kernel_rfl) rfl #[.agg #[.slice A0_0 l0_0.length c0_0, .slice A0_1 l0_1.length c0_1]] rfl (by (try simp only [List.map_toArray, List.map_cons, List.map_nil]); first | done | rfl | (simp only [List.length_drop, List.length_take]; rfl)) ?_; (with_reducible refine (impl_copyDatabase.calls kj2 _ _ l0_0 _ _ l0_1 t459 t462 _ ?side1 ?side2 ?side3 ?side4 A19.out).mono ?_); (case side1 => exact aC); (case side2 => exact HC0_0.out); (case side3 => exact aC); (case side4 => exact HC0_1.out); rintro e w22 ⟨v460, v463, rfl, ho0, ho1, hb⟩; refine ⟨_, rfl, ?_⟩; have n0_ := aM (Kd.R_lower (Kd.R_newM (M := fun k_ => (w.heap.size ≤ k_)) ho0 (below_size aG) (fun k_ h_ => h_)) (below_size aG)); have n1_ := aM (Kd.N_lower (Kd.N_mono (ok' := fun k_ => (w.heap.size ≤ k_) ∧ some k_ ≠ (v460 : Value).ownBlock ∧ k_ ≠ gb455 ∧ k_ ≠ gb456) (Kd.S_N (Kd.S_bound (Kd.S_apart' ho1 (Kd.R_typed ho0) (by decide)))) (fun k_ hk_ => ⟨(Nat.le_trans (below_size aG) hk_.2.1), hk_.1.2, (Kd.freshB (g := gb455) (o := .cells #[.slice A0_0 l0_0.length c0_0, .slice A0_1 l0_1.length c0_1] 32 (0, 0)) aK k_ hk_.2.1), (Kd.freshB (g := gb456) (o := .cells #[.slice none 0 0, .slice none 0 0] 32 (0, 0)) aK k_ hk_.2.1)⟩)) (below_size aG)); have n2_ := aM (blk_below (g := gb455) (o := .cells #[.slice A0_0 l0_0.length c0_0, .slice A0_1 l0_1.length c0_1] 32 (0, 0)) aK hb); have n3_ := aM (blk_below (g := gb456) (o := .cells #[.slice none 0 0, .slice none 0 0] 32 (0, 0)) aK hb); have n4_ := aM (below_step aG hb); clear BK455; clear BK456; clear HB; have HO461 := n0_; have HO464 := n1_; have BK455 := n2_; have BK456 := n3_; have HB := n4_; clear n0_ n1_ n2_ n3_ n4_; (try clear hb); (try clear hb2); (try clear hk); (try clear hi); (try clear ho0); (try clear ho1)) | ((with_reducible refine gate_dst (N := 6) rfl ?_); (try (refine gate_guard (by rfl) ?_; dsimp only)); refine box_event ?hg (N := 6) ?hd (cs := #[.slice none 0 0, .slice none 0 0]) (t := 32) ?hr ?_; (case hd => rfl); (case hg => rfl); (case hr => first | (go_simp; done) | (go_simp; rfl)); intro gb465 hg w23 hbox hb; have n0_ := aM (Kd.R_below (aR HO461) hb); have n1_ := aM (Kd.N_below (Kd.N_elderB (by (with_reducible repeat (first | apply Kd.N_alloc | apply Kd.N_drewN | apply Kd.N_drew)); exact HO464.out) gb465 (Nat.le_of_eq hg.symm)) hb); have n2_ := aM (blk_below (g := gb455) (o := .cells #[.slice A0_0 l0_0.length c0_0, .slice A0_1 l0_1.length c0_1] 32 (0, 0)) aK hb); have n3_ := aM (blk_below (g := gb456) (o := .cells #[.slice none 0 0, .slice none 0 0] 32 (0, 0)) aK hb); have n4_ := aM (below_step aG hb); have n5_ := aM (hbox); have n6_ := aM ((by rw [hg]; exact (below_size aG) : w.heap.size ≤ gb465)); have n7_ := aM ((by rw [hg]; exact (below_size aG) : w.heap.size ≤ gb465)); have n8_ := aM ((by rw [hg]; exact Nat.ne_of_lt (blk_lt (g := gb455) (o := .cells #[.slice A0_0 l0_0.length c0_0, .slice A0_1 l0_1.length c0_1] 32 (0, 0)) aK) : gb455 ≠ gb465)); have n9_ := aM ((by rw [hg]; exact Nat.ne_of_gt (blk_lt (g := gb455) (o := .cells #[.slice A0_0 l0_0.length c0_0, .slice A0_1 l0_1.length c0_1] 32 (0, 0)) aK) : gb465 ≠ gb455)); have n10_ := aM ((by rw [hg]; exact Nat.ne_of_lt (blk_lt (g := gb456) (o := .cells #[.slice none 0 0, .slice none 0 0] 32 (0, 0)) aK) : gb456 ≠ gb465)); have n11_ := aM ((by rw [hg]; exact Nat.ne_of_gt (blk_lt (g := gb456) (o := .cells #[.slice none 0 0, .slice none 0 0] 32 (0, 0)) aK) : gb465 ≠ gb456)); clear HO461; clear HO464; clear BK455; clear BK456; clear HB; have HO461 := n0_; have HO464 := n1_; have BK455 := n2_; have BK456 := n3_; have HB := n4_; have BK465 := n5_; have GW465 := n6_; have GE465 := n7_; have NB455_465 := n8_; have NB465_455 := n9_; have NB456_465 := n10_; have NB465_456 := n11_; clear n0_ n1_ n2_ n3_ n4_ n5_ n6_ n7_ n8_ n9_ n10_ n11_; clear hb hbox hg; obtain ⟨Ao24, co24, eo24⟩ := Kd.R_slice HO461.out; subst eo24; have hnb25 := NB465_455.out; have hnc25 := NB455_465.out; have hnb26 := NB465_456.out; have hnc26 := NB456_465.out; have hcz27_0 : w23.cell? ⟨gb465, 0, none⟩ = some (.slice none 0 0) := (blk_cell BK465.out 0).trans rfl; have hcz27_1 : w23.cell? ⟨gb465, 1, none⟩ = some (.slice none 0 0) := (blk_cell BK465.out 1).trans rfl; have hfz27_0 := blk_frozen BK465.out 0; have hfz27_1 := blk_frozen BK465.out 1; obtain ⟨Ao28, co28, eo28⟩ := Kd.N_slice HO464.out; subst eo28) | ((with_reducible refine gate_dst (N := 7) rfl ?_); (try (refine gate_guard (by rfl) ?_; dsimp only)); refine box_event ?hg (N := 7) ?hd (cs := #[.slice none 0 0, .slice none 0 0]) (t := 32) ?hr ?_; (case hd => rfl); (case hg => rfl); (case hr => first | (go_simp; done) | (go_simp; rfl)); intro gb466 hg w29 hbox hb; have n0_ := aM (Kd.R_below (by (with_reducible repeat (first | apply Kd.R_alloc | apply Kd.R_drewN | apply Kd.R_drew)); exact (Kd.R_mono (Kd.R_far (p := ⟨gb465, 1, none⟩) (Kd.R_far (p := ⟨gb465, 0, none⟩) (Kd.R_types HO461.out BK465.out (by decide)) (fun _ hk => hk.2) (.slice Ao24 t459.length co24)) (fun _ hk => hk.2) (.slice Ao28 t462.length co28)) (fun _ h_ => h_.1))) hb); have n1_ := aM (Kd.N_below (Kd.N_elderB (by (with_reducible repeat (first | apply Kd.N_alloc | apply Kd.N_drewN | apply Kd.N_drew)); exact (Kd.N_mono (Kd.N_far (p := ⟨gb465, 1, none⟩) (Kd.N_far (p := ⟨gb465, 0, none⟩) (Kd.N_mono HO464.out (fun k_ hk => (⟨hk, hk.2⟩ : _ ∧ k_ ≠ gb465))) (fun _ hk => hk.2) (.slice Ao24 t459.length co24)) (fun _ hk => hk.2) (.slice Ao28 t462.length co28)) (fun _ h_ => h_.1))) gb466 (Nat.le_of_eq hg.symm)) hb); have n2_ := aM (blk_below (g := gb455) (o := .cells #[.slice A0_0 l0_0.length c0_0, .slice A0_1 l0_1.length c0_1] 32 (0, 0)) (by (with_reducible repeat (first | refine blk_drewN ?_ _ | refine blk_drew ?_ | refine blk_alloc ?_ _)); refine blk_far ?_ NB455_465.out _; (with_reducible repeat (first | refine blk_drewN ?_ _ | refine blk_drew ?_ | refine blk_alloc ?_ _)); refine blk_far ?_ NB455_465.out _; (with_reducible repeat (first | refine blk_drewN ?_ _ | refine blk_drew ?_ | refine blk_alloc ?_ _)); exact BK455.out) hb); have n3_ := aM (blk_below (g := gb456) (o := .cells #[.slice none 0 0, .slice none 0 0] 32 (0, 0)) (by (with_reducible repeat (first | refine blk_drewN ?_ _ | refine blk_drew ?_ | refine blk_alloc ?_ _)); refine blk_far ?_ NB456_465.out _; (with_reducible repeat (first | refine blk_drewN ?_ _ | refine blk_drew ?_ | refine blk_alloc ?_ _)); refine blk_far ?_ NB456_465.out _; (with_reducible repeat (first | refine blk_drewN ?_ _ | refine blk_drew ?_ | refine blk_alloc ?_ _)); exact BK456.out) hb); have n4_ := aM (blk_below (g := gb465) (o := .cells #[.slice Ao24 t459.length co24, .slice Ao28 t462.length co28] 32 (0, 0)) (by (with_reducible repeat (first | refine blk_drewN ?_ _ | refine blk_drew ?_ | refine blk_alloc ?_ _)); refine blk_put (cs := #[.slice Ao24 t459.length co24, .slice none 0 0]) ?_ 1 _ rfl; (with_reducible repeat (first | refine blk_drewN ?_ _ | refine blk_drew ?_ | refine blk_alloc ?_ _)); refine blk_put (cs := #[.slice none 0 0, .slice none 0 0]) ?_ 0 _ rfl; (with_reducible repeat (first | refine blk_drewN ?_ _ | refine blk_drew ?_ | refine blk_alloc ?_ _)); exact BK465.out) hb); have n5_ := aM (below_step aG hb); have n6_ := aM (hbox); have n7_ := aM ((by rw [hg]; exact (below_size aG) : w.heap.size ≤ gb466)); have n8_ := aM ((by rw [hg]; exact (below_size aG) : w.heap.size ≤ gb466)); have n9_ := aM ((by rw [hg]; exact Nat.ne_of_lt (blk_lt (g := gb455) (o := .cells #[.slice A0_0 l0_0.length c0_0, .slice A0_1 l0_1.length c0_1] 32 (0, 0)) (by (with_reducible repeat (first | refine blk_drewN ?_ _ | refine blk_drew ?_ | refine blk_alloc ?_ _)); refine blk_far ?_ NB455_465.out _; (with_reducible repeat (first | refine blk_drewN ?_ _ | refine blk_drew ?_ | refine blk_alloc ?_ _)); refine blk_far ?_ NB455_465.out _; (with_reducible repeat (first | refine blk_drewN ?_ _ | refine blk_drew ?_ | refine blk_alloc ?_ _)); exact BK455.out)) : gb455 ≠ gb466)); have n10_ := aM ((by rw [hg]; exact Nat.ne_of_gt (blk_lt (g := gb455) (o := .cells #[.slice A0_0 l0_0.length c0_0, .slice A0_1 l0_1.length c0_1] 32 (0, 0)) (by (with_reducible repeat (first | refine blk_drewN ?_ _ | refine blk_drew ?_ | refine blk_alloc ?_ _)); refine blk_far ?_ NB455_465.out _; (with_reducible repeat (first | refine blk_drewN ?_ _ | refine blk_drew ?_ | refine blk_alloc ?_ _)); refine blk_far ?_ NB455_465.out _; (with_reducible repeat (first | refine blk_drewN ?_ _ | refine blk_drew ?_ | refine blk_alloc ?_ _)); exact BK455.out)) : gb466 ≠ gb455)); have n11_ := aM ((by rw [hg]; exact Nat.ne_of_lt (blk_lt (g := gb456) (o := .cells #[.slice none 0 0, .slice none 0 0] 32 (0, 0)) (by (with_reducible repeat (first | refine blk_drewN ?_ _ | refine blk_drew ?_ | refine blk_alloc ?_ _)); refine blk_far ?_ NB456_465.out _; (with_reducible repeat (first | refine blk_drewN ?_ _ | refine blk_drew ?_ | refine blk_alloc ?_ _)); refine blk_far ?_ NB456_465.out _; (with_reducible repeat (first | refine blk_drewN ?_ _ | refine blk_drew ?_ | refine blk_alloc ?_ _)); exact BK456.out)) : gb456 ≠ gb466)); have n12_ := aM ((by rw [hg]; exact Nat.ne_of_gt (blk_lt (g := gb456) (o := .cells #[.slice none 0 0, .slice none 0 0] 32 (0, 0)) (by (with_reducible repeat (first | refine blk_drewN ?_ _ | refine blk_drew ?_ | refine blk_alloc ?_ _)); refine blk_far ?_ NB456_465.out _; (with_reducible repeat (first | refine blk_drewN ?_ _ | refine blk_drew ?_ | refine blk_alloc ?_ _)); refine blk_far ?_ NB456_465.out _; (with_reducible repeat (first | refine blk_drewN ?_ _ | refine blk_drew ?_ | refine blk_alloc ?_ _)); exact BK456.out)) : gb466 ≠ gb456)); have n13_ := aM ((by rw [hg]; exact Nat.ne_of_lt (blk_lt (g := gb465) (o := .cells #[.slice Ao24 t459.length co24, .slice Ao28 t462.length co28] 32 (0, 0)) (by (with_reducible repeat (first | refine blk_drewN ?_ _ | refine blk_drew ?_ | refine blk_alloc ?_ _)); refine blk_put (cs := #[.slice Ao24 t459.length co24, .slice none 0 0]) ?_ 1 _ rfl; (with_reducible repeat (first | refine blk_drewN ?_ _ | refine blk_drew ?_ | refine blk_alloc ?_ _)); refine blk_put (cs := #[.slice none 0 0, .slice none 0 0]) ?_ 0 _ rfl; (with_reducible repeat (first | refine blk_drewN ?_ _ | refine blk_drew ?_ | refine blk_alloc ?_ _)); exact BK465.out)) : gb465 ≠ gb466)); have n14_ := aM ((by rw [hg]; exact Nat.ne_of_gt (blk_lt (g := gb465) (o := .cells #[.slice Ao24 t459.length co24, .slice Ao28 t462.length co28] 32 (0, 0)) (by (with_reducible repeat (first | refine blk_drewN ?_ _ | refine blk_drew ?_ | refine blk_alloc ?_ _)); refine blk_put (cs := #[.slice Ao24 t459.length co24, .slice none 0 0]) ?_ 1 _ rfl; (with_reducible repeat (first | refine blk_drewN ?_ _ | refine blk_drew ?_ | refine blk_alloc ?_ _)); refine blk_put (cs := #[.slice none 0 0, .slice none 0 0]) ?_ 0 _ rfl; (with_reducible repeat (first | refine blk_drewN ?_ _ | refine blk_drew ?_ | refine blk_alloc ?_ _)); exact BK465.out)) : gb466 ≠ gb465)); clear HO461; clear HO464; clear BK455; clear BK456; clear BK465; clear HB; have HO461 := n0_; have HO464 := n1_; have BK455 := n2_; have BK456 := n3_; have BK465 := n4_; have HB := n5_; have BK466 := n6_; have GW466 := n7_; have GE466 := n8_; have NB455_466 := n9_; have NB466_455 := n10_; have NB456_466 := n11_; have NB466_456 := n12_; have NB465_466 := n13_; have NB466_465 := n14_; clear n0_ n1_ n2_ n3_ n4_ n5_ n6_ n7_ n8_ n9_ n10_ n11_ n12_ n13_ n14_; clear hb hbox hg; have hnb30 := NB466_455.out; have hnc30 := NB455_466.out; have hnb31 := NB466_456.out; have hnc31 := NB456_466.out; have hnb32 := NB466_465.out; have hnc32 := NB465_466.out; have hcz33_0 : w29.cell? ⟨gb466, 0, none⟩ = some (.slice none 0 0) := (blk_cell BK466.out 0).trans rfl; have hcz33_1 : w29.cell? ⟨gb466, 1, none⟩ = some (.slice none 0 0) := (blk_cell BK466.out 1).trans rfl; have hfz33_0 := blk_frozen BK466.out 0; have hfz33_1 := blk_frozen BK466.out 1))
    go_loopg [29] kj2 (fun kq v29 w' => ∃ (x29_2 : Int) (x467001_2 : List (S50)) (u467001 : Value), v29 = .int .i64 x29_2 ∧ Aside0 (impl_SelectFacts.l0 kq l1 (l1.length : Int) x29_2 t459 t462 t459 x467001_2 = some (r1, r2, r3)) ∧ Aside0 (kq ≤ kj2) ∧ Aside0 (Kd.R k86 86 w' w.heap.size (fun k_ => (w.heap.size ≤ k_)) (.slice Ao24 t459.length co24) t459) ∧ Aside0 (Kd.N k50 50 w' w.heap.size (fun k_ => (w.heap.size ≤ k_) ∧ some k_ ≠ ((.slice Ao24 t459.length co24) : Value).ownBlock ∧ some k_ ≠ ((.slice Ao24 t459.length co24) : Value).ownBlock ∧ some k_ ≠ (u467001 : Value).ownBlock ∧ k_ ≠ gb455 ∧ k_ ≠ gb456 ∧ k_ ≠ gb465 ∧ k_ ≠ gb466) (.slice Ao28 t462.length co28) t462) ∧ Aside0 (Kd.R k86 86 w' w.heap.size (fun k_ => (w.heap.size ≤ k_)) (.slice Ao24 t459.length co24) t459) ∧ Aside0 (Kd.N k50 50 w' w.heap.size (fun k_ => (w.heap.size ≤ k_) ∧ some k_ ≠ ((.slice Ao24 t459.length co24) : Value).ownBlock ∧ some k_ ≠ ((.slice Ao28 t462.length co28) : Value).ownBlock ∧ some k_ ≠ ((.slice Ao24 t459.length co24) : Value).ownBlock ∧ k_ ≠ gb455 ∧ k_ ≠ gb456 ∧ k_ ≠ gb465 ∧ k_ ≠ gb466) u467001 x467001_2) ∧ Aside0 (w'.heap[gb455]? = some (.cells #[(.slice A0_0 l0_0.length c0_0), (.slice A0_1 l0_1.length c0_1)] 32 (0, 0))) ∧ Aside0 (w'.heap[gb456]? = some (.cells #[(.slice none 0 0), (.slice none 0 0)] 32 (0, 0))) ∧ Aside0 (w'.heap[gb465]? = some (.cells #[(.slice Ao24 t459.length co24), (.slice Ao28 t462.length co28)] 32 (0, 0))) ∧ Aside0 (w'.heap[gb466]? = some (.cells #[(.slice Ao24 t459.length co24), u467001] 32 (0, 0))) ∧ Aside0 (Below w.heap.size w w'))
    case atStart => exact ⟨(0), (([] : List (S50))), (.slice none 0 0), (by first | rfl | (simp; done) | (simp [*]; done)), H', ⟨Nat.le_refl _⟩, ⟨by (with_reducible repeat (first | apply Kd.R_alloc | apply Kd.R_drewN | apply Kd.R_drew)); exact Kd.R_mono (Kd.R_far (p := ⟨gb466, 1, none⟩) (Kd.R_far (p := ⟨gb466, 0, none⟩) (Kd.R_types HO461.out BK466.out (by decide)) (fun _ hk => hk.2) (.slice Ao24 t459.length co24)) (fun _ hk => hk.2) (.slice none 0 0)) (fun _ hk => hk.1.1)⟩, ⟨by (with_reducible repeat (first | apply Kd.N_alloc | apply Kd.N_drewN | apply Kd.N_drew)); exact Kd.N_mono (Kd.N_far (p := ⟨gb466, 1, none⟩) (Kd.N_far (p := ⟨gb466, 0, none⟩) (Kd.N_mono HO464.out (fun k_ hk => (⟨hk, hk.2⟩ : _ ∧ k_ ≠ gb466))) (fun _ hk => hk.2) (.slice Ao24 t459.length co24)) (fun _ hk => hk.2) (.slice none 0 0)) (fun _ hk => ⟨hk.1.1.1.1, ⟨hk.1.1.1.2.1, ⟨hk.1.1.1.2.1, ⟨(by simp [Value.ownBlock]), ⟨hk.1.1.1.2.2.1, ⟨hk.1.1.1.2.2.2, ⟨hk.1.1.2, hk.1.2⟩⟩⟩⟩⟩⟩⟩)⟩, ⟨by (with_reducible repeat (first | apply Kd.R_alloc | apply Kd.R_drewN | apply Kd.R_drew)); exact Kd.R_mono (Kd.R_far (p := ⟨gb466, 1, none⟩) (Kd.R_far (p := ⟨gb466, 0, none⟩) (Kd.R_types HO461.out BK466.out (by decide)) (fun _ hk => hk.2) (.slice Ao24 t459.length co24)) (fun _ hk => hk.2) (.slice none 0 0)) (fun _ hk => hk.1.1)⟩, ⟨by first | exact Kd.S_nil _ _ _ _ _ | exact Kd.N_nil _ _ _ _ _ | exact Kd.V_nil _ _ _ _ _ | exact Kd.Q_nil _ _ _ _ _ | exact Kd.R_nil _ _ _ _ _⟩, ⟨by (with_reducible repeat (first | refine blk_drewN ?_ _ | refine blk_drew ?_ | refine blk_alloc ?_ _)); refine blk_far ?_ NB455_466.out _; (with_reducible repeat (first | refine blk_drewN ?_ _ | refine blk_drew ?_ | refine blk_alloc ?_ _)); refine blk_far ?_ NB455_466.out _; (with_reducible repeat (first | refine blk_drewN ?_ _ | refine blk_drew ?_ | refine blk_alloc ?_ _)); exact BK455.out⟩, ⟨by (with_reducible repeat (first | refine blk_drewN ?_ _ | refine blk_drew ?_ | refine blk_alloc ?_ _)); refine blk_far ?_ NB456_466.out _; (with_reducible repeat (first | refine blk_drewN ?_ _ | refine blk_drew ?_ | refine blk_alloc ?_ _)); refine blk_far ?_ NB456_466.out _; (with_reducible repeat (first | refine blk_drewN ?_ _ | refine blk_drew ?_ | refine blk_alloc ?_ _)); exact BK456.out⟩, ⟨by (with_reducible repeat (first | refine blk_drewN ?_ _ | refine blk_drew ?_ | refine blk_alloc ?_ _)); refine blk_far ?_ NB465_466.out _; (with_reducible repeat (first | refine blk_drewN ?_ _ | refine blk_drew ?_ | refine blk_alloc ?_ _)); refine blk_far ?_ NB465_466.out _; (with_reducible repeat (first | refine blk_drewN ?_ _ | refine blk_drew ?_ | refine blk_alloc ?_ _)); exact BK465.out⟩, ⟨by (with_reducible repeat (first | refine blk_drewN ?_ _ | refine blk_drew ?_ | refine blk_alloc ?_ _)); refine blk_put (cs := #[.slice Ao24 t459.length co24, .slice none 0 0]) ?_ 1 _ rfl; (with_reducible repeat (first | refine blk_drewN ?_ _ | refine blk_drew ?_ | refine blk_alloc ?_ _)); refine blk_put (cs := #[.slice none 0 0, .slice none 0 0]) ?_ 0 _ rfl; (with_reducible repeat (first | refine blk_drewN ?_ _ | refine blk_drew ?_ | refine blk_alloc ?_ _)); exact BK466.out⟩, ⟨by repeat (first | (with_reducible first | exact HB.out | apply below_alloc | apply pw_below_drewN | apply below_drew1 | refine below_set ?_ GE455.out | refine below_set ?_ GE456.out | refine below_set ?_ GE465.out | refine below_set ?_ GE466.out) | exact HB.out)⟩⟩
    case round =>
     clear H'
     try clear c1
     try clear c2
     try clear p2
     try clear c3
     try clear c6
     try clear c7
     try clear c9
     try clear c13
     try clear c16
     try clear c17
     try clear c20
     try clear c25
     try clear c26
     try clear c30
     try clear c31
     try clear c32
     try clear hcz10_0
     try clear hcz10_1
     try clear hcz12_0
     try clear hcz12_1
     try clear hcz14_0
     try clear hcz14_1
     try clear hcz18_0
     try clear hcz18_1
     try clear hcz21_0
     try clear hcz21_1
     try clear hcz27_0
     try clear hcz27_1
     try clear hcz33_0
     try clear hcz33_1
     try clear hfz10_0
     try clear hfz10_1
     try clear hfz12_0
     try clear hfz12_1
     try clear hfz14_0
     try clear hfz14_1
     try clear hfz18_0
     try clear hfz18_1
     try clear hfz21_0
     try clear hfz21_1
     try clear hfz27_0
     try clear hfz27_1
     try clear hfz33_0
     try clear hfz33_1
     try clear p2
     obtain ⟨x29_2, x467001_2, u467001, rfl, HA, HK2, HO_466000, HO_466001, HO_467000, HO_467001, BK455, BK456, BK465, BK466, HB⟩ := hrel
     cases gk with
     | zero => exact absurd HA.out (by simp [impl_SelectFacts.l0])
     | succ k2 =>
      have H := HA.out
      clear HA
      simp only [impl_SelectFacts.l0] at H
      by_cases c34 : x29_2 < (l1.length : Int)
      ·rw [if_pos c34] at H
       have c34b0 : decide (x29_2 < (l1.length : Int)) = true := decide_eq_true c34
       clear c34
       by_cases c35 : 0 ≤ x29_2
       ·rw [if_pos c35] at H
        have c35b0 : decide (0 ≤ x29_2) = true := decide_eq_true c35
        clear c35
        by_cases c36 : x29_2 < (l1.length : Int)
        ·rw [if_pos c36] at H
         have c36b0 : decide (x29_2 < (l1.length : Int)) = true := decide_eq_true c36
         clear c36
         by_cases c37 : 0 ≤ (rd l1 x29_2)
         ·rw [if_pos c37] at H
          have c37b0 : decide (0 ≤ (rd l1 x29_2)) = true := decide_eq_true c37
          clear c37
          by_cases c38 : (rd l1 x29_2) < (t462.length : Int)
          ·rw [if_pos c38] at H
           have c38b0 : decide ((rd l1 x29_2) < (t462.length : Int)) = true := decide_eq_true c38
           clear c38
           by_cases c39 : x467001_2.length < 4398046511104
           ·rw [if_pos c39] at H
            have LMc39 := aM c39
            clear c39
            obtain ⟨y469, hy469⟩ : ∃ y_ : List (S50), y_ = (x467001_2 ++ [(⟨(rd_T50 t462 (rd l1 x29_2)).f0, (rd_T50 t462 (rd l1 x29_2)).f1⟩ : S50)]) := ⟨_, rfl⟩
            replace H : (impl_SelectFacts.l0 k2 l1 (l1.length : Int) (wrap64 (x29_2 + 1)) t459 t462 t459 y469) = some (r1, r2, r3) := by first | (rw [hy469]; with_reducible exact H) | (have H2_ := (Option.bind_some _ _).symm.trans H; rw [hy469]; with_reducible exact H2_) | (have H2_ := (Option.bind_some _ _).symm.trans H; with_reducible exact H2_) | with_reducible exact H | (rw [hy469]; exact H) | exact H
            have Ny469 := aM hy469
            clear hy469
            have H' := aM H
            clear H
            have p467 : 0 ≤ (x29_2 : Int) := aD
            have q467 : x29_2 < (l1.length : Int) := aD
            obtain ⟨ad467, e467, hx467_0⟩ := Kd.at_int HR1.out x29_2 p467 q467
            cases e467
            replace hx467_0 := (HB.out.cell (World.block_lt_of_cell? w _ hx467_0)).trans hx467_0
            replace p467 := eq_true p467
            replace q467 := eq_true q467
            try go_wp2
            have n0_ := aM (Kd.R_drew HO_466000.out)
            have n1_ := aM (Kd.N_drew HO_466001.out)
            have n2_ := aM (Kd.R_drew HO_467000.out)
            have n3_ := aM (Kd.N_drew HO_467001.out)
            have n4_ := aM (blk_drew BK455.out)
            have n5_ := aM (blk_drew BK456.out)
            have n6_ := aM (blk_drew BK465.out)
            have n7_ := aM (blk_drew BK466.out)
            have n8_ := aM (below_drew1 HB.out)
            clear HO_466000
            clear HO_466001
            clear HO_467000
            clear HO_467001
            clear BK455
            clear BK456
            clear BK465
            clear BK466
            clear HB
            have HO_466000 := n0_
            have HO_466001 := n1_
            have HO_467000 := n2_
            have HO_467001 := n3_
            have BK455 := n4_
            have BK456 := n5_
            have BK465 := n6_
            have BK466 := n7_
            have HB := n8_
            clear n0_ n1_ n2_ n3_ n4_ n5_ n6_ n7_ n8_
            have p468 : 0 ≤ ((rd l1 x29_2) : Int) := aD
            have q468 : (rd l1 x29_2) < (t462.length : Int) := aD
            obtain ⟨ad468, A468_1, c468_1, e468, hx468_0, hx468_1, hl468_1, hi468_1⟩ := at_T50 (Kd.N_reads' HO_466001.out).2.2 (rd l1 x29_2) p468 q468
            cases e468
            obtain ⟨ce468, hce468, hMe468, hcc468⟩ := Kd.N_get HO_466001.out z50 (rd l1 x29_2) p468 (by first | exact q468 | exact aD | (have e_ := (Kd.N_reads' HO_466001.out).1; omega))
            obtain ⟨ua468_1, uc468_1, rfl, ul468_1, ge468_1⟩ := k50_openF hMe468
            have hv468_1 := hcc468 1 _ rfl
            rw [add_field _ _ 1 (by omega)] at hv468_1
            replace hv468_1 := Option.some.inj (hv468_1.symm.trans hx468_1)
            injection hv468_1 with hva_ hvn_ hvc_
            rw [hva_] at ge468_1
            rw [hvc_] at ul468_1
            have HL468_1 := aM (show Kd.V (Kd.int .i64) 3 _ w.heap.size _ _ ((rd_T50 t462 (rd l1 x29_2)).f1) from Kd.V_mk ul468_1 ge468_1)
            clear hva_ hvn_ hvc_ ge468_1 ul468_1
            clear hcc468 hce468
            have HR468_1 := aM hi468_1
            have HC468_1 := aM hl468_1
            clear hi468_1 hl468_1
            replace p468 := eq_true p468
            replace q468 := eq_true q468
            refine start_ (n := 11) (S := fun w' => w'.cell? ⟨gb466, 0, none⟩ = some (.slice Ao24 t459.length co24) ∧ w'.cell? ⟨gb466, 1, none⟩ = some (u467001) ∧ w'.cell? ⟨gb465, 0, none⟩ = some (.slice Ao24 t459.length co24) ∧ w'.cell? ⟨gb465, 1, none⟩ = some (.slice (some ad468) t462.length co28) ∧ w'.cell? (ad468.add (((rd l1 x29_2)).toNat * 2)) = some (.int .i64 ((rd_T50 t462 (rd l1 x29_2)).f0)) ∧ w'.cell? ⟨(ad468.add (((rd l1 x29_2)).toNat * 2)).block, (ad468.add (((rd l1 x29_2)).toNat * 2)).off + 1, none⟩ = some (.slice A468_1 ((rd_T50 t462 (rd l1 x29_2)).f1).length c468_1)) (ds := [8, 10]) #[false, false, false, false, false, false, false, false, false, false, false] (by kernel_rfl) rfl rfl ⟨(blk_cell BK466.out 0).trans rfl, (blk_cell BK466.out 1).trans rfl, (blk_cell BK465.out 0).trans rfl, (blk_cell BK465.out 1).trans rfl, hx468_0, hx468_1⟩ (fun hHeld => ?_); refine with_tabW impl_SelectFacts.tab8 impl_SelectFacts.bits8 (fun HT_ HW_ => ?_)
            generalize wr.drew = w40 at HO_466000 HO_466001 HO_467000 HO_467001 BK455 BK456 BK465 BK466 HB HL468_1 HR468_1 hx468_0 hx468_1 hHeld ⊢
            refine pure_ (i := 0) (N := some 33) (v := ?_) (a' := ?_) #[true, false, false, false, false, false, false, false, false, false, false] rfl rfl (any_of HT_.out (by kernel_rfl)) (fun _ _ _ h => h) (Or.inl ⟨by rfl, ?_⟩) ?_ ?_
            rotate_left
            ·exact aI
            rotate_left
            ·exact aP
            refine pure_ (i := 2) (N := some 35) (v := ?_) (a' := ?_) #[true, false, true, false, false, false, false, false, false, false, false] rfl rfl (any_of HT_.out (by kernel_rfl)) (fun _ _ _ h => h) (Or.inl ⟨by rfl, ?_⟩) ?_ ?_
            rotate_left
            ·exact aI
            rotate_left
            ·exact aP
            refine pure_ (i := 4) (N := some 37) (v := ?_) (a' := ?_) #[true, false, true, false, true, false, false, false, false, false, false] rfl rfl (any_of HT_.out (by kernel_rfl)) (fun _ _ _ h => h) (Or.inl ⟨by rfl, ?_⟩) ?_ ?_
            rotate_left
            ·exact aI
            rotate_left
            ·exact aP
            refine take_ (i := 1) (N := some 34) (v := ?_) (a' := ?_) #[true, true, true, false, true, false, false, false, false, false, false] rfl rfl (take_ofW HT_.out HW_.out (by kernel_rfl)) (fun _ _ _ h => h) (Or.inl ⟨by rfl, ?_⟩) hHeld ?_ ?_
            rotate_left
            ·rintro w' ⟨s0, s1, s2, s3, s4, s5⟩
             go_simp
             with_reducible rfl
            rotate_left
            ·exact aP
            refine take_ (i := 3) (N := some 36) (v := ?_) (a' := ?_) #[true, true, true, true, true, false, false, false, false, false, false] rfl rfl (take_ofW HT_.out HW_.out (by kernel_rfl)) (fun _ _ _ h => h) (Or.inl ⟨by rfl, ?_⟩) hHeld ?_ ?_
            rotate_left
            ·rintro w' ⟨s0, s1, s2, s3, s4, s5⟩
             go_simp
             with_reducible rfl
            rotate_left
            ·exact aP
            refine pure_ (i := 5) (N := some 38) (v := ?_) (a' := ?_) #[true, true, true, true, true, true, false, false, false, false, false] rfl rfl (any_of HT_.out (by kernel_rfl)) (fun _ _ _ h => h) (Or.inl ⟨by rfl, ?_⟩) ?_ ?_
            rotate_left
            ·exact aI
            rotate_left
            ·exact aP
            refine take_ (i := 6) (N := some 39) (v := ?_) (a' := ?_) #[true, true, true, true, true, true, true, false, false, false, false] rfl rfl (take_ofW HT_.out HW_.out (by kernel_rfl)) (fun _ _ _ h => h) (Or.inl ⟨by rfl, ?_⟩) hHeld ?_ ?_
            rotate_left
            ·rintro w' ⟨s0, s1, s2, s3, s4, s5⟩
             go_simp
             with_reducible rfl
            rotate_left
            ·exact aP
            refine one_ (i := 7) (N := some 40) #[true, true, true, true, true, true, true, true, false, false, false] rfl rfl (one_of HT_.out (by kernel_rfl)) (by decide) (fun K hK => ?_)
            refine value_ (w1 := ?_) (v := ?_) (by rfl) rfl ?_ ?_
            rotate_left 2
            ·go_simp
             constructor
             ·rfl
             ·rfl
            refine hK.out _ _ ⟨(blk_cell (blk_alloc BK466.out _) 0).trans rfl, (blk_cell (blk_alloc BK466.out _) 1).trans rfl, (blk_cell (blk_alloc BK465.out _) 0).trans rfl, (blk_cell (blk_alloc BK465.out _) 1).trans rfl, (World.cell?_alloc_lt _ _ _ (World.block_lt_of_cell? _ _ (hHeld.2.2.2.2.1))).trans (hHeld.2.2.2.2.1), (World.cell?_alloc_lt _ _ _ (World.block_lt_of_cell? _ _ (hHeld.2.2.2.2.2))).trans (hHeld.2.2.2.2.2)⟩ (fun hHeld => ?_)
            clear hK K
            refine norm_ (a' := ?_) ?_ ?_
            rotate_left
            ·show Act.put _ (some 40) _ = _
             simp only [Act.put, List.setIfInBounds_toArray, List.set_cons_zero, List.set_cons_succ, i64_w, i32_w]
             rfl
            refine last_ (i := 8) (N := some 41) #[true, true, true, true, true, true, true, true, true, false, false] rfl rfl (one_of HT_.out (by kernel_rfl)) (by decide) (fun K hK => ?_)
            refine Kd.N_append_step k50 (w0 := w) w.heap.size (by rfl) (.tmp 34) (.tmp 40) 30 50 (.agg #[(.int .i64 0), (.slice none 0 0)]) 32 rfl Try.underlying30 info50 rfl (by decide) (by omega) u467001 x467001_2 (⟨(rd_T50 t462 (rd l1 x29_2)).f0, (rd_T50 t462 (rd l1 x29_2)).f1⟩ : S50) [.int .i64 ((rd_T50 t462 (rd l1 x29_2)).f0), .slice A468_1 ((rd_T50 t462 (rd l1 x29_2)).f1).length c468_1] (fun k_ => (w.heap.size ≤ k_) ∧ some k_ ≠ (.slice Ao24 t459.length co24 : Value).ownBlock ∧ some k_ ≠ (.slice (some ad468) t462.length co28 : Value).ownBlock ∧ some k_ ≠ (.slice Ao24 t459.length co24 : Value).ownBlock ∧ k_ ≠ gb455 ∧ k_ ≠ gb456 ∧ k_ ≠ gb465 ∧ k_ ≠ gb466) (fun k_ => ((fun k_ => (w.heap.size ≤ k_) ∧ some k_ ≠ (.slice Ao24 t459.length co24 : Value).ownBlock ∧ some k_ ≠ (.slice (some ad468) t462.length co28 : Value).ownBlock ∧ some k_ ≠ (.slice Ao24 t459.length co24 : Value).ownBlock ∧ k_ ≠ gb455 ∧ k_ ≠ gb456 ∧ k_ ≠ gb465 ∧ k_ ≠ gb466)) k_ ∧ some k_ ≠ (u467001 : Value).ownBlock) rfl rfl ?aP (fun _ hk => hk) ?aF ?aO ?aB ?aS ?aL ?_
            (case aP => exact (k50_mkF _ _ (⟨(rd_T50 t462 (rd l1 x29_2)).f0, (rd_T50 t462 (rd l1 x29_2)).f1⟩ : S50) (Kd.V_reads' (Kd.V_mono (ok' := (fun k_ => ((fun k_ => (w.heap.size ≤ k_) ∧ some k_ ≠ (.slice Ao24 t459.length co24 : Value).ownBlock ∧ some k_ ≠ (.slice (some ad468) t462.length co28 : Value).ownBlock ∧ some k_ ≠ (.slice Ao24 t459.length co24 : Value).ownBlock ∧ k_ ≠ gb455 ∧ k_ ≠ gb456 ∧ k_ ≠ gb465 ∧ k_ ≠ gb466)) k_ ∧ some k_ ≠ (u467001 : Value).ownBlock)) (HL468_1.out) (fun k_ hk => ⟨⟨hk.1.1, ⟨hk.1.2.1, ⟨hk.2, ⟨hk.1.2.2.1, ⟨hk.1.2.2.2.2.1, ⟨hk.1.2.2.2.2.2.1, ⟨hk.1.2.2.2.2.2.2.1, hk.1.2.2.2.2.2.2.2⟩⟩⟩⟩⟩⟩⟩, hk.1.2.2.2.1⟩))).2.1 (Kd.V_F (Kd.V_mono (ok' := (fun k_ => ((fun k_ => (w.heap.size ≤ k_) ∧ some k_ ≠ (.slice Ao24 t459.length co24 : Value).ownBlock ∧ some k_ ≠ (.slice (some ad468) t462.length co28 : Value).ownBlock ∧ some k_ ≠ (.slice Ao24 t459.length co24 : Value).ownBlock ∧ k_ ≠ gb455 ∧ k_ ≠ gb456 ∧ k_ ≠ gb465 ∧ k_ ≠ gb466)) k_ ∧ some k_ ≠ (u467001 : Value).ownBlock)) (HL468_1.out) (fun k_ hk => ⟨⟨hk.1.1, ⟨hk.1.2.1, ⟨hk.2, ⟨hk.1.2.2.1, ⟨hk.1.2.2.2.2.1, ⟨hk.1.2.2.2.2.2.1, ⟨hk.1.2.2.2.2.2.2.1, hk.1.2.2.2.2.2.2.2⟩⟩⟩⟩⟩⟩⟩, hk.1.2.2.2.1⟩)))))
            (case aB => exact aG)
            (case aF => exact (fun k_ hk => ⟨(Nat.le_trans (below_size aG) hk), Kd.fresh' (Kd.R_lt (aR HO_466000)) k_ hk, Kd.fresh' (Kd.N_lt (by (with_reducible repeat (first | apply Kd.N_alloc | apply Kd.N_drewN | apply Kd.N_drew)); exact HO_466001.out)) k_ hk, Kd.fresh' (Kd.R_lt (aR HO_467000)) k_ hk, Kd.freshB (g := gb455) (o := .cells #[.slice A0_0 l0_0.length c0_0, .slice A0_1 l0_1.length c0_1] 32 (0, 0)) aK k_ hk, Kd.freshB (g := gb456) (o := .cells #[.slice none 0 0, .slice none 0 0] 32 (0, 0)) aK k_ hk, Kd.freshB (g := gb465) (o := .cells #[.slice Ao24 t459.length co24, .slice (some ad468) t462.length co28] 32 (0, 0)) aK k_ hk, Kd.freshB (g := gb466) (o := .cells #[.slice Ao24 t459.length co24, u467001] 32 (0, 0)) aK k_ hk⟩))
            (case aO => exact (by (with_reducible repeat (first | apply Kd.N_alloc | apply Kd.N_drewN | apply Kd.N_drew)); exact HO_467001.out))
            (case aS => exact (below_size aG))
            (case aL => have := LMc39.out; omega)
            intro v470 w41 ho hb hg hat
            rw [← Ny469.out] at ho
            have n0_ := aM (Kd.R_over' (aR HO_466000) (Kd.N_typed (by (with_reducible repeat (first | apply Kd.N_alloc | apply Kd.N_drewN | apply Kd.N_drew)); exact HO_467001.out)) (by decide) hg)
            have n1_ := aM (Kd.N_afterv (ok := (fun k_ => (w.heap.size ≤ k_) ∧ some k_ ≠ (.slice Ao24 t459.length co24 : Value).ownBlock ∧ some k_ ≠ (.slice Ao24 t459.length co24 : Value).ownBlock ∧ k_ ≠ gb455 ∧ k_ ≠ gb456 ∧ k_ ≠ gb465 ∧ k_ ≠ gb466)) (by (with_reducible repeat (first | apply Kd.N_alloc | apply Kd.N_drewN | apply Kd.N_drew)); exact Kd.N_mono HO_466001.out (fun _ hk => ⟨⟨hk.1, ⟨hk.2.1, ⟨hk.2.2.1, ⟨hk.2.2.2.2.1, ⟨hk.2.2.2.2.2.1, ⟨hk.2.2.2.2.2.2.1, hk.2.2.2.2.2.2.2⟩⟩⟩⟩⟩⟩, hk.2.2.2.1⟩)) hg hat)
            have n2_ := aM (Kd.R_over' (aR HO_467000) (Kd.N_typed (by (with_reducible repeat (first | apply Kd.N_alloc | apply Kd.N_drewN | apply Kd.N_drew)); exact HO_467001.out)) (by decide) hg)
            have n3_ := aM (blk_grown (g := gb455) (o := .cells #[.slice A0_0 l0_0.length c0_0, .slice A0_1 l0_1.length c0_1] 32 (0, 0)) aK hg (Kd.N_ne HO_467001.out BK455.out (by decide)))
            have n4_ := aM (blk_grown (g := gb456) (o := .cells #[.slice none 0 0, .slice none 0 0] 32 (0, 0)) aK hg (Kd.N_ne HO_467001.out BK456.out (by decide)))
            have n5_ := aM (blk_grown (g := gb465) (o := .cells #[.slice Ao24 t459.length co24, .slice (some ad468) t462.length co28] 32 (0, 0)) aK hg (Kd.N_ne HO_467001.out BK465.out (by decide)))
            have n6_ := aM (blk_grown (g := gb466) (o := .cells #[.slice Ao24 t459.length co24, u467001] 32 (0, 0)) aK hg (Kd.N_ne HO_467001.out BK466.out (by decide)))
            have n7_ := aM (Kd.V_afterv (ok := (fun k_ => (w.heap.size ≤ k_) ∧ some k_ ≠ (.slice Ao24 t459.length co24 : Value).ownBlock ∧ some k_ ≠ (.slice (some ad468) t462.length co28 : Value).ownBlock ∧ some k_ ≠ (.slice Ao24 t459.length co24 : Value).ownBlock ∧ k_ ≠ gb455 ∧ k_ ≠ gb456 ∧ k_ ≠ gb465 ∧ k_ ≠ gb466)) (by (with_reducible repeat (first | apply Kd.V_alloc | apply Kd.V_drewN | apply Kd.V_drew)); exact Kd.V_mono HL468_1.out (fun _ hk => ⟨⟨hk.1.1, ⟨hk.1.2.1, ⟨hk.2, ⟨hk.1.2.2.1, ⟨hk.1.2.2.2.2.1, ⟨hk.1.2.2.2.2.2.1, ⟨hk.1.2.2.2.2.2.2.1, hk.1.2.2.2.2.2.2.2⟩⟩⟩⟩⟩⟩⟩, hk.1.2.2.2.1⟩)) hg hat)
            have n8_ := aM (hb)
            have n9_ := aM (ho)
            clear HO_466000
            clear HO_466001
            clear HO_467000
            clear BK455
            clear BK456
            clear BK465
            clear BK466
            clear HL468_1
            clear HB
            clear HO_467001
            have HO_466000 := n0_
            have HO_466001 := n1_
            have HO_467000 := n2_
            have BK455 := n3_
            have BK456 := n4_
            have BK465 := n5_
            have BK466 := n6_
            have HL468_1 := n7_
            have HB := n8_
            have HO471 := n9_
            clear n0_ n1_ n2_ n3_ n4_ n5_ n6_ n7_ n8_ n9_
            clear ho hb hg hat
            obtain ⟨Ao42, co42, eo42⟩ := Kd.N_slice HO471.out
            (first | subst eo42 | (injection eo42 with f1_ f2_ f3_; have f4_ := f1_.symm; have f5_ := f3_.symm; clear f1_ f2_ f3_; subst f4_; subst f5_))
            refine hK.out _ _ ?_
            clear hK K
            refine norm_ (a' := ?_) ?_ ?_
            rotate_left
            ·show Act.put _ (some 41) _ = _
             simp only [Act.put, List.setIfInBounds_toArray, List.set_cons_zero, List.set_cons_succ, i64_w, i32_w]
             rfl
            refine pure_ (i := 9) (N := some 42) (v := ?_) (a' := ?_) #[true, true, true, true, true, true, true, true, true, true, false] rfl rfl (any_of HT_.out (by kernel_rfl)) (fun _ _ _ h => h) (Or.inl ⟨by rfl, ?_⟩) ?_ ?_
            rotate_left
            ·exact aI
            rotate_left
            ·exact aP
            refine last_ (i := 10) (N := none) #[true, true, true, true, true, true, true, true, true, true, true] rfl rfl (one_of HT_.out (by kernel_rfl)) (by decide) (fun K hK => ?_)
            have hs43 : w41.cell? ⟨gb466, 1, none⟩ = some (u467001) := (blk_cell BK466.out 1).trans rfl
            have hfs43 := blk_frozen BK466.out 1
            have hns43_0 := NB455_466.out
            have hns43_1 := NB456_466.out
            have hns43_2 := NB465_466.out
            have hms43_0 := NB466_455.out
            have hms43_1 := NB466_456.out
            have hms43_2 := NB466_465.out
            refine skip_ (w1 := ?_) (by rfl) rfl ?_ ?_
            rotate_left
            ·go_simp
             rfl
            refine hK.out _ _ ?_
            clear hK K
            refine done_ (done_of HT_.out (by kernel_rfl)) ?_
            try go_wp2
            go_roundg k2
            case measure => have := HJ2.out; have := HK2.out; omega
            case rel => exact ⟨(wrap64 (x29_2 + 1)), (y469), (.slice Ao42 y469.length co42), (by first | rfl | (simp; done) | (simp [*]; done)), H', ⟨by have := HJ2.out; have := HK2.out; omega⟩, ⟨by (with_reducible repeat (first | apply Kd.R_alloc | apply Kd.R_drewN | apply Kd.R_drew)); exact Kd.R_mono (Kd.R_far (p := ⟨gb466, 1, none⟩) (Kd.R_types HO_466000.out BK466.out (by decide)) (fun _ hk => hk.2) (.slice Ao42 y469.length co42)) (fun _ hk => hk.1)⟩, ⟨by (with_reducible repeat (first | apply Kd.N_alloc | apply Kd.N_drewN | apply Kd.N_drew)); exact Kd.N_mono (Kd.N_far (p := ⟨gb466, 1, none⟩) (Kd.N_mono HO_466001.out (fun k_ hk => (⟨hk, hk.1.2.2.2.2.2.2⟩ : _ ∧ k_ ≠ gb466))) (fun _ hk => hk.2) (.slice Ao42 y469.length co42)) (fun _ hk => ⟨hk.1.1.1, ⟨hk.1.1.2.1, ⟨hk.1.1.2.2.1, ⟨hk.1.2, ⟨hk.1.1.2.2.2.1, ⟨hk.1.1.2.2.2.2.1, ⟨hk.1.1.2.2.2.2.2.1, hk.1.1.2.2.2.2.2.2⟩⟩⟩⟩⟩⟩⟩)⟩, ⟨by (with_reducible repeat (first | apply Kd.R_alloc | apply Kd.R_drewN | apply Kd.R_drew)); exact Kd.R_mono (Kd.R_far (p := ⟨gb466, 1, none⟩) (Kd.R_types HO_467000.out BK466.out (by decide)) (fun _ hk => hk.2) (.slice Ao42 y469.length co42)) (fun _ hk => hk.1)⟩, ⟨by (with_reducible repeat (first | apply Kd.N_alloc | apply Kd.N_drewN | apply Kd.N_drew)); exact Kd.N_mono (Kd.N_far (p := ⟨gb466, 1, none⟩) (Kd.N_mono HO471.out (fun k_ hk => (⟨hk, hk.2.2.2.2.2.2.2⟩ : _ ∧ k_ ≠ gb466))) (fun _ hk => hk.2) (.slice Ao42 y469.length co42)) (fun _ hk => ⟨hk.1.1, ⟨hk.1.2.1, ⟨hk.1.2.2.1, ⟨hk.1.2.2.2.1, ⟨hk.1.2.2.2.2.1, ⟨hk.1.2.2.2.2.2.1, ⟨hk.1.2.2.2.2.2.2.1, hk.1.2.2.2.2.2.2.2⟩⟩⟩⟩⟩⟩⟩)⟩, ⟨by (with_reducible repeat (first | refine blk_drewN ?_ _ | refine blk_drew ?_ | refine blk_alloc ?_ _)); refine blk_far ?_ NB455_466.out _; (with_reducible repeat (first | refine blk_drewN ?_ _ | refine blk_drew ?_ | refine blk_alloc ?_ _)); exact BK455.out⟩, ⟨by (with_reducible repeat (first | refine blk_drewN ?_ _ | refine blk_drew ?_ | refine blk_alloc ?_ _)); refine blk_far ?_ NB456_466.out _; (with_reducible repeat (first | refine blk_drewN ?_ _ | refine blk_drew ?_ | refine blk_alloc ?_ _)); exact BK456.out⟩, ⟨by (with_reducible repeat (first | refine blk_drewN ?_ _ | refine blk_drew ?_ | refine blk_alloc ?_ _)); refine blk_far ?_ NB465_466.out _; (with_reducible repeat (first | refine blk_drewN ?_ _ | refine blk_drew ?_ | refine blk_alloc ?_ _)); exact BK465.out⟩, ⟨by (with_reducible repeat (first | refine blk_drewN ?_ _ | refine blk_drew ?_ | refine blk_alloc ?_ _)); refine blk_put (cs := #[.slice Ao24 t459.length co24, u467001]) ?_ 1 _ rfl; (with_reducible repeat (first | refine blk_drewN ?_ _ | refine blk_drew ?_ | refine blk_alloc ?_ _)); exact BK466.out⟩, ⟨by repeat (first | (with_reducible first | exact HB.out | apply below_alloc | apply pw_below_drewN | apply below_drew1 | refine below_set ?_ GE455.out | refine below_set ?_ GE456.out | refine below_set ?_ GE465.out | refine below_set ?_ GE466.out) | exact HB.out)⟩⟩
           ·rw [if_neg c39] at H
            exact absurd H (by simp)
          ·rw [if_neg c38] at H
           exact absurd H (by simp)
         ·rw [if_neg c37] at H
          exact absurd H (by simp)
        ·rw [if_neg c36] at H
         exact absurd H (by simp)
       ·rw [if_neg c35] at H
        exact absurd H (by simp)
      ·rw [if_neg c34] at H
       have c34b0 : decide (x29_2 < (l1.length : Int)) = false := decide_eq_false c34
       clear c34
       simp only [Option.some.injEq, Prod.mk.injEq] at H
       obtain ⟨rfl, rfl, rfl⟩ := H
       have hnb44 := NB466_455.out
       have hnc44 := NB455_466.out
       have hnb45 := NB466_456.out
       have hnc45 := NB456_466.out
       have hnb46 := NB466_465.out
       have hnc46 := NB465_466.out
       have hcz47_0 : wr.cell? ⟨gb466, 0, none⟩ = some (.slice Ao24 t459.length co24) := (blk_cell BK466.out 0).trans rfl
       have hcz47_1 : wr.cell? ⟨gb466, 1, none⟩ = some (u467001) := (blk_cell BK466.out 1).trans rfl
       have hfz47_0 := blk_frozen BK466.out 0
       have hfz47_1 := blk_frozen BK466.out 1
       have hnb48 := NB456_455.out
       have hnc48 := NB455_456.out
       have hnb49 := NB456_465.out
       have hnc49 := NB465_456.out
       have hcz50_0 : wr.cell? ⟨gb456, 0, none⟩ = some (.slice none 0 0) := (blk_cell BK456.out 0).trans rfl
       have hcz50_1 : wr.cell? ⟨gb456, 1, none⟩ = some (.slice none 0 0) := (blk_cell BK456.out 1).trans rfl
       have hfz50_0 := blk_frozen BK456.out 0
       have hfz50_1 := blk_frozen BK456.out 1
       obtain ⟨Ao51, co51, eo51⟩ := Kd.N_slice HO_467001.out
       subst eo51
       go_wp2
       refine bodyPost_ret (results_ct rfl _ _ gb456 32 #[.slice Ao24 t459.length co24, .slice Ao51 x467001_2.length co51] (0, 0) _ rfl (by (with_reducible repeat (first | refine blk_drewN ?_ _ | refine blk_drew ?_ | refine blk_alloc ?_ _)); refine blk_put (cs := #[.slice Ao24 t459.length co24, .slice none 0 0]) ?_ 1 _ rfl; (with_reducible repeat (first | refine blk_drewN ?_ _ | refine blk_drew ?_ | refine blk_alloc ?_ _)); refine blk_put (cs := #[.slice none 0 0, .slice none 0 0]) ?_ 0 _ rfl; (with_reducible repeat (first | refine blk_drewN ?_ _ | refine blk_drew ?_ | refine blk_alloc ?_ _)); exact BK456.out) Try.underlying32 rfl (by kernel_rfl)) rfl ?_
       exact ⟨_, _, by first | rfl | (simp [errW_none, errW_some] <;> rfl) | (simp [*, errW_none, errW_some] <;> rfl), by (with_reducible repeat (first | apply Kd.R_alloc | apply Kd.R_drewN | apply Kd.R_drew)); exact Kd.R_mono (Kd.R_far (p := ⟨gb456, 1, none⟩) (Kd.R_far (p := ⟨gb456, 0, none⟩) (Kd.R_types HO_467000.out BK456.out (by decide)) (fun _ hk => hk.2) (.slice Ao24 t459.length co24)) (fun _ hk => hk.2) (.slice Ao51 x467001_2.length co51)) (fun _ hk => hk.1), by (with_reducible repeat (first | apply Kd.N_alloc | apply Kd.N_drewN | apply Kd.N_drew)); exact Kd.N_mono (Kd.N_far (p := ⟨gb456, 1, none⟩) (Kd.N_far (p := ⟨gb456, 0, none⟩) (Kd.N_mono HO_467001.out (fun k_ hk => (⟨hk, hk.2.2.2.2.2.1⟩ : _ ∧ k_ ≠ gb456))) (fun _ hk => hk.2) (.slice Ao24 t459.length co24)) (fun _ hk => hk.2) (.slice Ao51 x467001_2.length co51)) (fun _ hk => ⟨hk.1.1, hk.1.2.2.2.1⟩), by repeat (first | (with_reducible first | exact HB.out | apply below_alloc | apply pw_below_drewN | apply below_drew1 | refine below_set ?_ GE455.out | refine below_set ?_ GE456.out | refine below_set ?_ GE465.out | refine below_set ?_ GE466.out) | exact HB.out)⟩

/-! ### slices_Equal_int_int: function 113 -/
def slices_Equal_int_int.l0 : Nat → List Int → List Int → Int → Int → Option (Bool)
 | 0, _, _, _, _ => none
 | k + 1, x0, x1, x12, x13 => if x13 < x12 then (if 0 ≤ x13 then (if x13 < (x0.length : Int) then (if x13 < (x1.length : Int) then (if (rd x0 x13) = (rd x1 x13) then (slices_Equal_int_int.l0 k x0 x1 x12 (wrap64 (x13 + 1))) else (some false)) else (none)) else (none)) else (none)) else (some true)
def slices_Equal_int_int.f (k : Nat) (l0 : List Int) (l1 : List Int) : Option (Bool) := if (l0.length : Int) = (l1.length : Int) then (slices_Equal_int_int.l0 k l0 l1 (l0.length : Int) 0) else (some false)
set_option maxHeartbeats 8000000 in
set_option maxRecDepth 100000 in
theorem slices_Equal_int_int.calls (k : Nat) (A0 : Option Addr) (c0 : Nat) (l0 : List Int) (A1 : Option Addr) (c1 : Nat) (l1 : List Int) (r : Bool) (w : World) (hr0 : Kd.C (Kd.int .i64) w A0 l0.length l0) (hc0 : l0.length ≤ c0) (hr1 : Kd.C (Kd.int .i64) w A1 l1.length l1) (hc1 : l1.length ≤ c1) (h : slices_Equal_int_int.f k l0 l1 = some r) :
  Calls Try.prog 113 #[.slice A0 l0.length c0, .slice A1 l1.length c1] w fun e w' => e = .returned (.bool r) ∧ Drawn0 w w' := by
 have rg_ := @bcl w
 have rd_ := @bdr w
 unfold slices_Equal_int_int.f at h
 replace h := iq h; rcases h with ⟨c0, ⟨c0a, c0b⟩, h⟩ | ⟨c0, ⟨c0a, c0b⟩, h⟩
 have cz := c0.out
 have c0x1 : (l0.length == l1.length) = true := by first | simpa using cz | (simp at cz ⊢; omega)
 clear cz
 ·go_enter Try.func113, Try.ntmps113
  go_wp2
  (repeat ((refine nw (w0 := w) zB ?_; intro W1 HB hb hd; (first | (refine Txt.rg (id := 6) [0, 1, 2, 3, 4, 5, 6, 7, 8] (by kernel_rfl) (by kernel_rfl) ?_; simp only [List.map_cons, List.map_nil, List.getD_cons_zero, List.getD_cons_succ])); (repeat (first | (refine Txt.off rfl ?_; simp only [Act.put, List.setIfInBounds_toArray, List.set_cons_zero, List.set_cons_succ]) | (refine Txt.take rfl rfl ?_; intro K hK; go_big_quiet_op; go_big_quiet_on))); refine Txt.nil ?_); (try go_wp2)))
  go_loopg [13] k (fun kq v13 w' => ∃ (x13_1 : Int), v13 = .int .i64 x13_1 ∧ slices_Equal_int_int.l0 kq l0 l1 (l0.length : Int) x13_1 = some r ∧ Drawn0 w w')
  case atStart => exact ⟨_, zR, zA, zD⟩
  case round =>
   clear h
   obtain ⟨x13_1, rfl, h, hb⟩ := hrel
   have hd := hb
   replace hb := hb.below
   replace hb := aM hb
   have HB : Below w.heap.size w wr := zB
   rcases gk with _ | kk1
   exact absurd h (by simp [slices_Equal_int_int.l0])
   simp only [slices_Equal_int_int.l0] at h
   replace h := il h; rcases h with ⟨c2, c2a, h⟩ | ⟨c2, c2a, h⟩
   replace h := ie h; rcases h with ⟨c3, c3a, h⟩ | ⟨c3, c3a, h⟩
   replace h := il h; rcases h with ⟨c4, c4a, h⟩ | ⟨c4, c4a, h⟩
   replace h := il h; rcases h with ⟨c5, c5a, h⟩ | ⟨c5, c5a, h⟩
   replace h := iq h; rcases h with ⟨c6, ⟨c6a, c6b⟩, h⟩ | ⟨c6, ⟨c6a, c6b⟩, h⟩
   obtain ⟨kf, hkf⟩ : ∃ kf, kf = kk1 := ⟨_, rfl⟩; rw [← hkf] at h
   obtain ⟨ad472, e472, hx472_0⟩ := Kd.at_int hr0 (x13_1 : Int) aD aD
   have p472 := eq_true (aD : 0 ≤ (x13_1 : Int))
   have q472 := eq_true (aD : x13_1 < (l0.length : Int))
   cases e472
   replace hx472_0 := qa hx472_0
   obtain ⟨ad473, e473, hx473_0⟩ := Kd.at_int hr1 (x13_1 : Int) aD aD
   have p473 := eq_true (aD : 0 ≤ (x13_1 : Int))
   have q473 := eq_true (aD : x13_1 < (l1.length : Int))
   cases e473
   replace hx473_0 := qa hx473_0
   rotate_left
   obtain rfl := si h
   obtain ⟨ad472, e472, hx472_0⟩ := Kd.at_int hr0 (x13_1 : Int) aD aD
   have p472 := eq_true (aD : 0 ≤ (x13_1 : Int))
   have q472 := eq_true (aD : x13_1 < (l0.length : Int))
   cases e472
   replace hx472_0 := qa hx472_0
   obtain ⟨ad473, e473, hx473_0⟩ := Kd.at_int hr1 (x13_1 : Int) aD aD
   have p473 := eq_true (aD : 0 ≤ (x13_1 : Int))
   have q473 := eq_true (aD : x13_1 < (l1.length : Int))
   cases e473
   replace hx473_0 := qa hx473_0
   rotate_left
   exact absurd h (by simp)
   exact absurd h (by simp)
   exact absurd h (by simp)
   obtain rfl := si h
   rotate_left
   all_goals (go_wp2; (repeat ((refine nw (w0 := w) zB ?_; intro W1 HB hb hd; (first | (refine Txt.rg (id := 6) [0, 1, 2, 3, 4, 5, 6, 7, 8] (by kernel_rfl) (by kernel_rfl) ?_; simp only [List.map_cons, List.map_nil, List.getD_cons_zero, List.getD_cons_succ])); (repeat (first | (refine Txt.off rfl ?_; simp only [Act.put, List.setIfInBounds_toArray, List.set_cons_zero, List.set_cons_succ]) | (refine Txt.take rfl rfl ?_; intro K hK; go_big_quiet_op; go_big_quiet_on))); refine Txt.nil ?_); (try go_wp2))); first | (go_ret; exact zE zD) | (go_roundg kf; (case measure => omega); (case rel => exact ⟨_, zR, zA, zD⟩)))
 have cz := c0.out
 have c0x1 : (l0.length == l1.length) = false := by first | simpa using cz | (simp at cz ⊢; omega)
 clear cz
 obtain rfl := si h
 rotate_left
 all_goals (go_enter Try.func113, Try.ntmps113; go_wp2; (repeat ((refine nw (w0 := w) zB ?_; intro W1 HB hb hd; (first | (refine Txt.rg (id := 6) [0, 1, 2, 3, 4, 5, 6, 7, 8] (by kernel_rfl) (by kernel_rfl) ?_; simp only [List.map_cons, List.map_nil, List.getD_cons_zero, List.getD_cons_succ])); (repeat (first | (refine Txt.off rfl ?_; simp only [Act.put, List.setIfInBounds_toArray, List.set_cons_zero, List.set_cons_succ]) | (refine Txt.take rfl rfl ?_; intro K hK; go_big_quiet_op; go_big_quiet_on))); refine Txt.nil ?_); (try go_wp2))); go_ret; exact zE zD)

end Go.Proofs.Ytehlhbidmanbmaa.PFnExactNextRepair
