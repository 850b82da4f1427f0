-- Laid by a program of this claim: what the functions come to, some of them proved by hand.
import Derived.Test.YtddeflhambegiaaPAllx0
import Derived.Test.YtddeflhambegiaaPAllx3
import Derived.Test.YtddeflhambegiaaPAllx6
import Derived.Test.YtddeflhambegiaaPAllx9
import Derived.Test.YtddeflhambegiaaPAllx21
namespace Go.Proofs.Ytddeflhambegiaa.PAll
open Go.RowKit Go.Proofs.YtddeflhambegiaaW.PrintWords Go.Proofs.YtddeflhambegiaaW.PrintLast Go.Proofs.YtddeflhambegiaaW.PrintMore
attribute [local go_sem] max2_int min2_int max_two min_two max_three min_three max_four min_four   -- for this text's walks alone
set_option linter.unusedVariables false
set_option linter.unusedSimpArgs false

/-! ### laws_toDatabase: function 42 -/
def laws_toDatabase.f (k : Nat) (l0_0 : List (S78)) (l0_1 : List (S24)) : Option ((List (S81)) × (List (S27))) := (laws_toRelationS.f k l0_0).bind fun t479 => ((laws_toFactS.f k l0_1).bind fun t482 => (some (t479, t482)))
theorem laws_toDatabase.mono : ∀ a0 a1 k, LeO (laws_toDatabase.f k a0 a1) (laws_toDatabase.f (k + 1) a0 a1) := by
  intro a0 a1 k
  unfold laws_toDatabase.f
  repeat' first
      | (with_reducible exact laws_toFactS.mono _ _)
      | (with_reducible exact laws_toRelationS.mono _ _)
      | (with_reducible exact LeO.refl _)
      | (with_reducible exact LeO.none _)
      | (with_reducible refine LeO.ite ?_ ?_)
      | (with_reducible refine LeO.bind ?_ (fun _ => ?_))
      | exact laws_toFactS.mono _ _
      | exact laws_toRelationS.mono _ _
      | exact LeO.none _
      | refine LeO.ite ?_ ?_
      | refine LeO.bind ?_ (fun _ => ?_)
set_option maxHeartbeats 8000000 in
set_option maxRecDepth 100000 in
theorem laws_toDatabase.calls (k : Nat) (A0_0 : Option Addr) (c0_0 : Nat) (l0_0 : List (S78)) (A0_1 : Option Addr) (c0_1 : Nat) (l0_1 : List (S24)) (r1 : List (S81)) (r2 : List (S27)) (w : World) (hr0_0 : Kd.C k78 w A0_0 l0_0.length l0_0) (hc0_0 : l0_0.length ≤ c0_0) (hr0_1 : Kd.C k24 w A0_1 l0_1.length l0_1) (hc0_1 : l0_1.length ≤ c0_1) (h : laws_toDatabase.f k l0_0 l0_1 = some (r1, r2)) :
    Calls Try.prog 42 #[.agg #[.slice A0_0 l0_0.length c0_0, .slice A0_1 l0_1.length c0_1]] w fun e w' => ∃ v0_ v1_ : Value, e = .returned (.agg #[v0_, v1_]) ∧ Kd.R k81 81 w' w.heap.size (fun _ => True) v0_ r1 ∧ Kd.S k27 27 w' w.heap.size (fun _ => True) v1_ r2 ∧ Below w.heap.size w w' := by
  have hu55 := Try.underlying55
  have hu60 := Try.underlying60
  have HR0_0 := Aside0.mk hr0_0
  have HC0_0 := Aside0.mk hc0_0
  clear hr0_0 hc0_0
  have HR0_1 := Aside0.mk hr0_1
  have HC0_1 := Aside0.mk hc0_1
  clear hr0_1 hc0_1
  have HB := Aside0.mk (Below.refl w.heap.size w)
  have H : ((laws_toRelationS.f k l0_0).bind fun t479 => ((laws_toFactS.f k l0_1).bind fun t482 => (some (t479, t482)))) = some (r1, r2) := h
  clear h
  replace H := Option.bind_eq_some_iff.mp H
  obtain ⟨t479, A20, H⟩ := H
  replace H : ((laws_toFactS.f k l0_1).bind fun t482 => (some (t479, t482))) = some (r1, r2) := H
  have A2 := Aside0.mk A20
  clear A20
  replace H := Option.bind_eq_some_iff.mp H
  obtain ⟨t482, A30, H⟩ := H
  replace H : (some (t479, t482)) = some (r1, r2) := H
  have A3 := Aside0.mk A30
  clear A30
  simp only [Option.some.injEq, Prod.mk.injEq] at H
  obtain ⟨rfl, rfl⟩ := H
  go_enter Try.func42, Try.ntmps42
  go_wp2_with (first | ((with_reducible refine gate_dst (N := 1) rfl ?_); refine box_event ?hg (N := 1) ?hd (cs := #[.slice A0_0 l0_0.length c0_0, .slice A0_1 l0_1.length c0_1]) (t := 55) ?hr ?_; (case hd => rfl); (case hg => rfl); (case hr => first | (go_simp; done) | (go_simp; rfl)); intro gb476 hg w4 hbox hb; have n0_ := Aside0.mk (below_step (by repeat (first | (with_reducible first | exact HB.out | apply below_alloc | apply pw_below_drewN | apply below_drew1) | exact HB.out)) hb); have n1_ := Aside0.mk (hbox); have n2_ := Aside0.mk ((by rw [hg]; exact (below_size (by repeat (first | (with_reducible first | exact HB.out | apply below_alloc | apply pw_below_drewN | apply below_drew1) | exact HB.out))) : w.heap.size ≤ gb476)); have n3_ := Aside0.mk ((by rw [hg]; exact (below_size (by repeat (first | (with_reducible first | exact HB.out | apply below_alloc | apply pw_below_drewN | apply below_drew1) | exact HB.out))) : w.heap.size ≤ gb476)); clear HB; have HB := n0_; have BK476 := n1_; have GW476 := n2_; have GE476 := n3_; clear n0_ n1_ n2_ n3_; clear hb hbox hg) | ((with_reducible refine gate_dst (N := 2) rfl ?_); refine box_event ?hg (N := 2) ?hd (cs := #[.slice none 0 0, .slice none 0 0]) (t := 60) ?hr ?_; (case hd => rfl); (case hg => rfl); (case hr => first | (go_simp; done) | (go_simp; rfl)); intro gb477 hg w5 hbox hb; have n0_ := Aside0.mk (blk_below (g := gb476) (o := .cells #[.slice A0_0 l0_0.length c0_0, .slice A0_1 l0_1.length c0_1] 55 (0, 0)) (by (with_reducible repeat (first | refine blk_drewN ?_ _ | refine blk_drew ?_ | refine blk_alloc ?_ _)); exact BK476.out) hb); have n1_ := Aside0.mk (below_step (by repeat (first | (with_reducible first | exact HB.out | apply below_alloc | apply pw_below_drewN | apply below_drew1 | refine below_set ?_ GE476.out) | exact HB.out)) hb); have n2_ := Aside0.mk (hbox); have n3_ := Aside0.mk ((by rw [hg]; exact (below_size (by repeat (first | (with_reducible first | exact HB.out | apply below_alloc | apply pw_below_drewN | apply below_drew1 | refine below_set ?_ GE476.out) | exact HB.out))) : w.heap.size ≤ gb477)); have n4_ := Aside0.mk ((by rw [hg]; exact (below_size (by repeat (first | (with_reducible first | exact HB.out | apply below_alloc | apply pw_below_drewN | apply below_drew1 | refine below_set ?_ GE476.out) | exact HB.out))) : w.heap.size ≤ gb477)); have n5_ := Aside0.mk ((by rw [hg]; exact Nat.ne_of_lt (blk_lt (g := gb476) (o := .cells #[.slice A0_0 l0_0.length c0_0, .slice A0_1 l0_1.length c0_1] 55 (0, 0)) (by (with_reducible repeat (first | refine blk_drewN ?_ _ | refine blk_drew ?_ | refine blk_alloc ?_ _)); exact BK476.out)) : gb476 ≠ gb477)); have n6_ := Aside0.mk ((by rw [hg]; exact Nat.ne_of_gt (blk_lt (g := gb476) (o := .cells #[.slice A0_0 l0_0.length c0_0, .slice A0_1 l0_1.length c0_1] 55 (0, 0)) (by (with_reducible repeat (first | refine blk_drewN ?_ _ | refine blk_drew ?_ | refine blk_alloc ?_ _)); exact BK476.out)) : gb477 ≠ gb476)); clear BK476; clear HB; have BK476 := n0_; have HB := n1_; have BK477 := n2_; have GW477 := n3_; have GE477 := n4_; have NB476_477 := n5_; have NB477_476 := n6_; clear n0_ n1_ n2_ n3_ n4_ n5_ n6_; clear hb hbox hg) | ((with_reducible refine gate_dst (N := 3) rfl ?_); refine box_event ?hg (N := 3) ?hd (cs := #[.slice none 0 0, .slice none 0 0]) (t := 60) ?hr ?_; (case hd => rfl); (case hg => rfl); (case hr => first | (go_simp; done) | (go_simp; rfl)); intro gb478 hg w6 hbox hb; have n0_ := Aside0.mk (blk_below (g := gb476) (o := .cells #[.slice A0_0 l0_0.length c0_0, .slice A0_1 l0_1.length c0_1] 55 (0, 0)) (by (with_reducible repeat (first | refine blk_drewN ?_ _ | refine blk_drew ?_ | refine blk_alloc ?_ _)); exact BK476.out) hb); have n1_ := Aside0.mk (blk_below (g := gb477) (o := .cells #[.slice none 0 0, .slice none 0 0] 60 (0, 0)) (by (with_reducible repeat (first | refine blk_drewN ?_ _ | refine blk_drew ?_ | refine blk_alloc ?_ _)); exact BK477.out) hb); have n2_ := Aside0.mk (below_step (by repeat (first | (with_reducible first | exact HB.out | apply below_alloc | apply pw_below_drewN | apply below_drew1 | refine below_set ?_ GE476.out | refine below_set ?_ GE477.out) | exact HB.out)) hb); have n3_ := Aside0.mk (hbox); have n4_ := Aside0.mk ((by rw [hg]; exact (below_size (by repeat (first | (with_reducible first | exact HB.out | apply below_alloc | apply pw_below_drewN | apply below_drew1 | refine below_set ?_ GE476.out | refine below_set ?_ GE477.out) | exact HB.out))) : w.heap.size ≤ gb478)); have n5_ := Aside0.mk ((by rw [hg]; exact (below_size (by repeat (first | (with_reducible first | exact HB.out | apply below_alloc | apply pw_below_drewN | apply below_drew1 | refine below_set ?_ GE476.out | refine below_set ?_ GE477.out) | exact HB.out))) : w.heap.size ≤ gb478)); have n6_ := Aside0.mk ((by rw [hg]; exact Nat.ne_of_lt (blk_lt (g := gb476) (o := .cells #[.slice A0_0 l0_0.length c0_0, .slice A0_1 l0_1.length c0_1] 55 (0, 0)) (by (with_reducible repeat (first | refine blk_drewN ?_ _ | refine blk_drew ?_ | refine blk_alloc ?_ _)); exact BK476.out)) : gb476 ≠ gb478)); have n7_ := Aside0.mk ((by rw [hg]; exact Nat.ne_of_gt (blk_lt (g := gb476) (o := .cells #[.slice A0_0 l0_0.length c0_0, .slice A0_1 l0_1.length c0_1] 55 (0, 0)) (by (with_reducible repeat (first | refine blk_drewN ?_ _ | refine blk_drew ?_ | refine blk_alloc ?_ _)); exact BK476.out)) : gb478 ≠ gb476)); have n8_ := Aside0.mk ((by rw [hg]; exact Nat.ne_of_lt (blk_lt (g := gb477) (o := .cells #[.slice none 0 0, .slice none 0 0] 60 (0, 0)) (by (with_reducible repeat (first | refine blk_drewN ?_ _ | refine blk_drew ?_ | refine blk_alloc ?_ _)); exact BK477.out)) : gb477 ≠ gb478)); have n9_ := Aside0.mk ((by rw [hg]; exact Nat.ne_of_gt (blk_lt (g := gb477) (o := .cells #[.slice none 0 0, .slice none 0 0] 60 (0, 0)) (by (with_reducible repeat (first | refine blk_drewN ?_ _ | refine blk_drew ?_ | refine blk_alloc ?_ _)); exact BK477.out)) : gb478 ≠ gb477)); clear BK476; clear BK477; clear HB; have BK476 := n0_; have BK477 := n1_; have HB := n2_; have BK478 := n3_; have GW478 := n4_; have GE478 := n5_; have NB476_478 := n6_; have NB478_476 := n7_; have NB477_478 := n8_; have NB478_477 := n9_; clear n0_ n1_ n2_ n3_ n4_ n5_ n6_ n7_ n8_ n9_; clear hb hbox hg; have hnb7 := NB476_477.out; have hnc7 := NB477_476.out; have hnb8 := NB476_478.out; have hnc8 := NB478_476.out; have hcz9_0 : w6.cell? ⟨gb476, 0, none⟩ = some (.slice A0_0 l0_0.length c0_0) := (blk_cell BK476.out 0).trans rfl; have hcz9_1 : w6.cell? ⟨gb476, 1, none⟩ = some (.slice A0_1 l0_1.length c0_1) := (blk_cell BK476.out 1).trans rfl; have hfz9_0 := blk_frozen BK476.out 0; have hfz9_1 := blk_frozen BK476.out 1) | ((with_reducible refine gate_callee (f := 22) rfl ?_); refine goesL_ (some 6) rfl rfl Try.func22 (by kernel_rfl) rfl #[.slice A0_0 l0_0.length c0_0] rfl (by (try simp only [List.map_toArray, List.map_cons, List.map_nil]); first | done | rfl | (simp only [List.length_drop, List.length_take]; rfl)) ?_; (with_reducible refine (laws_toRelationS.calls k _ _ l0_0 t479 _ ?side1 ?side2 A2.out).mono ?_); (case side1 => repeat (first | exact (Kd.C_below HR0_0.out HB.out) | (with_reducible refine Kd.C_alloc ?_ _) | (with_reducible refine Kd.C_drewN ?_ _) | (with_reducible refine Kd.C_drew ?_))); (case side2 => exact HC0_0.out); rintro e w10 ⟨v480, rfl, ho0, hb⟩; refine ⟨_, rfl, ?_⟩; have n0_ := Aside0.mk (Kd.R_lower ho0 (below_size (by repeat (first | (with_reducible first | exact HB.out | apply below_alloc | apply pw_below_drewN | apply below_drew1 | refine below_set ?_ GE476.out | refine below_set ?_ GE477.out | refine below_set ?_ GE478.out) | exact HB.out)))); have n1_ := Aside0.mk (blk_below (g := gb476) (o := .cells #[.slice A0_0 l0_0.length c0_0, .slice A0_1 l0_1.length c0_1] 55 (0, 0)) (by (with_reducible repeat (first | refine blk_drewN ?_ _ | refine blk_drew ?_ | refine blk_alloc ?_ _)); exact BK476.out) hb); have n2_ := Aside0.mk (blk_below (g := gb477) (o := .cells #[.slice none 0 0, .slice none 0 0] 60 (0, 0)) (by (with_reducible repeat (first | refine blk_drewN ?_ _ | refine blk_drew ?_ | refine blk_alloc ?_ _)); exact BK477.out) hb); have n3_ := Aside0.mk (blk_below (g := gb478) (o := .cells #[.slice none 0 0, .slice none 0 0] 60 (0, 0)) (by (with_reducible repeat (first | refine blk_drewN ?_ _ | refine blk_drew ?_ | refine blk_alloc ?_ _)); exact BK478.out) hb); have n4_ := Aside0.mk (below_step (by repeat (first | (with_reducible first | exact HB.out | apply below_alloc | apply pw_below_drewN | apply below_drew1 | refine below_set ?_ GE476.out | refine below_set ?_ GE477.out | refine below_set ?_ GE478.out) | exact HB.out)) hb); clear BK476; clear BK477; clear BK478; clear HB; have HO481 := n0_; have BK476 := n1_; have BK477 := n2_; have BK478 := n3_; have HB := n4_; clear n0_ n1_ n2_ n3_ n4_; (try clear hb); (try clear hb2); (try clear hk); (try clear hi); (try clear ho0); obtain ⟨Ao11, co11, eo11⟩ := Kd.R_slice HO481.out; subst eo11; have hnb12 := NB478_477.out; have hnc12 := NB477_478.out; have hcz13_0 : w10.cell? ⟨gb478, 0, none⟩ = some (.slice none 0 0) := (blk_cell BK478.out 0).trans rfl; have hcz13_1 : w10.cell? ⟨gb478, 1, none⟩ = some (.slice none 0 0) := (blk_cell BK478.out 1).trans rfl; have hfz13_0 := blk_frozen BK478.out 0; have hfz13_1 := blk_frozen BK478.out 1; have hcz14_0 : w10.cell? ⟨gb476, 0, none⟩ = some (.slice A0_0 l0_0.length c0_0) := (blk_cell BK476.out 0).trans rfl; have hcz14_1 : w10.cell? ⟨gb476, 1, none⟩ = some (.slice A0_1 l0_1.length c0_1) := (blk_cell BK476.out 1).trans rfl; have hfz14_0 := blk_frozen BK476.out 0; have hfz14_1 := blk_frozen BK476.out 1) | ((with_reducible refine gate_callee (f := 85) rfl ?_); refine goesL_ (some 10) rfl rfl Try.func85 (by kernel_rfl) rfl #[.slice A0_1 l0_1.length c0_1] rfl (by (try simp only [List.map_toArray, List.map_cons, List.map_nil]); first | done | rfl | (simp only [List.length_drop, List.length_take]; rfl)) ?_; (with_reducible refine (laws_toFactS.calls k _ _ l0_1 t482 _ ?side1 ?side2 A3.out).mono ?_); (case side1 => exact Kd.C_below HR0_1.out (by repeat (first | (with_reducible first | exact HB.out | apply below_alloc | apply pw_below_drewN | apply below_drew1 | refine below_set ?_ GE476.out | refine below_set ?_ GE477.out | refine below_set ?_ GE478.out) | exact HB.out))); (case side2 => exact HC0_1.out); rintro e w15 ⟨v483, rfl, ho0, hb⟩; refine ⟨_, rfl, ?_⟩; have n0_ := Aside0.mk (Kd.R_below (by (with_reducible repeat (first | apply Kd.R_alloc | apply Kd.R_drewN | apply Kd.R_drew)); exact (Kd.R_mono (Kd.R_far (p := ⟨gb478, 0, none⟩) (Kd.R_types HO481.out BK478.out (by decide)) (fun _ hk => hk.2) (.slice Ao11 t479.length co11)) (fun _ h_ => h_.1))) hb); have n1_ := Aside0.mk (Kd.S_lower ho0 (below_size (by repeat (first | (with_reducible first | exact HB.out | apply below_alloc | apply pw_below_drewN | apply below_drew1 | refine below_set ?_ GE476.out | refine below_set ?_ GE477.out | refine below_set ?_ GE478.out) | exact HB.out)))); have n2_ := Aside0.mk (blk_below (g := gb476) (o := .cells #[.slice A0_0 l0_0.length c0_0, .slice A0_1 l0_1.length c0_1] 55 (0, 0)) (by (with_reducible repeat (first | refine blk_drewN ?_ _ | refine blk_drew ?_ | refine blk_alloc ?_ _)); refine blk_far ?_ NB476_478.out _; (with_reducible repeat (first | refine blk_drewN ?_ _ | refine blk_drew ?_ | refine blk_alloc ?_ _)); exact BK476.out) hb); have n3_ := Aside0.mk (blk_below (g := gb477) (o := .cells #[.slice none 0 0, .slice none 0 0] 60 (0, 0)) (by (with_reducible repeat (first | refine blk_drewN ?_ _ | refine blk_drew ?_ | refine blk_alloc ?_ _)); refine blk_far ?_ NB477_478.out _; (with_reducible repeat (first | refine blk_drewN ?_ _ | refine blk_drew ?_ | refine blk_alloc ?_ _)); exact BK477.out) hb); have n4_ := Aside0.mk (blk_below (g := gb478) (o := .cells #[.slice Ao11 t479.length co11, .slice none 0 0] 60 (0, 0)) (by (with_reducible repeat (first | refine blk_drewN ?_ _ | refine blk_drew ?_ | refine blk_alloc ?_ _)); refine blk_put (cs := #[.slice none 0 0, .slice none 0 0]) ?_ 0 _ rfl; (with_reducible repeat (first | refine blk_drewN ?_ _ | refine blk_drew ?_ | refine blk_alloc ?_ _)); exact BK478.out) hb); have n5_ := Aside0.mk (below_step (by repeat (first | (with_reducible first | exact HB.out | apply below_alloc | apply pw_below_drewN | apply below_drew1 | refine below_set ?_ GE476.out | refine below_set ?_ GE477.out | refine below_set ?_ GE478.out) | exact HB.out)) hb); clear HO481; clear BK476; clear BK477; clear BK478; clear HB; have HO481 := n0_; have HO484 := n1_; have BK476 := n2_; have BK477 := n3_; have BK478 := n4_; have HB := n5_; clear n0_ n1_ n2_ n3_ n4_ n5_; (try clear hb); (try clear hb2); (try clear hk); (try clear hi); (try clear ho0); obtain ⟨Ao16, co16, eo16⟩ := Kd.S_slice HO484.out; subst eo16; have hcz17_0 : w15.cell? ⟨gb478, 0, none⟩ = some (.slice Ao11 t479.length co11) := (blk_cell BK478.out 0).trans rfl; have hcz17_1 : w15.cell? ⟨gb478, 1, none⟩ = some (.slice none 0 0) := (blk_cell BK478.out 1).trans rfl; have hfz17_0 := blk_frozen BK478.out 0; have hfz17_1 := blk_frozen BK478.out 1; have hcz18_0 : w15.cell? ⟨gb477, 0, none⟩ = some (.slice none 0 0) := (blk_cell BK477.out 0).trans rfl; have hcz18_1 : w15.cell? ⟨gb477, 1, none⟩ = some (.slice none 0 0) := (blk_cell BK477.out 1).trans rfl; have hfz18_0 := blk_frozen BK477.out 0; have hfz18_1 := blk_frozen BK477.out 1))
  refine bodyPost_ret (results_cell_row rfl _ _ gb477 60 #[.slice Ao11 t479.length co11, .slice Ao16 t482.length co16] (0, 0) _ rfl (by (with_reducible repeat (first | refine blk_drewN ?_ _ | refine blk_drew ?_ | refine blk_alloc ?_ _)); refine blk_put (cs := #[.slice Ao11 t479.length co11, .slice none 0 0]) ?_ 1 _ rfl; (with_reducible repeat (first | refine blk_drewN ?_ _ | refine blk_drew ?_ | refine blk_alloc ?_ _)); refine blk_put (cs := #[.slice none 0 0, .slice none 0 0]) ?_ 0 _ rfl; (with_reducible repeat (first | refine blk_drewN ?_ _ | refine blk_drew ?_ | refine blk_alloc ?_ _)); refine blk_far ?_ NB477_478.out _; (with_reducible repeat (first | refine blk_drewN ?_ _ | refine blk_drew ?_ | refine blk_alloc ?_ _)); exact BK477.out) Try.underlying60 rfl (by kernel_rfl)) rfl ?_
  exact ⟨_, _, by first | rfl | (simp [errW_none, errW_some] <;> rfl) | (simp [*, errW_none, errW_some] <;> rfl), by (with_reducible repeat (first | apply Kd.R_alloc | apply Kd.R_drewN | apply Kd.R_drew)); exact Kd.R_mono (Kd.R_far (p := ⟨gb477, 1, none⟩) (Kd.R_far (p := ⟨gb477, 0, none⟩) (Kd.R_far (p := ⟨gb478, 1, none⟩) (Kd.R_types (Kd.R_types HO481.out BK478.out (by decide)) BK477.out (by decide)) (fun _ hk => hk.1.2) (.slice Ao16 t482.length co16)) (fun _ hk => hk.2) (.slice Ao11 t479.length co11)) (fun _ hk => hk.2) (.slice Ao16 t482.length co16)) (fun _ hk => trivial), by (with_reducible repeat (first | apply Kd.S_alloc | apply Kd.S_drewN | apply Kd.S_drew)); exact Kd.S_mono (Kd.S_far (p := ⟨gb477, 1, none⟩) (Kd.S_far (p := ⟨gb477, 0, none⟩) (Kd.S_far (p := ⟨gb478, 1, none⟩) (Kd.S_types (Kd.S_types HO484.out BK478.out (by decide)) BK477.out (by decide)) (fun _ hk => hk.1.2) (.slice Ao16 t482.length co16)) (fun _ hk => hk.2) (.slice Ao11 t479.length co11)) (fun _ hk => hk.2) (.slice Ao16 t482.length co16)) (fun _ hk => trivial), by repeat (first | (with_reducible first | exact HB.out | apply below_alloc | apply pw_below_drewN | apply below_drew1 | refine below_set ?_ GE476.out | refine below_set ?_ GE477.out | refine below_set ?_ GE478.out) | exact HB.out)⟩

-- NOT PRINTED: function 86 (impl_Fact_86)

/-! ### impl_FactIndex: function 43 -/
section
open Base
theorem cmp1 (x y : Int) : cmp_Compare_int.f x y = some (if x < y then -1 else if x > y then 1 else 0) := by
  unfold cmp_Compare_int.f cmp_isNaN_int.f
  simp only [Option.bind_some, bne_self_eq_false, Bool.false_eq_true, if_false]
  by_cases h1 : x < y
  · rw [if_pos h1, if_pos h1]
  · rw [if_neg h1, if_neg h1]
    by_cases h2 : x > y
    · rw [if_pos h2, if_pos h2]
    · rw [if_neg h2, if_neg h2]
theorem cmpIl (a b : List Int) (ha : a.length ≤ 9223372036854775807) (hb : b.length ≤ 9223372036854775807) (d : Nat) : ∀ (i : Nat), i + d = a.length → ∀ k, d < k → slices_Compare_int_int.l0 k a b a (a.length : Int) i = some (cmpI (a.drop i) (b.drop i)) ∨ b.length < i := by
  induction d with
  | zero =>
    intro i hd k hk
    by_cases hbi : b.length < i
    · exact .inr hbi
    left
    obtain ⟨k, rfl, hk⟩ := fuel hk
    rw [slices_Compare_int_int.l0, if_neg (by omega), cmpI_end (.inl (List.drop_of_length_le (by omega))), List.length_drop, List.length_drop]
    by_cases h1 : (a.length : Int) < (b.length : Int)
    · rw [if_pos h1, if_pos (show a.length - i < b.length - i by omega)]
    · rw [if_neg h1, if_neg (show ¬ a.length - i < b.length - i by omega), if_neg (show ¬ a.length - i > b.length - i by omega)]
  | succ d ih =>
    intro i hd k hk
    by_cases hbi : b.length < i
    · exact .inr hbi
    left
    obtain ⟨k, rfl, hk⟩ := fuel hk
    rw [slices_Compare_int_int.l0, if_pos (by omega), if_pos (by omega), if_pos (by omega)]
    by_cases hlt : i < b.length
    · have e1 : wrap64 ((i : Int) + 1) = ((i + 1 : Nat) : Int) := by rw [w64 (by omega) (by omega)]; omega
      have e2 : rd a (i : Int) = a[i] := by unfold rd; rw [Int.toNat_natCast, getD_lt a _ i (by omega)]
      have e3 : rd b (i : Int) = b[i] := by unfold rd; rw [Int.toNat_natCast, getD_lt b _ i (by omega)]
      rw [if_neg (by omega), if_pos (by omega), e1, e2, e3, cmp1]
      simp only [Option.bind_some]
      rw [List.drop_eq_getElem_cons (i := i) (l := a) (by omega), List.drop_eq_getElem_cons (i := i) (l := b) (by omega), cmpI]
      by_cases h1 : a[i] < b[i]
      · simp [h1]
      · by_cases h2 : a[i] > b[i]
        · simp [h1, h2]
        · rw [if_neg h1, if_neg h2, if_pos rfl, if_neg h1, if_neg h2]
          rcases ih (i + 1) (by omega) k (by omega) with h | h
          · exact h
          · omega
    · rw [if_pos (by omega), cmpI_end (.inr (List.drop_of_length_le (by omega))), List.length_drop, List.length_drop, if_neg (by omega), if_pos (by omega)]
theorem cmpIs (a b : List Int) (ha : a.length ≤ 9223372036854775807) (hb : b.length ≤ 9223372036854775807) (k : Nat) (hk : a.length < k) : slices_Compare_int_int.f k a b = some (cmpI a b) := by
  rcases cmpIl a b ha hb a.length 0 (by omega) k hk with h | h
  · exact h
  · omega
theorem cmpFI (x : Int) (a : List Int) (y : Int) (b : List Int) (ha : a.length ≤ 9223372036854775807) (hb : b.length ≤ 9223372036854775807) (k : Nat) (hk : a.length < k) : impl_CompareFacts.f k x a y b = some (cmpF x a y b) := by
  unfold impl_CompareFacts.f cmpF
  by_cases h0 : x = y
  · subst h0
    rw [if_pos rfl, cmpIs a b ha hb k hk, if_neg (by omega), if_neg (by omega)]
    rfl
  · rw [if_neg h0, impl_compare.f]
    by_cases h1 : x < y
    · rw [if_pos h1, if_pos h1]; rfl
    · rw [if_neg h1, if_neg h1, if_pos (by omega), if_pos (by omega)]; rfl
end

section
open Base
def factIs (b : Int) (lb : List Int) (x : S27) : Bool := cmpF x.f0 x.f1 b lb == 0
set_option maxHeartbeats 4000000 in
set_option maxRecDepth 100000 in
theorem factIs_calls (b : Int) (lb : List Int) (Ab : Option Addr) (cb : Nat) (g : Nat) (x : S27) (Ax : Option Addr) (cx : Nat) (w : World) (hx : Kd.C (Kd.int .i64) w Ax x.f1.length x.f1) (hxc : x.f1.length ≤ cx)
    (hb0 : w.cell? ⟨g, 0, none⟩ = some (.int .i64 b)) (hb1 : w.cell? ⟨g, 1, none⟩ = some (.slice Ab lb.length cb)) (hC : Kd.C (Kd.int .i64) w Ab lb.length lb) (hc : lb.length ≤ cb) :
    Calls Try.prog 87 #[.agg #[.int .i64 x.f0, .slice Ax x.f1.length cx], .pointer (some ⟨g, 0, none⟩)] w fun e w' => e = .returned (.bool (factIs b lb x)) ∧ Below w.heap.size w w' := by
  have hu := Try.underlying27
  have hlt := World.block_lt_of_cell? w _ hb0
  have ha0 : ∀ o, (w.alloc o).cell? ⟨g, 0, none⟩ = some (.int .i64 b) := fun o => (World.cell?_alloc_lt _ _ _ hlt).trans hb0
  have ha1 : ∀ o, (w.alloc o).cell? ⟨g, 1, none⟩ = some (.slice Ab lb.length cb) := fun o => (World.cell?_alloc_lt _ _ _ (World.block_lt_of_cell? w _ hb1)).trans hb1
  have HC : Aside0 (∀ o, Calls Try.prog 18 #[.agg #[.int .i64 x.f0, .slice Ax x.f1.length cx], .agg #[.int .i64 b, .slice Ab lb.length cb]] (w.alloc o) fun e w' => e = .returned (.int .i64 (cmpF x.f0 x.f1 b lb)) ∧ Below (w.alloc o).heap.size (w.alloc o) w') := ⟨fun o =>
    have hB : Below w.heap.size w (w.alloc o) := below_alloc (Below.refl _ _) _
    impl_CompareFacts.calls (x.f1.length + 1) x.f0 Ax cx x.f1 b Ab cb lb _ _ (Kd.C_below hx hB) hxc (Kd.C_below hC hB) hc (cmpFI x.f0 x.f1 b lb hx.2.1 hC.2.1 _ (Nat.lt_succ_self _))⟩
  clear hx hC hxc hc hlt hb0 hb1
  have e0 : factIs b lb x = (cmpF x.f0 x.f1 b lb == 0) := rfl
  rw [e0]
  generalize cmpF x.f0 x.f1 b lb = z at HC ⊢
  go_enter Try.func87, Try.ntmps87
  go_wp2_with (go_at_call 18; refine (HC.out _).mono ?_; rintro e w' ⟨rfl, hb'⟩)
  go_ret
  exact ⟨rfl, below_then (below_alloc (Below.refl _ _) _) (below_alloc (Below.refl w.heap.size w) _).size hb'⟩
set_option maxHeartbeats 4000000 in
set_option maxRecDepth 100000 in
theorem factIdx_calls (b : Int) (lb : List Int) (Ab : Option Addr) (cb : Nat) (g : Nat) (A0 : Option Addr) (c0 : Nat) (l : List S27) (w : World) (hr : Kd.C k27 w A0 l.length l)
    (hb0 : w.cell? ⟨g, 0, none⟩ = some (.int .i64 b)) (hb1 : w.cell? ⟨g, 1, none⟩ = some (.slice Ab lb.length cb)) (hC : Kd.C (Kd.int .i64) w Ab lb.length lb) (hc : lb.length ≤ cb) :
    Calls Try.prog 86 #[.slice A0 l.length c0, .func (.func 87) #[] #[.pointer (some ⟨g, 0, none⟩)]] w fun e w' => e = .returned (.int .i64 (idxW (factIs b lb) l 0)) ∧ Below w.heap.size w w' := by
  have hl : l.length ≤ 9223372036854775807 := hr.2.1
  have HR := Aside0.mk hr
  have H0 := Aside0.mk hb0
  have H1 := Aside0.mk hb1
  have HL := Aside0.mk hC
  clear hr hb0 hb1 hC
  go_enter Try.func86, Try.ntmps86
  go_wp2
  go_loopg [5, 8] l.length (fun gg _ s8 wr => ∃ kk : Nat, kk ≤ l.length ∧ l.length - kk ≤ gg ∧ s8 = .int .i64 kk ∧ Aside0 (Below w.heap.size w wr) ∧ Aside0 (∀ j, j < kk → factIs b lb (l.getD j z27) = false))
  case atStart => exact ⟨0, Nat.zero_le _, by omega, rfl, ⟨Below.refl _ _⟩, ⟨fun j hj => absurd hj (Nat.not_lt_zero _)⟩⟩
  case round =>
    obtain ⟨kk, hkk, hg, rfl, BW, HA⟩ := hrel
    by_cases hltk : kk < l.length
    · have hltz : (kk : Int) < (l.length : Int) := by omega
      obtain ⟨ad, A1, c1, e, h0, h1, h2, h3⟩ := at_T27 (Kd.C_below HR.out BW.out) (kk : Int) (by omega) hltz
      rw [Int.toNat_natCast] at h0 h1
      cases e
      have hcall := factIs_calls b lb Ab cb g (rd_T27 l (kk : Int)) A1 c1 wr h3 h2 (pw_cell_below BW.out H0.out) (pw_cell_below BW.out H1.out) (Kd.C_below HL.out BW.out) hc
      clear h2 h3
      have hrd : rd_T27 l (kk : Int) = l.getD kk z27 := by unfold rd_T27; rw [Int.toNat_natCast]
      cases hq : factIs b lb (rd_T27 l (kk : Int)) with
      | true =>
        rw [hq] at hcall
        have HQ := Aside0.mk hq
        have HRD := Aside0.mk hrd
        have HCL := Aside0.mk hcall
        clear hq hrd hcall
        go_wp2_with (go_at_call 87; refine HCL.out.mono ?_; rintro e w' ⟨rfl, hb'⟩)
        go_ret
        refine ⟨?_, below_then BW.out BW.out.size hb'⟩
        rw [idxW_hit (factIs b lb) z27 l kk 0 hltk HA.out (by rw [← HRD.out]; exact HQ.out)]
        simp
      | false =>
        rw [hq] at hcall
        have HQ := Aside0.mk hq
        have HRD := Aside0.mk hrd
        have HCL := Aside0.mk hcall
        clear hq hrd hcall
        go_wp2_with (go_at_call 87; refine HCL.out.mono ?_; rintro e w' ⟨rfl, hb'⟩)
        go_roundg (l.length - (kk + 1))
        case measure => omega
        case rel =>
          refine ⟨kk + 1, by omega, by omega, by go_num, ⟨below_then BW.out BW.out.size hb'⟩, ⟨fun j hj => ?_⟩⟩
          by_cases e : j = kk
          · subst e
            rw [← HRD.out]; exact HQ.out
          · exact HA.out j (by omega)
    · have hltz : ¬ (kk : Int) < (l.length : Int) := by omega
      have hd : decide (kk < l.length) = false := decide_eq_false hltk
      have HK := Aside0.mk (show l.length ≤ kk by omega)
      clear hltk hltz
      go_wp2
      go_ret
      refine ⟨?_, BW.out⟩
      have HA := fun j (hj : j < l.length) => HA.out j (Nat.lt_of_lt_of_le hj HK.out)
      rw [idxW_miss (factIs b lb) z27 l 0 HA]
      rfl
def impl_FactIndex.f (l0_0 : List S81) (l0_1 : List S27) (a1_0 : Int) (l1_1 : List Int) : Option Int := some (idxW (factIs a1_0 l1_1) l0_1 0)
set_option maxHeartbeats 4000000 in
set_option maxRecDepth 100000 in
theorem impl_FactIndex.calls (A0_0 : Option Addr) (c0_0 : Nat) (l0_0 : List S81) (A0_1 : Option Addr) (c0_1 : Nat) (l0_1 : List S27) (a1_0 : Int) (A1_1 : Option Addr) (c1_1 : Nat) (l1_1 : List Int) (r : Int) (w : World) (hr0_0 : Kd.C k81 w A0_0 l0_0.length l0_0) (hc0_0 : l0_0.length ≤ c0_0) (hr0_1 : Kd.C k27 w A0_1 l0_1.length l0_1) (hc0_1 : l0_1.length ≤ c0_1) (hr1_1 : Kd.C (Kd.int .i64) w A1_1 l1_1.length l1_1) (hc1_1 : l1_1.length ≤ c1_1) (h : impl_FactIndex.f l0_0 l0_1 a1_0 l1_1 = some r) :
    Calls Try.prog 43 #[.agg #[.slice A0_0 l0_0.length c0_0, .slice A0_1 l0_1.length c0_1], .agg #[.int .i64 a1_0, .slice A1_1 l1_1.length c1_1]] w fun e w' => e = .returned (.int .i64 r) ∧ Below w.heap.size w w' := by
  obtain rfl := Option.some.inj h
  have hz : ∀ o : Obj, (w.alloc o).heap.size = w.heap.size + 1 := fun o => by show (Array.push _ _).size = _; exact Array.size_push ..
  have hk : ∀ o o' : Obj, ((w.alloc o).alloc o').heap[w.heap.size + 1]? = some o' := fun o o' => by
    have := heap_alloc_new (w.alloc o) o'
    rw [hz] at this
    exact this
  have HC : Aside0 (∀ (o : Obj) (c : Nat), Calls Try.prog 86 #[.slice A0_1 l0_1.length c, .func (.func 87) #[] #[.pointer (some ⟨w.heap.size + 1, 0, none⟩)]] ((w.alloc o).alloc (.cells #[.int .i64 a1_0, .slice A1_1 l1_1.length c1_1] 27)) fun e w' => e = .returned (.int .i64 (idxW (factIs a1_0 l1_1) l0_1 0)) ∧ Below ((w.alloc o).alloc (.cells #[.int .i64 a1_0, .slice A1_1 l1_1.length c1_1] 27)).heap.size ((w.alloc o).alloc (.cells #[.int .i64 a1_0, .slice A1_1 l1_1.length c1_1] 27)) w') := ⟨fun o c =>
    have hB : Below w.heap.size w ((w.alloc o).alloc (.cells #[.int .i64 a1_0, .slice A1_1 l1_1.length c1_1] 27)) := below_alloc (below_alloc (Below.refl _ _) _) _
    factIdx_calls a1_0 l1_1 A1_1 c1_1 (w.heap.size + 1) A0_1 c l0_1 _ (Kd.C_below hr0_1 hB) ((blk_cell (hk _ _) 0).trans rfl) ((blk_cell (hk _ _) 1).trans rfl) (Kd.C_below hr1_1 hB) hc1_1⟩
  clear hr0_0 hr0_1 hr1_1 h hk
  go_enter Try.func43, Try.ntmps43
  go_wp2_with (go_at_call 86; refine (HC.out _ _).mono ?_; rintro e w' ⟨rfl, hb'⟩)
  go_ret
  exact ⟨rfl, below_then (below_alloc (below_alloc (Below.refl _ _) _) _) (below_alloc (below_alloc (Below.refl w.heap.size w) _) _).size hb'⟩
end


/-! ### laws_eqFactS: function 88 -/
def laws_eqFactS.l0 : Nat → List (S27) → List (S27) → Int → Option (Bool)
  | 0, _, _, _ => none
  | k + 1, x0, x1, x5 => if x5 < (x0.length : Int) then (if 0 ≤ x5 then (if x5 < (x1.length : Int) then ((laws_eqFact.f k ((rd_T27 x0 x5).f0) ((rd_T27 x0 x5).f1) ((rd_T27 x1 x5).f0) ((rd_T27 x1 x5).f1)).bind fun t487 => (if t487 = true then (laws_eqFactS.l0 k x0 x1 (wrap64 (x5 + 1))) else (some false))) else (none)) else (none)) else (some true)
def laws_eqFactS.f (k : Nat) (l0 : List (S27)) (l1 : List (S27)) : Option (Bool) := if (l0.length : Int) = (l1.length : Int) then (laws_eqFactS.l0 k l0 l1 0) else (some false)
theorem laws_eqFactS.mono_l : ∀ k, (∀ y0 y1 y2, LeO (laws_eqFactS.l0 k y0 y1 y2) (laws_eqFactS.l0 (k + 1) y0 y1 y2))
  | 0 => fun _ _ _ r h => by simp [laws_eqFactS.l0] at h
  | k + 1 => by
    have ih0 := laws_eqFactS.mono_l k
    · intro y0 y1 y2
      unfold laws_eqFactS.l0
      repeat' first
      | (with_reducible exact ih0 _ _ _)
      | (with_reducible exact laws_eqFact.mono _ _ _ _ _)
      | (with_reducible exact LeO.refl _)
      | (with_reducible exact LeO.none _)
      | (with_reducible refine LeO.ite ?_ ?_)
      | (with_reducible refine LeO.bind ?_ (fun _ => ?_))
      | exact ih0 _ _ _
      | exact laws_eqFact.mono _ _ _ _ _
      | exact LeO.none _
      | refine LeO.ite ?_ ?_
      | refine LeO.bind ?_ (fun _ => ?_)
theorem laws_eqFactS.mono : ∀ a0 a1 k, LeO (laws_eqFactS.f k a0 a1) (laws_eqFactS.f (k + 1) a0 a1) := by
  intro a0 a1 k
  have ih0 := laws_eqFactS.mono_l k
  unfold laws_eqFactS.f
  repeat' first
      | (with_reducible exact ih0 _ _ _)
      | (with_reducible exact laws_eqFact.mono _ _ _ _ _)
      | (with_reducible exact LeO.refl _)
      | (with_reducible exact LeO.none _)
      | (with_reducible refine LeO.ite ?_ ?_)
      | (with_reducible refine LeO.bind ?_ (fun _ => ?_))
      | exact ih0 _ _ _
      | exact laws_eqFact.mono _ _ _ _ _
      | exact LeO.none _
      | refine LeO.ite ?_ ?_
      | refine LeO.bind ?_ (fun _ => ?_)
set_option maxHeartbeats 8000000 in
set_option maxRecDepth 100000 in
theorem laws_eqFactS.calls (k : Nat) (A0 : Option Addr) (c0 : Nat) (l0 : List (S27)) (A1 : Option Addr) (c1 : Nat) (l1 : List (S27)) (r : Bool) (w : World) (hr0 : Kd.C k27 w A0 l0.length l0) (hc0 : l0.length ≤ c0) (hr1 : Kd.C k27 w A1 l1.length l1) (hc1 : l1.length ≤ c1) (h : laws_eqFactS.f k l0 l1 = some r) :
    Calls Try.prog 88 #[.slice A0 l0.length c0, .slice A1 l1.length c1] w fun e w' => e = .returned (.bool r) ∧ Below w.heap.size w w' := by
  have hu27 := Try.underlying27
  have HR0 := Aside0.mk hr0
  have HC0 := Aside0.mk hc0
  clear hr0 hc0
  have HR1 := Aside0.mk hr1
  have HC1 := Aside0.mk hc1
  clear hr1 hc1
  have HB := Aside0.mk (Below.refl w.heap.size w)
  have H : (if (l0.length : Int) = (l1.length : Int) then (laws_eqFactS.l0 k l0 l1 0) else (some false)) = some r := h
  clear h
  by_cases c3 : (l0.length : Int) = (l1.length : Int)
  · rw [if_pos c3] at H
    have c3b0 : ((l0.length : Int) == (l1.length : Int)) = true := beq_iff_eq.mpr c3
    have c3b1 : ((l0.length : Int) != (l1.length : Int)) = false := bne_eq_false_iff_eq.mpr c3
    have c3b2 : (l0.length == l1.length) = true := by first | simpa using c3 | (simp at c3 ⊢; omega)
    clear c3
    have H' := Aside0.mk H
    clear H
    go_enter Try.func88, Try.ntmps88
    go_wp2
    go_loopg [5] k (fun kq v5 w' => ∃ (x5_1 : Int), v5 = .int .i64 x5_1 ∧ Aside0 (laws_eqFactS.l0 kq l0 l1 x5_1 = some r) ∧ Aside0 (kq ≤ k) ∧ Aside0 (Below w.heap.size w w'))
    case atStart => exact ⟨(0), (by first | rfl | (simp; done) | (simp [*]; done)), H', ⟨Nat.le_refl _⟩, ⟨by repeat (first | (with_reducible first | exact HB.out | apply below_alloc | apply pw_below_drewN | apply below_drew1) | exact HB.out)⟩⟩
    case round =>
      clear H'
      try clear c1
      try clear p2
      try clear c3
      try clear c3b0
      try clear c3b1
      try clear c3b2
      obtain ⟨x5_1, rfl, HA, HK1, HB⟩ := hrel
      cases gk with
      | zero => exact absurd HA.out (by simp [laws_eqFactS.l0])
      | succ k1 =>
        have H := HA.out
        clear HA
        simp only [laws_eqFactS.l0] at H
        by_cases c4 : x5_1 < (l0.length : Int)
        · rw [if_pos c4] at H
          have c4b0 : decide (x5_1 < (l0.length : Int)) = true := decide_eq_true c4
          clear c4
          by_cases c5 : 0 ≤ x5_1
          · rw [if_pos c5] at H
            have c5b0 : decide (0 ≤ x5_1) = true := decide_eq_true c5
            clear c5
            by_cases c6 : x5_1 < (l1.length : Int)
            · rw [if_pos c6] at H
              have c6b0 : decide (x5_1 < (l1.length : Int)) = true := decide_eq_true c6
              clear c6
              replace H := Option.bind_eq_some_iff.mp H
              obtain ⟨t487, A70, H⟩ := H
              replace H : (if t487 = true then (laws_eqFactS.l0 k1 l0 l1 (wrap64 (x5_1 + 1))) else (some false)) = some r := H
              have A7 := Aside0.mk A70
              clear A70
              by_cases c8 : t487 = true
              · subst c8
                have H1 : (laws_eqFactS.l0 k1 l0 l1 (wrap64 (x5_1 + 1))) = some r := by rw [if_pos rfl] at H; exact H
                clear H
                have H := H1
                clear H1
                have H' := Aside0.mk H
                clear H
                try go_wp2
                have n0_ := Aside0.mk (below_drew1 HB.out)
                clear HB
                have HB := n0_
                clear n0_
                have p485 : 0 ≤ (x5_1 : Int) := of_decide_eq_true (by first | (with_reducible assumption) | assumption)
                have q485 : x5_1 < (l0.length : Int) := of_decide_eq_true (by first | (with_reducible assumption) | assumption)
                obtain ⟨ad485, A485_1, c485_1, e485, hx485_0, hx485_1, hl485_1, hi485_1⟩ := at_T27 HR0.out x5_1 p485 q485
                have hw485_1 := hx485_1
                have hw485_0 := hx485_0
                cases e485
                replace hx485_0 := (HB.out.cell (World.block_lt_of_cell? w _ hx485_0)).trans hx485_0
                replace hx485_1 := (HB.out.cell (World.block_lt_of_cell? w _ hx485_1)).trans hx485_1
                have HR485_1 := Aside0.mk hi485_1
                have HC485_1 := Aside0.mk hl485_1
                clear hi485_1 hl485_1
                replace p485 := eq_true p485
                replace q485 := eq_true q485
                have p486 : 0 ≤ (x5_1 : Int) := of_decide_eq_true (by first | (with_reducible assumption) | assumption)
                have q486 : x5_1 < (l1.length : Int) := of_decide_eq_true (by first | (with_reducible assumption) | assumption)
                obtain ⟨ad486, A486_1, c486_1, e486, hx486_0, hx486_1, hl486_1, hi486_1⟩ := at_T27 HR1.out x5_1 p486 q486
                have hw486_1 := hx486_1
                have hw486_0 := hx486_0
                cases e486
                replace hx486_0 := (HB.out.cell (World.block_lt_of_cell? w _ hx486_0)).trans hx486_0
                replace hx486_1 := (HB.out.cell (World.block_lt_of_cell? w _ hx486_1)).trans hx486_1
                have HR486_1 := Aside0.mk hi486_1
                have HC486_1 := Aside0.mk hl486_1
                clear hi486_1 hl486_1
                replace p486 := eq_true p486
                replace q486 := eq_true q486
                have qf0_ : ∀ (d_ : Nat) (os_ : Array Obj), (Go.Sort.grow (redrawn wr d_) os_).cell? (ad485.add ((x5_1).toNat * 2)) = some (.int .i64 ((rd_T27 l0 x5_1).f0)) := cell_regrown_drew (((HB.out.cell (World.block_lt_of_cell? w _ hw485_0)).trans hw485_0))
                have qf1_ : ∀ (d_ : Nat) (os_ : Array Obj), (Go.Sort.grow (redrawn wr d_) os_).cell? ⟨(ad485.add ((x5_1).toNat * 2)).block, (ad485.add ((x5_1).toNat * 2)).off + 1, none⟩ = some (.slice A485_1 ((rd_T27 l0 x5_1).f1).length c485_1) := cell_regrown_drew (((HB.out.cell (World.block_lt_of_cell? w _ hw485_1)).trans hw485_1))
                have qf2_ : ∀ (d_ : Nat) (os_ : Array Obj), (Go.Sort.grow (redrawn wr d_) os_).cell? (ad486.add ((x5_1).toNat * 2)) = some (.int .i64 ((rd_T27 l1 x5_1).f0)) := cell_regrown_drew (((HB.out.cell (World.block_lt_of_cell? w _ hw486_0)).trans hw486_0))
                have qf3_ : ∀ (d_ : Nat) (os_ : Array Obj), (Go.Sort.grow (redrawn wr d_) os_).cell? ⟨(ad486.add ((x5_1).toNat * 2)).block, (ad486.add ((x5_1).toNat * 2)).off + 1, none⟩ = some (.slice A486_1 ((rd_T27 l1 x5_1).f1).length c486_1) := cell_regrown_drew (((HB.out.cell (World.block_lt_of_cell? w _ hw486_1)).trans hw486_1))
                have HBQ_ := Aside0.mk (below_class HB.out)
                have HBS_ := HB
                clear HB
                refine wp_region_quiet_below (by kernel_rfl) (by kernel_rfl) ?_
                repeat (go_big_quiet_step ((refine with_class HBQ_.out ?_; intro hbz_; have HB := Aside0.mk hbz_; clear hbz_; first | (go_at_call 19; apply Calls.regrown_of; with_reducible refine laws_eqFact.calls k1 ((rd_T27 l0 x5_1).f0) _ _ ((rd_T27 l0 x5_1).f1) ((rd_T27 l1 x5_1).f0) _ _ ((rd_T27 l1 x5_1).f1) true _ ?side1 ?side2 ?side3 ?side4 A7.out; (case side1 => repeat (first | exact (Kd.C_below HR485_1.out HB.out) | exact (Kd.C_below HR486_1.out HB.out) | (with_reducible refine Kd.C_alloc ?_ _) | (with_reducible refine Kd.C_drewN ?_ _) | (with_reducible refine Kd.C_drew ?_))); (case side2 => first | exact HC485_1.out | exact HC486_1.out); (case side3 => repeat (first | exact (Kd.C_below HR486_1.out HB.out) | exact (Kd.C_below HR485_1.out HB.out) | (with_reducible refine Kd.C_alloc ?_ _) | (with_reducible refine Kd.C_drewN ?_ _) | (with_reducible refine Kd.C_drew ?_))); (case side4 => first | exact HC486_1.out | exact HC485_1.out)))))
                refine wpQuiet_nil ?_
                intro _ hw_
                obtain ⟨⟨dq_, osq_⟩, hw2_⟩ := hw_
                subst hw2_
                have hb := below_regrown_drew wr dq_ osq_
                have HB := HBS_
                clear HBS_
                clear qf0_ qf1_ qf2_ qf3_
                clear HBQ_
                generalize Go.Sort.grow (redrawn wr dq_) osq_ = w10 at hb ⊢
                generalize wr.drew = wd_ at HB hb
                have n0_ := Aside0.mk (below_step (by repeat (first | (with_reducible first | exact HB.out | apply below_alloc | apply pw_below_drewN | apply below_drew1) | exact HB.out)) hb)
                clear HB
                have HB := n0_
                clear n0_
                (try clear hb)
                (try clear hb2)
                (try clear hk)
                (try clear hi)
                try go_wp2
                go_roundg k1
                case measure => have := HK1.out; omega
                case rel => exact ⟨(wrap64 (x5_1 + 1)), (by first | rfl | (simp; done) | (simp [*]; done)), H', ⟨by have := HK1.out; omega⟩, ⟨by repeat (first | (with_reducible first | exact HB.out | apply below_alloc | apply pw_below_drewN | apply below_drew1) | exact HB.out)⟩⟩
              · replace c8 := Bool.eq_false_iff.mpr c8
                subst c8
                have H1 : (some false) = some r := by rw [if_neg (show ¬ (false = true) by decide)] at H; exact H
                clear H
                have H := H1
                clear H1
                obtain rfl := Option.some.inj H
                try go_wp2
                have n0_ := Aside0.mk (below_drew1 HB.out)
                clear HB
                have HB := n0_
                clear n0_
                have p485 : 0 ≤ (x5_1 : Int) := of_decide_eq_true (by first | (with_reducible assumption) | assumption)
                have q485 : x5_1 < (l0.length : Int) := of_decide_eq_true (by first | (with_reducible assumption) | assumption)
                obtain ⟨ad485, A485_1, c485_1, e485, hx485_0, hx485_1, hl485_1, hi485_1⟩ := at_T27 HR0.out x5_1 p485 q485
                have hw485_1 := hx485_1
                have hw485_0 := hx485_0
                cases e485
                replace hx485_0 := (HB.out.cell (World.block_lt_of_cell? w _ hx485_0)).trans hx485_0
                replace hx485_1 := (HB.out.cell (World.block_lt_of_cell? w _ hx485_1)).trans hx485_1
                have HR485_1 := Aside0.mk hi485_1
                have HC485_1 := Aside0.mk hl485_1
                clear hi485_1 hl485_1
                replace p485 := eq_true p485
                replace q485 := eq_true q485
                have p486 : 0 ≤ (x5_1 : Int) := of_decide_eq_true (by first | (with_reducible assumption) | assumption)
                have q486 : x5_1 < (l1.length : Int) := of_decide_eq_true (by first | (with_reducible assumption) | assumption)
                obtain ⟨ad486, A486_1, c486_1, e486, hx486_0, hx486_1, hl486_1, hi486_1⟩ := at_T27 HR1.out x5_1 p486 q486
                have hw486_1 := hx486_1
                have hw486_0 := hx486_0
                cases e486
                replace hx486_0 := (HB.out.cell (World.block_lt_of_cell? w _ hx486_0)).trans hx486_0
                replace hx486_1 := (HB.out.cell (World.block_lt_of_cell? w _ hx486_1)).trans hx486_1
                have HR486_1 := Aside0.mk hi486_1
                have HC486_1 := Aside0.mk hl486_1
                clear hi486_1 hl486_1
                replace p486 := eq_true p486
                replace q486 := eq_true q486
                have qf0_ : ∀ (d_ : Nat) (os_ : Array Obj), (Go.Sort.grow (redrawn wr d_) os_).cell? (ad485.add ((x5_1).toNat * 2)) = some (.int .i64 ((rd_T27 l0 x5_1).f0)) := cell_regrown_drew (((HB.out.cell (World.block_lt_of_cell? w _ hw485_0)).trans hw485_0))
                have qf1_ : ∀ (d_ : Nat) (os_ : Array Obj), (Go.Sort.grow (redrawn wr d_) os_).cell? ⟨(ad485.add ((x5_1).toNat * 2)).block, (ad485.add ((x5_1).toNat * 2)).off + 1, none⟩ = some (.slice A485_1 ((rd_T27 l0 x5_1).f1).length c485_1) := cell_regrown_drew (((HB.out.cell (World.block_lt_of_cell? w _ hw485_1)).trans hw485_1))
                have qf2_ : ∀ (d_ : Nat) (os_ : Array Obj), (Go.Sort.grow (redrawn wr d_) os_).cell? (ad486.add ((x5_1).toNat * 2)) = some (.int .i64 ((rd_T27 l1 x5_1).f0)) := cell_regrown_drew (((HB.out.cell (World.block_lt_of_cell? w _ hw486_0)).trans hw486_0))
                have qf3_ : ∀ (d_ : Nat) (os_ : Array Obj), (Go.Sort.grow (redrawn wr d_) os_).cell? ⟨(ad486.add ((x5_1).toNat * 2)).block, (ad486.add ((x5_1).toNat * 2)).off + 1, none⟩ = some (.slice A486_1 ((rd_T27 l1 x5_1).f1).length c486_1) := cell_regrown_drew (((HB.out.cell (World.block_lt_of_cell? w _ hw486_1)).trans hw486_1))
                have HBQ_ := Aside0.mk (below_class HB.out)
                have HBS_ := HB
                clear HB
                refine wp_region_quiet_below (by kernel_rfl) (by kernel_rfl) ?_
                repeat (go_big_quiet_step ((refine with_class HBQ_.out ?_; intro hbz_; have HB := Aside0.mk hbz_; clear hbz_; first | (go_at_call 19; apply Calls.regrown_of; with_reducible refine laws_eqFact.calls k1 ((rd_T27 l0 x5_1).f0) _ _ ((rd_T27 l0 x5_1).f1) ((rd_T27 l1 x5_1).f0) _ _ ((rd_T27 l1 x5_1).f1) false _ ?side1 ?side2 ?side3 ?side4 A7.out; (case side1 => repeat (first | exact (Kd.C_below HR485_1.out HB.out) | exact (Kd.C_below HR486_1.out HB.out) | (with_reducible refine Kd.C_alloc ?_ _) | (with_reducible refine Kd.C_drewN ?_ _) | (with_reducible refine Kd.C_drew ?_))); (case side2 => first | exact HC485_1.out | exact HC486_1.out); (case side3 => repeat (first | exact (Kd.C_below HR486_1.out HB.out) | exact (Kd.C_below HR485_1.out HB.out) | (with_reducible refine Kd.C_alloc ?_ _) | (with_reducible refine Kd.C_drewN ?_ _) | (with_reducible refine Kd.C_drew ?_))); (case side4 => first | exact HC486_1.out | exact HC485_1.out)))))
                refine wpQuiet_nil ?_
                intro _ hw_
                obtain ⟨⟨dq_, osq_⟩, hw2_⟩ := hw_
                subst hw2_
                have hb := below_regrown_drew wr dq_ osq_
                have HB := HBS_
                clear HBS_
                clear qf0_ qf1_ qf2_ qf3_
                clear HBQ_
                generalize Go.Sort.grow (redrawn wr dq_) osq_ = w12 at hb ⊢
                generalize wr.drew = wd_ at HB hb
                have n0_ := Aside0.mk (below_step (by repeat (first | (with_reducible first | exact HB.out | apply below_alloc | apply pw_below_drewN | apply below_drew1) | exact HB.out)) hb)
                clear HB
                have HB := n0_
                clear n0_
                (try clear hb)
                (try clear hb2)
                (try clear hk)
                (try clear hi)
                try go_wp2
                go_ret
                exact ⟨by first | rfl | (simp [errW_none, errW_some] <;> rfl) | (simp [*, errW_none, errW_some] <;> rfl), by repeat (first | (with_reducible first | exact HB.out | apply below_alloc | apply pw_below_drewN | apply below_drew1) | exact HB.out)⟩
            · rw [if_neg c6] at H
              exact absurd H (by simp)
          · rw [if_neg c5] at H
            exact absurd H (by simp)
        · rw [if_neg c4] at H
          have c4b0 : decide (x5_1 < (l0.length : Int)) = false := decide_eq_false c4
          clear c4
          obtain rfl := Option.some.inj H
          go_wp2
          go_ret
          exact ⟨by first | rfl | (simp [errW_none, errW_some] <;> rfl) | (simp [*, errW_none, errW_some] <;> rfl), by repeat (first | (with_reducible first | exact HB.out | apply below_alloc | apply pw_below_drewN | apply below_drew1) | exact HB.out)⟩
  · rw [if_neg c3] at H
    have c3b0 : ((l0.length : Int) == (l1.length : Int)) = false := beq_eq_false_iff_ne.mpr c3
    have c3b1 : ((l0.length : Int) != (l1.length : Int)) = true := bne_iff_ne.mpr c3
    have c3b2 : (l0.length == l1.length) = false := by first | simpa using c3 | (simp at c3 ⊢; omega)
    obtain rfl := Option.some.inj H
    go_enter Try.func88, Try.ntmps88
    go_wp2
    go_ret
    exact ⟨by first | rfl | (simp [errW_none, errW_some] <;> rfl) | (simp [*, errW_none, errW_some] <;> rfl), by repeat (first | (with_reducible first | exact HB.out | apply below_alloc | apply pw_below_drewN | apply below_drew1) | exact HB.out)⟩

/-! ### laws_eqDatabase: function 44 -/
def laws_eqDatabase.f (k : Nat) (l0_0 : List (S81)) (l0_1 : List (S27)) (l1_0 : List (S81)) (l1_1 : List (S27)) : Option (Bool) := (laws_eqRelationS.f k l0_0 l1_0).bind fun t490 => (if t490 = true then ((laws_eqFactS.f k l0_1 l1_1).bind fun t491 => (if t491 = true then (some true) else (some false))) else (some false))
theorem laws_eqDatabase.mono : ∀ a0 a1 a2 a3 k, LeO (laws_eqDatabase.f k a0 a1 a2 a3) (laws_eqDatabase.f (k + 1) a0 a1 a2 a3) := by
  intro a0 a1 a2 a3 k
  unfold laws_eqDatabase.f
  repeat' first
      | (with_reducible exact laws_eqFactS.mono _ _ _)
      | (with_reducible exact laws_eqRelationS.mono _ _ _)
      | (with_reducible exact LeO.refl _)
      | (with_reducible exact LeO.none _)
      | (with_reducible refine LeO.ite ?_ ?_)
      | (with_reducible refine LeO.bind ?_ (fun _ => ?_))
      | exact laws_eqFactS.mono _ _ _
      | exact laws_eqRelationS.mono _ _ _
      | exact LeO.none _
      | refine LeO.ite ?_ ?_
      | refine LeO.bind ?_ (fun _ => ?_)
set_option maxHeartbeats 8000000 in
set_option maxRecDepth 100000 in
theorem laws_eqDatabase.calls (k : Nat) (A0_0 : Option Addr) (c0_0 : Nat) (l0_0 : List (S81)) (A0_1 : Option Addr) (c0_1 : Nat) (l0_1 : List (S27)) (A1_0 : Option Addr) (c1_0 : Nat) (l1_0 : List (S81)) (A1_1 : Option Addr) (c1_1 : Nat) (l1_1 : List (S27)) (r : Bool) (w : World) (hr0_0 : Kd.C k81 w A0_0 l0_0.length l0_0) (hc0_0 : l0_0.length ≤ c0_0) (hr0_1 : Kd.C k27 w A0_1 l0_1.length l0_1) (hc0_1 : l0_1.length ≤ c0_1) (hr1_0 : Kd.C k81 w A1_0 l1_0.length l1_0) (hc1_0 : l1_0.length ≤ c1_0) (hr1_1 : Kd.C k27 w A1_1 l1_1.length l1_1) (hc1_1 : l1_1.length ≤ c1_1) (h : laws_eqDatabase.f k l0_0 l0_1 l1_0 l1_1 = some r) :
    Calls Try.prog 44 #[.agg #[.slice A0_0 l0_0.length c0_0, .slice A0_1 l0_1.length c0_1], .agg #[.slice A1_0 l1_0.length c1_0, .slice A1_1 l1_1.length c1_1]] w fun e w' => e = .returned (.bool r) ∧ Below w.heap.size w w' := by
  have hu60 := Try.underlying60
  have HR0_0 := Aside0.mk hr0_0
  have HC0_0 := Aside0.mk hc0_0
  clear hr0_0 hc0_0
  have HR0_1 := Aside0.mk hr0_1
  have HC0_1 := Aside0.mk hc0_1
  clear hr0_1 hc0_1
  have HR1_0 := Aside0.mk hr1_0
  have HC1_0 := Aside0.mk hc1_0
  clear hr1_0 hc1_0
  have HR1_1 := Aside0.mk hr1_1
  have HC1_1 := Aside0.mk hc1_1
  clear hr1_1 hc1_1
  have HB := Aside0.mk (Below.refl w.heap.size w)
  have H : ((laws_eqRelationS.f k l0_0 l1_0).bind fun t490 => (if t490 = true then ((laws_eqFactS.f k l0_1 l1_1).bind fun t491 => (if t491 = true then (some true) else (some false))) else (some false))) = some r := h
  clear h
  replace H := Option.bind_eq_some_iff.mp H
  obtain ⟨t490, A30, H⟩ := H
  replace H : (if t490 = true then ((laws_eqFactS.f k l0_1 l1_1).bind fun t491 => (if t491 = true then (some true) else (some false))) else (some false)) = some r := H
  have A3 := Aside0.mk A30
  clear A30
  by_cases c4 : t490 = true
  · subst c4
    have H1 : ((laws_eqFactS.f k l0_1 l1_1).bind fun t491 => (if t491 = true then (some true) else (some false))) = some r := by rw [if_pos rfl] at H; exact H
    clear H
    have H := H1
    clear H1
    replace H := Option.bind_eq_some_iff.mp H
    obtain ⟨t491, A50, H⟩ := H
    replace H : (if t491 = true then (some true) else (some false)) = some r := H
    have A5 := Aside0.mk A50
    clear A50
    by_cases c6 : t491 = true
    · subst c6
      have H1 : (some true) = some r := by rw [if_pos rfl] at H; exact H
      clear H
      have H := H1
      clear H1
      obtain rfl := Option.some.inj H
      go_enter Try.func44, Try.ntmps44
      go_wp2_with (first | ((with_reducible refine gate_dst (N := 2) rfl ?_); refine box_event ?hg (N := 2) ?hd (cs := #[.slice A0_0 l0_0.length c0_0, .slice A0_1 l0_1.length c0_1]) (t := 60) ?hr ?_; (case hd => rfl); (case hg => rfl); (case hr => first | (go_simp; done) | (go_simp; rfl)); intro gb488 hg w7 hbox hb; have n0_ := Aside0.mk (below_step (by repeat (first | (with_reducible first | exact HB.out | apply below_alloc | apply pw_below_drewN | apply below_drew1) | exact HB.out)) hb); have n1_ := Aside0.mk (hbox); have n2_ := Aside0.mk ((by rw [hg]; exact (below_size (by repeat (first | (with_reducible first | exact HB.out | apply below_alloc | apply pw_below_drewN | apply below_drew1) | exact HB.out))) : w.heap.size ≤ gb488)); have n3_ := Aside0.mk ((by rw [hg]; exact (below_size (by repeat (first | (with_reducible first | exact HB.out | apply below_alloc | apply pw_below_drewN | apply below_drew1) | exact HB.out))) : w.heap.size ≤ gb488)); clear HB; have HB := n0_; have BK488 := n1_; have GW488 := n2_; have GE488 := n3_; clear n0_ n1_ n2_ n3_; clear hb hbox hg) | ((with_reducible refine gate_dst (N := 3) rfl ?_); refine box_event ?hg (N := 3) ?hd (cs := #[.slice A1_0 l1_0.length c1_0, .slice A1_1 l1_1.length c1_1]) (t := 60) ?hr ?_; (case hd => rfl); (case hg => rfl); (case hr => first | (go_simp; done) | (go_simp; rfl)); intro gb489 hg w8 hbox hb; have n0_ := Aside0.mk (blk_below (g := gb488) (o := .cells #[.slice A0_0 l0_0.length c0_0, .slice A0_1 l0_1.length c0_1] 60 (0, 0)) (by (with_reducible repeat (first | refine blk_drewN ?_ _ | refine blk_drew ?_ | refine blk_alloc ?_ _)); exact BK488.out) hb); have n1_ := Aside0.mk (below_step (by repeat (first | (with_reducible first | exact HB.out | apply below_alloc | apply pw_below_drewN | apply below_drew1 | refine below_set ?_ GE488.out) | exact HB.out)) hb); have n2_ := Aside0.mk (hbox); have n3_ := Aside0.mk ((by rw [hg]; exact (below_size (by repeat (first | (with_reducible first | exact HB.out | apply below_alloc | apply pw_below_drewN | apply below_drew1 | refine below_set ?_ GE488.out) | exact HB.out))) : w.heap.size ≤ gb489)); have n4_ := Aside0.mk ((by rw [hg]; exact (below_size (by repeat (first | (with_reducible first | exact HB.out | apply below_alloc | apply pw_below_drewN | apply below_drew1 | refine below_set ?_ GE488.out) | exact HB.out))) : w.heap.size ≤ gb489)); have n5_ := Aside0.mk ((by rw [hg]; exact Nat.ne_of_lt (blk_lt (g := gb488) (o := .cells #[.slice A0_0 l0_0.length c0_0, .slice A0_1 l0_1.length c0_1] 60 (0, 0)) (by (with_reducible repeat (first | refine blk_drewN ?_ _ | refine blk_drew ?_ | refine blk_alloc ?_ _)); exact BK488.out)) : gb488 ≠ gb489)); have n6_ := Aside0.mk ((by rw [hg]; exact Nat.ne_of_gt (blk_lt (g := gb488) (o := .cells #[.slice A0_0 l0_0.length c0_0, .slice A0_1 l0_1.length c0_1] 60 (0, 0)) (by (with_reducible repeat (first | refine blk_drewN ?_ _ | refine blk_drew ?_ | refine blk_alloc ?_ _)); exact BK488.out)) : gb489 ≠ gb488)); clear BK488; clear HB; have BK488 := n0_; have HB := n1_; have BK489 := n2_; have GW489 := n3_; have GE489 := n4_; have NB488_489 := n5_; have NB489_488 := n6_; clear n0_ n1_ n2_ n3_ n4_ n5_ n6_; clear hb hbox hg; have hnb9 := NB488_489.out; have hnc9 := NB489_488.out; have hcz10_0 : w8.cell? ⟨gb488, 0, none⟩ = some (.slice A0_0 l0_0.length c0_0) := (blk_cell BK488.out 0).trans rfl; have hcz10_1 : w8.cell? ⟨gb488, 1, none⟩ = some (.slice A0_1 l0_1.length c0_1) := (blk_cell BK488.out 1).trans rfl; have hfz10_0 := blk_frozen BK488.out 0; have hfz10_1 := blk_frozen BK488.out 1; have hcz11_0 : w8.cell? ⟨gb489, 0, none⟩ = some (.slice A1_0 l1_0.length c1_0) := (blk_cell BK489.out 0).trans rfl; have hcz11_1 : w8.cell? ⟨gb489, 1, none⟩ = some (.slice A1_1 l1_1.length c1_1) := (blk_cell BK489.out 1).trans rfl; have hfz11_0 := blk_frozen BK489.out 0; have hfz11_1 := blk_frozen BK489.out 1) | ((with_reducible refine gate_callee (f := 24) rfl ?_); refine goesL_ (some 9) rfl rfl Try.func24 (by kernel_rfl) rfl #[.slice A0_0 l0_0.length c0_0, .slice A1_0 l1_0.length c1_0] rfl (by (try simp only [List.map_toArray, List.map_cons, List.map_nil]); first | done | rfl | (simp only [List.length_drop, List.length_take]; rfl)) ?_; (with_reducible refine (laws_eqRelationS.calls k _ _ l0_0 _ _ l1_0 true _ ?side1 ?side2 ?side3 ?side4 A3.out).mono ?_); (case side1 => repeat (first | exact (Kd.C_below HR0_0.out HB.out) | (with_reducible refine Kd.C_alloc ?_ _) | (with_reducible refine Kd.C_drewN ?_ _) | (with_reducible refine Kd.C_drew ?_))); (case side2 => exact HC0_0.out); (case side3 => repeat (first | exact (Kd.C_below HR1_0.out HB.out) | (with_reducible refine Kd.C_alloc ?_ _) | (with_reducible refine Kd.C_drewN ?_ _) | (with_reducible refine Kd.C_drew ?_))); (case side4 => exact HC1_0.out); rintro e w12 ⟨rfl, hb⟩; refine ⟨_, rfl, ?_⟩; have n0_ := Aside0.mk (blk_below (g := gb488) (o := .cells #[.slice A0_0 l0_0.length c0_0, .slice A0_1 l0_1.length c0_1] 60 (0, 0)) (by (with_reducible repeat (first | refine blk_drewN ?_ _ | refine blk_drew ?_ | refine blk_alloc ?_ _)); exact BK488.out) hb); have n1_ := Aside0.mk (blk_below (g := gb489) (o := .cells #[.slice A1_0 l1_0.length c1_0, .slice A1_1 l1_1.length c1_1] 60 (0, 0)) (by (with_reducible repeat (first | refine blk_drewN ?_ _ | refine blk_drew ?_ | refine blk_alloc ?_ _)); exact BK489.out) hb); have n2_ := Aside0.mk (below_step (by repeat (first | (with_reducible first | exact HB.out | apply below_alloc | apply pw_below_drewN | apply below_drew1 | refine below_set ?_ GE488.out | refine below_set ?_ GE489.out) | exact HB.out)) hb); clear BK488; clear BK489; clear HB; have BK488 := n0_; have BK489 := n1_; have HB := n2_; clear n0_ n1_ n2_; (try clear hb); (try clear hb2); (try clear hk); (try clear hi); have hcz13_0 : w12.cell? ⟨gb488, 0, none⟩ = some (.slice A0_0 l0_0.length c0_0) := (blk_cell BK488.out 0).trans rfl; have hcz13_1 : w12.cell? ⟨gb488, 1, none⟩ = some (.slice A0_1 l0_1.length c0_1) := (blk_cell BK488.out 1).trans rfl; have hfz13_0 := blk_frozen BK488.out 0; have hfz13_1 := blk_frozen BK488.out 1; have hcz14_0 : w12.cell? ⟨gb489, 0, none⟩ = some (.slice A1_0 l1_0.length c1_0) := (blk_cell BK489.out 0).trans rfl; have hcz14_1 : w12.cell? ⟨gb489, 1, none⟩ = some (.slice A1_1 l1_1.length c1_1) := (blk_cell BK489.out 1).trans rfl; have hfz14_0 := blk_frozen BK489.out 0; have hfz14_1 := blk_frozen BK489.out 1) | ((with_reducible refine gate_callee (f := 88) rfl ?_); refine goesL_ (some 15) rfl rfl Try.func88 (by kernel_rfl) rfl #[.slice A0_1 l0_1.length c0_1, .slice A1_1 l1_1.length c1_1] rfl (by (try simp only [List.map_toArray, List.map_cons, List.map_nil]); first | done | rfl | (simp only [List.length_drop, List.length_take]; rfl)) ?_; (with_reducible refine (laws_eqFactS.calls k _ _ l0_1 _ _ l1_1 true _ ?side1 ?side2 ?side3 ?side4 A5.out).mono ?_); (case side1 => repeat (first | exact (Kd.C_below HR0_1.out HB.out) | (with_reducible refine Kd.C_alloc ?_ _) | (with_reducible refine Kd.C_drewN ?_ _) | (with_reducible refine Kd.C_drew ?_))); (case side2 => exact HC0_1.out); (case side3 => repeat (first | exact (Kd.C_below HR1_1.out HB.out) | (with_reducible refine Kd.C_alloc ?_ _) | (with_reducible refine Kd.C_drewN ?_ _) | (with_reducible refine Kd.C_drew ?_))); (case side4 => exact HC1_1.out); rintro e w15 ⟨rfl, hb⟩; refine ⟨_, rfl, ?_⟩; have n0_ := Aside0.mk (blk_below (g := gb488) (o := .cells #[.slice A0_0 l0_0.length c0_0, .slice A0_1 l0_1.length c0_1] 60 (0, 0)) (by (with_reducible repeat (first | refine blk_drewN ?_ _ | refine blk_drew ?_ | refine blk_alloc ?_ _)); exact BK488.out) hb); have n1_ := Aside0.mk (blk_below (g := gb489) (o := .cells #[.slice A1_0 l1_0.length c1_0, .slice A1_1 l1_1.length c1_1] 60 (0, 0)) (by (with_reducible repeat (first | refine blk_drewN ?_ _ | refine blk_drew ?_ | refine blk_alloc ?_ _)); exact BK489.out) hb); have n2_ := Aside0.mk (below_step (by repeat (first | (with_reducible first | exact HB.out | apply below_alloc | apply pw_below_drewN | apply below_drew1 | refine below_set ?_ GE488.out | refine below_set ?_ GE489.out) | exact HB.out)) hb); clear BK488; clear BK489; clear HB; have BK488 := n0_; have BK489 := n1_; have HB := n2_; clear n0_ n1_ n2_; (try clear hb); (try clear hb2); (try clear hk); (try clear hi)))
      go_ret
      exact ⟨by first | rfl | (simp [errW_none, errW_some] <;> rfl) | (simp [*, errW_none, errW_some] <;> rfl), by repeat (first | (with_reducible first | exact HB.out | apply below_alloc | apply pw_below_drewN | apply below_drew1 | refine below_set ?_ GE488.out | refine below_set ?_ GE489.out) | exact HB.out)⟩
    · replace c6 := Bool.eq_false_iff.mpr c6
      subst c6
      have H1 : (some false) = some r := by rw [if_neg (show ¬ (false = true) by decide)] at H; exact H
      clear H
      have H := H1
      clear H1
      obtain rfl := Option.some.inj H
      go_enter Try.func44, Try.ntmps44
      go_wp2_with (first | ((with_reducible refine gate_dst (N := 2) rfl ?_); refine box_event ?hg (N := 2) ?hd (cs := #[.slice A0_0 l0_0.length c0_0, .slice A0_1 l0_1.length c0_1]) (t := 60) ?hr ?_; (case hd => rfl); (case hg => rfl); (case hr => first | (go_simp; done) | (go_simp; rfl)); intro gb488 hg w16 hbox hb; have n0_ := Aside0.mk (below_step (by repeat (first | (with_reducible first | exact HB.out | apply below_alloc | apply pw_below_drewN | apply below_drew1) | exact HB.out)) hb); have n1_ := Aside0.mk (hbox); have n2_ := Aside0.mk ((by rw [hg]; exact (below_size (by repeat (first | (with_reducible first | exact HB.out | apply below_alloc | apply pw_below_drewN | apply below_drew1) | exact HB.out))) : w.heap.size ≤ gb488)); have n3_ := Aside0.mk ((by rw [hg]; exact (below_size (by repeat (first | (with_reducible first | exact HB.out | apply below_alloc | apply pw_below_drewN | apply below_drew1) | exact HB.out))) : w.heap.size ≤ gb488)); clear HB; have HB := n0_; have BK488 := n1_; have GW488 := n2_; have GE488 := n3_; clear n0_ n1_ n2_ n3_; clear hb hbox hg) | ((with_reducible refine gate_dst (N := 3) rfl ?_); refine box_event ?hg (N := 3) ?hd (cs := #[.slice A1_0 l1_0.length c1_0, .slice A1_1 l1_1.length c1_1]) (t := 60) ?hr ?_; (case hd => rfl); (case hg => rfl); (case hr => first | (go_simp; done) | (go_simp; rfl)); intro gb489 hg w17 hbox hb; have n0_ := Aside0.mk (blk_below (g := gb488) (o := .cells #[.slice A0_0 l0_0.length c0_0, .slice A0_1 l0_1.length c0_1] 60 (0, 0)) (by (with_reducible repeat (first | refine blk_drewN ?_ _ | refine blk_drew ?_ | refine blk_alloc ?_ _)); exact BK488.out) hb); have n1_ := Aside0.mk (below_step (by repeat (first | (with_reducible first | exact HB.out | apply below_alloc | apply pw_below_drewN | apply below_drew1 | refine below_set ?_ GE488.out) | exact HB.out)) hb); have n2_ := Aside0.mk (hbox); have n3_ := Aside0.mk ((by rw [hg]; exact (below_size (by repeat (first | (with_reducible first | exact HB.out | apply below_alloc | apply pw_below_drewN | apply below_drew1 | refine below_set ?_ GE488.out) | exact HB.out))) : w.heap.size ≤ gb489)); have n4_ := Aside0.mk ((by rw [hg]; exact (below_size (by repeat (first | (with_reducible first | exact HB.out | apply below_alloc | apply pw_below_drewN | apply below_drew1 | refine below_set ?_ GE488.out) | exact HB.out))) : w.heap.size ≤ gb489)); have n5_ := Aside0.mk ((by rw [hg]; exact Nat.ne_of_lt (blk_lt (g := gb488) (o := .cells #[.slice A0_0 l0_0.length c0_0, .slice A0_1 l0_1.length c0_1] 60 (0, 0)) (by (with_reducible repeat (first | refine blk_drewN ?_ _ | refine blk_drew ?_ | refine blk_alloc ?_ _)); exact BK488.out)) : gb488 ≠ gb489)); have n6_ := Aside0.mk ((by rw [hg]; exact Nat.ne_of_gt (blk_lt (g := gb488) (o := .cells #[.slice A0_0 l0_0.length c0_0, .slice A0_1 l0_1.length c0_1] 60 (0, 0)) (by (with_reducible repeat (first | refine blk_drewN ?_ _ | refine blk_drew ?_ | refine blk_alloc ?_ _)); exact BK488.out)) : gb489 ≠ gb488)); clear BK488; clear HB; have BK488 := n0_; have HB := n1_; have BK489 := n2_; have GW489 := n3_; have GE489 := n4_; have NB488_489 := n5_; have NB489_488 := n6_; clear n0_ n1_ n2_ n3_ n4_ n5_ n6_; clear hb hbox hg; have hnb18 := NB488_489.out; have hnc18 := NB489_488.out; have hcz19_0 : w17.cell? ⟨gb488, 0, none⟩ = some (.slice A0_0 l0_0.length c0_0) := (blk_cell BK488.out 0).trans rfl; have hcz19_1 : w17.cell? ⟨gb488, 1, none⟩ = some (.slice A0_1 l0_1.length c0_1) := (blk_cell BK488.out 1).trans rfl; have hfz19_0 := blk_frozen BK488.out 0; have hfz19_1 := blk_frozen BK488.out 1; have hcz20_0 : w17.cell? ⟨gb489, 0, none⟩ = some (.slice A1_0 l1_0.length c1_0) := (blk_cell BK489.out 0).trans rfl; have hcz20_1 : w17.cell? ⟨gb489, 1, none⟩ = some (.slice A1_1 l1_1.length c1_1) := (blk_cell BK489.out 1).trans rfl; have hfz20_0 := blk_frozen BK489.out 0; have hfz20_1 := blk_frozen BK489.out 1) | ((with_reducible refine gate_callee (f := 24) rfl ?_); refine goesL_ (some 9) rfl rfl Try.func24 (by kernel_rfl) rfl #[.slice A0_0 l0_0.length c0_0, .slice A1_0 l1_0.length c1_0] rfl (by (try simp only [List.map_toArray, List.map_cons, List.map_nil]); first | done | rfl | (simp only [List.length_drop, List.length_take]; rfl)) ?_; (with_reducible refine (laws_eqRelationS.calls k _ _ l0_0 _ _ l1_0 true _ ?side1 ?side2 ?side3 ?side4 A3.out).mono ?_); (case side1 => repeat (first | exact (Kd.C_below HR0_0.out HB.out) | (with_reducible refine Kd.C_alloc ?_ _) | (with_reducible refine Kd.C_drewN ?_ _) | (with_reducible refine Kd.C_drew ?_))); (case side2 => exact HC0_0.out); (case side3 => repeat (first | exact (Kd.C_below HR1_0.out HB.out) | (with_reducible refine Kd.C_alloc ?_ _) | (with_reducible refine Kd.C_drewN ?_ _) | (with_reducible refine Kd.C_drew ?_))); (case side4 => exact HC1_0.out); rintro e w21 ⟨rfl, hb⟩; refine ⟨_, rfl, ?_⟩; have n0_ := Aside0.mk (blk_below (g := gb488) (o := .cells #[.slice A0_0 l0_0.length c0_0, .slice A0_1 l0_1.length c0_1] 60 (0, 0)) (by (with_reducible repeat (first | refine blk_drewN ?_ _ | refine blk_drew ?_ | refine blk_alloc ?_ _)); exact BK488.out) hb); have n1_ := Aside0.mk (blk_below (g := gb489) (o := .cells #[.slice A1_0 l1_0.length c1_0, .slice A1_1 l1_1.length c1_1] 60 (0, 0)) (by (with_reducible repeat (first | refine blk_drewN ?_ _ | refine blk_drew ?_ | refine blk_alloc ?_ _)); exact BK489.out) hb); have n2_ := Aside0.mk (below_step (by repeat (first | (with_reducible first | exact HB.out | apply below_alloc | apply pw_below_drewN | apply below_drew1 | refine below_set ?_ GE488.out | refine below_set ?_ GE489.out) | exact HB.out)) hb); clear BK488; clear BK489; clear HB; have BK488 := n0_; have BK489 := n1_; have HB := n2_; clear n0_ n1_ n2_; (try clear hb); (try clear hb2); (try clear hk); (try clear hi); have hcz22_0 : w21.cell? ⟨gb488, 0, none⟩ = some (.slice A0_0 l0_0.length c0_0) := (blk_cell BK488.out 0).trans rfl; have hcz22_1 : w21.cell? ⟨gb488, 1, none⟩ = some (.slice A0_1 l0_1.length c0_1) := (blk_cell BK488.out 1).trans rfl; have hfz22_0 := blk_frozen BK488.out 0; have hfz22_1 := blk_frozen BK488.out 1; have hcz23_0 : w21.cell? ⟨gb489, 0, none⟩ = some (.slice A1_0 l1_0.length c1_0) := (blk_cell BK489.out 0).trans rfl; have hcz23_1 : w21.cell? ⟨gb489, 1, none⟩ = some (.slice A1_1 l1_1.length c1_1) := (blk_cell BK489.out 1).trans rfl; have hfz23_0 := blk_frozen BK489.out 0; have hfz23_1 := blk_frozen BK489.out 1) | ((with_reducible refine gate_callee (f := 88) rfl ?_); refine goesL_ (some 15) rfl rfl Try.func88 (by kernel_rfl) rfl #[.slice A0_1 l0_1.length c0_1, .slice A1_1 l1_1.length c1_1] rfl (by (try simp only [List.map_toArray, List.map_cons, List.map_nil]); first | done | rfl | (simp only [List.length_drop, List.length_take]; rfl)) ?_; (with_reducible refine (laws_eqFactS.calls k _ _ l0_1 _ _ l1_1 false _ ?side1 ?side2 ?side3 ?side4 A5.out).mono ?_); (case side1 => repeat (first | exact (Kd.C_below HR0_1.out HB.out) | (with_reducible refine Kd.C_alloc ?_ _) | (with_reducible refine Kd.C_drewN ?_ _) | (with_reducible refine Kd.C_drew ?_))); (case side2 => exact HC0_1.out); (case side3 => repeat (first | exact (Kd.C_below HR1_1.out HB.out) | (with_reducible refine Kd.C_alloc ?_ _) | (with_reducible refine Kd.C_drewN ?_ _) | (with_reducible refine Kd.C_drew ?_))); (case side4 => exact HC1_1.out); rintro e w24 ⟨rfl, hb⟩; refine ⟨_, rfl, ?_⟩; have n0_ := Aside0.mk (blk_below (g := gb488) (o := .cells #[.slice A0_0 l0_0.length c0_0, .slice A0_1 l0_1.length c0_1] 60 (0, 0)) (by (with_reducible repeat (first | refine blk_drewN ?_ _ | refine blk_drew ?_ | refine blk_alloc ?_ _)); exact BK488.out) hb); have n1_ := Aside0.mk (blk_below (g := gb489) (o := .cells #[.slice A1_0 l1_0.length c1_0, .slice A1_1 l1_1.length c1_1] 60 (0, 0)) (by (with_reducible repeat (first | refine blk_drewN ?_ _ | refine blk_drew ?_ | refine blk_alloc ?_ _)); exact BK489.out) hb); have n2_ := Aside0.mk (below_step (by repeat (first | (with_reducible first | exact HB.out | apply below_alloc | apply pw_below_drewN | apply below_drew1 | refine below_set ?_ GE488.out | refine below_set ?_ GE489.out) | exact HB.out)) hb); clear BK488; clear BK489; clear HB; have BK488 := n0_; have BK489 := n1_; have HB := n2_; clear n0_ n1_ n2_; (try clear hb); (try clear hb2); (try clear hk); (try clear hi)))
      go_ret
      exact ⟨by first | rfl | (simp [errW_none, errW_some] <;> rfl) | (simp [*, errW_none, errW_some] <;> rfl), by repeat (first | (with_reducible first | exact HB.out | apply below_alloc | apply pw_below_drewN | apply below_drew1 | refine below_set ?_ GE488.out | refine below_set ?_ GE489.out) | exact HB.out)⟩
  · replace c4 := Bool.eq_false_iff.mpr c4
    subst c4
    have H1 : (some false) = some r := by rw [if_neg (show ¬ (false = true) by decide)] at H; exact H
    clear H
    have H := H1
    clear H1
    obtain rfl := Option.some.inj H
    go_enter Try.func44, Try.ntmps44
    go_wp2_with (first | ((with_reducible refine gate_dst (N := 2) rfl ?_); refine box_event ?hg (N := 2) ?hd (cs := #[.slice A0_0 l0_0.length c0_0, .slice A0_1 l0_1.length c0_1]) (t := 60) ?hr ?_; (case hd => rfl); (case hg => rfl); (case hr => first | (go_simp; done) | (go_simp; rfl)); intro gb488 hg w25 hbox hb; have n0_ := Aside0.mk (below_step (by repeat (first | (with_reducible first | exact HB.out | apply below_alloc | apply pw_below_drewN | apply below_drew1) | exact HB.out)) hb); have n1_ := Aside0.mk (hbox); have n2_ := Aside0.mk ((by rw [hg]; exact (below_size (by repeat (first | (with_reducible first | exact HB.out | apply below_alloc | apply pw_below_drewN | apply below_drew1) | exact HB.out))) : w.heap.size ≤ gb488)); have n3_ := Aside0.mk ((by rw [hg]; exact (below_size (by repeat (first | (with_reducible first | exact HB.out | apply below_alloc | apply pw_below_drewN | apply below_drew1) | exact HB.out))) : w.heap.size ≤ gb488)); clear HB; have HB := n0_; have BK488 := n1_; have GW488 := n2_; have GE488 := n3_; clear n0_ n1_ n2_ n3_; clear hb hbox hg) | ((with_reducible refine gate_dst (N := 3) rfl ?_); refine box_event ?hg (N := 3) ?hd (cs := #[.slice A1_0 l1_0.length c1_0, .slice A1_1 l1_1.length c1_1]) (t := 60) ?hr ?_; (case hd => rfl); (case hg => rfl); (case hr => first | (go_simp; done) | (go_simp; rfl)); intro gb489 hg w26 hbox hb; have n0_ := Aside0.mk (blk_below (g := gb488) (o := .cells #[.slice A0_0 l0_0.length c0_0, .slice A0_1 l0_1.length c0_1] 60 (0, 0)) (by (with_reducible repeat (first | refine blk_drewN ?_ _ | refine blk_drew ?_ | refine blk_alloc ?_ _)); exact BK488.out) hb); have n1_ := Aside0.mk (below_step (by repeat (first | (with_reducible first | exact HB.out | apply below_alloc | apply pw_below_drewN | apply below_drew1 | refine below_set ?_ GE488.out) | exact HB.out)) hb); have n2_ := Aside0.mk (hbox); have n3_ := Aside0.mk ((by rw [hg]; exact (below_size (by repeat (first | (with_reducible first | exact HB.out | apply below_alloc | apply pw_below_drewN | apply below_drew1 | refine below_set ?_ GE488.out) | exact HB.out))) : w.heap.size ≤ gb489)); have n4_ := Aside0.mk ((by rw [hg]; exact (below_size (by repeat (first | (with_reducible first | exact HB.out | apply below_alloc | apply pw_below_drewN | apply below_drew1 | refine below_set ?_ GE488.out) | exact HB.out))) : w.heap.size ≤ gb489)); have n5_ := Aside0.mk ((by rw [hg]; exact Nat.ne_of_lt (blk_lt (g := gb488) (o := .cells #[.slice A0_0 l0_0.length c0_0, .slice A0_1 l0_1.length c0_1] 60 (0, 0)) (by (with_reducible repeat (first | refine blk_drewN ?_ _ | refine blk_drew ?_ | refine blk_alloc ?_ _)); exact BK488.out)) : gb488 ≠ gb489)); have n6_ := Aside0.mk ((by rw [hg]; exact Nat.ne_of_gt (blk_lt (g := gb488) (o := .cells #[.slice A0_0 l0_0.length c0_0, .slice A0_1 l0_1.length c0_1] 60 (0, 0)) (by (with_reducible repeat (first | refine blk_drewN ?_ _ | refine blk_drew ?_ | refine blk_alloc ?_ _)); exact BK488.out)) : gb489 ≠ gb488)); clear BK488; clear HB; have BK488 := n0_; have HB := n1_; have BK489 := n2_; have GW489 := n3_; have GE489 := n4_; have NB488_489 := n5_; have NB489_488 := n6_; clear n0_ n1_ n2_ n3_ n4_ n5_ n6_; clear hb hbox hg; have hnb27 := NB488_489.out; have hnc27 := NB489_488.out; have hcz28_0 : w26.cell? ⟨gb488, 0, none⟩ = some (.slice A0_0 l0_0.length c0_0) := (blk_cell BK488.out 0).trans rfl; have hcz28_1 : w26.cell? ⟨gb488, 1, none⟩ = some (.slice A0_1 l0_1.length c0_1) := (blk_cell BK488.out 1).trans rfl; have hfz28_0 := blk_frozen BK488.out 0; have hfz28_1 := blk_frozen BK488.out 1; have hcz29_0 : w26.cell? ⟨gb489, 0, none⟩ = some (.slice A1_0 l1_0.length c1_0) := (blk_cell BK489.out 0).trans rfl; have hcz29_1 : w26.cell? ⟨gb489, 1, none⟩ = some (.slice A1_1 l1_1.length c1_1) := (blk_cell BK489.out 1).trans rfl; have hfz29_0 := blk_frozen BK489.out 0; have hfz29_1 := blk_frozen BK489.out 1) | ((with_reducible refine gate_callee (f := 24) rfl ?_); refine goesL_ (some 9) rfl rfl Try.func24 (by kernel_rfl) rfl #[.slice A0_0 l0_0.length c0_0, .slice A1_0 l1_0.length c1_0] rfl (by (try simp only [List.map_toArray, List.map_cons, List.map_nil]); first | done | rfl | (simp only [List.length_drop, List.length_take]; rfl)) ?_; (with_reducible refine (laws_eqRelationS.calls k _ _ l0_0 _ _ l1_0 false _ ?side1 ?side2 ?side3 ?side4 A3.out).mono ?_); (case side1 => repeat (first | exact (Kd.C_below HR0_0.out HB.out) | (with_reducible refine Kd.C_alloc ?_ _) | (with_reducible refine Kd.C_drewN ?_ _) | (with_reducible refine Kd.C_drew ?_))); (case side2 => exact HC0_0.out); (case side3 => repeat (first | exact (Kd.C_below HR1_0.out HB.out) | (with_reducible refine Kd.C_alloc ?_ _) | (with_reducible refine Kd.C_drewN ?_ _) | (with_reducible refine Kd.C_drew ?_))); (case side4 => exact HC1_0.out); rintro e w30 ⟨rfl, hb⟩; refine ⟨_, rfl, ?_⟩; have n0_ := Aside0.mk (blk_below (g := gb488) (o := .cells #[.slice A0_0 l0_0.length c0_0, .slice A0_1 l0_1.length c0_1] 60 (0, 0)) (by (with_reducible repeat (first | refine blk_drewN ?_ _ | refine blk_drew ?_ | refine blk_alloc ?_ _)); exact BK488.out) hb); have n1_ := Aside0.mk (blk_below (g := gb489) (o := .cells #[.slice A1_0 l1_0.length c1_0, .slice A1_1 l1_1.length c1_1] 60 (0, 0)) (by (with_reducible repeat (first | refine blk_drewN ?_ _ | refine blk_drew ?_ | refine blk_alloc ?_ _)); exact BK489.out) hb); have n2_ := Aside0.mk (below_step (by repeat (first | (with_reducible first | exact HB.out | apply below_alloc | apply pw_below_drewN | apply below_drew1 | refine below_set ?_ GE488.out | refine below_set ?_ GE489.out) | exact HB.out)) hb); clear BK488; clear BK489; clear HB; have BK488 := n0_; have BK489 := n1_; have HB := n2_; clear n0_ n1_ n2_; (try clear hb); (try clear hb2); (try clear hk); (try clear hi)))
    go_ret
    exact ⟨by first | rfl | (simp [errW_none, errW_some] <;> rfl) | (simp [*, errW_none, errW_some] <;> rfl), by repeat (first | (with_reducible first | exact HB.out | apply below_alloc | apply pw_below_drewN | apply below_drew1 | refine below_set ?_ GE488.out | refine below_set ?_ GE489.out) | exact HB.out)⟩

end Go.Proofs.Ytddeflhambegiaa.PAll
