-- Laid by a program of this claim: what the functions come to, some of them proved by hand.
import Derived.Test.YtehlhbidmanbmaaPFnExactRepairRankx0
import Derived.Test.YtehlhbidmanbmaaPFnExactRepairRankx1
import Derived.Test.YtehlhbidmanbmaaPFnExactRepairRankx2
import Derived.Test.YtehlhbidmanbmaaPFnExactRepairRankx3
import Derived.Test.YtehlhbidmanbmaaPFnExactRepairRankx4
import Derived.Test.YtehlhbidmanbmaaPFnExactRepairRankx15
import Derived.Test.YtehlhbidmanbmaaPFnExactRepairRankx25
namespace Go.Proofs.Ytehlhbidmanbmaa.PFnExactRepairRank
open Go.RowKit Go.Proofs.YtehlhbidmanbmaaW.PrintWords Go.Proofs.YtehlhbidmanbmaaW.PrintLast Go.Proofs.YtehlhbidmanbmaaW.PrintMore
attribute [local go_sem] max2_int min2_int max_two min_two max_three min_three max_four min_four   -- for this text's walks alone
set_option linter.unusedVariables false
set_option linter.unusedSimpArgs false

/-! ### laws_FnExactRepairRank: function 10 -/
def laws_FnExactRepairRank.j0 : Nat → List Int → List Int → Bool → List (S85) → List (S47) → List (S86) → List (S50) → Option (Bool)
 | 0, _, _, _, _, _, _, _ => none
 | k + 1, x1, x9, x45, x421000, x421001, x440000, x440001 => if x45 = true then (some false) else ((laws_toDatabase.f k x421000 x421001).bind fun bt445 => ((laws_eqDatabase.f k x440000 x440001 bt445.1 bt445.2).bind fun t451 => (if t451 = true then ((laws_toIntS.f k x1).bind fun t452 => ((laws_eqIntS.f k x9 t452).bind fun t455 => (if t455 = true then (some true) else (some false)))) else (some false))))
def laws_FnExactRepairRank.f (k : Nat) (l0_0 : List (S85)) (l0_1 : List (S47)) (l1 : List Int) : Option (Bool) := if (l1.length : Int) > 1048576 then (some true) else ((laws_szDatabase.f k l0_0 l0_1 1048576).bind fun t421 => (if t421 < 0 then (some true) else ((laws_toDatabase.f k l0_0 l0_1).bind fun bt422 => ((laws_toIntS.f k l1).bind fun t428 => ((spec_RepairRank.f k bt422.1 bt422.2 t428).bind fun bt431 => ((laws_toDatabase.f k l0_0 l0_1).bind fun bt433 => ((laws_toIntS.f k l1).bind fun t440 => ((impl_RepairRank.f k bt433.1 bt433.2 t440).bind fun bt443 => (if bt443.1 = bt431.1 then (laws_FnExactRepairRank.j0 k l1 t440 (bt443.2 != bt431.2) l0_0 l0_1 bt433.1 bt433.2) else (laws_FnExactRepairRank.j0 k l1 t440 true l0_0 l0_1 bt433.1 bt433.2))))))))))
theorem laws_FnExactRepairRank.mono_l : ∀ k, (∀ y0 y1 y2 y3 y4 y5 y6, LeO (laws_FnExactRepairRank.j0 k y0 y1 y2 y3 y4 y5 y6) (laws_FnExactRepairRank.j0 (k + 1) y0 y1 y2 y3 y4 y5 y6))
 | 0 => fun _ _ _ _ _ _ _ r h => by simp [laws_FnExactRepairRank.j0] at h
 | k + 1 => by
  have ih0 := laws_FnExactRepairRank.mono_l k
  ·intro y0 y1 y2 y3 y4 y5 y6
   unfold laws_FnExactRepairRank.j0
   repeat' first
   | (with_reducible exact ih0 _ _ _ _ _ _ _)
   | (with_reducible exact impl_RepairRank.mono _ _ _ _)
   | (with_reducible exact laws_eqDatabase.mono _ _ _ _ _)
   | (with_reducible exact laws_eqIntS.mono _ _ _)
   | (with_reducible exact laws_szDatabase.mono _ _ _ _)
   | (with_reducible exact laws_toDatabase.mono _ _ _)
   | (with_reducible exact laws_toIntS.mono _ _)
   | (with_reducible exact spec_RepairRank.mono _ _ _ _)
   | (with_reducible exact LeO.refl _)
   | (with_reducible exact LeO.none _)
   | (with_reducible refine LeO.ite ?_ ?_)
   | (with_reducible refine LeO.bind ?_ (fun _ => ?_))
   | exact ih0 _ _ _ _ _ _ _
   | exact impl_RepairRank.mono _ _ _ _
   | exact laws_eqDatabase.mono _ _ _ _ _
   | exact laws_eqIntS.mono _ _ _
   | exact laws_szDatabase.mono _ _ _ _
   | exact laws_toDatabase.mono _ _ _
   | exact laws_toIntS.mono _ _
   | exact spec_RepairRank.mono _ _ _ _
   | exact LeO.none _
   | refine LeO.ite ?_ ?_
   | refine LeO.bind ?_ (fun _ => ?_)
theorem laws_FnExactRepairRank.mono : ∀ a0 a1 a2 k, LeO (laws_FnExactRepairRank.f k a0 a1 a2) (laws_FnExactRepairRank.f (k + 1) a0 a1 a2) := by
 intro a0 a1 a2 k
 have ih0 := laws_FnExactRepairRank.mono_l k
 unfold laws_FnExactRepairRank.f
 repeat' first
   | (with_reducible exact ih0 _ _ _ _ _ _ _)
   | (with_reducible exact impl_RepairRank.mono _ _ _ _)
   | (with_reducible exact laws_eqDatabase.mono _ _ _ _ _)
   | (with_reducible exact laws_eqIntS.mono _ _ _)
   | (with_reducible exact laws_szDatabase.mono _ _ _ _)
   | (with_reducible exact laws_toDatabase.mono _ _ _)
   | (with_reducible exact laws_toIntS.mono _ _)
   | (with_reducible exact spec_RepairRank.mono _ _ _ _)
   | (with_reducible exact LeO.refl _)
   | (with_reducible exact LeO.none _)
   | (with_reducible refine LeO.ite ?_ ?_)
   | (with_reducible refine LeO.bind ?_ (fun _ => ?_))
   | exact ih0 _ _ _ _ _ _ _
   | exact impl_RepairRank.mono _ _ _ _
   | exact laws_eqDatabase.mono _ _ _ _ _
   | exact laws_eqIntS.mono _ _ _
   | exact laws_szDatabase.mono _ _ _ _
   | exact laws_toDatabase.mono _ _ _
   | exact laws_toIntS.mono _ _
   | exact spec_RepairRank.mono _ _ _ _
   | exact LeO.none _
   | refine LeO.ite ?_ ?_
   | refine LeO.bind ?_ (fun _ => ?_)
set_option maxHeartbeats 8000000 in
set_option maxRecDepth 100000 in
theorem laws_FnExactRepairRank.calls (k : Nat) (A0_0 : Option Addr) (c0_0 : Nat) (l0_0 : List (S85)) (A0_1 : Option Addr) (c0_1 : Nat) (l0_1 : List (S47)) (A1 : Option Addr) (c1 : Nat) (l1 : List Int) (r : Bool) (w : World) (hr0_0 : Kd.C k85 w A0_0 l0_0.length l0_0) (hc0_0 : l0_0.length ≤ c0_0) (hr0_1 : Kd.C k47 w A0_1 l0_1.length l0_1) (hc0_1 : l0_1.length ≤ c0_1) (hr1 : Kd.C (Kd.int .i64) w A1 l1.length l1) (hc1 : l1.length ≤ c1) (h : laws_FnExactRepairRank.f k l0_0 l0_1 l1 = some r) (hr_ : r = true) :
  Calls Try.prog 10 #[.agg #[.slice A0_0 l0_0.length c0_0, .slice A0_1 l0_1.length c0_1], .slice A1 l1.length c1] w fun e w' => e = .returned (.bool r) ∧ Below w.heap.size w w' := by
 have HRT_ := aM hr_
 clear hr_
 have hu25 := Try.underlying25
 have hu32 := Try.underlying32
 have HR0_0 := aM hr0_0
 have HC0_0 := aM hc0_0
 clear hr0_0 hc0_0
 have HR0_1 := aM hr0_1
 have HC0_1 := aM hc0_1
 clear hr0_1 hc0_1
 have HR1 := aM hr1
 have HC1 := aM hc1
 clear hr1 hc1
 have HB := aM (Below.refl w.heap.size w)
 have H : (if (l1.length : Int) > 1048576 then (some true) else ((laws_szDatabase.f k l0_0 l0_1 1048576).bind fun t421 => (if t421 < 0 then (some true) else ((laws_toDatabase.f k l0_0 l0_1).bind fun bt422 => ((laws_toIntS.f k l1).bind fun t428 => ((spec_RepairRank.f k bt422.1 bt422.2 t428).bind fun bt431 => ((laws_toDatabase.f k l0_0 l0_1).bind fun bt433 => ((laws_toIntS.f k l1).bind fun t440 => ((impl_RepairRank.f k bt433.1 bt433.2 t440).bind fun bt443 => (if bt443.1 = bt431.1 then (laws_FnExactRepairRank.j0 k l1 t440 (bt443.2 != bt431.2) l0_0 l0_1 bt433.1 bt433.2) else (laws_FnExactRepairRank.j0 k l1 t440 true l0_0 l0_1 bt433.1 bt433.2))))))))))) = some r := h
 clear h
 by_cases c3 : (l1.length : Int) > 1048576
 ·rw [if_pos c3] at H
  have c3b0 : decide (1048576 < (l1.length : Int)) = true := decide_eq_true c3
  have c3b1 : decide (1048576 < l1.length) = true := decide_eq_true (by omega)
  clear c3
  obtain rfl := Option.some.inj H
  go_enter Try.func10, Try.ntmps10
  go_wp2_with (first | ((with_reducible refine gate_dst (N := 2) rfl ?_); refine box_event ?hg (N := 2) ?hd (cs := #[.slice A0_0 l0_0.length c0_0, .slice A0_1 l0_1.length c0_1]) (t := 25) ?hr ?_; (case hd => rfl); (case hg => rfl); (case hr => first | (go_simp; done) | (go_simp; rfl)); intro gb420 hg w4 hbox hb; have n0_ := aM (below_step aB hb); have n1_ := aM (hbox); have n2_ := aM ((by rw [hg]; exact (below_size aB) : w.heap.size ≤ gb420)); have n3_ := aM ((by rw [hg]; exact (below_size aB) : w.heap.size ≤ gb420)); clear HB; have HB := n0_; have BK420 := n1_; have GW420 := n2_; have GE420 := n3_; clear n0_ n1_ n2_ n3_; clear hb hbox hg))
  go_ret
  exact ⟨by first | rfl | (simp [errW_none, errW_some] <;> rfl) | (simp [*, errW_none, errW_some] <;> rfl), by repeat (first | (with_reducible first | exact HB.out | apply below_alloc | apply pw_below_drewN | apply below_drew1 | refine below_set ?_ GE420.out) | exact HB.out)⟩
 ·rw [if_neg c3] at H
  have c3b0 : decide (1048576 < (l1.length : Int)) = false := decide_eq_false c3
  have c3b1 : decide (1048576 < l1.length) = false := decide_eq_false (by omega)
  clear c3
  replace H := Option.bind_eq_some_iff.mp H
  obtain ⟨t421, A50, H⟩ := H
  replace H : (if t421 < 0 then (some true) else ((laws_toDatabase.f k l0_0 l0_1).bind fun bt422 => ((laws_toIntS.f k l1).bind fun t428 => ((spec_RepairRank.f k bt422.1 bt422.2 t428).bind fun bt431 => ((laws_toDatabase.f k l0_0 l0_1).bind fun bt433 => ((laws_toIntS.f k l1).bind fun t440 => ((impl_RepairRank.f k bt433.1 bt433.2 t440).bind fun bt443 => (if bt443.1 = bt431.1 then (laws_FnExactRepairRank.j0 k l1 t440 (bt443.2 != bt431.2) l0_0 l0_1 bt433.1 bt433.2) else (laws_FnExactRepairRank.j0 k l1 t440 true l0_0 l0_1 bt433.1 bt433.2))))))))) = some r := H
  have A5 := aM A50
  clear A50
  by_cases c6 : t421 < 0
  ·rw [if_pos c6] at H
   have c6b0 : decide (t421 < 0) = true := decide_eq_true c6
   clear c6
   obtain rfl := Option.some.inj H
   go_enter Try.func10, Try.ntmps10
   go_wp2_with (first | ((with_reducible refine gate_dst (N := 2) rfl ?_); refine box_event ?hg (N := 2) ?hd (cs := #[.slice A0_0 l0_0.length c0_0, .slice A0_1 l0_1.length c0_1]) (t := 25) ?hr ?_; (case hd => rfl); (case hg => rfl); (case hr => first | (go_simp; done) | (go_simp; rfl)); intro gb420 hg w7 hbox hb; have n0_ := aM (below_step aB hb); have n1_ := aM (hbox); have n2_ := aM ((by rw [hg]; exact (below_size aB) : w.heap.size ≤ gb420)); have n3_ := aM ((by rw [hg]; exact (below_size aB) : w.heap.size ≤ gb420)); clear HB; have HB := n0_; have BK420 := n1_; have GW420 := n2_; have GE420 := n3_; clear n0_ n1_ n2_ n3_; clear hb hbox hg; have hcz8_0 : w7.cell? ⟨gb420, 0, none⟩ = some (.slice A0_0 l0_0.length c0_0) := (blk_cell BK420.out 0).trans rfl; have hcz8_1 : w7.cell? ⟨gb420, 1, none⟩ = some (.slice A0_1 l0_1.length c0_1) := (blk_cell BK420.out 1).trans rfl; have hfz8_0 := blk_frozen BK420.out 0; have hfz8_1 := blk_frozen BK420.out 1) | ((with_reducible refine gate_callee (f := 15) rfl ?_); refine goesL_ (some 17) rfl rfl Try.func15 (by kernel_rfl) rfl #[.agg #[.slice A0_0 l0_0.length c0_0, .slice A0_1 l0_1.length c0_1], .int .i64 1048576] rfl (by (try simp only [List.map_toArray, List.map_cons, List.map_nil]); first | done | rfl | (simp only [List.length_drop, List.length_take]; rfl)) ?_; (with_reducible refine (laws_szDatabase.calls k _ _ l0_0 _ _ l0_1 1048576 t421 _ ?side1 ?side2 ?side3 ?side4 A5.out).mono ?_); (case side1 => exact aC); (case side2 => exact HC0_0.out); (case side3 => exact aC); (case side4 => exact HC0_1.out); rintro e w9 ⟨rfl, hb⟩; refine ⟨_, rfl, ?_⟩; have n0_ := aM (blk_below (g := gb420) (o := .cells #[.slice A0_0 l0_0.length c0_0, .slice A0_1 l0_1.length c0_1] 25 (0, 0)) aK hb); have n1_ := aM (below_step aG hb); clear BK420; clear HB; have BK420 := n0_; have HB := n1_; clear n0_ n1_; (try clear hb); (try clear hb2); (try clear hk); (try clear hi)))
   go_ret
   exact ⟨by first | rfl | (simp [errW_none, errW_some] <;> rfl) | (simp [*, errW_none, errW_some] <;> rfl), by repeat (first | (with_reducible first | exact HB.out | apply below_alloc | apply pw_below_drewN | apply below_drew1 | refine below_set ?_ GE420.out) | exact HB.out)⟩
  ·rw [if_neg c6] at H
   have c6b0 : decide (t421 < 0) = false := decide_eq_false c6
   clear c6
   replace H := Option.bind_eq_some_iff.mp H
   obtain ⟨⟨t422, t425⟩, A100, H⟩ := H
   replace H : ((laws_toIntS.f k l1).bind fun t428 => ((spec_RepairRank.f k t422 t425 t428).bind fun bt431 => ((laws_toDatabase.f k l0_0 l0_1).bind fun bt433 => ((laws_toIntS.f k l1).bind fun t440 => ((impl_RepairRank.f k bt433.1 bt433.2 t440).bind fun bt443 => (if bt443.1 = bt431.1 then (laws_FnExactRepairRank.j0 k l1 t440 (bt443.2 != bt431.2) l0_0 l0_1 bt433.1 bt433.2) else (laws_FnExactRepairRank.j0 k l1 t440 true l0_0 l0_1 bt433.1 bt433.2))))))) = some r := H
   have A10 := aM A100
   clear A100
   replace H := Option.bind_eq_some_iff.mp H
   obtain ⟨t428, A110, H⟩ := H
   replace H : ((spec_RepairRank.f k t422 t425 t428).bind fun bt431 => ((laws_toDatabase.f k l0_0 l0_1).bind fun bt433 => ((laws_toIntS.f k l1).bind fun t440 => ((impl_RepairRank.f k bt433.1 bt433.2 t440).bind fun bt443 => (if bt443.1 = bt431.1 then (laws_FnExactRepairRank.j0 k l1 t440 (bt443.2 != bt431.2) l0_0 l0_1 bt433.1 bt433.2) else (laws_FnExactRepairRank.j0 k l1 t440 true l0_0 l0_1 bt433.1 bt433.2)))))) = some r := H
   have A11 := aM A110
   clear A110
   replace H := Option.bind_eq_some_iff.mp H
   obtain ⟨⟨t431, t432⟩, A120, H⟩ := H
   replace H : ((laws_toDatabase.f k l0_0 l0_1).bind fun bt433 => ((laws_toIntS.f k l1).bind fun t440 => ((impl_RepairRank.f k bt433.1 bt433.2 t440).bind fun bt443 => (if bt443.1 = t431 then (laws_FnExactRepairRank.j0 k l1 t440 (bt443.2 != t432) l0_0 l0_1 bt433.1 bt433.2) else (laws_FnExactRepairRank.j0 k l1 t440 true l0_0 l0_1 bt433.1 bt433.2))))) = some r := H
   have A12 := aM A120
   clear A120
   replace H := Option.bind_eq_some_iff.mp H
   obtain ⟨⟨t433, t436⟩, A130, H⟩ := H
   replace H : ((laws_toIntS.f k l1).bind fun t440 => ((impl_RepairRank.f k t433 t436 t440).bind fun bt443 => (if bt443.1 = t431 then (laws_FnExactRepairRank.j0 k l1 t440 (bt443.2 != t432) l0_0 l0_1 t433 t436) else (laws_FnExactRepairRank.j0 k l1 t440 true l0_0 l0_1 t433 t436)))) = some r := H
   have A13 := aM A130
   clear A130
   replace H := Option.bind_eq_some_iff.mp H
   obtain ⟨t440, A140, H⟩ := H
   replace H : ((impl_RepairRank.f k t433 t436 t440).bind fun bt443 => (if bt443.1 = t431 then (laws_FnExactRepairRank.j0 k l1 t440 (bt443.2 != t432) l0_0 l0_1 t433 t436) else (laws_FnExactRepairRank.j0 k l1 t440 true l0_0 l0_1 t433 t436))) = some r := H
   have A14 := aM A140
   clear A140
   replace H := Option.bind_eq_some_iff.mp H
   obtain ⟨⟨t443, t444⟩, A150, H⟩ := H
   replace H : (if t443 = t431 then (laws_FnExactRepairRank.j0 k l1 t440 (t444 != t432) l0_0 l0_1 t433 t436) else (laws_FnExactRepairRank.j0 k l1 t440 true l0_0 l0_1 t433 t436)) = some r := H
   have A15 := aM A150
   clear A150
   have HC16 := aM H
   clear H
   go_enter Try.func10, Try.ntmps10
   go_upto_region 11 with (first | ((with_reducible refine gate_dst (N := 2) rfl ?_); refine box_event ?hg (N := 2) ?hd (cs := #[.slice A0_0 l0_0.length c0_0, .slice A0_1 l0_1.length c0_1]) (t := 25) ?hr ?_; (case hd => rfl); (case hg => rfl); (case hr => first | (go_simp; done) | (go_simp; rfl)); intro gb420 hg w17 hbox hb; have n0_ := aM (below_step aB hb); have n1_ := aM (hbox); have n2_ := aM ((by rw [hg]; exact (below_size aB) : w.heap.size ≤ gb420)); have n3_ := aM ((by rw [hg]; exact (below_size aB) : w.heap.size ≤ gb420)); clear HB; have HB := n0_; have BK420 := n1_; have GW420 := n2_; have GE420 := n3_; clear n0_ n1_ n2_ n3_; clear hb hbox hg; have hcz18_0 : w17.cell? ⟨gb420, 0, none⟩ = some (.slice A0_0 l0_0.length c0_0) := (blk_cell BK420.out 0).trans rfl; have hcz18_1 : w17.cell? ⟨gb420, 1, none⟩ = some (.slice A0_1 l0_1.length c0_1) := (blk_cell BK420.out 1).trans rfl; have hfz18_0 := blk_frozen BK420.out 0; have hfz18_1 := blk_frozen BK420.out 1) | ((with_reducible refine gate_callee (f := 15) rfl ?_); refine goesL_ (some 17) rfl rfl Try.func15 (by kernel_rfl) rfl #[.agg #[.slice A0_0 l0_0.length c0_0, .slice A0_1 l0_1.length c0_1], .int .i64 1048576] rfl (by (try simp only [List.map_toArray, List.map_cons, List.map_nil]); first | done | rfl | (simp only [List.length_drop, List.length_take]; rfl)) ?_; (with_reducible refine (laws_szDatabase.calls k _ _ l0_0 _ _ l0_1 1048576 t421 _ ?side1 ?side2 ?side3 ?side4 A5.out).mono ?_); (case side1 => exact aC); (case side2 => exact HC0_0.out); (case side3 => exact aC); (case side4 => exact HC0_1.out); rintro e w19 ⟨rfl, hb⟩; refine ⟨_, rfl, ?_⟩; have n0_ := aM (blk_below (g := gb420) (o := .cells #[.slice A0_0 l0_0.length c0_0, .slice A0_1 l0_1.length c0_1] 25 (0, 0)) aK hb); have n1_ := aM (below_step aG hb); clear BK420; clear HB; have BK420 := n0_; have HB := n1_; clear n0_ n1_; (try clear hb); (try clear hb2); (try clear hk); (try clear hi); have hcz20_0 : w19.cell? ⟨gb420, 0, none⟩ = some (.slice A0_0 l0_0.length c0_0) := (blk_cell BK420.out 0).trans rfl; have hcz20_1 : w19.cell? ⟨gb420, 1, none⟩ = some (.slice A0_1 l0_1.length c0_1) := (blk_cell BK420.out 1).trans rfl; have hfz20_0 := blk_frozen BK420.out 0; have hfz20_1 := blk_frozen BK420.out 1) | ((with_reducible refine gate_callee (f := 17) rfl ?_); refine goesL_ (some 22) rfl rfl Try.func17 (by kernel_rfl) rfl #[.agg #[.slice A0_0 l0_0.length c0_0, .slice A0_1 l0_1.length c0_1]] rfl (by (try simp only [List.map_toArray, List.map_cons, List.map_nil]); first | done | rfl | (simp only [List.length_drop, List.length_take]; rfl)) ?_; (with_reducible refine (laws_toDatabase.calls k _ _ l0_0 _ _ l0_1 t422 t425 _ ?side1 ?side2 ?side3 ?side4 A10.out).mono ?_); (case side1 => exact aC); (case side2 => exact HC0_0.out); (case side3 => exact aC); (case side4 => exact HC0_1.out); rintro e w21 ⟨v423, v426, rfl, ho0, ho1, hb⟩; refine ⟨_, rfl, ?_⟩; have n0_ := aM (Kd.R_lower ho0 (below_size aG)); have n1_ := aM (Kd.S_lower ho1 (below_size aG)); have n2_ := aM (blk_below (g := gb420) (o := .cells #[.slice A0_0 l0_0.length c0_0, .slice A0_1 l0_1.length c0_1] 25 (0, 0)) aK hb); have n3_ := aM (below_step aG hb); clear BK420; clear HB; have HO424 := n0_; have HO427 := n1_; have BK420 := n2_; have HB := n3_; clear n0_ n1_ n2_ n3_; (try clear hb); (try clear hb2); (try clear hk); (try clear hi); (try clear ho0); (try clear ho1)) | ((with_reducible refine gate_callee (f := 18) rfl ?_); refine goesL_ (some 24) rfl rfl Try.func18 (by kernel_rfl) rfl #[.slice A1 l1.length c1] rfl (by (try simp only [List.map_toArray, List.map_cons, List.map_nil]); first | done | rfl | (simp only [List.length_drop, List.length_take]; rfl)) ?_; (with_reducible refine (laws_toIntS.calls k _ _ l1 t428 _ ?side1 ?side2 A11.out).mono ?_); (case side1 => exact aC); (case side2 => exact HC1.out); rintro e w22 ⟨v429, rfl, ho0, hb⟩; refine ⟨_, rfl, ?_⟩; have n0_ := aM (Kd.R_below (aR HO424) hb); have n1_ := aM (Kd.S_elder' (aS HO427) (Kd.R_base ho0) hb); have n2_ := aM (Kd.R_lower ho0 (below_size aG)); have n3_ := aM (blk_below (g := gb420) (o := .cells #[.slice A0_0 l0_0.length c0_0, .slice A0_1 l0_1.length c0_1] 25 (0, 0)) aK hb); have n4_ := aM (below_step aG hb); clear HO424; clear HO427; clear BK420; clear HB; have HO424 := n0_; have HO427 := n1_; have HO430 := n2_; have BK420 := n3_; have HB := n4_; clear n0_ n1_ n2_ n3_ n4_; (try clear hb); (try clear hb2); (try clear hk); (try clear hi); (try clear ho0); obtain ⟨Ao23, co23, eo23⟩ := Kd.R_slice HO424.out; subst eo23; obtain ⟨Ao24, co24, eo24⟩ := Kd.S_slice HO427.out; subst eo24; obtain ⟨Ao25, co25, eo25⟩ := Kd.R_slice HO430.out; subst eo25) | ((with_reducible refine gate_callee (f := 42) rfl ?_); refine goesL_ (some 25) rfl rfl Try.func42 (by kernel_rfl) rfl #[.agg #[.slice Ao23 t422.length co23, .slice Ao24 t425.length co24], .slice Ao25 t428.length co25] rfl (by (try simp only [List.map_toArray, List.map_cons, List.map_nil]); first | done | rfl | (simp only [List.length_drop, List.length_take]; rfl)) ?_; (with_reducible refine (spec_RepairRank.calls k _ _ t422 _ _ t425 _ _ t428 t431 t432 _ ?side1 ?side2 ?side3 ?side4 ?side5 ?side6 A12.out).mono ?_); (case side1 => repeat (first | exact (Kd.R_reads' HO424.out).2.2 | (with_reducible refine Kd.C_alloc ?_ _) | (with_reducible refine Kd.C_drewN ?_ _) | (with_reducible refine Kd.C_drew ?_))); (case side2 => exact (Kd.R_reads' HO424.out).2.1); (case side3 => repeat (first | exact (Kd.S_reads' HO427.out).2.2 | (with_reducible refine Kd.C_alloc ?_ _) | (with_reducible refine Kd.C_drewN ?_ _) | (with_reducible refine Kd.C_drew ?_))); (case side4 => exact (Kd.S_reads' HO427.out).2.1); (case side5 => repeat (first | exact (Kd.R_reads' HO430.out).2.2 | (with_reducible refine Kd.C_alloc ?_ _) | (with_reducible refine Kd.C_drewN ?_ _) | (with_reducible refine Kd.C_drew ?_))); (case side6 => exact (Kd.R_reads' HO430.out).2.1); rintro e w26 ⟨rfl, hb⟩; refine ⟨_, rfl, ?_⟩; have n0_ := aM (Kd.R_below (aR HO424) hb); have n1_ := aM (Kd.S_below (aS HO427) hb); have n2_ := aM (Kd.R_below (aR HO430) hb); have n3_ := aM (blk_below (g := gb420) (o := .cells #[.slice A0_0 l0_0.length c0_0, .slice A0_1 l0_1.length c0_1] 25 (0, 0)) aK hb); have n4_ := aM (below_step aG hb); clear HO424; clear HO427; clear HO430; clear BK420; clear HB; have HO424 := n0_; have HO427 := n1_; have HO430 := n2_; have BK420 := n3_; have HB := n4_; clear n0_ n1_ n2_ n3_ n4_; (try clear hb); (try clear hb2); (try clear hk); (try clear hi); have hcz27_0 : w26.cell? ⟨gb420, 0, none⟩ = some (.slice A0_0 l0_0.length c0_0) := (blk_cell BK420.out 0).trans rfl; have hcz27_1 : w26.cell? ⟨gb420, 1, none⟩ = some (.slice A0_1 l0_1.length c0_1) := (blk_cell BK420.out 1).trans rfl; have hfz27_0 := blk_frozen BK420.out 0; have hfz27_1 := blk_frozen BK420.out 1) | ((with_reducible refine gate_callee (f := 17) rfl ?_); refine goesL_ (some 29) rfl rfl Try.func17 (by kernel_rfl) rfl #[.agg #[.slice A0_0 l0_0.length c0_0, .slice A0_1 l0_1.length c0_1]] rfl (by (try simp only [List.map_toArray, List.map_cons, List.map_nil]); first | done | rfl | (simp only [List.length_drop, List.length_take]; rfl)) ?_; (with_reducible refine (laws_toDatabase.calls k _ _ l0_0 _ _ l0_1 t433 t436 _ ?side1 ?side2 ?side3 ?side4 A13.out).mono ?_); (case side1 => exact aC); (case side2 => exact HC0_0.out); (case side3 => exact aC); (case side4 => exact HC0_1.out); rintro e w28 ⟨v434, v437, rfl, ho0, ho1, hb⟩; refine ⟨_, rfl, ?_⟩; have n0_ := aM (Kd.R_elder' (aR HO424) (Kd.R_base ho0) hb); have n1_ := aM (Kd.S_elder' (aS HO427) (Kd.S_base ho1) hb); have n2_ := aM (Kd.R_below (aR HO430) hb); have n3_ := aM (Kd.R_lower (Kd.R_new' ho0 (Kd.R_lt (aR HO424))) (below_size aG)); have n4_ := aM (Kd.S_lower (Kd.S_new' (Kd.S_new' ho1 (Kd.S_lt (aS HO427))) (Kd.R_lt (aR HO430))) (below_size aG)); have n5_ := aM (blk_below (g := gb420) (o := .cells #[.slice A0_0 l0_0.length c0_0, .slice A0_1 l0_1.length c0_1] 25 (0, 0)) aK hb); have n6_ := aM (below_step aG hb); clear HO424; clear HO427; clear HO430; clear BK420; clear HB; have HO424 := n0_; have HO427 := n1_; have HO430 := n2_; have HO435 := n3_; have HO438 := n4_; have BK420 := n5_; have HB := n6_; clear n0_ n1_ n2_ n3_ n4_ n5_ n6_; (try clear hb); (try clear hb2); (try clear hk); (try clear hi); (try clear ho0); (try clear ho1)) | ((with_reducible refine gate_dst (N := 8) rfl ?_); refine box_event ?hg (N := 8) ?hd (cs := #[.slice none 0 0, .slice none 0 0]) (t := 32) ?hr ?_; (case hd => rfl); (case hg => rfl); (case hr => first | (go_simp; done) | (go_simp; rfl)); intro gb439 hg w29 hbox hb; have n0_ := aM (Kd.R_below (aR HO424) hb); have n1_ := aM (Kd.S_below (aS HO427) hb); have n2_ := aM (Kd.R_below (aR HO430) hb); have n3_ := aM (Kd.R_below (aR HO435) hb); have n4_ := aM (Kd.S_below (aS HO438) hb); have n5_ := aM (blk_below (g := gb420) (o := .cells #[.slice A0_0 l0_0.length c0_0, .slice A0_1 l0_1.length c0_1] 25 (0, 0)) aK hb); have n6_ := aM (below_step aG hb); have n7_ := aM (hbox); have n8_ := aM ((by rw [hg]; exact (below_size aG) : w.heap.size ≤ gb439)); have n9_ := aM ((by rw [hg]; exact (below_size aG) : w.heap.size ≤ gb439)); have n10_ := aM ((by rw [hg]; exact Nat.ne_of_lt (blk_lt (g := gb420) (o := .cells #[.slice A0_0 l0_0.length c0_0, .slice A0_1 l0_1.length c0_1] 25 (0, 0)) aK) : gb420 ≠ gb439)); have n11_ := aM ((by rw [hg]; exact Nat.ne_of_gt (blk_lt (g := gb420) (o := .cells #[.slice A0_0 l0_0.length c0_0, .slice A0_1 l0_1.length c0_1] 25 (0, 0)) aK) : gb439 ≠ gb420)); clear HO424; clear HO427; clear HO430; clear HO435; clear HO438; clear BK420; clear HB; have HO424 := n0_; have HO427 := n1_; have HO430 := n2_; have HO435 := n3_; have HO438 := n4_; have BK420 := n5_; have HB := n6_; have BK439 := n7_; have GW439 := n8_; have GE439 := n9_; have NB420_439 := n10_; have NB439_420 := n11_; clear n0_ n1_ n2_ n3_ n4_ n5_ n6_ n7_ n8_ n9_ n10_ n11_; clear hb hbox hg; obtain ⟨Ao30, co30, eo30⟩ := Kd.R_slice HO435.out; subst eo30; have hnb31 := NB439_420.out; have hnc31 := NB420_439.out; have hcz32_0 : w29.cell? ⟨gb439, 0, none⟩ = some (.slice none 0 0) := (blk_cell BK439.out 0).trans rfl; have hcz32_1 : w29.cell? ⟨gb439, 1, none⟩ = some (.slice none 0 0) := (blk_cell BK439.out 1).trans rfl; have hfz32_0 := blk_frozen BK439.out 0; have hfz32_1 := blk_frozen BK439.out 1; obtain ⟨Ao33, co33, eo33⟩ := Kd.S_slice HO438.out; subst eo33) | ((with_reducible refine gate_callee (f := 18) rfl ?_); refine goesL_ (some 31) rfl rfl Try.func18 (by kernel_rfl) rfl #[.slice A1 l1.length c1] rfl (by (try simp only [List.map_toArray, List.map_cons, List.map_nil]); first | done | rfl | (simp only [List.length_drop, List.length_take]; rfl)) ?_; (with_reducible refine (laws_toIntS.calls k _ _ l1 t440 _ ?side1 ?side2 A14.out).mono ?_); (case side1 => exact Kd.C_below HR1.out aG); (case side2 => exact HC1.out); rintro e w34 ⟨v441, rfl, ho0, hb⟩; refine ⟨_, rfl, ?_⟩; have n0_ := aM (Kd.R_below (by (with_reducible repeat (first | apply Kd.R_alloc | apply Kd.R_drewN | apply Kd.R_drew)); exact (Kd.R_mono (Kd.R_far (p := ⟨gb439, 1, none⟩) (Kd.R_far (p := ⟨gb439, 0, none⟩) (Kd.R_types HO424.out BK439.out (by decide)) (fun _ hk => hk.2) (.slice Ao30 t433.length co30)) (fun _ hk => hk.2) (.slice Ao33 t436.length co33)) (fun _ h_ => h_.1))) hb); have n1_ := aM (Kd.S_elder' (by (with_reducible repeat (first | apply Kd.S_alloc | apply Kd.S_drewN | apply Kd.S_drew)); exact (Kd.S_mono (Kd.S_far (p := ⟨gb439, 1, none⟩) (Kd.S_far (p := ⟨gb439, 0, none⟩) (Kd.S_types HO427.out BK439.out (by decide)) (fun _ hk => hk.2) (.slice Ao30 t433.length co30)) (fun _ hk => hk.2) (.slice Ao33 t436.length co33)) (fun _ h_ => h_.1))) (Kd.R_base ho0) hb); have n2_ := aM (Kd.R_elder' (by (with_reducible repeat (first | apply Kd.R_alloc | apply Kd.R_drewN | apply Kd.R_drew)); exact (Kd.R_mono (Kd.R_far (p := ⟨gb439, 1, none⟩) (Kd.R_far (p := ⟨gb439, 0, none⟩) (Kd.R_types HO430.out BK439.out (by decide)) (fun _ hk => hk.2) (.slice Ao30 t433.length co30)) (fun _ hk => hk.2) (.slice Ao33 t436.length co33)) (fun _ h_ => h_.1))) (Kd.R_base ho0) hb); have n3_ := aM (Kd.R_below (by (with_reducible repeat (first | apply Kd.R_alloc | apply Kd.R_drewN | apply Kd.R_drew)); exact (Kd.R_mono (Kd.R_far (p := ⟨gb439, 1, none⟩) (Kd.R_far (p := ⟨gb439, 0, none⟩) (Kd.R_types HO435.out BK439.out (by decide)) (fun _ hk => hk.2) (.slice Ao30 t433.length co30)) (fun _ hk => hk.2) (.slice Ao33 t436.length co33)) (fun _ h_ => h_.1))) hb); have n4_ := aM (Kd.S_elder' (by (with_reducible repeat (first | apply Kd.S_alloc | apply Kd.S_drewN | apply Kd.S_drew)); exact (Kd.S_mono (Kd.S_far (p := ⟨gb439, 1, none⟩) (Kd.S_far (p := ⟨gb439, 0, none⟩) (Kd.S_types HO438.out BK439.out (by decide)) (fun _ hk => hk.2) (.slice Ao30 t433.length co30)) (fun _ hk => hk.2) (.slice Ao33 t436.length co33)) (fun _ h_ => h_.1))) (Kd.R_base ho0) hb); have n5_ := aM (Kd.R_lower (Kd.R_new' ho0 (Kd.R_lt (by (with_reducible repeat (first | apply Kd.R_alloc | apply Kd.R_drewN | apply Kd.R_drew)); exact (Kd.R_mono (Kd.R_far (p := ⟨gb439, 1, none⟩) (Kd.R_far (p := ⟨gb439, 0, none⟩) (Kd.R_types HO430.out BK439.out (by decide)) (fun _ hk => hk.2) (.slice Ao30 t433.length co30)) (fun _ hk => hk.2) (.slice Ao33 t436.length co33)) (fun _ h_ => h_.1))))) (below_size aG)); have n6_ := aM (blk_below (g := gb420) (o := .cells #[.slice A0_0 l0_0.length c0_0, .slice A0_1 l0_1.length c0_1] 25 (0, 0)) (by (with_reducible repeat (first | refine blk_drewN ?_ _ | refine blk_drew ?_ | refine blk_alloc ?_ _)); refine blk_far ?_ NB420_439.out _; (with_reducible repeat (first | refine blk_drewN ?_ _ | refine blk_drew ?_ | refine blk_alloc ?_ _)); refine blk_far ?_ NB420_439.out _; (with_reducible repeat (first | refine blk_drewN ?_ _ | refine blk_drew ?_ | refine blk_alloc ?_ _)); exact BK420.out) hb); have n7_ := aM (blk_below (g := gb439) (o := .cells #[.slice Ao30 t433.length co30, .slice Ao33 t436.length co33] 32 (0, 0)) (by (with_reducible repeat (first | refine blk_drewN ?_ _ | refine blk_drew ?_ | refine blk_alloc ?_ _)); refine blk_put (cs := #[.slice Ao30 t433.length co30, .slice none 0 0]) ?_ 1 _ rfl; (with_reducible repeat (first | refine blk_drewN ?_ _ | refine blk_drew ?_ | refine blk_alloc ?_ _)); refine blk_put (cs := #[.slice none 0 0, .slice none 0 0]) ?_ 0 _ rfl; (with_reducible repeat (first | refine blk_drewN ?_ _ | refine blk_drew ?_ | refine blk_alloc ?_ _)); exact BK439.out) hb); have n8_ := aM (below_step aG hb); clear HO424; clear HO427; clear HO430; clear HO435; clear HO438; clear BK420; clear BK439; clear HB; have HO424 := n0_; have HO427 := n1_; have HO430 := n2_; have HO435 := n3_; have HO438 := n4_; have HO442 := n5_; have BK420 := n6_; have BK439 := n7_; have HB := n8_; clear n0_ n1_ n2_ n3_ n4_ n5_ n6_ n7_ n8_; (try clear hb); (try clear hb2); (try clear hk); (try clear hi); (try clear ho0); have hcz35_0 : w34.cell? ⟨gb439, 0, none⟩ = some (.slice Ao30 t433.length co30) := (blk_cell BK439.out 0).trans rfl; have hcz35_1 : w34.cell? ⟨gb439, 1, none⟩ = some (.slice Ao33 t436.length co33) := (blk_cell BK439.out 1).trans rfl; have hfz35_0 := blk_frozen BK439.out 0; have hfz35_1 := blk_frozen BK439.out 1; obtain ⟨Ao36, co36, eo36⟩ := Kd.R_slice HO442.out; subst eo36) | ((with_reducible refine gate_callee (f := 43) rfl ?_); refine goesL_ (some 35) rfl rfl Try.func43 (by kernel_rfl) rfl #[.agg #[.slice Ao30 t433.length co30, .slice Ao33 t436.length co33], .slice Ao36 t440.length co36] rfl (by (try simp only [List.map_toArray, List.map_cons, List.map_nil]); first | done | rfl | (simp only [List.length_drop, List.length_take]; rfl)) ?_; (with_reducible refine (impl_RepairRank.calls k _ _ t433 _ _ t436 _ _ t440 t443 t444 _ ?side1 ?side2 ?side3 ?side4 ?side5 ?side6 A15.out).mono ?_); (case side1 => repeat (first | exact (Kd.R_reads' HO435.out).2.2 | (with_reducible refine Kd.C_alloc ?_ _) | (with_reducible refine Kd.C_drewN ?_ _) | (with_reducible refine Kd.C_drew ?_))); (case side2 => exact (Kd.R_reads' HO435.out).2.1); (case side3 => repeat (first | exact (Kd.S_reads' HO438.out).2.2 | (with_reducible refine Kd.C_alloc ?_ _) | (with_reducible refine Kd.C_drewN ?_ _) | (with_reducible refine Kd.C_drew ?_))); (case side4 => exact (Kd.S_reads' HO438.out).2.1); (case side5 => repeat (first | exact (Kd.R_reads' HO442.out).2.2 | (with_reducible refine Kd.C_alloc ?_ _) | (with_reducible refine Kd.C_drewN ?_ _) | (with_reducible refine Kd.C_drew ?_))); (case side6 => exact (Kd.R_reads' HO442.out).2.1); rintro e w37 ⟨rfl, hb⟩; refine ⟨_, rfl, ?_⟩; have n0_ := aM (Kd.R_below (aR HO424) hb); have n1_ := aM (Kd.S_below (aS HO427) hb); have n2_ := aM (Kd.R_below (aR HO430) hb); have n3_ := aM (Kd.R_below (aR HO435) hb); have n4_ := aM (Kd.S_below (aS HO438) hb); have n5_ := aM (Kd.R_below (aR HO442) hb); have n6_ := aM (blk_below (g := gb420) (o := .cells #[.slice A0_0 l0_0.length c0_0, .slice A0_1 l0_1.length c0_1] 25 (0, 0)) aK hb); have n7_ := aM (blk_below (g := gb439) (o := .cells #[.slice Ao30 t433.length co30, .slice Ao33 t436.length co33] 32 (0, 0)) aK hb); have n8_ := aM (below_step aG hb); clear HO424; clear HO427; clear HO430; clear HO435; clear HO438; clear HO442; clear BK420; clear BK439; clear HB; have HO424 := n0_; have HO427 := n1_; have HO430 := n2_; have HO435 := n3_; have HO438 := n4_; have HO442 := n5_; have BK420 := n6_; have BK439 := n7_; have HB := n8_; clear n0_ n1_ n2_ n3_ n4_ n5_ n6_ n7_ n8_; (try clear hb); (try clear hb2); (try clear hk); (try clear hi)))
   (try simp only [Act.put, List.setIfInBounds_toArray, List.set_cons_zero, List.set_cons_succ])
   go_cut [45] (fun v45 wc => ∃ (kq : Nat) (x45_15 : Bool), v45 = .bool x45_15 ∧ Aside0 (laws_FnExactRepairRank.j0 kq l1 t440 x45_15 l0_0 l0_1 t433 t436 = some r) ∧ Aside0 (kq ≤ k) ∧ Aside0 (Kd.R (Kd.int .i64) 3 wc w.heap.size (fun _ => True) (.slice Ao36 t440.length co36) t440) ∧ Aside0 (Kd.R k86 86 wc w.heap.size (fun _ => True) (.slice Ao30 t433.length co30) t433) ∧ Aside0 (Kd.S k50 50 wc w.heap.size (fun k_ => some k_ ≠ ((.slice Ao36 t440.length co36) : Value).ownBlock) (.slice Ao33 t436.length co33) t436) ∧ Aside0 (wc.heap[gb420]? = some (.cells #[(.slice A0_0 l0_0.length c0_0), (.slice A0_1 l0_1.length c0_1)] 25 (0, 0))) ∧ Aside0 (wc.heap[gb439]? = some (.cells #[(.slice Ao30 t433.length co30), (.slice Ao33 t436.length co33)] 32 (0, 0))) ∧ Aside0 (Below w.heap.size w wc))
   case first =>
    have H := HC16.out
    clear HC16
    by_cases c38 : t443 = t431
    ·rw [if_pos c38] at H
     have c38b0 : (t443 == t431) = true := beq_iff_eq.mpr c38
     have c38b1 : (t443 != t431) = false := bne_eq_false_iff_eq.mpr c38
     clear c38
     (first | rw [c38b0] | (simp only [i64_w, i32_w]; rw [c38b0]) | skip)
     have H' := aM H
     clear H
     go_wp2
     go_meet
     case rel => exact ⟨_, ((t444 != t432)), (by first | rfl | (simp; done) | (simp [*]; done)), H', ⟨by first | omega | exact Nat.le_refl _⟩, ⟨by (with_reducible repeat (first | apply Kd.R_alloc | apply Kd.R_drewN | apply Kd.R_drew)); exact Kd.R_mono HO442.out (fun _ hk => trivial)⟩, ⟨by (with_reducible repeat (first | apply Kd.R_alloc | apply Kd.R_drewN | apply Kd.R_drew)); exact Kd.R_mono HO435.out (fun _ hk => trivial)⟩, ⟨by (with_reducible repeat (first | apply Kd.S_alloc | apply Kd.S_drewN | apply Kd.S_drew)); exact Kd.S_mono HO438.out (fun _ hk => hk.2)⟩, ⟨by (with_reducible repeat (first | refine blk_drewN ?_ _ | refine blk_drew ?_ | refine blk_alloc ?_ _)); exact BK420.out⟩, ⟨by (with_reducible repeat (first | refine blk_drewN ?_ _ | refine blk_drew ?_ | refine blk_alloc ?_ _)); exact BK439.out⟩, ⟨by repeat (first | (with_reducible first | exact HB.out | apply below_alloc | apply pw_below_drewN | apply below_drew1 | refine below_set ?_ GE420.out | refine below_set ?_ GE439.out) | exact HB.out)⟩⟩
    ·rw [if_neg c38] at H
     have c38b0 : (t443 == t431) = false := beq_eq_false_iff_ne.mpr c38
     have c38b1 : (t443 != t431) = true := bne_iff_ne.mpr c38
     (first | rw [c38b0] | (simp only [i64_w, i32_w]; rw [c38b0]) | skip)
     have H' := aM H
     clear H
     go_wp2
     go_meet
     case rel => exact ⟨_, (true), (by first | rfl | (simp; done) | (simp [*]; done)), H', ⟨by first | omega | exact Nat.le_refl _⟩, ⟨by (with_reducible repeat (first | apply Kd.R_alloc | apply Kd.R_drewN | apply Kd.R_drew)); exact Kd.R_mono HO442.out (fun _ hk => trivial)⟩, ⟨by (with_reducible repeat (first | apply Kd.R_alloc | apply Kd.R_drewN | apply Kd.R_drew)); exact Kd.R_mono HO435.out (fun _ hk => trivial)⟩, ⟨by (with_reducible repeat (first | apply Kd.S_alloc | apply Kd.S_drewN | apply Kd.S_drew)); exact Kd.S_mono HO438.out (fun _ hk => hk.2)⟩, ⟨by (with_reducible repeat (first | refine blk_drewN ?_ _ | refine blk_drew ?_ | refine blk_alloc ?_ _)); exact BK420.out⟩, ⟨by (with_reducible repeat (first | refine blk_drewN ?_ _ | refine blk_drew ?_ | refine blk_alloc ?_ _)); exact BK439.out⟩, ⟨by repeat (first | (with_reducible first | exact HB.out | apply below_alloc | apply pw_below_drewN | apply below_drew1 | refine below_set ?_ GE420.out | refine below_set ?_ GE439.out) | exact HB.out)⟩⟩
   case rest =>
    clear HC16
    try clear c1
    try clear p2
    try clear c3
    try clear c3b0
    try clear c3b1
    try clear c4
    try clear c6
    try clear c6b0
    try clear c10
    try clear c15
    try clear c17
    try clear c18
    try clear c31
    try clear c38
    try clear c38b0
    try clear c38b1
    try clear hcz18_0
    try clear hcz18_1
    try clear hcz20_0
    try clear hcz20_1
    try clear hcz27_0
    try clear hcz27_1
    try clear hcz32_0
    try clear hcz32_1
    try clear hcz35_0
    try clear hcz35_1
    try clear hcz8_0
    try clear hcz8_1
    try clear hfz18_0
    try clear hfz18_1
    try clear hfz20_0
    try clear hfz20_1
    try clear hfz27_0
    try clear hfz27_1
    try clear hfz32_0
    try clear hfz32_1
    try clear hfz35_0
    try clear hfz35_1
    try clear hfz8_0
    try clear hfz8_1
    obtain ⟨kq, x45_15, rfl, HA, HJ15, HO_9, HO_440000, HO_440001, BK420, BK439, HB⟩ := hcut
    cases kq with
    | zero => exact absurd HA.out (by simp [laws_FnExactRepairRank.j0])
    | succ kj15 =>
     have H := HA.out
     clear HA
     simp only [laws_FnExactRepairRank.j0] at H
     by_cases c39 : x45_15 = true
     ·subst c39
      have H1 : (some false) = some r := by rw [if_pos rfl] at H; exact H
      clear H
      have H := H1
      clear H1
      exact absurd (Option.some.inj (H.trans (congrArg some HRT_.out))) (by decide)
     ·replace c39 := Bool.eq_false_iff.mpr c39
      subst c39
      have H1 : ((laws_toDatabase.f kj15 l0_0 l0_1).bind fun bt445 => ((laws_eqDatabase.f kj15 t433 t436 bt445.1 bt445.2).bind fun t451 => (if t451 = true then ((laws_toIntS.f kj15 l1).bind fun t452 => ((laws_eqIntS.f kj15 t440 t452).bind fun t455 => (if t455 = true then (some true) else (some false)))) else (some false)))) = some r := by rw [if_neg (show ¬ (false = true) by decide)] at H; exact H
      clear H
      have H := H1
      clear H1
      replace H := Option.bind_eq_some_iff.mp H
      obtain ⟨⟨t445, t448⟩, A400, H⟩ := H
      replace H : ((laws_eqDatabase.f kj15 t433 t436 t445 t448).bind fun t451 => (if t451 = true then ((laws_toIntS.f kj15 l1).bind fun t452 => ((laws_eqIntS.f kj15 t440 t452).bind fun t455 => (if t455 = true then (some true) else (some false)))) else (some false))) = some r := H
      have A40 := aM A400
      clear A400
      replace H := Option.bind_eq_some_iff.mp H
      obtain ⟨t451, A410, H⟩ := H
      replace H : (if t451 = true then ((laws_toIntS.f kj15 l1).bind fun t452 => ((laws_eqIntS.f kj15 t440 t452).bind fun t455 => (if t455 = true then (some true) else (some false)))) else (some false)) = some r := H
      have A41 := aM A410
      clear A410
      by_cases c42 : t451 = true
      ·subst c42
       have H1 : ((laws_toIntS.f kj15 l1).bind fun t452 => ((laws_eqIntS.f kj15 t440 t452).bind fun t455 => (if t455 = true then (some true) else (some false)))) = some r := by rw [if_pos rfl] at H; exact H
       clear H
       have H := H1
       clear H1
       replace H := Option.bind_eq_some_iff.mp H
       obtain ⟨t452, A430, H⟩ := H
       replace H : ((laws_eqIntS.f kj15 t440 t452).bind fun t455 => (if t455 = true then (some true) else (some false))) = some r := H
       have A43 := aM A430
       clear A430
       replace H := Option.bind_eq_some_iff.mp H
       obtain ⟨t455, A440, H⟩ := H
       replace H : (if t455 = true then (some true) else (some false)) = some r := H
       have A44 := aM A440
       clear A440
       by_cases c45 : t455 = true
       ·subst c45
        have H1 : (some true) = some r := by rw [if_pos rfl] at H; exact H
        clear H
        have H := H1
        clear H1
        obtain rfl := Option.some.inj H
        try go_wp2
        have n0_ := aM (Kd.R_drew HO_9.out)
        have n1_ := aM (Kd.R_drew HO_440000.out)
        have n2_ := aM (Kd.S_drew HO_440001.out)
        have n3_ := aM (blk_drew BK420.out)
        have n4_ := aM (blk_drew BK439.out)
        have n5_ := aM (below_drew1 HB.out)
        clear HO_9
        clear HO_440000
        clear HO_440001
        clear BK420
        clear BK439
        clear HB
        have HO_9 := n0_
        have HO_440000 := n1_
        have HO_440001 := n2_
        have BK420 := n3_
        have BK439 := n4_
        have HB := n5_
        clear n0_ n1_ n2_ n3_ n4_ n5_
        refine start_ (n := 5) (S := fun w' => w'.cell? ⟨gb439, 0, none⟩ = some (.slice Ao30 t433.length co30) ∧ w'.cell? ⟨gb439, 1, none⟩ = some (.slice Ao33 t436.length co33) ∧ w'.cell? ⟨gb420, 0, none⟩ = some (.slice A0_0 l0_0.length c0_0) ∧ w'.cell? ⟨gb420, 1, none⟩ = some (.slice A0_1 l0_1.length c0_1)) (ds := []) #[false, false, false, false, false] (by kernel_rfl) rfl rfl ⟨(blk_cell BK439.out 0).trans rfl, (blk_cell BK439.out 1).trans rfl, (blk_cell BK420.out 0).trans rfl, (blk_cell BK420.out 1).trans rfl⟩ (fun hHeld => ?_)
        generalize wc.drew = w46 at HO_9 HO_440000 HO_440001 BK420 BK439 HB hHeld ⊢
        refine take_ (i := 0) (N := some 46) (v := ?_) (a' := ?_) #[true, false, false, false, false] rfl rfl (by kernel_rfl) (fun _ _ _ h => h) (Or.inl ⟨by rfl, ?_⟩) hHeld ?_ ?_
        rotate_left
        ·rintro w' ⟨s0, s1, s2, s3⟩
         go_simp
         with_reducible rfl
        rotate_left
        ·exact aP
        refine take_ (i := 1) (N := some 47) (v := ?_) (a' := ?_) #[true, true, false, false, false] rfl rfl (by kernel_rfl) (fun _ _ _ h => h) (Or.inl ⟨by rfl, ?_⟩) hHeld ?_ ?_
        rotate_left
        ·rintro w' ⟨s0, s1, s2, s3⟩
         go_simp
         with_reducible rfl
        rotate_left
        ·exact aP
        refine one_ (i := 2) (N := some 48) #[true, true, true, false, false] rfl rfl (by kernel_rfl) (by decide) (fun K hK => ?_)
        refine goes_ Try.func17 (by kernel_rfl) rfl #[.agg #[.slice A0_0 l0_0.length c0_0, .slice A0_1 l0_1.length c0_1]] (by rfl) rfl rfl (by (try simp only [List.map_toArray, List.map_cons, List.map_nil]); first | done | rfl | (simp only [List.length_drop, List.length_take]; rfl)) ?_
        with_reducible refine (laws_toDatabase.calls kj15 _ _ l0_0 _ _ l0_1 t445 t448 _ ?side1 ?side2 ?side3 ?side4 A40.out).mono ?_
        (case side1 => exact aC)
        (case side2 => exact HC0_0.out)
        (case side3 => exact aC)
        (case side4 => exact HC0_1.out)
        rintro e w47 ⟨v446, v449, rfl, ho0, ho1, hb⟩
        refine ⟨_, rfl, ?_⟩
        have n0_ := aM (Kd.R_below (aR HO_9) hb)
        have n1_ := aM (Kd.R_elder' (aR HO_440000) (Kd.R_base ho0) hb)
        have n2_ := aM (Kd.S_elder' (aS HO_440001) (Kd.S_base ho1) hb)
        have n3_ := aM (Kd.R_lower (Kd.R_new' ho0 (Kd.R_lt (aR HO_440000))) (below_size aG))
        have n4_ := aM (Kd.S_lower (Kd.S_new' (Kd.S_new' ho1 (Kd.R_lt (aR HO_9))) (Kd.S_lt (aS HO_440001))) (below_size aG))
        have n5_ := aM (blk_below (g := gb420) (o := .cells #[.slice A0_0 l0_0.length c0_0, .slice A0_1 l0_1.length c0_1] 25 (0, 0)) aK hb)
        have n6_ := aM (blk_below (g := gb439) (o := .cells #[.slice Ao30 t433.length co30, .slice Ao33 t436.length co33] 32 (0, 0)) aK hb)
        have n7_ := aM (below_step aG hb)
        clear HO_9
        clear HO_440000
        clear HO_440001
        clear BK420
        clear BK439
        clear HB
        have HO_9 := n0_
        have HO_440000 := n1_
        have HO_440001 := n2_
        have HO447 := n3_
        have HO450 := n4_
        have BK420 := n5_
        have BK439 := n6_
        have HB := n7_
        clear n0_ n1_ n2_ n3_ n4_ n5_ n6_ n7_
        (try clear hb)
        (try clear hb2)
        (try clear hk)
        (try clear hi)
        (try clear ho0)
        (try clear ho1)
        obtain ⟨Ao48, co48, eo48⟩ := Kd.R_slice HO447.out
        (first | subst eo48 | (injection eo48 with f1_ f2_ f3_; have f4_ := f1_.symm; have f5_ := f3_.symm; clear f1_ f2_ f3_; subst f4_; subst f5_))
        obtain ⟨Ao49, co49, eo49⟩ := Kd.S_slice HO450.out
        (first | subst eo49 | (injection eo49 with f1_ f2_ f3_; have f4_ := f1_.symm; have f5_ := f3_.symm; clear f1_ f2_ f3_; subst f4_; subst f5_))
        refine hK.out _ _ ⟨(blk_cell BK439.out 0).trans rfl, (blk_cell BK439.out 1).trans rfl, (blk_cell BK420.out 0).trans rfl, (blk_cell BK420.out 1).trans rfl⟩ (fun hHeld => ?_)
        clear hK K
        refine norm_ (a' := ?_) ?_ ?_
        rotate_left
        ·show Act.put _ (some 48) _ = _
         simp only [Act.put, List.setIfInBounds_toArray, List.set_cons_zero, List.set_cons_succ, i64_w, i32_w]
         rfl
        refine one_ (i := 3) (N := some 49) #[true, true, true, true, false] rfl rfl (by kernel_rfl) (by decide) (fun K hK => ?_)
        refine goes_ Try.func20 (by kernel_rfl) rfl #[.agg #[.slice Ao30 t433.length co30, .slice Ao33 t436.length co33], .agg #[.slice Ao48 t445.length co48, .slice Ao49 t448.length co49]] (by rfl) rfl rfl (by (try simp only [List.map_toArray, List.map_cons, List.map_nil]); first | done | rfl | (simp only [List.length_drop, List.length_take]; rfl)) ?_
        with_reducible refine (laws_eqDatabase.calls kj15 _ _ t433 _ _ t436 _ _ t445 _ _ t448 true _ ?side1 ?side2 ?side3 ?side4 ?side5 ?side6 ?side7 ?side8 A41.out).mono ?_
        (case side1 => repeat (first | exact (Kd.R_reads' HO_440000.out).2.2 | (with_reducible refine Kd.C_alloc ?_ _) | (with_reducible refine Kd.C_drewN ?_ _) | (with_reducible refine Kd.C_drew ?_)))
        (case side2 => exact (Kd.R_reads' HO_440000.out).2.1)
        (case side3 => repeat (first | exact (Kd.S_reads' HO_440001.out).2.2 | (with_reducible refine Kd.C_alloc ?_ _) | (with_reducible refine Kd.C_drewN ?_ _) | (with_reducible refine Kd.C_drew ?_)))
        (case side4 => exact (Kd.S_reads' HO_440001.out).2.1)
        (case side5 => repeat (first | exact (Kd.R_reads' HO447.out).2.2 | (with_reducible refine Kd.C_alloc ?_ _) | (with_reducible refine Kd.C_drewN ?_ _) | (with_reducible refine Kd.C_drew ?_)))
        (case side6 => exact (Kd.R_reads' HO447.out).2.1)
        (case side7 => repeat (first | exact (Kd.S_reads' HO450.out).2.2 | (with_reducible refine Kd.C_alloc ?_ _) | (with_reducible refine Kd.C_drewN ?_ _) | (with_reducible refine Kd.C_drew ?_)))
        (case side8 => exact (Kd.S_reads' HO450.out).2.1)
        rintro e w50 ⟨rfl, hb⟩
        refine ⟨_, rfl, ?_⟩
        have n0_ := aM (Kd.R_below (aR HO_9) hb)
        have n1_ := aM (Kd.R_below (aR HO_440000) hb)
        have n2_ := aM (Kd.S_below (aS HO_440001) hb)
        have n3_ := aM (Kd.R_below (aR HO447) hb)
        have n4_ := aM (Kd.S_below (aS HO450) hb)
        have n5_ := aM (blk_below (g := gb420) (o := .cells #[.slice A0_0 l0_0.length c0_0, .slice A0_1 l0_1.length c0_1] 25 (0, 0)) aK hb)
        have n6_ := aM (blk_below (g := gb439) (o := .cells #[.slice Ao30 t433.length co30, .slice Ao33 t436.length co33] 32 (0, 0)) aK hb)
        have n7_ := aM (below_step aG hb)
        clear HO_9
        clear HO_440000
        clear HO_440001
        clear HO447
        clear HO450
        clear BK420
        clear BK439
        clear HB
        have HO_9 := n0_
        have HO_440000 := n1_
        have HO_440001 := n2_
        have HO447 := n3_
        have HO450 := n4_
        have BK420 := n5_
        have BK439 := n6_
        have HB := n7_
        clear n0_ n1_ n2_ n3_ n4_ n5_ n6_ n7_
        (try clear hb)
        (try clear hb2)
        (try clear hk)
        (try clear hi)
        refine hK.out _ _ ⟨(blk_cell BK439.out 0).trans rfl, (blk_cell BK439.out 1).trans rfl, (blk_cell BK420.out 0).trans rfl, (blk_cell BK420.out 1).trans rfl⟩ (fun hHeld => ?_)
        clear hK K
        refine norm_ (a' := ?_) ?_ ?_
        rotate_left
        ·show Act.put _ (some 49) _ = _
         simp only [Act.put, List.setIfInBounds_toArray, List.set_cons_zero, List.set_cons_succ, i64_w, i32_w]
         rfl
        refine pure_ (i := 4) (N := some 50) (v := ?_) (a' := ?_) #[true, true, true, true, true] rfl rfl (by kernel_rfl) (fun _ _ _ h => h) (Or.inl ⟨by rfl, ?_⟩) ?_ ?_
        rotate_left
        ·exact aI
        rotate_left
        ·exact aP
        refine done_ (by kernel_rfl) ?_
        try go_wp2_with (first | ((with_reducible refine gate_callee (f := 18) rfl ?_); refine goesL_ (some 53) rfl rfl Try.func18 (by kernel_rfl) rfl #[.slice A1 l1.length c1] rfl (by (try simp only [List.map_toArray, List.map_cons, List.map_nil]); first | done | rfl | (simp only [List.length_drop, List.length_take]; rfl)) ?_; (with_reducible refine (laws_toIntS.calls kj15 _ _ l1 t452 _ ?side1 ?side2 A43.out).mono ?_); (case side1 => exact aC); (case side2 => exact HC1.out); rintro e w51 ⟨v453, rfl, ho0, hb⟩; refine ⟨_, rfl, ?_⟩; have n0_ := aM (Kd.R_elder' (aR HO_9) (Kd.R_base ho0) hb); have n1_ := aM (Kd.R_below (aR HO_440000) hb); have n2_ := aM (Kd.S_elder' (aS HO_440001) (Kd.R_base ho0) hb); have n3_ := aM (Kd.R_below (aR HO447) hb); have n4_ := aM (Kd.S_elder' (aS HO450) (Kd.R_base ho0) hb); have n5_ := aM (Kd.R_lower (Kd.R_new' ho0 (Kd.R_lt (aR HO_9))) (below_size aG)); have n6_ := aM (blk_below (g := gb420) (o := .cells #[.slice A0_0 l0_0.length c0_0, .slice A0_1 l0_1.length c0_1] 25 (0, 0)) aK hb); have n7_ := aM (blk_below (g := gb439) (o := .cells #[.slice Ao30 t433.length co30, .slice Ao33 t436.length co33] 32 (0, 0)) aK hb); have n8_ := aM (below_step aG hb); clear HO_9; clear HO_440000; clear HO_440001; clear HO447; clear HO450; clear BK420; clear BK439; clear HB; have HO_9 := n0_; have HO_440000 := n1_; have HO_440001 := n2_; have HO447 := n3_; have HO450 := n4_; have HO454 := n5_; have BK420 := n6_; have BK439 := n7_; have HB := n8_; clear n0_ n1_ n2_ n3_ n4_ n5_ n6_ n7_ n8_; (try clear hb); (try clear hb2); (try clear hk); (try clear hi); (try clear ho0); obtain ⟨Ao52, co52, eo52⟩ := Kd.R_slice HO454.out; subst eo52) | ((with_reducible refine gate_callee (f := 21) rfl ?_); refine goesL_ (some 54) rfl rfl Try.func21 (by kernel_rfl) rfl #[.slice Ao36 t440.length co36, .slice Ao52 t452.length co52] rfl (by (try simp only [List.map_toArray, List.map_cons, List.map_nil]); first | done | rfl | (simp only [List.length_drop, List.length_take]; rfl)) ?_; (with_reducible refine (laws_eqIntS.calls kj15 _ _ t440 _ _ t452 true _ ?side1 ?side2 ?side3 ?side4 A44.out).mono ?_); (case side1 => repeat (first | exact (Kd.R_reads' HO_9.out).2.2 | (with_reducible refine Kd.C_alloc ?_ _) | (with_reducible refine Kd.C_drewN ?_ _) | (with_reducible refine Kd.C_drew ?_))); (case side2 => exact (Kd.R_reads' HO_9.out).2.1); (case side3 => repeat (first | exact (Kd.R_reads' HO454.out).2.2 | (with_reducible refine Kd.C_alloc ?_ _) | (with_reducible refine Kd.C_drewN ?_ _) | (with_reducible refine Kd.C_drew ?_))); (case side4 => exact (Kd.R_reads' HO454.out).2.1); rintro e w' ⟨rfl, ⟨nd, rfl⟩⟩; refine ⟨_, rfl, ?_⟩))
        go_ret
        exact ⟨by first | rfl | (simp [errW_none, errW_some] <;> rfl) | (simp [*, errW_none, errW_some] <;> rfl), by repeat (first | (with_reducible first | exact HB.out | apply below_alloc | apply pw_below_drewN | apply below_drew1 | refine below_set ?_ GE420.out | refine below_set ?_ GE439.out) | exact HB.out)⟩
       ·replace c45 := Bool.eq_false_iff.mpr c45
        subst c45
        have H1 : (some false) = some r := by rw [if_neg (show ¬ (false = true) by decide)] at H; exact H
        clear H
        have H := H1
        clear H1
        exact absurd (Option.some.inj (H.trans (congrArg some HRT_.out))) (by decide)
      ·replace c42 := Bool.eq_false_iff.mpr c42
       subst c42
       have H1 : (some false) = some r := by rw [if_neg (show ¬ (false = true) by decide)] at H; exact H
       clear H
       have H := H1
       clear H1
       exact absurd (Option.some.inj (H.trans (congrArg some HRT_.out))) (by decide)

end Go.Proofs.Ytehlhbidmanbmaa.PFnExactRepairRank
