-- Laid by a program of this claim: what the functions come to, some of them proved by hand.
import Derived.Test.YtckpikfbhlhhjaaDoorPFnExactFormatDatabasex0
import Derived.Test.YtckpikfbhlhhjaaDoorPFnExactFormatDatabasex1
import Derived.Test.YtckpikfbhlhhjaaDoorPFnExactFormatDatabasex2
import Derived.Test.YtckpikfbhlhhjaaDoorPFnExactFormatDatabasex3
import Derived.Test.YtckpikfbhlhhjaaDoorPFnExactFormatDatabasex5
namespace Go.Proofs.YtckpikfbhlhhjaaDoor.PFnExactFormatDatabase
open Go.RowKit Go.Proofs.YtckpikfbhlhhjaaDoorW.PrintWords Go.Proofs.YtckpikfbhlhhjaaDoorW.PrintLast Go.Proofs.YtckpikfbhlhhjaaDoorW.PrintMore
attribute [local go_sem] max2_int min2_int max_two min_two max_three min_three max_four min_four   -- for this text's walks alone
set_option linter.unusedVariables false
set_option linter.unusedSimpArgs false

/-! ### laws_FnExactFormatDatabase: function 3 -/
def laws_FnExactFormatDatabase.f (k : Nat) (l0_0 : List (S98)) (l0_1 : List (S100)) : Option (Bool) := (laws_szDatabase.f k l0_0 l0_1 1048576).bind fun t319 => (if t319 < 0 then (some true) else ((laws_toDatabase.f k l0_0 l0_1).bind fun bt320 => ((spec_FormatDatabase.f k bt320.1 bt320.2).bind fun t326 => ((laws_toDatabase.f k l0_0 l0_1).bind fun bt327 => ((impl_FormatDatabase.f k bt327.1 bt327.2).bind fun t334 => (if t334.toList = t326.toList then ((laws_toDatabase.f k l0_0 l0_1).bind fun bt335 => ((laws_eqDatabase.f k bt327.1 bt327.2 bt335.1 bt335.2).bind fun t341 => (if t341 = true then (some true) else (some false)))) else (some false)))))))
set_option maxHeartbeats 8000000 in
set_option maxRecDepth 100000 in
theorem laws_FnExactFormatDatabase.calls (k : Nat) (A0_0 : Option Addr) (c0_0 : Nat) (l0_0 : List (S98)) (A0_1 : Option Addr) (c0_1 : Nat) (l0_1 : List (S100)) (r : Bool) (w : World) (hr0_0 : Kd.C k98 w A0_0 l0_0.length l0_0) (hc0_0 : l0_0.length ≤ c0_0) (hr0_1 : Kd.C k100 w A0_1 l0_1.length l0_1) (hc0_1 : l0_1.length ≤ c0_1) (h : laws_FnExactFormatDatabase.f k l0_0 l0_1 = some r) (hr_ : r = true) (hp_ : Go.Proofs.YtckpikfbhlhhjaaDoor.Shelf.Pow w) :
  Calls Tryd.prog 3 #[.agg #[.slice A0_0 l0_0.length c0_0, .slice A0_1 l0_1.length c0_1]] w fun e w' => e = .returned (.bool r) ∧ Below w.heap.size w w' := by
 have HRT_ := aM hr_
 clear hr_
 have hu25 := Tryd.underlying25
 have hu31 := Tryd.underlying31
 have HR0_0 := aM hr0_0
 have HC0_0 := aM hc0_0
 clear hr0_0 hc0_0
 have HR0_1 := aM hr0_1
 have HC0_1 := aM hc0_1
 clear hr0_1 hc0_1
 have HB := aM (Below.refl w.heap.size w)
 have H : ((laws_szDatabase.f k l0_0 l0_1 1048576).bind fun t319 => (if t319 < 0 then (some true) else ((laws_toDatabase.f k l0_0 l0_1).bind fun bt320 => ((spec_FormatDatabase.f k bt320.1 bt320.2).bind fun t326 => ((laws_toDatabase.f k l0_0 l0_1).bind fun bt327 => ((impl_FormatDatabase.f k bt327.1 bt327.2).bind fun t334 => (if t334.toList = t326.toList then ((laws_toDatabase.f k l0_0 l0_1).bind fun bt335 => ((laws_eqDatabase.f k bt327.1 bt327.2 bt335.1 bt335.2).bind fun t341 => (if t341 = true then (some true) else (some false)))) else (some false)))))))) = some r := h
 clear h
 replace H := Option.bind_eq_some_iff.mp H
 obtain ⟨t319, A20, H⟩ := H
 replace H : (if t319 < 0 then (some true) else ((laws_toDatabase.f k l0_0 l0_1).bind fun bt320 => ((spec_FormatDatabase.f k bt320.1 bt320.2).bind fun t326 => ((laws_toDatabase.f k l0_0 l0_1).bind fun bt327 => ((impl_FormatDatabase.f k bt327.1 bt327.2).bind fun t334 => (if t334.toList = t326.toList then ((laws_toDatabase.f k l0_0 l0_1).bind fun bt335 => ((laws_eqDatabase.f k bt327.1 bt327.2 bt335.1 bt335.2).bind fun t341 => (if t341 = true then (some true) else (some false)))) else (some false))))))) = some r := H
 have A2 := aM A20
 clear A20
 by_cases c3 : t319 < 0
 ·rw [if_pos c3] at H
  have c3b0 : decide (t319 < 0) = true := decide_eq_true c3
  clear c3
  obtain rfl := Option.some.inj H
  go_enter Tryd.func3, Tryd.ntmps3
  go_wp2_with (first | ((with_reducible refine gate_dst (N := 1) rfl ?_); refine box_event ?hg (N := 1) ?hd (cs := #[.slice A0_0 l0_0.length c0_0, .slice A0_1 l0_1.length c0_1]) (t := 25) ?hr ?_; (case hd => rfl); (case hg => rfl); (case hr => first | (go_simp; done) | (go_simp; rfl)); intro gb318 hg w4 hbox hb; have n0_ := aM (below_step aB hb); have n1_ := aM (hbox); have n2_ := aM ((by rw [hg]; exact (below_size aB) : w.heap.size ≤ gb318)); have n3_ := aM ((by rw [hg]; exact (below_size aB) : w.heap.size ≤ gb318)); clear HB; have HB := n0_; have BK318 := n1_; have GW318 := n2_; have GE318 := n3_; clear n0_ n1_ n2_ n3_; clear hb hbox hg; have hcz5_0 : w4.cell? ⟨gb318, 0, none⟩ = some (.slice A0_0 l0_0.length c0_0) := (blk_cell BK318.out 0).trans rfl; have hcz5_1 : w4.cell? ⟨gb318, 1, none⟩ = some (.slice A0_1 l0_1.length c0_1) := (blk_cell BK318.out 1).trans rfl; have hfz5_0 := blk_frozen BK318.out 0; have hfz5_1 := blk_frozen BK318.out 1) | ((with_reducible refine gate_callee (f := 7) rfl ?_); refine goesL_ (some 9) rfl rfl Tryd.func7 (by kernel_rfl) rfl #[.agg #[.slice A0_0 l0_0.length c0_0, .slice A0_1 l0_1.length c0_1], .int .i64 1048576] rfl (by (try simp only [List.map_toArray, List.map_cons, List.map_nil]); first | done | rfl | (simp only [List.length_drop, List.length_take]; rfl)) ?_; (with_reducible refine (laws_szDatabase.calls k _ _ l0_0 _ _ l0_1 1048576 t319 _ ?side1 ?side2 ?side3 ?side4 A2.out).mono ?_); (case side1 => exact aC); (case side2 => exact HC0_0.out); (case side3 => exact aC); (case side4 => exact HC0_1.out); rintro e w6 ⟨rfl, hb⟩; refine ⟨_, rfl, ?_⟩; have n0_ := aM (blk_below (g := gb318) (o := .cells #[.slice A0_0 l0_0.length c0_0, .slice A0_1 l0_1.length c0_1] 25 (0, 0)) aK hb); have n1_ := aM (below_step aG hb); clear BK318; clear HB; have BK318 := n0_; have HB := n1_; clear n0_ n1_; (try clear hb); (try clear hb2); (try clear hk); (try clear hi)))
  go_ret
  exact ⟨by first | rfl | (simp [errW_none, errW_some] <;> rfl) | (simp [*, errW_none, errW_some] <;> rfl), by repeat (first | (with_reducible first | exact HB.out | apply below_alloc | apply pw_below_drewN | apply below_drew1 | refine below_set ?_ GE318.out) | exact HB.out)⟩
 ·rw [if_neg c3] at H
  have c3b0 : decide (t319 < 0) = false := decide_eq_false c3
  clear c3
  replace H := Option.bind_eq_some_iff.mp H
  obtain ⟨⟨t320, t323⟩, A70, H⟩ := H
  replace H : ((spec_FormatDatabase.f k t320 t323).bind fun t326 => ((laws_toDatabase.f k l0_0 l0_1).bind fun bt327 => ((impl_FormatDatabase.f k bt327.1 bt327.2).bind fun t334 => (if t334.toList = t326.toList then ((laws_toDatabase.f k l0_0 l0_1).bind fun bt335 => ((laws_eqDatabase.f k bt327.1 bt327.2 bt335.1 bt335.2).bind fun t341 => (if t341 = true then (some true) else (some false)))) else (some false))))) = some r := H
  have A7 := aM A70
  clear A70
  replace H := Option.bind_eq_some_iff.mp H
  obtain ⟨t326, A80, H⟩ := H
  replace H : ((laws_toDatabase.f k l0_0 l0_1).bind fun bt327 => ((impl_FormatDatabase.f k bt327.1 bt327.2).bind fun t334 => (if t334.toList = t326.toList then ((laws_toDatabase.f k l0_0 l0_1).bind fun bt335 => ((laws_eqDatabase.f k bt327.1 bt327.2 bt335.1 bt335.2).bind fun t341 => (if t341 = true then (some true) else (some false)))) else (some false)))) = some r := H
  have A8 := aM A80
  clear A80
  replace H := Option.bind_eq_some_iff.mp H
  obtain ⟨⟨t327, t330⟩, A90, H⟩ := H
  replace H : ((impl_FormatDatabase.f k t327 t330).bind fun t334 => (if t334.toList = t326.toList then ((laws_toDatabase.f k l0_0 l0_1).bind fun bt335 => ((laws_eqDatabase.f k t327 t330 bt335.1 bt335.2).bind fun t341 => (if t341 = true then (some true) else (some false)))) else (some false))) = some r := H
  have A9 := aM A90
  clear A90
  replace H := Option.bind_eq_some_iff.mp H
  obtain ⟨t334, A100, H⟩ := H
  replace H : (if t334.toList = t326.toList then ((laws_toDatabase.f k l0_0 l0_1).bind fun bt335 => ((laws_eqDatabase.f k t327 t330 bt335.1 bt335.2).bind fun t341 => (if t341 = true then (some true) else (some false)))) else (some false)) = some r := H
  have A10 := aM A100
  clear A100
  by_cases c11 : t334.toList = t326.toList
  ·rw [if_pos c11] at H
   have c11b0 : (t334.toList == t326.toList) = true := beq_iff_eq.mpr c11
   have c11b1 : (t334.toList != t326.toList) = false := bne_eq_false_iff_eq.mpr c11
   clear c11
   replace H := Option.bind_eq_some_iff.mp H
   obtain ⟨⟨t335, t338⟩, A120, H⟩ := H
   replace H : ((laws_eqDatabase.f k t327 t330 t335 t338).bind fun t341 => (if t341 = true then (some true) else (some false))) = some r := H
   have A12 := aM A120
   clear A120
   replace H := Option.bind_eq_some_iff.mp H
   obtain ⟨t341, A130, H⟩ := H
   replace H : (if t341 = true then (some true) else (some false)) = some r := H
   have A13 := aM A130
   clear A130
   by_cases c14 : t341 = true
   ·subst c14
    have H1 : (some true) = some r := by rw [if_pos rfl] at H; exact H
    clear H
    have H := H1
    clear H1
    obtain rfl := Option.some.inj H
    go_enter Tryd.func3, Tryd.ntmps3
    try go_wp2_with (first | ((with_reducible refine gate_dst (N := 1) rfl ?_); refine box_event ?hg (N := 1) ?hd (cs := #[.slice A0_0 l0_0.length c0_0, .slice A0_1 l0_1.length c0_1]) (t := 25) ?hr ?_; (case hd => rfl); (case hg => rfl); (case hr => first | (go_simp; done) | (go_simp; rfl)); intro gb318 hg w15 hbox hb; have n0_ := aM (below_step aB hb); have n1_ := aM (hbox); have n2_ := aM ((by rw [hg]; exact (below_size aB) : w.heap.size ≤ gb318)); have n3_ := aM ((by rw [hg]; exact (below_size aB) : w.heap.size ≤ gb318)); clear HB; have HB := n0_; have BK318 := n1_; have GW318 := n2_; have GE318 := n3_; clear n0_ n1_ n2_ n3_; clear hb hbox hg; have hcz16_0 : w15.cell? ⟨gb318, 0, none⟩ = some (.slice A0_0 l0_0.length c0_0) := (blk_cell BK318.out 0).trans rfl; have hcz16_1 : w15.cell? ⟨gb318, 1, none⟩ = some (.slice A0_1 l0_1.length c0_1) := (blk_cell BK318.out 1).trans rfl; have hfz16_0 := blk_frozen BK318.out 0; have hfz16_1 := blk_frozen BK318.out 1) | ((with_reducible refine gate_callee (f := 7) rfl ?_); refine goesL_ (some 9) rfl rfl Tryd.func7 (by kernel_rfl) rfl #[.agg #[.slice A0_0 l0_0.length c0_0, .slice A0_1 l0_1.length c0_1], .int .i64 1048576] rfl (by (try simp only [List.map_toArray, List.map_cons, List.map_nil]); first | done | rfl | (simp only [List.length_drop, List.length_take]; rfl)) ?_; (with_reducible refine (laws_szDatabase.calls k _ _ l0_0 _ _ l0_1 1048576 t319 _ ?side1 ?side2 ?side3 ?side4 A2.out).mono ?_); (case side1 => exact aC); (case side2 => exact HC0_0.out); (case side3 => exact aC); (case side4 => exact HC0_1.out); rintro e w17 ⟨rfl, hb⟩; refine ⟨_, rfl, ?_⟩; have n0_ := aM (blk_below (g := gb318) (o := .cells #[.slice A0_0 l0_0.length c0_0, .slice A0_1 l0_1.length c0_1] 25 (0, 0)) aK hb); have n1_ := aM (below_step aG hb); clear BK318; clear HB; have BK318 := n0_; have HB := n1_; clear n0_ n1_; (try clear hb); (try clear hb2); (try clear hk); (try clear hi); have hcz18_0 : w17.cell? ⟨gb318, 0, none⟩ = some (.slice A0_0 l0_0.length c0_0) := (blk_cell BK318.out 0).trans rfl; have hcz18_1 : w17.cell? ⟨gb318, 1, none⟩ = some (.slice A0_1 l0_1.length c0_1) := (blk_cell BK318.out 1).trans rfl; have hfz18_0 := blk_frozen BK318.out 0; have hfz18_1 := blk_frozen BK318.out 1) | ((with_reducible refine gate_callee (f := 9) rfl ?_); refine goesL_ (some 13) rfl rfl Tryd.func9 (by kernel_rfl) rfl #[.agg #[.slice A0_0 l0_0.length c0_0, .slice A0_1 l0_1.length c0_1]] rfl (by (try simp only [List.map_toArray, List.map_cons, List.map_nil]); first | done | rfl | (simp only [List.length_drop, List.length_take]; rfl)) ?_; (with_reducible refine (laws_toDatabase.calls k _ _ l0_0 _ _ l0_1 t320 t323 _ ?side1 ?side2 ?side3 ?side4 A7.out).mono ?_); (case side1 => exact aC); (case side2 => exact HC0_0.out); (case side3 => exact aC); (case side4 => exact HC0_1.out); rintro e w19 ⟨v321, v324, rfl, ho0, ho1, hb⟩; refine ⟨_, rfl, ?_⟩; have n0_ := aM (Kd.R_lower ho0 (below_size aG)); have n1_ := aM (Kd.S_lower ho1 (below_size aG)); have n2_ := aM (blk_below (g := gb318) (o := .cells #[.slice A0_0 l0_0.length c0_0, .slice A0_1 l0_1.length c0_1] 25 (0, 0)) aK hb); have n3_ := aM (below_step aG hb); clear BK318; clear HB; have HO322 := n0_; have HO325 := n1_; have BK318 := n2_; have HB := n3_; clear n0_ n1_ n2_ n3_; (try clear hb); (try clear hb2); (try clear hk); (try clear hi); (try clear ho0); (try clear ho1); obtain ⟨Ao20, co20, eo20⟩ := Kd.R_slice HO322.out; subst eo20; obtain ⟨Ao21, co21, eo21⟩ := Kd.S_slice HO325.out; subst eo21) | ((with_reducible refine gate_callee (f := 8) rfl ?_); refine goesL_ (some 14) rfl rfl Tryd.func8 (by kernel_rfl) rfl #[.agg #[.slice Ao20 t320.length co20, .slice Ao21 t323.length co21]] rfl (by (try simp only [List.map_toArray, List.map_cons, List.map_nil]); first | done | rfl | (simp only [List.length_drop, List.length_take]; rfl)) ?_; (with_reducible refine (spec_FormatDatabase.calls k _ _ t320 _ _ t323 t326 _ ?side1 ?side2 ?side3 ?side4 A8.out).mono ?_); (case side1 => repeat (first | exact (Kd.R_reads' HO322.out).2.2 | (with_reducible refine Kd.C_alloc ?_ _) | (with_reducible refine Kd.C_drewN ?_ _) | (with_reducible refine Kd.C_drew ?_))); (case side2 => exact (Kd.R_reads' HO322.out).2.1); (case side3 => repeat (first | exact (Kd.S_reads' HO325.out).2.2 | (with_reducible refine Kd.C_alloc ?_ _) | (with_reducible refine Kd.C_drewN ?_ _) | (with_reducible refine Kd.C_drew ?_))); (case side4 => exact (Kd.S_reads' HO325.out).2.1); rintro e w22 ⟨rfl, hb⟩; refine ⟨_, rfl, ?_⟩; have n0_ := aM (Kd.R_below (aR HO322) hb); have n1_ := aM (Kd.S_below (aS HO325) hb); have n2_ := aM (blk_below (g := gb318) (o := .cells #[.slice A0_0 l0_0.length c0_0, .slice A0_1 l0_1.length c0_1] 25 (0, 0)) aK hb); have n3_ := aM (below_step aG hb); clear HO322; clear HO325; clear BK318; clear HB; have HO322 := n0_; have HO325 := n1_; have BK318 := n2_; have HB := n3_; clear n0_ n1_ n2_ n3_; (try clear hb); (try clear hb2); (try clear hk); (try clear hi); have hcz23_0 : w22.cell? ⟨gb318, 0, none⟩ = some (.slice A0_0 l0_0.length c0_0) := (blk_cell BK318.out 0).trans rfl; have hcz23_1 : w22.cell? ⟨gb318, 1, none⟩ = some (.slice A0_1 l0_1.length c0_1) := (blk_cell BK318.out 1).trans rfl; have hfz23_0 := blk_frozen BK318.out 0; have hfz23_1 := blk_frozen BK318.out 1) | ((with_reducible refine gate_callee (f := 9) rfl ?_); refine goesL_ (some 16) rfl rfl Tryd.func9 (by kernel_rfl) rfl #[.agg #[.slice A0_0 l0_0.length c0_0, .slice A0_1 l0_1.length c0_1]] rfl (by (try simp only [List.map_toArray, List.map_cons, List.map_nil]); first | done | rfl | (simp only [List.length_drop, List.length_take]; rfl)) ?_; (with_reducible refine (laws_toDatabase.calls k _ _ l0_0 _ _ l0_1 t327 t330 _ ?side1 ?side2 ?side3 ?side4 A9.out).mono ?_); (case side1 => exact aC); (case side2 => exact HC0_0.out); (case side3 => exact aC); (case side4 => exact HC0_1.out); rintro e w24 ⟨v328, v331, rfl, ho0, ho1, hb⟩; refine ⟨_, rfl, ?_⟩; have n0_ := aM (Kd.R_elder' (aR HO322) (Kd.R_base ho0) hb); have n1_ := aM (Kd.S_elder' (aS HO325) (Kd.S_base ho1) hb); have n2_ := aM (Kd.R_lower (Kd.R_new' ho0 (Kd.R_lt (aR HO322))) (below_size aG)); have n3_ := aM (Kd.S_lower (Kd.S_new' ho1 (Kd.S_lt (aS HO325))) (below_size aG)); have n4_ := aM (blk_below (g := gb318) (o := .cells #[.slice A0_0 l0_0.length c0_0, .slice A0_1 l0_1.length c0_1] 25 (0, 0)) aK hb); have n5_ := aM (below_step aG hb); clear HO322; clear HO325; clear BK318; clear HB; have HO322 := n0_; have HO325 := n1_; have HO329 := n2_; have HO332 := n3_; have BK318 := n4_; have HB := n5_; clear n0_ n1_ n2_ n3_ n4_ n5_; (try clear hb); (try clear hb2); (try clear hk); (try clear hi); (try clear ho0); (try clear ho1)) | ((with_reducible refine gate_dst (N := 5) rfl ?_); refine box_event ?hg (N := 5) ?hd (cs := #[.slice none 0 0, .slice none 0 0]) (t := 31) ?hr ?_; (case hd => rfl); (case hg => rfl); (case hr => first | (go_simp; done) | (go_simp; rfl)); intro gb333 hg w25 hbox hb; have n0_ := aM (Kd.R_below (aR HO322) hb); have n1_ := aM (Kd.S_below (aS HO325) hb); have n2_ := aM (Kd.R_below (aR HO329) hb); have n3_ := aM (Kd.S_below (aS HO332) hb); have n4_ := aM (blk_below (g := gb318) (o := .cells #[.slice A0_0 l0_0.length c0_0, .slice A0_1 l0_1.length c0_1] 25 (0, 0)) aK hb); have n5_ := aM (below_step aG hb); have n6_ := aM (hbox); have n7_ := aM ((by rw [hg]; exact (below_size aG) : w.heap.size ≤ gb333)); have n8_ := aM ((by rw [hg]; exact (below_size aG) : w.heap.size ≤ gb333)); have n9_ := aM ((by rw [hg]; exact Nat.ne_of_lt (blk_lt (g := gb318) (o := .cells #[.slice A0_0 l0_0.length c0_0, .slice A0_1 l0_1.length c0_1] 25 (0, 0)) aK) : gb318 ≠ gb333)); have n10_ := aM ((by rw [hg]; exact Nat.ne_of_gt (blk_lt (g := gb318) (o := .cells #[.slice A0_0 l0_0.length c0_0, .slice A0_1 l0_1.length c0_1] 25 (0, 0)) aK) : gb333 ≠ gb318)); clear HO322; clear HO325; clear HO329; clear HO332; clear BK318; clear HB; have HO322 := n0_; have HO325 := n1_; have HO329 := n2_; have HO332 := n3_; have BK318 := n4_; have HB := n5_; have BK333 := n6_; have GW333 := n7_; have GE333 := n8_; have NB318_333 := n9_; have NB333_318 := n10_; clear n0_ n1_ n2_ n3_ n4_ n5_ n6_ n7_ n8_ n9_ n10_; clear hb hbox hg; obtain ⟨Ao26, co26, eo26⟩ := Kd.R_slice HO329.out; subst eo26; have hnb27 := NB333_318.out; have hnc27 := NB318_333.out; have hcz28_0 : w25.cell? ⟨gb333, 0, none⟩ = some (.slice none 0 0) := (blk_cell BK333.out 0).trans rfl; have hcz28_1 : w25.cell? ⟨gb333, 1, none⟩ = some (.slice none 0 0) := (blk_cell BK333.out 1).trans rfl; have hfz28_0 := blk_frozen BK333.out 0; have hfz28_1 := blk_frozen BK333.out 1; obtain ⟨Ao29, co29, eo29⟩ := Kd.S_slice HO332.out; subst eo29) | ((with_reducible refine gate_callee (f := 10) rfl ?_); refine goesL_ (some 18) rfl rfl Tryd.func10 (by kernel_rfl) rfl #[.agg #[.slice Ao26 t327.length co26, .slice Ao29 t330.length co29]] rfl (by (try simp only [List.map_toArray, List.map_cons, List.map_nil]); first | done | rfl | (simp only [List.length_drop, List.length_take]; rfl)) ?_; (with_reducible refine (impl_FormatDatabase.calls k _ _ t327 _ _ t330 t334 _ ?side1 ?side2 ?side3 ?side4 A10.out (hp_.on (by repeat (first | (with_reducible first | exact HB.out | apply below_alloc | apply pw_below_drewN | apply below_drew1 | refine below_set ?_ GE318.out | refine below_set ?_ GE333.out) | exact HB.out)))).mono ?_); (case side1 => refine (Kd.R_reads' (e := 68) (base := w.heap.size) (ok := fun k_ => (True ∧ some k_ ≠ (.slice Ao20 t320.length co20 : Value).ownBlock)) (n := t327.length) (c := co26) ?_).2.2; exact (by (with_reducible repeat (first | apply Kd.R_alloc | apply Kd.R_drewN | apply Kd.R_drew)); exact (Kd.R_mono (Kd.R_far (p := ⟨gb333, 1, none⟩) (Kd.R_far (p := ⟨gb333, 0, none⟩) (Kd.R_types HO329.out BK333.out (by decide)) (fun _ hk => hk.2) (.slice Ao26 t327.length co26)) (fun _ hk => hk.2) (.slice Ao29 t330.length co29)) (fun _ h_ => h_.1)))); (case side2 => exact (Kd.R_reads' HO329.out).2.1); (case side3 => refine (Kd.S_reads' (e := 39) (base := w.heap.size) (ok := fun k_ => (True ∧ some k_ ≠ (.slice Ao21 t323.length co21 : Value).ownBlock)) (n := t330.length) (c := co29) ?_).2.2; exact (by (with_reducible repeat (first | apply Kd.S_alloc | apply Kd.S_drewN | apply Kd.S_drew)); exact (Kd.S_mono (Kd.S_far (p := ⟨gb333, 1, none⟩) (Kd.S_far (p := ⟨gb333, 0, none⟩) (Kd.S_types HO332.out BK333.out (by decide)) (fun _ hk => hk.2) (.slice Ao26 t327.length co26)) (fun _ hk => hk.2) (.slice Ao29 t330.length co29)) (fun _ h_ => h_.1)))); (case side4 => exact (Kd.S_reads' HO332.out).2.1); rintro e w30 ⟨rfl, hb⟩; refine ⟨_, rfl, ?_⟩; have n0_ := aM (Kd.R_below (by (with_reducible repeat (first | apply Kd.R_alloc | apply Kd.R_drewN | apply Kd.R_drew)); exact (Kd.R_mono (Kd.R_far (p := ⟨gb333, 1, none⟩) (Kd.R_far (p := ⟨gb333, 0, none⟩) (Kd.R_types HO322.out BK333.out (by decide)) (fun _ hk => hk.2) (.slice Ao26 t327.length co26)) (fun _ hk => hk.2) (.slice Ao29 t330.length co29)) (fun _ h_ => h_.1))) hb); have n1_ := aM (Kd.S_below (by (with_reducible repeat (first | apply Kd.S_alloc | apply Kd.S_drewN | apply Kd.S_drew)); exact (Kd.S_mono (Kd.S_far (p := ⟨gb333, 1, none⟩) (Kd.S_far (p := ⟨gb333, 0, none⟩) (Kd.S_types HO325.out BK333.out (by decide)) (fun _ hk => hk.2) (.slice Ao26 t327.length co26)) (fun _ hk => hk.2) (.slice Ao29 t330.length co29)) (fun _ h_ => h_.1))) hb); have n2_ := aM (Kd.R_below (by (with_reducible repeat (first | apply Kd.R_alloc | apply Kd.R_drewN | apply Kd.R_drew)); exact (Kd.R_mono (Kd.R_far (p := ⟨gb333, 1, none⟩) (Kd.R_far (p := ⟨gb333, 0, none⟩) (Kd.R_types HO329.out BK333.out (by decide)) (fun _ hk => hk.2) (.slice Ao26 t327.length co26)) (fun _ hk => hk.2) (.slice Ao29 t330.length co29)) (fun _ h_ => h_.1))) hb); have n3_ := aM (Kd.S_below (by (with_reducible repeat (first | apply Kd.S_alloc | apply Kd.S_drewN | apply Kd.S_drew)); exact (Kd.S_mono (Kd.S_far (p := ⟨gb333, 1, none⟩) (Kd.S_far (p := ⟨gb333, 0, none⟩) (Kd.S_types HO332.out BK333.out (by decide)) (fun _ hk => hk.2) (.slice Ao26 t327.length co26)) (fun _ hk => hk.2) (.slice Ao29 t330.length co29)) (fun _ h_ => h_.1))) hb); have n4_ := aM (blk_below (g := gb318) (o := .cells #[.slice A0_0 l0_0.length c0_0, .slice A0_1 l0_1.length c0_1] 25 (0, 0)) (by (with_reducible repeat (first | refine blk_drewN ?_ _ | refine blk_drew ?_ | refine blk_alloc ?_ _)); refine blk_far ?_ NB318_333.out _; (with_reducible repeat (first | refine blk_drewN ?_ _ | refine blk_drew ?_ | refine blk_alloc ?_ _)); refine blk_far ?_ NB318_333.out _; (with_reducible repeat (first | refine blk_drewN ?_ _ | refine blk_drew ?_ | refine blk_alloc ?_ _)); exact BK318.out) hb); have n5_ := aM (blk_below (g := gb333) (o := .cells #[.slice Ao26 t327.length co26, .slice Ao29 t330.length co29] 31 (0, 0)) (by (with_reducible repeat (first | refine blk_drewN ?_ _ | refine blk_drew ?_ | refine blk_alloc ?_ _)); refine blk_put (cs := #[.slice Ao26 t327.length co26, .slice none 0 0]) ?_ 1 _ rfl; (with_reducible repeat (first | refine blk_drewN ?_ _ | refine blk_drew ?_ | refine blk_alloc ?_ _)); refine blk_put (cs := #[.slice none 0 0, .slice none 0 0]) ?_ 0 _ rfl; (with_reducible repeat (first | refine blk_drewN ?_ _ | refine blk_drew ?_ | refine blk_alloc ?_ _)); exact BK333.out) hb); have n6_ := aM (below_step aG hb); clear HO322; clear HO325; clear HO329; clear HO332; clear BK318; clear BK333; clear HB; have HO322 := n0_; have HO325 := n1_; have HO329 := n2_; have HO332 := n3_; have BK318 := n4_; have BK333 := n5_; have HB := n6_; clear n0_ n1_ n2_ n3_ n4_ n5_ n6_; (try clear hb); (try clear hb2); (try clear hk); (try clear hi)))
    have n0_ := aM (Kd.R_drew HO322.out)
    have n1_ := aM (Kd.S_drew HO325.out)
    have n2_ := aM (Kd.R_drew HO329.out)
    have n3_ := aM (Kd.S_drew HO332.out)
    have n4_ := aM (blk_drew BK318.out)
    have n5_ := aM (blk_drew BK333.out)
    have n6_ := aM (below_drew1 HB.out)
    clear HO322
    clear HO325
    clear HO329
    clear HO332
    clear BK318
    clear BK333
    clear HB
    have HO322 := n0_
    have HO325 := n1_
    have HO329 := n2_
    have HO332 := n3_
    have BK318 := n4_
    have BK333 := n5_
    have HB := n6_
    clear n0_ n1_ n2_ n3_ n4_ n5_ n6_
    refine start_ (n := 5) (S := fun w' => w'.cell? ⟨gb333, 0, none⟩ = some (.slice Ao26 t327.length co26) ∧ w'.cell? ⟨gb333, 1, none⟩ = some (.slice Ao29 t330.length co29) ∧ w'.cell? ⟨gb318, 0, none⟩ = some (.slice A0_0 l0_0.length c0_0) ∧ w'.cell? ⟨gb318, 1, none⟩ = some (.slice A0_1 l0_1.length c0_1)) (ds := []) #[false, false, false, false, false] (by kernel_rfl) rfl rfl ⟨(blk_cell BK333.out 0).trans rfl, (blk_cell BK333.out 1).trans rfl, (blk_cell BK318.out 0).trans rfl, (blk_cell BK318.out 1).trans rfl⟩ (fun hHeld => ?_)
    generalize w30.drew = w31 at HO322 HO325 HO329 HO332 BK318 BK333 HB hHeld ⊢
    refine take_ (i := 0) (N := some 22) (v := ?_) (a' := ?_) #[true, false, false, false, false] rfl rfl (by kernel_rfl) (fun _ _ _ h => h) (Or.inl ⟨by rfl, ?_⟩) hHeld ?_ ?_
    rotate_left
    ·rintro w' ⟨s0, s1, s2, s3⟩
     go_simp
     with_reducible rfl
    rotate_left
    ·exact aP
    refine take_ (i := 1) (N := some 23) (v := ?_) (a' := ?_) #[true, true, false, false, false] rfl rfl (by kernel_rfl) (fun _ _ _ h => h) (Or.inl ⟨by rfl, ?_⟩) hHeld ?_ ?_
    rotate_left
    ·rintro w' ⟨s0, s1, s2, s3⟩
     go_simp
     with_reducible rfl
    rotate_left
    ·exact aP
    refine one_ (i := 2) (N := some 24) #[true, true, true, false, false] rfl rfl (by kernel_rfl) (by decide) (fun K hK => ?_)
    refine goes_ Tryd.func9 (by kernel_rfl) rfl #[.agg #[.slice A0_0 l0_0.length c0_0, .slice A0_1 l0_1.length c0_1]] (by rfl) rfl rfl (by (try simp only [List.map_toArray, List.map_cons, List.map_nil]); first | done | rfl | (simp only [List.length_drop, List.length_take]; rfl)) ?_
    with_reducible refine (laws_toDatabase.calls k _ _ l0_0 _ _ l0_1 t335 t338 _ ?side1 ?side2 ?side3 ?side4 A12.out).mono ?_
    (case side1 => exact aC)
    (case side2 => exact HC0_0.out)
    (case side3 => exact aC)
    (case side4 => exact HC0_1.out)
    rintro e w32 ⟨v336, v339, rfl, ho0, ho1, hb⟩
    refine ⟨_, rfl, ?_⟩
    have n0_ := aM (Kd.R_elder' (aR HO322) (Kd.R_base ho0) hb)
    have n1_ := aM (Kd.S_elder' (aS HO325) (Kd.S_base ho1) hb)
    have n2_ := aM (Kd.R_elder' (aR HO329) (Kd.R_base ho0) hb)
    have n3_ := aM (Kd.S_elder' (aS HO332) (Kd.S_base ho1) hb)
    have n4_ := aM (Kd.R_lower (Kd.R_new' (Kd.R_new' ho0 (Kd.R_lt (aR HO322))) (Kd.R_lt (aR HO329))) (below_size aG))
    have n5_ := aM (Kd.S_lower (Kd.S_new' (Kd.S_new' ho1 (Kd.S_lt (aS HO325))) (Kd.S_lt (aS HO332))) (below_size aG))
    have n6_ := aM (blk_below (g := gb318) (o := .cells #[.slice A0_0 l0_0.length c0_0, .slice A0_1 l0_1.length c0_1] 25 (0, 0)) aK hb)
    have n7_ := aM (blk_below (g := gb333) (o := .cells #[.slice Ao26 t327.length co26, .slice Ao29 t330.length co29] 31 (0, 0)) aK hb)
    have n8_ := aM (below_step aG hb)
    clear HO322
    clear HO325
    clear HO329
    clear HO332
    clear BK318
    clear BK333
    clear HB
    have HO322 := n0_
    have HO325 := n1_
    have HO329 := n2_
    have HO332 := n3_
    have HO337 := n4_
    have HO340 := n5_
    have BK318 := n6_
    have BK333 := n7_
    have HB := n8_
    clear n0_ n1_ n2_ n3_ n4_ n5_ n6_ n7_ n8_
    (try clear hb)
    (try clear hb2)
    (try clear hk)
    (try clear hi)
    (try clear ho0)
    (try clear ho1)
    obtain ⟨Ao33, co33, eo33⟩ := Kd.R_slice HO337.out
    (first | subst eo33 | (injection eo33 with f1_ f2_ f3_; have f4_ := f1_.symm; have f5_ := f3_.symm; clear f1_ f2_ f3_; subst f4_; subst f5_))
    obtain ⟨Ao34, co34, eo34⟩ := Kd.S_slice HO340.out
    (first | subst eo34 | (injection eo34 with f1_ f2_ f3_; have f4_ := f1_.symm; have f5_ := f3_.symm; clear f1_ f2_ f3_; subst f4_; subst f5_))
    refine hK.out _ _ ⟨(blk_cell BK333.out 0).trans rfl, (blk_cell BK333.out 1).trans rfl, (blk_cell BK318.out 0).trans rfl, (blk_cell BK318.out 1).trans rfl⟩ (fun hHeld => ?_)
    clear hK K
    refine norm_ (a' := ?_) ?_ ?_
    rotate_left
    ·show Act.put _ (some 24) _ = _
     simp only [Act.put, List.setIfInBounds_toArray, List.set_cons_zero, List.set_cons_succ, i64_w, i32_w]
     rfl
    refine one_ (i := 3) (N := some 25) #[true, true, true, true, false] rfl rfl (by kernel_rfl) (by decide) (fun K hK => ?_)
    refine goes_ Tryd.func11 (by kernel_rfl) rfl #[.agg #[.slice Ao26 t327.length co26, .slice Ao29 t330.length co29], .agg #[.slice Ao33 t335.length co33, .slice Ao34 t338.length co34]] (by rfl) rfl rfl (by (try simp only [List.map_toArray, List.map_cons, List.map_nil]); first | done | rfl | (simp only [List.length_drop, List.length_take]; rfl)) ?_
    with_reducible refine (laws_eqDatabase.calls k _ _ t327 _ _ t330 _ _ t335 _ _ t338 true _ ?side1 ?side2 ?side3 ?side4 ?side5 ?side6 ?side7 ?side8 A13.out).mono ?_
    (case side1 => repeat (first | exact (Kd.R_reads' HO329.out).2.2 | (with_reducible refine Kd.C_alloc ?_ _) | (with_reducible refine Kd.C_drewN ?_ _) | (with_reducible refine Kd.C_drew ?_)))
    (case side2 => exact (Kd.R_reads' HO329.out).2.1)
    (case side3 => repeat (first | exact (Kd.S_reads' HO332.out).2.2 | (with_reducible refine Kd.C_alloc ?_ _) | (with_reducible refine Kd.C_drewN ?_ _) | (with_reducible refine Kd.C_drew ?_)))
    (case side4 => exact (Kd.S_reads' HO332.out).2.1)
    (case side5 => repeat (first | exact (Kd.R_reads' HO337.out).2.2 | (with_reducible refine Kd.C_alloc ?_ _) | (with_reducible refine Kd.C_drewN ?_ _) | (with_reducible refine Kd.C_drew ?_)))
    (case side6 => exact (Kd.R_reads' HO337.out).2.1)
    (case side7 => repeat (first | exact (Kd.S_reads' HO340.out).2.2 | (with_reducible refine Kd.C_alloc ?_ _) | (with_reducible refine Kd.C_drewN ?_ _) | (with_reducible refine Kd.C_drew ?_)))
    (case side8 => exact (Kd.S_reads' HO340.out).2.1)
    rintro e w35 ⟨rfl, hb⟩
    refine ⟨_, rfl, ?_⟩
    have n0_ := aM (Kd.R_below (aR HO322) hb)
    have n1_ := aM (Kd.S_below (aS HO325) hb)
    have n2_ := aM (Kd.R_below (aR HO329) hb)
    have n3_ := aM (Kd.S_below (aS HO332) hb)
    have n4_ := aM (Kd.R_below (aR HO337) hb)
    have n5_ := aM (Kd.S_below (aS HO340) hb)
    have n6_ := aM (blk_below (g := gb318) (o := .cells #[.slice A0_0 l0_0.length c0_0, .slice A0_1 l0_1.length c0_1] 25 (0, 0)) aK hb)
    have n7_ := aM (blk_below (g := gb333) (o := .cells #[.slice Ao26 t327.length co26, .slice Ao29 t330.length co29] 31 (0, 0)) aK hb)
    have n8_ := aM (below_step aG hb)
    clear HO322
    clear HO325
    clear HO329
    clear HO332
    clear HO337
    clear HO340
    clear BK318
    clear BK333
    clear HB
    have HO322 := n0_
    have HO325 := n1_
    have HO329 := n2_
    have HO332 := n3_
    have HO337 := n4_
    have HO340 := n5_
    have BK318 := n6_
    have BK333 := n7_
    have HB := n8_
    clear n0_ n1_ n2_ n3_ n4_ n5_ n6_ n7_ n8_
    (try clear hb)
    (try clear hb2)
    (try clear hk)
    (try clear hi)
    refine hK.out _ _ ⟨(blk_cell BK333.out 0).trans rfl, (blk_cell BK333.out 1).trans rfl, (blk_cell BK318.out 0).trans rfl, (blk_cell BK318.out 1).trans rfl⟩ (fun hHeld => ?_)
    clear hK K
    refine norm_ (a' := ?_) ?_ ?_
    rotate_left
    ·show Act.put _ (some 25) _ = _
     simp only [Act.put, List.setIfInBounds_toArray, List.set_cons_zero, List.set_cons_succ, i64_w, i32_w]
     rfl
    refine pure_ (i := 4) (N := some 26) (v := ?_) (a' := ?_) #[true, true, true, true, true] rfl rfl (by kernel_rfl) (fun _ _ _ h => h) (Or.inl ⟨by rfl, ?_⟩) ?_ ?_
    rotate_left
    ·exact aI
    rotate_left
    ·exact aP
    refine done_ (by kernel_rfl) ?_
    try go_wp2
    go_ret
    exact ⟨by first | rfl | (simp [errW_none, errW_some] <;> rfl) | (simp [*, errW_none, errW_some] <;> rfl), by repeat (first | (with_reducible first | exact HB.out | apply below_alloc | apply pw_below_drewN | apply below_drew1 | refine below_set ?_ GE318.out | refine below_set ?_ GE333.out) | exact HB.out)⟩
   ·replace c14 := Bool.eq_false_iff.mpr c14
    subst c14
    have H1 : (some false) = some r := by rw [if_neg (show ¬ (false = true) by decide)] at H; exact H
    clear H
    have H := H1
    clear H1
    exact absurd (Option.some.inj (H.trans (congrArg some HRT_.out))) (by decide)
  ·rw [if_neg c11] at H
   have c11b0 : (t334.toList == t326.toList) = false := beq_eq_false_iff_ne.mpr c11
   have c11b1 : (t334.toList != t326.toList) = true := bne_iff_ne.mpr c11
   exact absurd (Option.some.inj (H.trans (congrArg some HRT_.out))) (by decide)

end Go.Proofs.YtckpikfbhlhhjaaDoor.PFnExactFormatDatabase
