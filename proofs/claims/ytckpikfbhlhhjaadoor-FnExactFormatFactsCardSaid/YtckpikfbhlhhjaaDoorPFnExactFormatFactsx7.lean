-- Laid by a program of this claim: what the functions come to, some of them proved by hand.
import Derived.Test.YtckpikfbhlhhjaaDoorPFnExactFormatFactsx0
import Derived.Test.YtckpikfbhlhhjaaDoorPFnExactFormatFactsx1
import Derived.Test.YtckpikfbhlhhjaaDoorPFnExactFormatFactsx5
import Derived.Test.YtckpikfbhlhhjaaDoorPFnExactFormatFactsx6
namespace Go.Proofs.YtckpikfbhlhhjaaDoor.PFnExactFormatFacts
open Go.RowKit Go.Proofs.YtckpikfbhlhhjaaDoorW.PrintWords Go.Proofs.YtckpikfbhlhhjaaDoorW.PrintLast Go.Proofs.YtckpikfbhlhhjaaDoorW.PrintMore
attribute [local go_sem] max2_int min2_int max_two min_two max_three min_three max_four min_four   -- for this text's walks alone
set_option linter.unusedVariables false
set_option linter.unusedSimpArgs false

/-! ### laws_FnExactFormatFacts: function 6 -/
def laws_FnExactFormatFacts.f (k : Nat) (l0_0 : List (S98)) (l0_1 : List (S100)) (l1 : List Int) : Option (Bool) := if (l1.length : Int) > 1048576 then (some true) else ((laws_szDatabase.f k l0_0 l0_1 1048576).bind fun t334 => (if t334 < 0 then (some true) else ((laws_toDatabase.f k l0_0 l0_1).bind fun bt335 => ((laws_toIntS.f k l1).bind fun t341 => ((spec_FormatFacts.f k bt335.1 bt335.2 t341).bind fun t344 => ((laws_toDatabase.f k l0_0 l0_1).bind fun bt345 => ((laws_toIntS.f k l1).bind fun t352 => ((impl_FormatFacts.f k bt345.1 bt345.2 t352).bind fun t355 => (if t355.toList = t344.toList then ((laws_toDatabase.f k l0_0 l0_1).bind fun bt356 => ((laws_eqDatabase.f k bt345.1 bt345.2 bt356.1 bt356.2).bind fun t362 => (if t362 = true then ((laws_toIntS.f k l1).bind fun t363 => ((laws_eqIntS.f k t352 t363).bind fun t366 => (if t366 = true then (some true) else (some false)))) else (some false)))) else (some false))))))))))
set_option maxHeartbeats 8000000 in
set_option maxRecDepth 100000 in
theorem laws_FnExactFormatFacts.calls (k : Nat) (A0_0 : Option Addr) (c0_0 : Nat) (l0_0 : List (S98)) (A0_1 : Option Addr) (c0_1 : Nat) (l0_1 : List (S100)) (A1 : Option Addr) (c1 : Nat) (l1 : List Int) (r : Bool) (w : World) (hr0_0 : Kd.C k98 w A0_0 l0_0.length l0_0) (hc0_0 : l0_0.length ≤ c0_0) (hr0_1 : Kd.C k100 w A0_1 l0_1.length l0_1) (hc0_1 : l0_1.length ≤ c0_1) (hr1 : Kd.C (Kd.int .i64) w A1 l1.length l1) (hc1 : l1.length ≤ c1) (h : laws_FnExactFormatFacts.f k l0_0 l0_1 l1 = some r) (hr_ : r = true) (hp_ : Go.Proofs.YtckpikfbhlhhjaaDoor.Shelf.Pow w) :
  Calls Tryd.prog 6 #[.agg #[.slice A0_0 l0_0.length c0_0, .slice A0_1 l0_1.length c0_1], .slice A1 l1.length c1] w fun e w' => e = .returned (.bool r) ∧ Below w.heap.size w w' := by
 have HRT_ := aM hr_
 clear hr_
 have hu25 := Tryd.underlying25
 have hu31 := Tryd.underlying31
 have HR0_0 := aM hr0_0
 have HC0_0 := aM hc0_0
 clear hr0_0 hc0_0
 have HR0_1 := aM hr0_1
 have HC0_1 := aM hc0_1
 clear hr0_1 hc0_1
 have HR1 := aM hr1
 have HC1 := aM hc1
 clear hr1 hc1
 have HB := aM (Below.refl w.heap.size w)
 have H : (if (l1.length : Int) > 1048576 then (some true) else ((laws_szDatabase.f k l0_0 l0_1 1048576).bind fun t334 => (if t334 < 0 then (some true) else ((laws_toDatabase.f k l0_0 l0_1).bind fun bt335 => ((laws_toIntS.f k l1).bind fun t341 => ((spec_FormatFacts.f k bt335.1 bt335.2 t341).bind fun t344 => ((laws_toDatabase.f k l0_0 l0_1).bind fun bt345 => ((laws_toIntS.f k l1).bind fun t352 => ((impl_FormatFacts.f k bt345.1 bt345.2 t352).bind fun t355 => (if t355.toList = t344.toList then ((laws_toDatabase.f k l0_0 l0_1).bind fun bt356 => ((laws_eqDatabase.f k bt345.1 bt345.2 bt356.1 bt356.2).bind fun t362 => (if t362 = true then ((laws_toIntS.f k l1).bind fun t363 => ((laws_eqIntS.f k t352 t363).bind fun t366 => (if t366 = true then (some true) else (some false)))) else (some false)))) else (some false))))))))))) = some r := h
 clear h
 by_cases c3 : (l1.length : Int) > 1048576
 ·rw [if_pos c3] at H
  have c3b0 : decide (1048576 < (l1.length : Int)) = true := decide_eq_true c3
  have c3b1 : decide (1048576 < l1.length) = true := decide_eq_true (by omega)
  clear c3
  obtain rfl := Option.some.inj H
  go_enter Tryd.func6, Tryd.ntmps6
  go_wp2_with (first | ((with_reducible refine gate_dst (N := 2) rfl ?_); refine box_event ?hg (N := 2) ?hd (cs := #[.slice A0_0 l0_0.length c0_0, .slice A0_1 l0_1.length c0_1]) (t := 25) ?hr ?_; (case hd => rfl); (case hg => rfl); (case hr => first | (go_simp; done) | (go_simp; rfl)); intro gb333 hg w4 hbox hb; have n0_ := aM (below_step aB hb); have n1_ := aM (hbox); have n2_ := aM ((by rw [hg]; exact (below_size aB) : w.heap.size ≤ gb333)); have n3_ := aM ((by rw [hg]; exact (below_size aB) : w.heap.size ≤ gb333)); clear HB; have HB := n0_; have BK333 := n1_; have GW333 := n2_; have GE333 := n3_; clear n0_ n1_ n2_ n3_; clear hb hbox hg))
  go_ret
  exact ⟨by first | rfl | (simp [errW_none, errW_some] <;> rfl) | (simp [*, errW_none, errW_some] <;> rfl), by repeat (first | (with_reducible first | exact HB.out | apply below_alloc | apply pw_below_drewN | apply below_drew1 | refine below_set ?_ GE333.out) | exact HB.out)⟩
 ·rw [if_neg c3] at H
  have c3b0 : decide (1048576 < (l1.length : Int)) = false := decide_eq_false c3
  have c3b1 : decide (1048576 < l1.length) = false := decide_eq_false (by omega)
  clear c3
  replace H := Option.bind_eq_some_iff.mp H
  obtain ⟨t334, A50, H⟩ := H
  replace H : (if t334 < 0 then (some true) else ((laws_toDatabase.f k l0_0 l0_1).bind fun bt335 => ((laws_toIntS.f k l1).bind fun t341 => ((spec_FormatFacts.f k bt335.1 bt335.2 t341).bind fun t344 => ((laws_toDatabase.f k l0_0 l0_1).bind fun bt345 => ((laws_toIntS.f k l1).bind fun t352 => ((impl_FormatFacts.f k bt345.1 bt345.2 t352).bind fun t355 => (if t355.toList = t344.toList then ((laws_toDatabase.f k l0_0 l0_1).bind fun bt356 => ((laws_eqDatabase.f k bt345.1 bt345.2 bt356.1 bt356.2).bind fun t362 => (if t362 = true then ((laws_toIntS.f k l1).bind fun t363 => ((laws_eqIntS.f k t352 t363).bind fun t366 => (if t366 = true then (some true) else (some false)))) else (some false)))) else (some false))))))))) = some r := H
  have A5 := aM A50
  clear A50
  by_cases c6 : t334 < 0
  ·rw [if_pos c6] at H
   have c6b0 : decide (t334 < 0) = true := decide_eq_true c6
   clear c6
   obtain rfl := Option.some.inj H
   go_enter Tryd.func6, Tryd.ntmps6
   go_wp2_with (first | ((with_reducible refine gate_dst (N := 2) rfl ?_); refine box_event ?hg (N := 2) ?hd (cs := #[.slice A0_0 l0_0.length c0_0, .slice A0_1 l0_1.length c0_1]) (t := 25) ?hr ?_; (case hd => rfl); (case hg => rfl); (case hr => first | (go_simp; done) | (go_simp; rfl)); intro gb333 hg w7 hbox hb; have n0_ := aM (below_step aB hb); have n1_ := aM (hbox); have n2_ := aM ((by rw [hg]; exact (below_size aB) : w.heap.size ≤ gb333)); have n3_ := aM ((by rw [hg]; exact (below_size aB) : w.heap.size ≤ gb333)); clear HB; have HB := n0_; have BK333 := n1_; have GW333 := n2_; have GE333 := n3_; clear n0_ n1_ n2_ n3_; clear hb hbox hg; have hcz8_0 : w7.cell? ⟨gb333, 0, none⟩ = some (.slice A0_0 l0_0.length c0_0) := (blk_cell BK333.out 0).trans rfl; have hcz8_1 : w7.cell? ⟨gb333, 1, none⟩ = some (.slice A0_1 l0_1.length c0_1) := (blk_cell BK333.out 1).trans rfl; have hfz8_0 := blk_frozen BK333.out 0; have hfz8_1 := blk_frozen BK333.out 1) | ((with_reducible refine gate_callee (f := 7) rfl ?_); refine goesL_ (some 15) rfl rfl Tryd.func7 (by kernel_rfl) rfl #[.agg #[.slice A0_0 l0_0.length c0_0, .slice A0_1 l0_1.length c0_1], .int .i64 1048576] rfl (by (try simp only [List.map_toArray, List.map_cons, List.map_nil]); first | done | rfl | (simp only [List.length_drop, List.length_take]; rfl)) ?_; (with_reducible refine (laws_szDatabase.calls k _ _ l0_0 _ _ l0_1 1048576 t334 _ ?side1 ?side2 ?side3 ?side4 A5.out).mono ?_); (case side1 => exact aC); (case side2 => exact HC0_0.out); (case side3 => exact aC); (case side4 => exact HC0_1.out); rintro e w9 ⟨rfl, hb⟩; refine ⟨_, rfl, ?_⟩; have n0_ := aM (blk_below (g := gb333) (o := .cells #[.slice A0_0 l0_0.length c0_0, .slice A0_1 l0_1.length c0_1] 25 (0, 0)) aK hb); have n1_ := aM (below_step aG hb); clear BK333; clear HB; have BK333 := n0_; have HB := n1_; clear n0_ n1_; (try clear hb); (try clear hb2); (try clear hk); (try clear hi)))
   go_ret
   exact ⟨by first | rfl | (simp [errW_none, errW_some] <;> rfl) | (simp [*, errW_none, errW_some] <;> rfl), by repeat (first | (with_reducible first | exact HB.out | apply below_alloc | apply pw_below_drewN | apply below_drew1 | refine below_set ?_ GE333.out) | exact HB.out)⟩
  ·rw [if_neg c6] at H
   have c6b0 : decide (t334 < 0) = false := decide_eq_false c6
   clear c6
   replace H := Option.bind_eq_some_iff.mp H
   obtain ⟨⟨t335, t338⟩, A100, H⟩ := H
   replace H : ((laws_toIntS.f k l1).bind fun t341 => ((spec_FormatFacts.f k t335 t338 t341).bind fun t344 => ((laws_toDatabase.f k l0_0 l0_1).bind fun bt345 => ((laws_toIntS.f k l1).bind fun t352 => ((impl_FormatFacts.f k bt345.1 bt345.2 t352).bind fun t355 => (if t355.toList = t344.toList then ((laws_toDatabase.f k l0_0 l0_1).bind fun bt356 => ((laws_eqDatabase.f k bt345.1 bt345.2 bt356.1 bt356.2).bind fun t362 => (if t362 = true then ((laws_toIntS.f k l1).bind fun t363 => ((laws_eqIntS.f k t352 t363).bind fun t366 => (if t366 = true then (some true) else (some false)))) else (some false)))) else (some false))))))) = some r := H
   have A10 := aM A100
   clear A100
   replace H := Option.bind_eq_some_iff.mp H
   obtain ⟨t341, A110, H⟩ := H
   replace H : ((spec_FormatFacts.f k t335 t338 t341).bind fun t344 => ((laws_toDatabase.f k l0_0 l0_1).bind fun bt345 => ((laws_toIntS.f k l1).bind fun t352 => ((impl_FormatFacts.f k bt345.1 bt345.2 t352).bind fun t355 => (if t355.toList = t344.toList then ((laws_toDatabase.f k l0_0 l0_1).bind fun bt356 => ((laws_eqDatabase.f k bt345.1 bt345.2 bt356.1 bt356.2).bind fun t362 => (if t362 = true then ((laws_toIntS.f k l1).bind fun t363 => ((laws_eqIntS.f k t352 t363).bind fun t366 => (if t366 = true then (some true) else (some false)))) else (some false)))) else (some false)))))) = some r := H
   have A11 := aM A110
   clear A110
   replace H := Option.bind_eq_some_iff.mp H
   obtain ⟨t344, A120, H⟩ := H
   replace H : ((laws_toDatabase.f k l0_0 l0_1).bind fun bt345 => ((laws_toIntS.f k l1).bind fun t352 => ((impl_FormatFacts.f k bt345.1 bt345.2 t352).bind fun t355 => (if t355.toList = t344.toList then ((laws_toDatabase.f k l0_0 l0_1).bind fun bt356 => ((laws_eqDatabase.f k bt345.1 bt345.2 bt356.1 bt356.2).bind fun t362 => (if t362 = true then ((laws_toIntS.f k l1).bind fun t363 => ((laws_eqIntS.f k t352 t363).bind fun t366 => (if t366 = true then (some true) else (some false)))) else (some false)))) else (some false))))) = some r := H
   have A12 := aM A120
   clear A120
   replace H := Option.bind_eq_some_iff.mp H
   obtain ⟨⟨t345, t348⟩, A130, H⟩ := H
   replace H : ((laws_toIntS.f k l1).bind fun t352 => ((impl_FormatFacts.f k t345 t348 t352).bind fun t355 => (if t355.toList = t344.toList then ((laws_toDatabase.f k l0_0 l0_1).bind fun bt356 => ((laws_eqDatabase.f k t345 t348 bt356.1 bt356.2).bind fun t362 => (if t362 = true then ((laws_toIntS.f k l1).bind fun t363 => ((laws_eqIntS.f k t352 t363).bind fun t366 => (if t366 = true then (some true) else (some false)))) else (some false)))) else (some false)))) = some r := H
   have A13 := aM A130
   clear A130
   replace H := Option.bind_eq_some_iff.mp H
   obtain ⟨t352, A140, H⟩ := H
   replace H : ((impl_FormatFacts.f k t345 t348 t352).bind fun t355 => (if t355.toList = t344.toList then ((laws_toDatabase.f k l0_0 l0_1).bind fun bt356 => ((laws_eqDatabase.f k t345 t348 bt356.1 bt356.2).bind fun t362 => (if t362 = true then ((laws_toIntS.f k l1).bind fun t363 => ((laws_eqIntS.f k t352 t363).bind fun t366 => (if t366 = true then (some true) else (some false)))) else (some false)))) else (some false))) = some r := H
   have A14 := aM A140
   clear A140
   replace H := Option.bind_eq_some_iff.mp H
   obtain ⟨t355, A150, H⟩ := H
   replace H : (if t355.toList = t344.toList then ((laws_toDatabase.f k l0_0 l0_1).bind fun bt356 => ((laws_eqDatabase.f k t345 t348 bt356.1 bt356.2).bind fun t362 => (if t362 = true then ((laws_toIntS.f k l1).bind fun t363 => ((laws_eqIntS.f k t352 t363).bind fun t366 => (if t366 = true then (some true) else (some false)))) else (some false)))) else (some false)) = some r := H
   have A15 := aM A150
   clear A150
   by_cases c16 : t355.toList = t344.toList
   ·rw [if_pos c16] at H
    have c16b0 : (t355.toList == t344.toList) = true := beq_iff_eq.mpr c16
    have c16b1 : (t355.toList != t344.toList) = false := bne_eq_false_iff_eq.mpr c16
    clear c16
    replace H := Option.bind_eq_some_iff.mp H
    obtain ⟨⟨t356, t359⟩, A170, H⟩ := H
    replace H : ((laws_eqDatabase.f k t345 t348 t356 t359).bind fun t362 => (if t362 = true then ((laws_toIntS.f k l1).bind fun t363 => ((laws_eqIntS.f k t352 t363).bind fun t366 => (if t366 = true then (some true) else (some false)))) else (some false))) = some r := H
    have A17 := aM A170
    clear A170
    replace H := Option.bind_eq_some_iff.mp H
    obtain ⟨t362, A180, H⟩ := H
    replace H : (if t362 = true then ((laws_toIntS.f k l1).bind fun t363 => ((laws_eqIntS.f k t352 t363).bind fun t366 => (if t366 = true then (some true) else (some false)))) else (some false)) = some r := H
    have A18 := aM A180
    clear A180
    by_cases c19 : t362 = true
    ·subst c19
     have H1 : ((laws_toIntS.f k l1).bind fun t363 => ((laws_eqIntS.f k t352 t363).bind fun t366 => (if t366 = true then (some true) else (some false)))) = some r := by rw [if_pos rfl] at H; exact H
     clear H
     have H := H1
     clear H1
     replace H := Option.bind_eq_some_iff.mp H
     obtain ⟨t363, A200, H⟩ := H
     replace H : ((laws_eqIntS.f k t352 t363).bind fun t366 => (if t366 = true then (some true) else (some false))) = some r := H
     have A20 := aM A200
     clear A200
     replace H := Option.bind_eq_some_iff.mp H
     obtain ⟨t366, A210, H⟩ := H
     replace H : (if t366 = true then (some true) else (some false)) = some r := H
     have A21 := aM A210
     clear A210
     by_cases c22 : t366 = true
     ·subst c22
      have H1 : (some true) = some r := by rw [if_pos rfl] at H; exact H
      clear H
      have H := H1
      clear H1
      obtain rfl := Option.some.inj H
      go_enter Tryd.func6, Tryd.ntmps6
      try go_wp2_with (first | ((with_reducible refine gate_dst (N := 2) rfl ?_); refine box_event ?hg (N := 2) ?hd (cs := #[.slice A0_0 l0_0.length c0_0, .slice A0_1 l0_1.length c0_1]) (t := 25) ?hr ?_; (case hd => rfl); (case hg => rfl); (case hr => first | (go_simp; done) | (go_simp; rfl)); intro gb333 hg w23 hbox hb; have n0_ := aM (below_step aB hb); have n1_ := aM (hbox); have n2_ := aM ((by rw [hg]; exact (below_size aB) : w.heap.size ≤ gb333)); have n3_ := aM ((by rw [hg]; exact (below_size aB) : w.heap.size ≤ gb333)); clear HB; have HB := n0_; have BK333 := n1_; have GW333 := n2_; have GE333 := n3_; clear n0_ n1_ n2_ n3_; clear hb hbox hg; have hcz24_0 : w23.cell? ⟨gb333, 0, none⟩ = some (.slice A0_0 l0_0.length c0_0) := (blk_cell BK333.out 0).trans rfl; have hcz24_1 : w23.cell? ⟨gb333, 1, none⟩ = some (.slice A0_1 l0_1.length c0_1) := (blk_cell BK333.out 1).trans rfl; have hfz24_0 := blk_frozen BK333.out 0; have hfz24_1 := blk_frozen BK333.out 1) | ((with_reducible refine gate_callee (f := 7) rfl ?_); refine goesL_ (some 15) rfl rfl Tryd.func7 (by kernel_rfl) rfl #[.agg #[.slice A0_0 l0_0.length c0_0, .slice A0_1 l0_1.length c0_1], .int .i64 1048576] rfl (by (try simp only [List.map_toArray, List.map_cons, List.map_nil]); first | done | rfl | (simp only [List.length_drop, List.length_take]; rfl)) ?_; (with_reducible refine (laws_szDatabase.calls k _ _ l0_0 _ _ l0_1 1048576 t334 _ ?side1 ?side2 ?side3 ?side4 A5.out).mono ?_); (case side1 => exact aC); (case side2 => exact HC0_0.out); (case side3 => exact aC); (case side4 => exact HC0_1.out); rintro e w25 ⟨rfl, hb⟩; refine ⟨_, rfl, ?_⟩; have n0_ := aM (blk_below (g := gb333) (o := .cells #[.slice A0_0 l0_0.length c0_0, .slice A0_1 l0_1.length c0_1] 25 (0, 0)) aK hb); have n1_ := aM (below_step aG hb); clear BK333; clear HB; have BK333 := n0_; have HB := n1_; clear n0_ n1_; (try clear hb); (try clear hb2); (try clear hk); (try clear hi); have hcz26_0 : w25.cell? ⟨gb333, 0, none⟩ = some (.slice A0_0 l0_0.length c0_0) := (blk_cell BK333.out 0).trans rfl; have hcz26_1 : w25.cell? ⟨gb333, 1, none⟩ = some (.slice A0_1 l0_1.length c0_1) := (blk_cell BK333.out 1).trans rfl; have hfz26_0 := blk_frozen BK333.out 0; have hfz26_1 := blk_frozen BK333.out 1) | ((with_reducible refine gate_callee (f := 9) rfl ?_); refine goesL_ (some 19) rfl rfl Tryd.func9 (by kernel_rfl) rfl #[.agg #[.slice A0_0 l0_0.length c0_0, .slice A0_1 l0_1.length c0_1]] rfl (by (try simp only [List.map_toArray, List.map_cons, List.map_nil]); first | done | rfl | (simp only [List.length_drop, List.length_take]; rfl)) ?_; (with_reducible refine (laws_toDatabase.calls k _ _ l0_0 _ _ l0_1 t335 t338 _ ?side1 ?side2 ?side3 ?side4 A10.out).mono ?_); (case side1 => exact aC); (case side2 => exact HC0_0.out); (case side3 => exact aC); (case side4 => exact HC0_1.out); rintro e w27 ⟨v336, v339, rfl, ho0, ho1, hb⟩; refine ⟨_, rfl, ?_⟩; have n0_ := aM (Kd.R_lower ho0 (below_size aG)); have n1_ := aM (Kd.S_lower ho1 (below_size aG)); have n2_ := aM (blk_below (g := gb333) (o := .cells #[.slice A0_0 l0_0.length c0_0, .slice A0_1 l0_1.length c0_1] 25 (0, 0)) aK hb); have n3_ := aM (below_step aG hb); clear BK333; clear HB; have HO337 := n0_; have HO340 := n1_; have BK333 := n2_; have HB := n3_; clear n0_ n1_ n2_ n3_; (try clear hb); (try clear hb2); (try clear hk); (try clear hi); (try clear ho0); (try clear ho1)) | ((with_reducible refine gate_callee (f := 35) rfl ?_); refine goesL_ (some 21) rfl rfl Tryd.func35 (by kernel_rfl) rfl #[.slice A1 l1.length c1] rfl (by (try simp only [List.map_toArray, List.map_cons, List.map_nil]); first | done | rfl | (simp only [List.length_drop, List.length_take]; rfl)) ?_; (with_reducible refine (laws_toIntS.calls k _ _ l1 t341 _ ?side1 ?side2 A11.out).mono ?_); (case side1 => exact aC); (case side2 => exact HC1.out); rintro e w28 ⟨v342, rfl, ho0, hb⟩; refine ⟨_, rfl, ?_⟩; have n0_ := aM (Kd.R_below (aR HO337) hb); have n1_ := aM (Kd.S_elder' (aS HO340) (Kd.R_base ho0) hb); have n2_ := aM (Kd.R_lower ho0 (below_size aG)); have n3_ := aM (blk_below (g := gb333) (o := .cells #[.slice A0_0 l0_0.length c0_0, .slice A0_1 l0_1.length c0_1] 25 (0, 0)) aK hb); have n4_ := aM (below_step aG hb); clear HO337; clear HO340; clear BK333; clear HB; have HO337 := n0_; have HO340 := n1_; have HO343 := n2_; have BK333 := n3_; have HB := n4_; clear n0_ n1_ n2_ n3_ n4_; (try clear hb); (try clear hb2); (try clear hk); (try clear hi); (try clear ho0); obtain ⟨Ao29, co29, eo29⟩ := Kd.R_slice HO337.out; subst eo29; obtain ⟨Ao30, co30, eo30⟩ := Kd.S_slice HO340.out; subst eo30; obtain ⟨Ao31, co31, eo31⟩ := Kd.R_slice HO343.out; subst eo31) | ((with_reducible refine gate_callee (f := 32) rfl ?_); refine goesL_ (some 22) rfl rfl Tryd.func32 (by kernel_rfl) rfl #[.agg #[.slice Ao29 t335.length co29, .slice Ao30 t338.length co30], .slice Ao31 t341.length co31] rfl (by (try simp only [List.map_toArray, List.map_cons, List.map_nil]); first | done | rfl | (simp only [List.length_drop, List.length_take]; rfl)) ?_; (with_reducible refine (spec_FormatFacts.calls k _ _ t335 _ _ t338 _ _ t341 t344 _ ?side1 ?side2 ?side3 ?side4 ?side5 ?side6 A12.out).mono ?_); (case side1 => repeat (first | exact (Kd.R_reads' HO337.out).2.2 | (with_reducible refine Kd.C_alloc ?_ _) | (with_reducible refine Kd.C_drewN ?_ _) | (with_reducible refine Kd.C_drew ?_))); (case side2 => exact (Kd.R_reads' HO337.out).2.1); (case side3 => repeat (first | exact (Kd.S_reads' HO340.out).2.2 | (with_reducible refine Kd.C_alloc ?_ _) | (with_reducible refine Kd.C_drewN ?_ _) | (with_reducible refine Kd.C_drew ?_))); (case side4 => exact (Kd.S_reads' HO340.out).2.1); (case side5 => repeat (first | exact (Kd.R_reads' HO343.out).2.2 | (with_reducible refine Kd.C_alloc ?_ _) | (with_reducible refine Kd.C_drewN ?_ _) | (with_reducible refine Kd.C_drew ?_))); (case side6 => exact (Kd.R_reads' HO343.out).2.1); rintro e w32 ⟨rfl, hb⟩; refine ⟨_, rfl, ?_⟩; have n0_ := aM (Kd.R_below (aR HO337) hb); have n1_ := aM (Kd.S_below (aS HO340) hb); have n2_ := aM (Kd.R_below (aR HO343) hb); have n3_ := aM (blk_below (g := gb333) (o := .cells #[.slice A0_0 l0_0.length c0_0, .slice A0_1 l0_1.length c0_1] 25 (0, 0)) aK hb); have n4_ := aM (below_step aG hb); clear HO337; clear HO340; clear HO343; clear BK333; clear HB; have HO337 := n0_; have HO340 := n1_; have HO343 := n2_; have BK333 := n3_; have HB := n4_; clear n0_ n1_ n2_ n3_ n4_; (try clear hb); (try clear hb2); (try clear hk); (try clear hi); have hcz33_0 : w32.cell? ⟨gb333, 0, none⟩ = some (.slice A0_0 l0_0.length c0_0) := (blk_cell BK333.out 0).trans rfl; have hcz33_1 : w32.cell? ⟨gb333, 1, none⟩ = some (.slice A0_1 l0_1.length c0_1) := (blk_cell BK333.out 1).trans rfl; have hfz33_0 := blk_frozen BK333.out 0; have hfz33_1 := blk_frozen BK333.out 1) | ((with_reducible refine gate_callee (f := 9) rfl ?_); refine goesL_ (some 24) rfl rfl Tryd.func9 (by kernel_rfl) rfl #[.agg #[.slice A0_0 l0_0.length c0_0, .slice A0_1 l0_1.length c0_1]] rfl (by (try simp only [List.map_toArray, List.map_cons, List.map_nil]); first | done | rfl | (simp only [List.length_drop, List.length_take]; rfl)) ?_; (with_reducible refine (laws_toDatabase.calls k _ _ l0_0 _ _ l0_1 t345 t348 _ ?side1 ?side2 ?side3 ?side4 A13.out).mono ?_); (case side1 => exact aC); (case side2 => exact HC0_0.out); (case side3 => exact aC); (case side4 => exact HC0_1.out); rintro e w34 ⟨v346, v349, rfl, ho0, ho1, hb⟩; refine ⟨_, rfl, ?_⟩; have n0_ := aM (Kd.R_elder' (aR HO337) (Kd.R_base ho0) hb); have n1_ := aM (Kd.S_elder' (aS HO340) (Kd.S_base ho1) hb); have n2_ := aM (Kd.R_below (aR HO343) hb); have n3_ := aM (Kd.R_lower (Kd.R_new' ho0 (Kd.R_lt (aR HO337))) (below_size aG)); have n4_ := aM (Kd.S_lower (Kd.S_new' (Kd.S_new' ho1 (Kd.S_lt (aS HO340))) (Kd.R_lt (aR HO343))) (below_size aG)); have n5_ := aM (blk_below (g := gb333) (o := .cells #[.slice A0_0 l0_0.length c0_0, .slice A0_1 l0_1.length c0_1] 25 (0, 0)) aK hb); have n6_ := aM (below_step aG hb); clear HO337; clear HO340; clear HO343; clear BK333; clear HB; have HO337 := n0_; have HO340 := n1_; have HO343 := n2_; have HO347 := n3_; have HO350 := n4_; have BK333 := n5_; have HB := n6_; clear n0_ n1_ n2_ n3_ n4_ n5_ n6_; (try clear hb); (try clear hb2); (try clear hk); (try clear hi); (try clear ho0); (try clear ho1)) | ((with_reducible refine gate_dst (N := 7) rfl ?_); refine box_event ?hg (N := 7) ?hd (cs := #[.slice none 0 0, .slice none 0 0]) (t := 31) ?hr ?_; (case hd => rfl); (case hg => rfl); (case hr => first | (go_simp; done) | (go_simp; rfl)); intro gb351 hg w35 hbox hb; have n0_ := aM (Kd.R_below (aR HO337) hb); have n1_ := aM (Kd.S_below (aS HO340) hb); have n2_ := aM (Kd.R_below (aR HO343) hb); have n3_ := aM (Kd.R_below (aR HO347) hb); have n4_ := aM (Kd.S_below (aS HO350) hb); have n5_ := aM (blk_below (g := gb333) (o := .cells #[.slice A0_0 l0_0.length c0_0, .slice A0_1 l0_1.length c0_1] 25 (0, 0)) aK hb); have n6_ := aM (below_step aG hb); have n7_ := aM (hbox); have n8_ := aM ((by rw [hg]; exact (below_size aG) : w.heap.size ≤ gb351)); have n9_ := aM ((by rw [hg]; exact (below_size aG) : w.heap.size ≤ gb351)); have n10_ := aM ((by rw [hg]; exact Nat.ne_of_lt (blk_lt (g := gb333) (o := .cells #[.slice A0_0 l0_0.length c0_0, .slice A0_1 l0_1.length c0_1] 25 (0, 0)) aK) : gb333 ≠ gb351)); have n11_ := aM ((by rw [hg]; exact Nat.ne_of_gt (blk_lt (g := gb333) (o := .cells #[.slice A0_0 l0_0.length c0_0, .slice A0_1 l0_1.length c0_1] 25 (0, 0)) aK) : gb351 ≠ gb333)); clear HO337; clear HO340; clear HO343; clear HO347; clear HO350; clear BK333; clear HB; have HO337 := n0_; have HO340 := n1_; have HO343 := n2_; have HO347 := n3_; have HO350 := n4_; have BK333 := n5_; have HB := n6_; have BK351 := n7_; have GW351 := n8_; have GE351 := n9_; have NB333_351 := n10_; have NB351_333 := n11_; clear n0_ n1_ n2_ n3_ n4_ n5_ n6_ n7_ n8_ n9_ n10_ n11_; clear hb hbox hg; obtain ⟨Ao36, co36, eo36⟩ := Kd.R_slice HO347.out; subst eo36; have hnb37 := NB351_333.out; have hnc37 := NB333_351.out; have hcz38_0 : w35.cell? ⟨gb351, 0, none⟩ = some (.slice none 0 0) := (blk_cell BK351.out 0).trans rfl; have hcz38_1 : w35.cell? ⟨gb351, 1, none⟩ = some (.slice none 0 0) := (blk_cell BK351.out 1).trans rfl; have hfz38_0 := blk_frozen BK351.out 0; have hfz38_1 := blk_frozen BK351.out 1; obtain ⟨Ao39, co39, eo39⟩ := Kd.S_slice HO350.out; subst eo39) | ((with_reducible refine gate_callee (f := 35) rfl ?_); refine goesL_ (some 26) rfl rfl Tryd.func35 (by kernel_rfl) rfl #[.slice A1 l1.length c1] rfl (by (try simp only [List.map_toArray, List.map_cons, List.map_nil]); first | done | rfl | (simp only [List.length_drop, List.length_take]; rfl)) ?_; (with_reducible refine (laws_toIntS.calls k _ _ l1 t352 _ ?side1 ?side2 A14.out).mono ?_); (case side1 => exact Kd.C_below HR1.out aG); (case side2 => exact HC1.out); rintro e w40 ⟨v353, rfl, ho0, hb⟩; refine ⟨_, rfl, ?_⟩; have n0_ := aM (Kd.R_below (by (with_reducible repeat (first | apply Kd.R_alloc | apply Kd.R_drewN | apply Kd.R_drew)); exact (Kd.R_mono (Kd.R_far (p := ⟨gb351, 1, none⟩) (Kd.R_far (p := ⟨gb351, 0, none⟩) (Kd.R_types HO337.out BK351.out (by decide)) (fun _ hk => hk.2) (.slice Ao36 t345.length co36)) (fun _ hk => hk.2) (.slice Ao39 t348.length co39)) (fun _ h_ => h_.1))) hb); have n1_ := aM (Kd.S_elder' (by (with_reducible repeat (first | apply Kd.S_alloc | apply Kd.S_drewN | apply Kd.S_drew)); exact (Kd.S_mono (Kd.S_far (p := ⟨gb351, 1, none⟩) (Kd.S_far (p := ⟨gb351, 0, none⟩) (Kd.S_types HO340.out BK351.out (by decide)) (fun _ hk => hk.2) (.slice Ao36 t345.length co36)) (fun _ hk => hk.2) (.slice Ao39 t348.length co39)) (fun _ h_ => h_.1))) (Kd.R_base ho0) hb); have n2_ := aM (Kd.R_elder' (by (with_reducible repeat (first | apply Kd.R_alloc | apply Kd.R_drewN | apply Kd.R_drew)); exact (Kd.R_mono (Kd.R_far (p := ⟨gb351, 1, none⟩) (Kd.R_far (p := ⟨gb351, 0, none⟩) (Kd.R_types HO343.out BK351.out (by decide)) (fun _ hk => hk.2) (.slice Ao36 t345.length co36)) (fun _ hk => hk.2) (.slice Ao39 t348.length co39)) (fun _ h_ => h_.1))) (Kd.R_base ho0) hb); have n3_ := aM (Kd.R_below (by (with_reducible repeat (first | apply Kd.R_alloc | apply Kd.R_drewN | apply Kd.R_drew)); exact (Kd.R_mono (Kd.R_far (p := ⟨gb351, 1, none⟩) (Kd.R_far (p := ⟨gb351, 0, none⟩) (Kd.R_types HO347.out BK351.out (by decide)) (fun _ hk => hk.2) (.slice Ao36 t345.length co36)) (fun _ hk => hk.2) (.slice Ao39 t348.length co39)) (fun _ h_ => h_.1))) hb); have n4_ := aM (Kd.S_elder' (by (with_reducible repeat (first | apply Kd.S_alloc | apply Kd.S_drewN | apply Kd.S_drew)); exact (Kd.S_mono (Kd.S_far (p := ⟨gb351, 1, none⟩) (Kd.S_far (p := ⟨gb351, 0, none⟩) (Kd.S_types HO350.out BK351.out (by decide)) (fun _ hk => hk.2) (.slice Ao36 t345.length co36)) (fun _ hk => hk.2) (.slice Ao39 t348.length co39)) (fun _ h_ => h_.1))) (Kd.R_base ho0) hb); have n5_ := aM (Kd.R_lower (Kd.R_new' ho0 (Kd.R_lt (by (with_reducible repeat (first | apply Kd.R_alloc | apply Kd.R_drewN | apply Kd.R_drew)); exact (Kd.R_mono (Kd.R_far (p := ⟨gb351, 1, none⟩) (Kd.R_far (p := ⟨gb351, 0, none⟩) (Kd.R_types HO343.out BK351.out (by decide)) (fun _ hk => hk.2) (.slice Ao36 t345.length co36)) (fun _ hk => hk.2) (.slice Ao39 t348.length co39)) (fun _ h_ => h_.1))))) (below_size aG)); have n6_ := aM (blk_below (g := gb333) (o := .cells #[.slice A0_0 l0_0.length c0_0, .slice A0_1 l0_1.length c0_1] 25 (0, 0)) (by (with_reducible repeat (first | refine blk_drewN ?_ _ | refine blk_drew ?_ | refine blk_alloc ?_ _)); refine blk_far ?_ NB333_351.out _; (with_reducible repeat (first | refine blk_drewN ?_ _ | refine blk_drew ?_ | refine blk_alloc ?_ _)); refine blk_far ?_ NB333_351.out _; (with_reducible repeat (first | refine blk_drewN ?_ _ | refine blk_drew ?_ | refine blk_alloc ?_ _)); exact BK333.out) hb); have n7_ := aM (blk_below (g := gb351) (o := .cells #[.slice Ao36 t345.length co36, .slice Ao39 t348.length co39] 31 (0, 0)) (by (with_reducible repeat (first | refine blk_drewN ?_ _ | refine blk_drew ?_ | refine blk_alloc ?_ _)); refine blk_put (cs := #[.slice Ao36 t345.length co36, .slice none 0 0]) ?_ 1 _ rfl; (with_reducible repeat (first | refine blk_drewN ?_ _ | refine blk_drew ?_ | refine blk_alloc ?_ _)); refine blk_put (cs := #[.slice none 0 0, .slice none 0 0]) ?_ 0 _ rfl; (with_reducible repeat (first | refine blk_drewN ?_ _ | refine blk_drew ?_ | refine blk_alloc ?_ _)); exact BK351.out) hb); have n8_ := aM (below_step aG hb); clear HO337; clear HO340; clear HO343; clear HO347; clear HO350; clear BK333; clear BK351; clear HB; have HO337 := n0_; have HO340 := n1_; have HO343 := n2_; have HO347 := n3_; have HO350 := n4_; have HO354 := n5_; have BK333 := n6_; have BK351 := n7_; have HB := n8_; clear n0_ n1_ n2_ n3_ n4_ n5_ n6_ n7_ n8_; (try clear hb); (try clear hb2); (try clear hk); (try clear hi); (try clear ho0); have hcz41_0 : w40.cell? ⟨gb351, 0, none⟩ = some (.slice Ao36 t345.length co36) := (blk_cell BK351.out 0).trans rfl; have hcz41_1 : w40.cell? ⟨gb351, 1, none⟩ = some (.slice Ao39 t348.length co39) := (blk_cell BK351.out 1).trans rfl; have hfz41_0 := blk_frozen BK351.out 0; have hfz41_1 := blk_frozen BK351.out 1; obtain ⟨Ao42, co42, eo42⟩ := Kd.R_slice HO354.out; subst eo42) | ((with_reducible refine gate_callee (f := 31) rfl ?_); refine goesL_ (some 29) rfl rfl Tryd.func31 (by kernel_rfl) rfl #[.agg #[.slice Ao36 t345.length co36, .slice Ao39 t348.length co39], .slice Ao42 t352.length co42] rfl (by (try simp only [List.map_toArray, List.map_cons, List.map_nil]); first | done | rfl | (simp only [List.length_drop, List.length_take]; rfl)) ?_; (with_reducible refine (impl_FormatFacts.calls k _ _ t345 _ _ t348 _ _ t352 t355 _ ?side1 ?side2 ?side3 ?side4 ?side5 ?side6 A15.out (hp_.on (by repeat (first | (with_reducible first | exact HB.out | apply below_alloc | apply pw_below_drewN | apply below_drew1 | refine below_set ?_ GE333.out | refine below_set ?_ GE351.out) | exact HB.out)))).mono ?_); (case side1 => repeat (first | exact (Kd.R_reads' HO347.out).2.2 | (with_reducible refine Kd.C_alloc ?_ _) | (with_reducible refine Kd.C_drewN ?_ _) | (with_reducible refine Kd.C_drew ?_))); (case side2 => exact (Kd.R_reads' HO347.out).2.1); (case side3 => repeat (first | exact (Kd.S_reads' HO350.out).2.2 | (with_reducible refine Kd.C_alloc ?_ _) | (with_reducible refine Kd.C_drewN ?_ _) | (with_reducible refine Kd.C_drew ?_))); (case side4 => exact (Kd.S_reads' HO350.out).2.1); (case side5 => repeat (first | exact (Kd.R_reads' HO354.out).2.2 | (with_reducible refine Kd.C_alloc ?_ _) | (with_reducible refine Kd.C_drewN ?_ _) | (with_reducible refine Kd.C_drew ?_))); (case side6 => exact (Kd.R_reads' HO354.out).2.1); rintro e w43 ⟨rfl, hb⟩; refine ⟨_, rfl, ?_⟩; have n0_ := aM (Kd.R_below (aR HO337) hb); have n1_ := aM (Kd.S_below (aS HO340) hb); have n2_ := aM (Kd.R_below (aR HO343) hb); have n3_ := aM (Kd.R_below (aR HO347) hb); have n4_ := aM (Kd.S_below (aS HO350) hb); have n5_ := aM (Kd.R_below (aR HO354) hb); have n6_ := aM (blk_below (g := gb333) (o := .cells #[.slice A0_0 l0_0.length c0_0, .slice A0_1 l0_1.length c0_1] 25 (0, 0)) aK hb); have n7_ := aM (blk_below (g := gb351) (o := .cells #[.slice Ao36 t345.length co36, .slice Ao39 t348.length co39] 31 (0, 0)) aK hb); have n8_ := aM (below_step aG hb); clear HO337; clear HO340; clear HO343; clear HO347; clear HO350; clear HO354; clear BK333; clear BK351; clear HB; have HO337 := n0_; have HO340 := n1_; have HO343 := n2_; have HO347 := n3_; have HO350 := n4_; have HO354 := n5_; have BK333 := n6_; have BK351 := n7_; have HB := n8_; clear n0_ n1_ n2_ n3_ n4_ n5_ n6_ n7_ n8_; (try clear hb); (try clear hb2); (try clear hk); (try clear hi)))
      have n0_ := aM (Kd.R_drew HO337.out)
      have n1_ := aM (Kd.S_drew HO340.out)
      have n2_ := aM (Kd.R_drew HO343.out)
      have n3_ := aM (Kd.R_drew HO347.out)
      have n4_ := aM (Kd.S_drew HO350.out)
      have n5_ := aM (Kd.R_drew HO354.out)
      have n6_ := aM (blk_drew BK333.out)
      have n7_ := aM (blk_drew BK351.out)
      have n8_ := aM (below_drew1 HB.out)
      clear HO337
      clear HO340
      clear HO343
      clear HO347
      clear HO350
      clear HO354
      clear BK333
      clear BK351
      clear HB
      have HO337 := n0_
      have HO340 := n1_
      have HO343 := n2_
      have HO347 := n3_
      have HO350 := n4_
      have HO354 := n5_
      have BK333 := n6_
      have BK351 := n7_
      have HB := n8_
      clear n0_ n1_ n2_ n3_ n4_ n5_ n6_ n7_ n8_
      refine start_ (n := 5) (S := fun w' => w'.cell? ⟨gb351, 0, none⟩ = some (.slice Ao36 t345.length co36) ∧ w'.cell? ⟨gb351, 1, none⟩ = some (.slice Ao39 t348.length co39) ∧ w'.cell? ⟨gb333, 0, none⟩ = some (.slice A0_0 l0_0.length c0_0) ∧ w'.cell? ⟨gb333, 1, none⟩ = some (.slice A0_1 l0_1.length c0_1)) (ds := []) #[false, false, false, false, false] (by kernel_rfl) rfl rfl ⟨(blk_cell BK351.out 0).trans rfl, (blk_cell BK351.out 1).trans rfl, (blk_cell BK333.out 0).trans rfl, (blk_cell BK333.out 1).trans rfl⟩ (fun hHeld => ?_)
      generalize w43.drew = w44 at HO337 HO340 HO343 HO347 HO350 HO354 BK333 BK351 HB hHeld ⊢
      refine take_ (i := 0) (N := some 33) (v := ?_) (a' := ?_) #[true, false, false, false, false] rfl rfl (by kernel_rfl) (fun _ _ _ h => h) (Or.inl ⟨by rfl, ?_⟩) hHeld ?_ ?_
      rotate_left
      ·rintro w' ⟨s0, s1, s2, s3⟩
       go_simp
       with_reducible rfl
      rotate_left
      ·exact aP
      refine take_ (i := 1) (N := some 34) (v := ?_) (a' := ?_) #[true, true, false, false, false] rfl rfl (by kernel_rfl) (fun _ _ _ h => h) (Or.inl ⟨by rfl, ?_⟩) hHeld ?_ ?_
      rotate_left
      ·rintro w' ⟨s0, s1, s2, s3⟩
       go_simp
       with_reducible rfl
      rotate_left
      ·exact aP
      refine one_ (i := 2) (N := some 35) #[true, true, true, false, false] rfl rfl (by kernel_rfl) (by decide) (fun K hK => ?_)
      refine goes_ Tryd.func9 (by kernel_rfl) rfl #[.agg #[.slice A0_0 l0_0.length c0_0, .slice A0_1 l0_1.length c0_1]] (by rfl) rfl rfl (by (try simp only [List.map_toArray, List.map_cons, List.map_nil]); first | done | rfl | (simp only [List.length_drop, List.length_take]; rfl)) ?_
      with_reducible refine (laws_toDatabase.calls k _ _ l0_0 _ _ l0_1 t356 t359 _ ?side1 ?side2 ?side3 ?side4 A17.out).mono ?_
      (case side1 => exact aC)
      (case side2 => exact HC0_0.out)
      (case side3 => exact aC)
      (case side4 => exact HC0_1.out)
      rintro e w45 ⟨v357, v360, rfl, ho0, ho1, hb⟩
      refine ⟨_, rfl, ?_⟩
      have n0_ := aM (Kd.R_elder' (aR HO337) (Kd.R_base ho0) hb)
      have n1_ := aM (Kd.S_elder' (aS HO340) (Kd.S_base ho1) hb)
      have n2_ := aM (Kd.R_below (aR HO343) hb)
      have n3_ := aM (Kd.R_elder' (aR HO347) (Kd.R_base ho0) hb)
      have n4_ := aM (Kd.S_elder' (aS HO350) (Kd.S_base ho1) hb)
      have n5_ := aM (Kd.R_below (aR HO354) hb)
      have n6_ := aM (Kd.R_lower (Kd.R_new' (Kd.R_new' ho0 (Kd.R_lt (aR HO337))) (Kd.R_lt (aR HO347))) (below_size aG))
      have n7_ := aM (Kd.S_lower (Kd.S_new' (Kd.S_new' (Kd.S_new' (Kd.S_new' ho1 (Kd.S_lt (aS HO340))) (Kd.R_lt (aR HO343))) (Kd.S_lt (aS HO350))) (Kd.R_lt (aR HO354))) (below_size aG))
      have n8_ := aM (blk_below (g := gb333) (o := .cells #[.slice A0_0 l0_0.length c0_0, .slice A0_1 l0_1.length c0_1] 25 (0, 0)) aK hb)
      have n9_ := aM (blk_below (g := gb351) (o := .cells #[.slice Ao36 t345.length co36, .slice Ao39 t348.length co39] 31 (0, 0)) aK hb)
      have n10_ := aM (below_step aG hb)
      clear HO337
      clear HO340
      clear HO343
      clear HO347
      clear HO350
      clear HO354
      clear BK333
      clear BK351
      clear HB
      have HO337 := n0_
      have HO340 := n1_
      have HO343 := n2_
      have HO347 := n3_
      have HO350 := n4_
      have HO354 := n5_
      have HO358 := n6_
      have HO361 := n7_
      have BK333 := n8_
      have BK351 := n9_
      have HB := n10_
      clear n0_ n1_ n2_ n3_ n4_ n5_ n6_ n7_ n8_ n9_ n10_
      (try clear hb)
      (try clear hb2)
      (try clear hk)
      (try clear hi)
      (try clear ho0)
      (try clear ho1)
      obtain ⟨Ao46, co46, eo46⟩ := Kd.R_slice HO358.out
      (first | subst eo46 | (injection eo46 with f1_ f2_ f3_; have f4_ := f1_.symm; have f5_ := f3_.symm; clear f1_ f2_ f3_; subst f4_; subst f5_))
      obtain ⟨Ao47, co47, eo47⟩ := Kd.S_slice HO361.out
      (first | subst eo47 | (injection eo47 with f1_ f2_ f3_; have f4_ := f1_.symm; have f5_ := f3_.symm; clear f1_ f2_ f3_; subst f4_; subst f5_))
      refine hK.out _ _ ⟨(blk_cell BK351.out 0).trans rfl, (blk_cell BK351.out 1).trans rfl, (blk_cell BK333.out 0).trans rfl, (blk_cell BK333.out 1).trans rfl⟩ (fun hHeld => ?_)
      clear hK K
      refine norm_ (a' := ?_) ?_ ?_
      rotate_left
      ·show Act.put _ (some 35) _ = _
       simp only [Act.put, List.setIfInBounds_toArray, List.set_cons_zero, List.set_cons_succ, i64_w, i32_w]
       rfl
      refine one_ (i := 3) (N := some 36) #[true, true, true, true, false] rfl rfl (by kernel_rfl) (by decide) (fun K hK => ?_)
      refine goes_ Tryd.func11 (by kernel_rfl) rfl #[.agg #[.slice Ao36 t345.length co36, .slice Ao39 t348.length co39], .agg #[.slice Ao46 t356.length co46, .slice Ao47 t359.length co47]] (by rfl) rfl rfl (by (try simp only [List.map_toArray, List.map_cons, List.map_nil]); first | done | rfl | (simp only [List.length_drop, List.length_take]; rfl)) ?_
      with_reducible refine (laws_eqDatabase.calls k _ _ t345 _ _ t348 _ _ t356 _ _ t359 true _ ?side1 ?side2 ?side3 ?side4 ?side5 ?side6 ?side7 ?side8 A18.out).mono ?_
      (case side1 => repeat (first | exact (Kd.R_reads' HO347.out).2.2 | (with_reducible refine Kd.C_alloc ?_ _) | (with_reducible refine Kd.C_drewN ?_ _) | (with_reducible refine Kd.C_drew ?_)))
      (case side2 => exact (Kd.R_reads' HO347.out).2.1)
      (case side3 => repeat (first | exact (Kd.S_reads' HO350.out).2.2 | (with_reducible refine Kd.C_alloc ?_ _) | (with_reducible refine Kd.C_drewN ?_ _) | (with_reducible refine Kd.C_drew ?_)))
      (case side4 => exact (Kd.S_reads' HO350.out).2.1)
      (case side5 => repeat (first | exact (Kd.R_reads' HO358.out).2.2 | (with_reducible refine Kd.C_alloc ?_ _) | (with_reducible refine Kd.C_drewN ?_ _) | (with_reducible refine Kd.C_drew ?_)))
      (case side6 => exact (Kd.R_reads' HO358.out).2.1)
      (case side7 => repeat (first | exact (Kd.S_reads' HO361.out).2.2 | (with_reducible refine Kd.C_alloc ?_ _) | (with_reducible refine Kd.C_drewN ?_ _) | (with_reducible refine Kd.C_drew ?_)))
      (case side8 => exact (Kd.S_reads' HO361.out).2.1)
      rintro e w48 ⟨rfl, hb⟩
      refine ⟨_, rfl, ?_⟩
      have n0_ := aM (Kd.R_below (aR HO337) hb)
      have n1_ := aM (Kd.S_below (aS HO340) hb)
      have n2_ := aM (Kd.R_below (aR HO343) hb)
      have n3_ := aM (Kd.R_below (aR HO347) hb)
      have n4_ := aM (Kd.S_below (aS HO350) hb)
      have n5_ := aM (Kd.R_below (aR HO354) hb)
      have n6_ := aM (Kd.R_below (aR HO358) hb)
      have n7_ := aM (Kd.S_below (aS HO361) hb)
      have n8_ := aM (blk_below (g := gb333) (o := .cells #[.slice A0_0 l0_0.length c0_0, .slice A0_1 l0_1.length c0_1] 25 (0, 0)) aK hb)
      have n9_ := aM (blk_below (g := gb351) (o := .cells #[.slice Ao36 t345.length co36, .slice Ao39 t348.length co39] 31 (0, 0)) aK hb)
      have n10_ := aM (below_step aG hb)
      clear HO337
      clear HO340
      clear HO343
      clear HO347
      clear HO350
      clear HO354
      clear HO358
      clear HO361
      clear BK333
      clear BK351
      clear HB
      have HO337 := n0_
      have HO340 := n1_
      have HO343 := n2_
      have HO347 := n3_
      have HO350 := n4_
      have HO354 := n5_
      have HO358 := n6_
      have HO361 := n7_
      have BK333 := n8_
      have BK351 := n9_
      have HB := n10_
      clear n0_ n1_ n2_ n3_ n4_ n5_ n6_ n7_ n8_ n9_ n10_
      (try clear hb)
      (try clear hb2)
      (try clear hk)
      (try clear hi)
      refine hK.out _ _ ⟨(blk_cell BK351.out 0).trans rfl, (blk_cell BK351.out 1).trans rfl, (blk_cell BK333.out 0).trans rfl, (blk_cell BK333.out 1).trans rfl⟩ (fun hHeld => ?_)
      clear hK K
      refine norm_ (a' := ?_) ?_ ?_
      rotate_left
      ·show Act.put _ (some 36) _ = _
       simp only [Act.put, List.setIfInBounds_toArray, List.set_cons_zero, List.set_cons_succ, i64_w, i32_w]
       rfl
      refine pure_ (i := 4) (N := some 37) (v := ?_) (a' := ?_) #[true, true, true, true, true] rfl rfl (by kernel_rfl) (fun _ _ _ h => h) (Or.inl ⟨by rfl, ?_⟩) ?_ ?_
      rotate_left
      ·exact aI
      rotate_left
      ·exact aP
      refine done_ (by kernel_rfl) ?_
      try go_wp2_with (first | ((with_reducible refine gate_callee (f := 35) rfl ?_); refine goesL_ (some 40) rfl rfl Tryd.func35 (by kernel_rfl) rfl #[.slice A1 l1.length c1] rfl (by (try simp only [List.map_toArray, List.map_cons, List.map_nil]); first | done | rfl | (simp only [List.length_drop, List.length_take]; rfl)) ?_; (with_reducible refine (laws_toIntS.calls k _ _ l1 t363 _ ?side1 ?side2 A20.out).mono ?_); (case side1 => exact aC); (case side2 => exact HC1.out); rintro e w49 ⟨v364, rfl, ho0, hb⟩; refine ⟨_, rfl, ?_⟩; have n0_ := aM (Kd.R_below (aR HO337) hb); have n1_ := aM (Kd.S_elder' (aS HO340) (Kd.R_base ho0) hb); have n2_ := aM (Kd.R_elder' (aR HO343) (Kd.R_base ho0) hb); have n3_ := aM (Kd.R_below (aR HO347) hb); have n4_ := aM (Kd.S_elder' (aS HO350) (Kd.R_base ho0) hb); have n5_ := aM (Kd.R_elder' (aR HO354) (Kd.R_base ho0) hb); have n6_ := aM (Kd.R_below (aR HO358) hb); have n7_ := aM (Kd.S_elder' (aS HO361) (Kd.R_base ho0) hb); have n8_ := aM (Kd.R_lower (Kd.R_new' (Kd.R_new' ho0 (Kd.R_lt (aR HO343))) (Kd.R_lt (aR HO354))) (below_size aG)); have n9_ := aM (blk_below (g := gb333) (o := .cells #[.slice A0_0 l0_0.length c0_0, .slice A0_1 l0_1.length c0_1] 25 (0, 0)) aK hb); have n10_ := aM (blk_below (g := gb351) (o := .cells #[.slice Ao36 t345.length co36, .slice Ao39 t348.length co39] 31 (0, 0)) aK hb); have n11_ := aM (below_step aG hb); clear HO337; clear HO340; clear HO343; clear HO347; clear HO350; clear HO354; clear HO358; clear HO361; clear BK333; clear BK351; clear HB; have HO337 := n0_; have HO340 := n1_; have HO343 := n2_; have HO347 := n3_; have HO350 := n4_; have HO354 := n5_; have HO358 := n6_; have HO361 := n7_; have HO365 := n8_; have BK333 := n9_; have BK351 := n10_; have HB := n11_; clear n0_ n1_ n2_ n3_ n4_ n5_ n6_ n7_ n8_ n9_ n10_ n11_; (try clear hb); (try clear hb2); (try clear hk); (try clear hi); (try clear ho0); obtain ⟨Ao50, co50, eo50⟩ := Kd.R_slice HO365.out; subst eo50) | ((with_reducible refine gate_callee (f := 36) rfl ?_); refine goesL_ (some 41) rfl rfl Tryd.func36 (by kernel_rfl) rfl #[.slice Ao42 t352.length co42, .slice Ao50 t363.length co50] rfl (by (try simp only [List.map_toArray, List.map_cons, List.map_nil]); first | done | rfl | (simp only [List.length_drop, List.length_take]; rfl)) ?_; (with_reducible refine (laws_eqIntS.calls k _ _ t352 _ _ t363 true _ ?side1 ?side2 ?side3 ?side4 A21.out).mono ?_); (case side1 => repeat (first | exact (Kd.R_reads' HO354.out).2.2 | (with_reducible refine Kd.C_alloc ?_ _) | (with_reducible refine Kd.C_drewN ?_ _) | (with_reducible refine Kd.C_drew ?_))); (case side2 => exact (Kd.R_reads' HO354.out).2.1); (case side3 => repeat (first | exact (Kd.R_reads' HO365.out).2.2 | (with_reducible refine Kd.C_alloc ?_ _) | (with_reducible refine Kd.C_drewN ?_ _) | (with_reducible refine Kd.C_drew ?_))); (case side4 => exact (Kd.R_reads' HO365.out).2.1); rintro e w' ⟨rfl, ⟨nd, rfl⟩⟩; refine ⟨_, rfl, ?_⟩))
      go_ret
      exact ⟨by first | rfl | (simp [errW_none, errW_some] <;> rfl) | (simp [*, errW_none, errW_some] <;> rfl), by repeat (first | (with_reducible first | exact HB.out | apply below_alloc | apply pw_below_drewN | apply below_drew1 | refine below_set ?_ GE333.out | refine below_set ?_ GE351.out) | exact HB.out)⟩
     ·replace c22 := Bool.eq_false_iff.mpr c22
      subst c22
      have H1 : (some false) = some r := by rw [if_neg (show ¬ (false = true) by decide)] at H; exact H
      clear H
      have H := H1
      clear H1
      exact absurd (Option.some.inj (H.trans (congrArg some HRT_.out))) (by decide)
    ·replace c19 := Bool.eq_false_iff.mpr c19
     subst c19
     have H1 : (some false) = some r := by rw [if_neg (show ¬ (false = true) by decide)] at H; exact H
     clear H
     have H := H1
     clear H1
     exact absurd (Option.some.inj (H.trans (congrArg some HRT_.out))) (by decide)
   ·rw [if_neg c16] at H
    have c16b0 : (t355.toList == t344.toList) = false := beq_eq_false_iff_ne.mpr c16
    have c16b1 : (t355.toList != t344.toList) = true := bne_iff_ne.mpr c16
    exact absurd (Option.some.inj (H.trans (congrArg some HRT_.out))) (by decide)

end Go.Proofs.YtckpikfbhlhhjaaDoor.PFnExactFormatFacts
