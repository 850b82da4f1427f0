-- Laid by a program of this claim: what the functions come to, some of them proved by hand.
import Derived.Test.YtehlhbidmanbmaaPFnExactIsRepairx0
import Derived.Test.YtehlhbidmanbmaaPFnExactIsRepairx1
import Derived.Test.YtehlhbidmanbmaaPFnExactIsRepairx2
import Derived.Test.YtehlhbidmanbmaaPFnExactIsRepairx3
import Derived.Test.YtehlhbidmanbmaaPFnExactIsRepairx4
import Derived.Test.YtehlhbidmanbmaaPFnExactIsRepairx15
import Derived.Test.YtehlhbidmanbmaaPFnExactIsRepairx23
namespace Go.Proofs.Ytehlhbidmanbmaa.PFnExactIsRepair
open Go.RowKit Go.Proofs.YtehlhbidmanbmaaW.PrintWords Go.Proofs.YtehlhbidmanbmaaW.PrintLast Go.Proofs.YtehlhbidmanbmaaW.PrintMore
attribute [local go_sem] max2_int min2_int max_two min_two max_three min_three max_four min_four   -- for this text's walks alone
set_option linter.unusedVariables false
set_option linter.unusedSimpArgs false

/-! ### laws_FnExactIsRepair: function 6 -/
def laws_FnExactIsRepair.f (k : Nat) (l0_0 : List (S85)) (l0_1 : List (S47)) (l1 : List Int) : Option (Bool) := if (l1.length : Int) > 1048576 then (some true) else ((laws_szDatabase.f k l0_0 l0_1 1048576).bind fun t401 => (if t401 < 0 then (some true) else ((laws_toDatabase.f k l0_0 l0_1).bind fun bt402 => ((laws_toIntS.f k l1).bind fun t408 => ((spec_IsRepair.f k bt402.1 bt402.2 t408).bind fun t411 => ((laws_toDatabase.f k l0_0 l0_1).bind fun bt412 => ((laws_toIntS.f k l1).bind fun t419 => ((impl_IsRepair.f k bt412.1 bt412.2 t419).bind fun t422 => (if (t422 != t411) = true then (some false) else ((laws_toDatabase.f k l0_0 l0_1).bind fun bt423 => ((laws_eqDatabase.f k bt412.1 bt412.2 bt423.1 bt423.2).bind fun t429 => (if t429 = true then ((laws_toIntS.f k l1).bind fun t430 => ((laws_eqIntS.f k t419 t430).bind fun t433 => (if t433 = true then (some true) else (some false)))) else (some false)))))))))))))
theorem laws_FnExactIsRepair.mono : ∀ a0 a1 a2 k, LeO (laws_FnExactIsRepair.f k a0 a1 a2) (laws_FnExactIsRepair.f (k + 1) a0 a1 a2) := by
 intro a0 a1 a2 k
 unfold laws_FnExactIsRepair.f
 repeat' first
   | (with_reducible exact impl_IsRepair.mono _ _ _ _)
   | (with_reducible exact laws_eqDatabase.mono _ _ _ _ _)
   | (with_reducible exact laws_eqIntS.mono _ _ _)
   | (with_reducible exact laws_szDatabase.mono _ _ _ _)
   | (with_reducible exact laws_toDatabase.mono _ _ _)
   | (with_reducible exact laws_toIntS.mono _ _)
   | (with_reducible exact spec_IsRepair.mono _ _ _ _)
   | (with_reducible exact LeO.refl _)
   | (with_reducible exact LeO.none _)
   | (with_reducible refine LeO.ite ?_ ?_)
   | (with_reducible refine LeO.bind ?_ (fun _ => ?_))
   | exact impl_IsRepair.mono _ _ _ _
   | exact laws_eqDatabase.mono _ _ _ _ _
   | exact laws_eqIntS.mono _ _ _
   | exact laws_szDatabase.mono _ _ _ _
   | exact laws_toDatabase.mono _ _ _
   | exact laws_toIntS.mono _ _
   | exact spec_IsRepair.mono _ _ _ _
   | exact LeO.none _
   | refine LeO.ite ?_ ?_
   | refine LeO.bind ?_ (fun _ => ?_)
set_option maxHeartbeats 8000000 in
set_option maxRecDepth 100000 in
theorem laws_FnExactIsRepair.calls (k : Nat) (A0_0 : Option Addr) (c0_0 : Nat) (l0_0 : List (S85)) (A0_1 : Option Addr) (c0_1 : Nat) (l0_1 : List (S47)) (A1 : Option Addr) (c1 : Nat) (l1 : List Int) (r : Bool) (w : World) (hr0_0 : Kd.C k85 w A0_0 l0_0.length l0_0) (hc0_0 : l0_0.length ≤ c0_0) (hr0_1 : Kd.C k47 w A0_1 l0_1.length l0_1) (hc0_1 : l0_1.length ≤ c0_1) (hr1 : Kd.C (Kd.int .i64) w A1 l1.length l1) (hc1 : l1.length ≤ c1) (h : laws_FnExactIsRepair.f k l0_0 l0_1 l1 = some r) (hr_ : r = true) :
  Calls Try.prog 6 #[.agg #[.slice A0_0 l0_0.length c0_0, .slice A0_1 l0_1.length c0_1], .slice A1 l1.length c1] w fun e w' => e = .returned (.bool r) ∧ Below w.heap.size w w' := by
 have HRT_ := Aside0.mk hr_
 clear hr_
 have hu25 := Try.underlying25
 have hu32 := Try.underlying32
 have HR0_0 := Aside0.mk hr0_0
 have HC0_0 := Aside0.mk hc0_0
 clear hr0_0 hc0_0
 have HR0_1 := Aside0.mk hr0_1
 have HC0_1 := Aside0.mk hc0_1
 clear hr0_1 hc0_1
 have HR1 := Aside0.mk hr1
 have HC1 := Aside0.mk hc1
 clear hr1 hc1
 have HB := Aside0.mk (Below.refl w.heap.size w)
 have H : (if (l1.length : Int) > 1048576 then (some true) else ((laws_szDatabase.f k l0_0 l0_1 1048576).bind fun t401 => (if t401 < 0 then (some true) else ((laws_toDatabase.f k l0_0 l0_1).bind fun bt402 => ((laws_toIntS.f k l1).bind fun t408 => ((spec_IsRepair.f k bt402.1 bt402.2 t408).bind fun t411 => ((laws_toDatabase.f k l0_0 l0_1).bind fun bt412 => ((laws_toIntS.f k l1).bind fun t419 => ((impl_IsRepair.f k bt412.1 bt412.2 t419).bind fun t422 => (if (t422 != t411) = true then (some false) else ((laws_toDatabase.f k l0_0 l0_1).bind fun bt423 => ((laws_eqDatabase.f k bt412.1 bt412.2 bt423.1 bt423.2).bind fun t429 => (if t429 = true then ((laws_toIntS.f k l1).bind fun t430 => ((laws_eqIntS.f k t419 t430).bind fun t433 => (if t433 = true then (some true) else (some false)))) else (some false)))))))))))))) = some r := h
 clear h
 by_cases c3 : (l1.length : Int) > 1048576
 ·rw [if_pos c3] at H
  have c3b0 : decide (1048576 < (l1.length : Int)) = true := decide_eq_true c3
  have c3b1 : decide (1048576 < l1.length) = true := decide_eq_true (by omega)
  clear c3
  obtain rfl := Option.some.inj H
  go_enter Try.func6, Try.ntmps6
  go_wp2_with (first | ((with_reducible refine gate_dst (N := 2) rfl ?_); refine box_event ?hg (N := 2) ?hd (cs := #[.slice A0_0 l0_0.length c0_0, .slice A0_1 l0_1.length c0_1]) (t := 25) ?hr ?_; (case hd => rfl); (case hg => rfl); (case hr => first | (go_simp; done) | (go_simp; rfl)); intro gb400 hg w4 hbox hb; have n0_ := Aside0.mk (below_step aB hb); have n1_ := Aside0.mk (hbox); have n2_ := Aside0.mk ((by rw [hg]; exact (below_size aB) : w.heap.size ≤ gb400)); have n3_ := Aside0.mk ((by rw [hg]; exact (below_size aB) : w.heap.size ≤ gb400)); clear HB; have HB := n0_; have BK400 := n1_; have GW400 := n2_; have GE400 := n3_; clear n0_ n1_ n2_ n3_; clear hb hbox hg))
  go_ret
  exact ⟨by first | rfl | (simp [errW_none, errW_some] <;> rfl) | (simp [*, errW_none, errW_some] <;> rfl), by repeat (first | (with_reducible first | exact HB.out | apply below_alloc | apply pw_below_drewN | apply below_drew1 | refine below_set ?_ GE400.out) | exact HB.out)⟩
 ·rw [if_neg c3] at H
  have c3b0 : decide (1048576 < (l1.length : Int)) = false := decide_eq_false c3
  have c3b1 : decide (1048576 < l1.length) = false := decide_eq_false (by omega)
  clear c3
  replace H := Option.bind_eq_some_iff.mp H
  obtain ⟨t401, A50, H⟩ := H
  replace H : (if t401 < 0 then (some true) else ((laws_toDatabase.f k l0_0 l0_1).bind fun bt402 => ((laws_toIntS.f k l1).bind fun t408 => ((spec_IsRepair.f k bt402.1 bt402.2 t408).bind fun t411 => ((laws_toDatabase.f k l0_0 l0_1).bind fun bt412 => ((laws_toIntS.f k l1).bind fun t419 => ((impl_IsRepair.f k bt412.1 bt412.2 t419).bind fun t422 => (if (t422 != t411) = true then (some false) else ((laws_toDatabase.f k l0_0 l0_1).bind fun bt423 => ((laws_eqDatabase.f k bt412.1 bt412.2 bt423.1 bt423.2).bind fun t429 => (if t429 = true then ((laws_toIntS.f k l1).bind fun t430 => ((laws_eqIntS.f k t419 t430).bind fun t433 => (if t433 = true then (some true) else (some false)))) else (some false)))))))))))) = some r := H
  have A5 := Aside0.mk A50
  clear A50
  by_cases c6 : t401 < 0
  ·rw [if_pos c6] at H
   have c6b0 : decide (t401 < 0) = true := decide_eq_true c6
   clear c6
   obtain rfl := Option.some.inj H
   go_enter Try.func6, Try.ntmps6
   go_wp2_with (first | ((with_reducible refine gate_dst (N := 2) rfl ?_); refine box_event ?hg (N := 2) ?hd (cs := #[.slice A0_0 l0_0.length c0_0, .slice A0_1 l0_1.length c0_1]) (t := 25) ?hr ?_; (case hd => rfl); (case hg => rfl); (case hr => first | (go_simp; done) | (go_simp; rfl)); intro gb400 hg w7 hbox hb; have n0_ := Aside0.mk (below_step aB hb); have n1_ := Aside0.mk (hbox); have n2_ := Aside0.mk ((by rw [hg]; exact (below_size aB) : w.heap.size ≤ gb400)); have n3_ := Aside0.mk ((by rw [hg]; exact (below_size aB) : w.heap.size ≤ gb400)); clear HB; have HB := n0_; have BK400 := n1_; have GW400 := n2_; have GE400 := n3_; clear n0_ n1_ n2_ n3_; clear hb hbox hg; have hcz8_0 : w7.cell? ⟨gb400, 0, none⟩ = some (.slice A0_0 l0_0.length c0_0) := (blk_cell BK400.out 0).trans rfl; have hcz8_1 : w7.cell? ⟨gb400, 1, none⟩ = some (.slice A0_1 l0_1.length c0_1) := (blk_cell BK400.out 1).trans rfl; have hfz8_0 := blk_frozen BK400.out 0; have hfz8_1 := blk_frozen BK400.out 1) | ((with_reducible refine gate_callee (f := 15) rfl ?_); refine goesL_ (some 15) rfl rfl Try.func15 (by kernel_rfl) rfl #[.agg #[.slice A0_0 l0_0.length c0_0, .slice A0_1 l0_1.length c0_1], .int .i64 1048576] rfl (by (try simp only [List.map_toArray, List.map_cons, List.map_nil]); first | done | rfl | (simp only [List.length_drop, List.length_take]; rfl)) ?_; (with_reducible refine (laws_szDatabase.calls k _ _ l0_0 _ _ l0_1 1048576 t401 _ ?side1 ?side2 ?side3 ?side4 A5.out).mono ?_); (case side1 => exact aC); (case side2 => exact HC0_0.out); (case side3 => exact aC); (case side4 => exact HC0_1.out); rintro e w9 ⟨rfl, hb⟩; refine ⟨_, rfl, ?_⟩; have n0_ := Aside0.mk (blk_below (g := gb400) (o := .cells #[.slice A0_0 l0_0.length c0_0, .slice A0_1 l0_1.length c0_1] 25 (0, 0)) aK hb); have n1_ := Aside0.mk (below_step aG hb); clear BK400; clear HB; have BK400 := n0_; have HB := n1_; clear n0_ n1_; (try clear hb); (try clear hb2); (try clear hk); (try clear hi)))
   go_ret
   exact ⟨by first | rfl | (simp [errW_none, errW_some] <;> rfl) | (simp [*, errW_none, errW_some] <;> rfl), by repeat (first | (with_reducible first | exact HB.out | apply below_alloc | apply pw_below_drewN | apply below_drew1 | refine below_set ?_ GE400.out) | exact HB.out)⟩
  ·rw [if_neg c6] at H
   have c6b0 : decide (t401 < 0) = false := decide_eq_false c6
   clear c6
   replace H := Option.bind_eq_some_iff.mp H
   obtain ⟨⟨t402, t405⟩, A100, H⟩ := H
   replace H : ((laws_toIntS.f k l1).bind fun t408 => ((spec_IsRepair.f k t402 t405 t408).bind fun t411 => ((laws_toDatabase.f k l0_0 l0_1).bind fun bt412 => ((laws_toIntS.f k l1).bind fun t419 => ((impl_IsRepair.f k bt412.1 bt412.2 t419).bind fun t422 => (if (t422 != t411) = true then (some false) else ((laws_toDatabase.f k l0_0 l0_1).bind fun bt423 => ((laws_eqDatabase.f k bt412.1 bt412.2 bt423.1 bt423.2).bind fun t429 => (if t429 = true then ((laws_toIntS.f k l1).bind fun t430 => ((laws_eqIntS.f k t419 t430).bind fun t433 => (if t433 = true then (some true) else (some false)))) else (some false)))))))))) = some r := H
   have A10 := Aside0.mk A100
   clear A100
   replace H := Option.bind_eq_some_iff.mp H
   obtain ⟨t408, A110, H⟩ := H
   replace H : ((spec_IsRepair.f k t402 t405 t408).bind fun t411 => ((laws_toDatabase.f k l0_0 l0_1).bind fun bt412 => ((laws_toIntS.f k l1).bind fun t419 => ((impl_IsRepair.f k bt412.1 bt412.2 t419).bind fun t422 => (if (t422 != t411) = true then (some false) else ((laws_toDatabase.f k l0_0 l0_1).bind fun bt423 => ((laws_eqDatabase.f k bt412.1 bt412.2 bt423.1 bt423.2).bind fun t429 => (if t429 = true then ((laws_toIntS.f k l1).bind fun t430 => ((laws_eqIntS.f k t419 t430).bind fun t433 => (if t433 = true then (some true) else (some false)))) else (some false))))))))) = some r := H
   have A11 := Aside0.mk A110
   clear A110
   replace H := Option.bind_eq_some_iff.mp H
   obtain ⟨t411, A120, H⟩ := H
   replace H : ((laws_toDatabase.f k l0_0 l0_1).bind fun bt412 => ((laws_toIntS.f k l1).bind fun t419 => ((impl_IsRepair.f k bt412.1 bt412.2 t419).bind fun t422 => (if (t422 != t411) = true then (some false) else ((laws_toDatabase.f k l0_0 l0_1).bind fun bt423 => ((laws_eqDatabase.f k bt412.1 bt412.2 bt423.1 bt423.2).bind fun t429 => (if t429 = true then ((laws_toIntS.f k l1).bind fun t430 => ((laws_eqIntS.f k t419 t430).bind fun t433 => (if t433 = true then (some true) else (some false)))) else (some false)))))))) = some r := H
   have A12 := Aside0.mk A120
   clear A120
   replace H := Option.bind_eq_some_iff.mp H
   obtain ⟨⟨t412, t415⟩, A130, H⟩ := H
   replace H : ((laws_toIntS.f k l1).bind fun t419 => ((impl_IsRepair.f k t412 t415 t419).bind fun t422 => (if (t422 != t411) = true then (some false) else ((laws_toDatabase.f k l0_0 l0_1).bind fun bt423 => ((laws_eqDatabase.f k t412 t415 bt423.1 bt423.2).bind fun t429 => (if t429 = true then ((laws_toIntS.f k l1).bind fun t430 => ((laws_eqIntS.f k t419 t430).bind fun t433 => (if t433 = true then (some true) else (some false)))) else (some false))))))) = some r := H
   have A13 := Aside0.mk A130
   clear A130
   replace H := Option.bind_eq_some_iff.mp H
   obtain ⟨t419, A140, H⟩ := H
   replace H : ((impl_IsRepair.f k t412 t415 t419).bind fun t422 => (if (t422 != t411) = true then (some false) else ((laws_toDatabase.f k l0_0 l0_1).bind fun bt423 => ((laws_eqDatabase.f k t412 t415 bt423.1 bt423.2).bind fun t429 => (if t429 = true then ((laws_toIntS.f k l1).bind fun t430 => ((laws_eqIntS.f k t419 t430).bind fun t433 => (if t433 = true then (some true) else (some false)))) else (some false)))))) = some r := H
   have A14 := Aside0.mk A140
   clear A140
   replace H := Option.bind_eq_some_iff.mp H
   obtain ⟨t422, A150, H⟩ := H
   replace H : (if (t422 != t411) = true then (some false) else ((laws_toDatabase.f k l0_0 l0_1).bind fun bt423 => ((laws_eqDatabase.f k t412 t415 bt423.1 bt423.2).bind fun t429 => (if t429 = true then ((laws_toIntS.f k l1).bind fun t430 => ((laws_eqIntS.f k t419 t430).bind fun t433 => (if t433 = true then (some true) else (some false)))) else (some false))))) = some r := H
   have A15 := Aside0.mk A150
   clear A150
   by_cases c16 : (t422 != t411) = true
   ·rw [if_pos c16] at H
    have c16b0 : (t422 != t411) = true := c16
    (try (have c16b1 : decide (t422 = t411) = false := by simpa using c16))
    (try (have c16b2 : (t422 == t411) = false := by simpa using c16))
    (try (have c16b3 : ¬ (t422 = t411) := by simpa using c16))
    clear c16
    exact absurd (Option.some.inj (H.trans (congrArg some HRT_.out))) (by decide)
   ·rw [if_neg c16] at H
    have c16b0 : (t422 != t411) = false := by simpa using c16
    (try (have c16b1 : decide (t422 = t411) = true := by simpa using c16))
    (try (have c16b2 : (t422 == t411) = true := by simpa using c16))
    clear c16
    replace H := Option.bind_eq_some_iff.mp H
    obtain ⟨⟨t423, t426⟩, A170, H⟩ := H
    replace H : ((laws_eqDatabase.f k t412 t415 t423 t426).bind fun t429 => (if t429 = true then ((laws_toIntS.f k l1).bind fun t430 => ((laws_eqIntS.f k t419 t430).bind fun t433 => (if t433 = true then (some true) else (some false)))) else (some false))) = some r := H
    have A17 := Aside0.mk A170
    clear A170
    replace H := Option.bind_eq_some_iff.mp H
    obtain ⟨t429, A180, H⟩ := H
    replace H : (if t429 = true then ((laws_toIntS.f k l1).bind fun t430 => ((laws_eqIntS.f k t419 t430).bind fun t433 => (if t433 = true then (some true) else (some false)))) else (some false)) = some r := H
    have A18 := Aside0.mk A180
    clear A180
    by_cases c19 : t429 = true
    ·subst c19
     have H1 : ((laws_toIntS.f k l1).bind fun t430 => ((laws_eqIntS.f k t419 t430).bind fun t433 => (if t433 = true then (some true) else (some false)))) = some r := by rw [if_pos rfl] at H; exact H
     clear H
     have H := H1
     clear H1
     replace H := Option.bind_eq_some_iff.mp H
     obtain ⟨t430, A200, H⟩ := H
     replace H : ((laws_eqIntS.f k t419 t430).bind fun t433 => (if t433 = true then (some true) else (some false))) = some r := H
     have A20 := Aside0.mk A200
     clear A200
     replace H := Option.bind_eq_some_iff.mp H
     obtain ⟨t433, A210, H⟩ := H
     replace H : (if t433 = true then (some true) else (some false)) = some r := H
     have A21 := Aside0.mk A210
     clear A210
     by_cases c22 : t433 = true
     ·subst c22
      have H1 : (some true) = some r := by rw [if_pos rfl] at H; exact H
      clear H
      have H := H1
      clear H1
      obtain rfl := Option.some.inj H
      go_enter Try.func6, Try.ntmps6
      try go_wp2_with (first | ((with_reducible refine gate_dst (N := 2) rfl ?_); refine box_event ?hg (N := 2) ?hd (cs := #[.slice A0_0 l0_0.length c0_0, .slice A0_1 l0_1.length c0_1]) (t := 25) ?hr ?_; (case hd => rfl); (case hg => rfl); (case hr => first | (go_simp; done) | (go_simp; rfl)); intro gb400 hg w23 hbox hb; have n0_ := Aside0.mk (below_step aB hb); have n1_ := Aside0.mk (hbox); have n2_ := Aside0.mk ((by rw [hg]; exact (below_size aB) : w.heap.size ≤ gb400)); have n3_ := Aside0.mk ((by rw [hg]; exact (below_size aB) : w.heap.size ≤ gb400)); clear HB; have HB := n0_; have BK400 := n1_; have GW400 := n2_; have GE400 := n3_; clear n0_ n1_ n2_ n3_; clear hb hbox hg; have hcz24_0 : w23.cell? ⟨gb400, 0, none⟩ = some (.slice A0_0 l0_0.length c0_0) := (blk_cell BK400.out 0).trans rfl; have hcz24_1 : w23.cell? ⟨gb400, 1, none⟩ = some (.slice A0_1 l0_1.length c0_1) := (blk_cell BK400.out 1).trans rfl; have hfz24_0 := blk_frozen BK400.out 0; have hfz24_1 := blk_frozen BK400.out 1) | ((with_reducible refine gate_callee (f := 15) rfl ?_); refine goesL_ (some 15) rfl rfl Try.func15 (by kernel_rfl) rfl #[.agg #[.slice A0_0 l0_0.length c0_0, .slice A0_1 l0_1.length c0_1], .int .i64 1048576] rfl (by (try simp only [List.map_toArray, List.map_cons, List.map_nil]); first | done | rfl | (simp only [List.length_drop, List.length_take]; rfl)) ?_; (with_reducible refine (laws_szDatabase.calls k _ _ l0_0 _ _ l0_1 1048576 t401 _ ?side1 ?side2 ?side3 ?side4 A5.out).mono ?_); (case side1 => exact aC); (case side2 => exact HC0_0.out); (case side3 => exact aC); (case side4 => exact HC0_1.out); rintro e w25 ⟨rfl, hb⟩; refine ⟨_, rfl, ?_⟩; have n0_ := Aside0.mk (blk_below (g := gb400) (o := .cells #[.slice A0_0 l0_0.length c0_0, .slice A0_1 l0_1.length c0_1] 25 (0, 0)) aK hb); have n1_ := Aside0.mk (below_step aG hb); clear BK400; clear HB; have BK400 := n0_; have HB := n1_; clear n0_ n1_; (try clear hb); (try clear hb2); (try clear hk); (try clear hi); have hcz26_0 : w25.cell? ⟨gb400, 0, none⟩ = some (.slice A0_0 l0_0.length c0_0) := (blk_cell BK400.out 0).trans rfl; have hcz26_1 : w25.cell? ⟨gb400, 1, none⟩ = some (.slice A0_1 l0_1.length c0_1) := (blk_cell BK400.out 1).trans rfl; have hfz26_0 := blk_frozen BK400.out 0; have hfz26_1 := blk_frozen BK400.out 1) | ((with_reducible refine gate_callee (f := 17) rfl ?_); refine goesL_ (some 19) rfl rfl Try.func17 (by kernel_rfl) rfl #[.agg #[.slice A0_0 l0_0.length c0_0, .slice A0_1 l0_1.length c0_1]] rfl (by (try simp only [List.map_toArray, List.map_cons, List.map_nil]); first | done | rfl | (simp only [List.length_drop, List.length_take]; rfl)) ?_; (with_reducible refine (laws_toDatabase.calls k _ _ l0_0 _ _ l0_1 t402 t405 _ ?side1 ?side2 ?side3 ?side4 A10.out).mono ?_); (case side1 => exact aC); (case side2 => exact HC0_0.out); (case side3 => exact aC); (case side4 => exact HC0_1.out); rintro e w27 ⟨v403, v406, rfl, ho0, ho1, hb⟩; refine ⟨_, rfl, ?_⟩; have n0_ := Aside0.mk (Kd.R_lower ho0 (below_size aG)); have n1_ := Aside0.mk (Kd.S_lower ho1 (below_size aG)); have n2_ := Aside0.mk (blk_below (g := gb400) (o := .cells #[.slice A0_0 l0_0.length c0_0, .slice A0_1 l0_1.length c0_1] 25 (0, 0)) aK hb); have n3_ := Aside0.mk (below_step aG hb); clear BK400; clear HB; have HO404 := n0_; have HO407 := n1_; have BK400 := n2_; have HB := n3_; clear n0_ n1_ n2_ n3_; (try clear hb); (try clear hb2); (try clear hk); (try clear hi); (try clear ho0); (try clear ho1)) | ((with_reducible refine gate_callee (f := 18) rfl ?_); refine goesL_ (some 21) rfl rfl Try.func18 (by kernel_rfl) rfl #[.slice A1 l1.length c1] rfl (by (try simp only [List.map_toArray, List.map_cons, List.map_nil]); first | done | rfl | (simp only [List.length_drop, List.length_take]; rfl)) ?_; (with_reducible refine (laws_toIntS.calls k _ _ l1 t408 _ ?side1 ?side2 A11.out).mono ?_); (case side1 => exact aC); (case side2 => exact HC1.out); rintro e w28 ⟨v409, rfl, ho0, hb⟩; refine ⟨_, rfl, ?_⟩; have n0_ := Aside0.mk (Kd.R_below (by (with_reducible repeat (first | apply Kd.R_alloc | apply Kd.R_drewN | apply Kd.R_drew)); exact HO404.out) hb); have n1_ := Aside0.mk (Kd.S_elder' (by (with_reducible repeat (first | apply Kd.S_alloc | apply Kd.S_drewN | apply Kd.S_drew)); exact HO407.out) (Kd.R_base ho0) hb); have n2_ := Aside0.mk (Kd.R_lower ho0 (below_size aG)); have n3_ := Aside0.mk (blk_below (g := gb400) (o := .cells #[.slice A0_0 l0_0.length c0_0, .slice A0_1 l0_1.length c0_1] 25 (0, 0)) aK hb); have n4_ := Aside0.mk (below_step aG hb); clear HO404; clear HO407; clear BK400; clear HB; have HO404 := n0_; have HO407 := n1_; have HO410 := n2_; have BK400 := n3_; have HB := n4_; clear n0_ n1_ n2_ n3_ n4_; (try clear hb); (try clear hb2); (try clear hk); (try clear hi); (try clear ho0); obtain ⟨Ao29, co29, eo29⟩ := Kd.R_slice HO404.out; subst eo29; obtain ⟨Ao30, co30, eo30⟩ := Kd.S_slice HO407.out; subst eo30; obtain ⟨Ao31, co31, eo31⟩ := Kd.R_slice HO410.out; subst eo31) | ((with_reducible refine gate_callee (f := 29) rfl ?_); refine goesL_ (some 22) rfl rfl Try.func29 (by kernel_rfl) rfl #[.agg #[.slice Ao29 t402.length co29, .slice Ao30 t405.length co30], .slice Ao31 t408.length co31] rfl (by (try simp only [List.map_toArray, List.map_cons, List.map_nil]); first | done | rfl | (simp only [List.length_drop, List.length_take]; rfl)) ?_; (with_reducible refine (spec_IsRepair.calls k _ _ t402 _ _ t405 _ _ t408 t411 _ ?side1 ?side2 ?side3 ?side4 ?side5 ?side6 A12.out).mono ?_); (case side1 => repeat (first | exact (Kd.R_reads' HO404.out).2.2 | (with_reducible refine Kd.C_alloc ?_ _) | (with_reducible refine Kd.C_drewN ?_ _) | (with_reducible refine Kd.C_drew ?_))); (case side2 => exact (Kd.R_reads' HO404.out).2.1); (case side3 => repeat (first | exact (Kd.S_reads' HO407.out).2.2 | (with_reducible refine Kd.C_alloc ?_ _) | (with_reducible refine Kd.C_drewN ?_ _) | (with_reducible refine Kd.C_drew ?_))); (case side4 => exact (Kd.S_reads' HO407.out).2.1); (case side5 => repeat (first | exact (Kd.R_reads' HO410.out).2.2 | (with_reducible refine Kd.C_alloc ?_ _) | (with_reducible refine Kd.C_drewN ?_ _) | (with_reducible refine Kd.C_drew ?_))); (case side6 => exact (Kd.R_reads' HO410.out).2.1); rintro e w32 ⟨rfl, hb⟩; refine ⟨_, rfl, ?_⟩; have n0_ := Aside0.mk (Kd.R_below (by (with_reducible repeat (first | apply Kd.R_alloc | apply Kd.R_drewN | apply Kd.R_drew)); exact HO404.out) hb); have n1_ := Aside0.mk (Kd.S_below (by (with_reducible repeat (first | apply Kd.S_alloc | apply Kd.S_drewN | apply Kd.S_drew)); exact HO407.out) hb); have n2_ := Aside0.mk (Kd.R_below (by (with_reducible repeat (first | apply Kd.R_alloc | apply Kd.R_drewN | apply Kd.R_drew)); exact HO410.out) hb); have n3_ := Aside0.mk (blk_below (g := gb400) (o := .cells #[.slice A0_0 l0_0.length c0_0, .slice A0_1 l0_1.length c0_1] 25 (0, 0)) aK hb); have n4_ := Aside0.mk (below_step aG hb); clear HO404; clear HO407; clear HO410; clear BK400; clear HB; have HO404 := n0_; have HO407 := n1_; have HO410 := n2_; have BK400 := n3_; have HB := n4_; clear n0_ n1_ n2_ n3_ n4_; (try clear hb); (try clear hb2); (try clear hk); (try clear hi); have hcz33_0 : w32.cell? ⟨gb400, 0, none⟩ = some (.slice A0_0 l0_0.length c0_0) := (blk_cell BK400.out 0).trans rfl; have hcz33_1 : w32.cell? ⟨gb400, 1, none⟩ = some (.slice A0_1 l0_1.length c0_1) := (blk_cell BK400.out 1).trans rfl; have hfz33_0 := blk_frozen BK400.out 0; have hfz33_1 := blk_frozen BK400.out 1) | ((with_reducible refine gate_callee (f := 17) rfl ?_); refine goesL_ (some 24) rfl rfl Try.func17 (by kernel_rfl) rfl #[.agg #[.slice A0_0 l0_0.length c0_0, .slice A0_1 l0_1.length c0_1]] rfl (by (try simp only [List.map_toArray, List.map_cons, List.map_nil]); first | done | rfl | (simp only [List.length_drop, List.length_take]; rfl)) ?_; (with_reducible refine (laws_toDatabase.calls k _ _ l0_0 _ _ l0_1 t412 t415 _ ?side1 ?side2 ?side3 ?side4 A13.out).mono ?_); (case side1 => exact aC); (case side2 => exact HC0_0.out); (case side3 => exact aC); (case side4 => exact HC0_1.out); rintro e w34 ⟨v413, v416, rfl, ho0, ho1, hb⟩; refine ⟨_, rfl, ?_⟩; have n0_ := Aside0.mk (Kd.R_elder' (by (with_reducible repeat (first | apply Kd.R_alloc | apply Kd.R_drewN | apply Kd.R_drew)); exact HO404.out) (Kd.R_base ho0) hb); have n1_ := Aside0.mk (Kd.S_elder' (by (with_reducible repeat (first | apply Kd.S_alloc | apply Kd.S_drewN | apply Kd.S_drew)); exact HO407.out) (Kd.S_base ho1) hb); have n2_ := Aside0.mk (Kd.R_below (by (with_reducible repeat (first | apply Kd.R_alloc | apply Kd.R_drewN | apply Kd.R_drew)); exact HO410.out) hb); have n3_ := Aside0.mk (Kd.R_lower (Kd.R_new' ho0 (Kd.R_lt (by (with_reducible repeat (first | apply Kd.R_alloc | apply Kd.R_drewN | apply Kd.R_drew)); exact HO404.out))) (below_size aG)); have n4_ := Aside0.mk (Kd.S_lower (Kd.S_new' (Kd.S_new' ho1 (Kd.S_lt (by (with_reducible repeat (first | apply Kd.S_alloc | apply Kd.S_drewN | apply Kd.S_drew)); exact HO407.out))) (Kd.R_lt (by (with_reducible repeat (first | apply Kd.R_alloc | apply Kd.R_drewN | apply Kd.R_drew)); exact HO410.out))) (below_size aG)); have n5_ := Aside0.mk (blk_below (g := gb400) (o := .cells #[.slice A0_0 l0_0.length c0_0, .slice A0_1 l0_1.length c0_1] 25 (0, 0)) aK hb); have n6_ := Aside0.mk (below_step aG hb); clear HO404; clear HO407; clear HO410; clear BK400; clear HB; have HO404 := n0_; have HO407 := n1_; have HO410 := n2_; have HO414 := n3_; have HO417 := n4_; have BK400 := n5_; have HB := n6_; clear n0_ n1_ n2_ n3_ n4_ n5_ n6_; (try clear hb); (try clear hb2); (try clear hk); (try clear hi); (try clear ho0); (try clear ho1)) | ((with_reducible refine gate_dst (N := 7) rfl ?_); refine box_event ?hg (N := 7) ?hd (cs := #[.slice none 0 0, .slice none 0 0]) (t := 32) ?hr ?_; (case hd => rfl); (case hg => rfl); (case hr => first | (go_simp; done) | (go_simp; rfl)); intro gb418 hg w35 hbox hb; have n0_ := Aside0.mk (Kd.R_below (by (with_reducible repeat (first | apply Kd.R_alloc | apply Kd.R_drewN | apply Kd.R_drew)); exact HO404.out) hb); have n1_ := Aside0.mk (Kd.S_below (by (with_reducible repeat (first | apply Kd.S_alloc | apply Kd.S_drewN | apply Kd.S_drew)); exact HO407.out) hb); have n2_ := Aside0.mk (Kd.R_below (by (with_reducible repeat (first | apply Kd.R_alloc | apply Kd.R_drewN | apply Kd.R_drew)); exact HO410.out) hb); have n3_ := Aside0.mk (Kd.R_below (by (with_reducible repeat (first | apply Kd.R_alloc | apply Kd.R_drewN | apply Kd.R_drew)); exact HO414.out) hb); have n4_ := Aside0.mk (Kd.S_below (by (with_reducible repeat (first | apply Kd.S_alloc | apply Kd.S_drewN | apply Kd.S_drew)); exact HO417.out) hb); have n5_ := Aside0.mk (blk_below (g := gb400) (o := .cells #[.slice A0_0 l0_0.length c0_0, .slice A0_1 l0_1.length c0_1] 25 (0, 0)) aK hb); have n6_ := Aside0.mk (below_step aG hb); have n7_ := Aside0.mk (hbox); have n8_ := Aside0.mk ((by rw [hg]; exact (below_size aG) : w.heap.size ≤ gb418)); have n9_ := Aside0.mk ((by rw [hg]; exact (below_size aG) : w.heap.size ≤ gb418)); have n10_ := Aside0.mk ((by rw [hg]; exact Nat.ne_of_lt (blk_lt (g := gb400) (o := .cells #[.slice A0_0 l0_0.length c0_0, .slice A0_1 l0_1.length c0_1] 25 (0, 0)) aK) : gb400 ≠ gb418)); have n11_ := Aside0.mk ((by rw [hg]; exact Nat.ne_of_gt (blk_lt (g := gb400) (o := .cells #[.slice A0_0 l0_0.length c0_0, .slice A0_1 l0_1.length c0_1] 25 (0, 0)) aK) : gb418 ≠ gb400)); clear HO404; clear HO407; clear HO410; clear HO414; clear HO417; clear BK400; clear HB; have HO404 := n0_; have HO407 := n1_; have HO410 := n2_; have HO414 := n3_; have HO417 := n4_; have BK400 := n5_; have HB := n6_; have BK418 := n7_; have GW418 := n8_; have GE418 := n9_; have NB400_418 := n10_; have NB418_400 := n11_; clear n0_ n1_ n2_ n3_ n4_ n5_ n6_ n7_ n8_ n9_ n10_ n11_; clear hb hbox hg; obtain ⟨Ao36, co36, eo36⟩ := Kd.R_slice HO414.out; subst eo36; have hnb37 := NB418_400.out; have hnc37 := NB400_418.out; have hcz38_0 : w35.cell? ⟨gb418, 0, none⟩ = some (.slice none 0 0) := (blk_cell BK418.out 0).trans rfl; have hcz38_1 : w35.cell? ⟨gb418, 1, none⟩ = some (.slice none 0 0) := (blk_cell BK418.out 1).trans rfl; have hfz38_0 := blk_frozen BK418.out 0; have hfz38_1 := blk_frozen BK418.out 1; obtain ⟨Ao39, co39, eo39⟩ := Kd.S_slice HO417.out; subst eo39) | ((with_reducible refine gate_callee (f := 18) rfl ?_); refine goesL_ (some 26) rfl rfl Try.func18 (by kernel_rfl) rfl #[.slice A1 l1.length c1] rfl (by (try simp only [List.map_toArray, List.map_cons, List.map_nil]); first | done | rfl | (simp only [List.length_drop, List.length_take]; rfl)) ?_; (with_reducible refine (laws_toIntS.calls k _ _ l1 t419 _ ?side1 ?side2 A14.out).mono ?_); (case side1 => exact Kd.C_below HR1.out aG); (case side2 => exact HC1.out); rintro e w40 ⟨v420, rfl, ho0, hb⟩; refine ⟨_, rfl, ?_⟩; have n0_ := Aside0.mk (Kd.R_below (by (with_reducible repeat (first | apply Kd.R_alloc | apply Kd.R_drewN | apply Kd.R_drew)); exact (Kd.R_mono (Kd.R_far (p := ⟨gb418, 1, none⟩) (Kd.R_far (p := ⟨gb418, 0, none⟩) (Kd.R_types HO404.out BK418.out (by decide)) (fun _ hk => hk.2) (.slice Ao36 t412.length co36)) (fun _ hk => hk.2) (.slice Ao39 t415.length co39)) (fun _ h_ => h_.1))) hb); have n1_ := Aside0.mk (Kd.S_elder' (by (with_reducible repeat (first | apply Kd.S_alloc | apply Kd.S_drewN | apply Kd.S_drew)); exact (Kd.S_mono (Kd.S_far (p := ⟨gb418, 1, none⟩) (Kd.S_far (p := ⟨gb418, 0, none⟩) (Kd.S_types HO407.out BK418.out (by decide)) (fun _ hk => hk.2) (.slice Ao36 t412.length co36)) (fun _ hk => hk.2) (.slice Ao39 t415.length co39)) (fun _ h_ => h_.1))) (Kd.R_base ho0) hb); have n2_ := Aside0.mk (Kd.R_elder' (by (with_reducible repeat (first | apply Kd.R_alloc | apply Kd.R_drewN | apply Kd.R_drew)); exact (Kd.R_mono (Kd.R_far (p := ⟨gb418, 1, none⟩) (Kd.R_far (p := ⟨gb418, 0, none⟩) (Kd.R_types HO410.out BK418.out (by decide)) (fun _ hk => hk.2) (.slice Ao36 t412.length co36)) (fun _ hk => hk.2) (.slice Ao39 t415.length co39)) (fun _ h_ => h_.1))) (Kd.R_base ho0) hb); have n3_ := Aside0.mk (Kd.R_below (by (with_reducible repeat (first | apply Kd.R_alloc | apply Kd.R_drewN | apply Kd.R_drew)); exact (Kd.R_mono (Kd.R_far (p := ⟨gb418, 1, none⟩) (Kd.R_far (p := ⟨gb418, 0, none⟩) (Kd.R_types HO414.out BK418.out (by decide)) (fun _ hk => hk.2) (.slice Ao36 t412.length co36)) (fun _ hk => hk.2) (.slice Ao39 t415.length co39)) (fun _ h_ => h_.1))) hb); have n4_ := Aside0.mk (Kd.S_elder' (by (with_reducible repeat (first | apply Kd.S_alloc | apply Kd.S_drewN | apply Kd.S_drew)); exact (Kd.S_mono (Kd.S_far (p := ⟨gb418, 1, none⟩) (Kd.S_far (p := ⟨gb418, 0, none⟩) (Kd.S_types HO417.out BK418.out (by decide)) (fun _ hk => hk.2) (.slice Ao36 t412.length co36)) (fun _ hk => hk.2) (.slice Ao39 t415.length co39)) (fun _ h_ => h_.1))) (Kd.R_base ho0) hb); have n5_ := Aside0.mk (Kd.R_lower (Kd.R_new' ho0 (Kd.R_lt (by (with_reducible repeat (first | apply Kd.R_alloc | apply Kd.R_drewN | apply Kd.R_drew)); exact (Kd.R_mono (Kd.R_far (p := ⟨gb418, 1, none⟩) (Kd.R_far (p := ⟨gb418, 0, none⟩) (Kd.R_types HO410.out BK418.out (by decide)) (fun _ hk => hk.2) (.slice Ao36 t412.length co36)) (fun _ hk => hk.2) (.slice Ao39 t415.length co39)) (fun _ h_ => h_.1))))) (below_size aG)); have n6_ := Aside0.mk (blk_below (g := gb400) (o := .cells #[.slice A0_0 l0_0.length c0_0, .slice A0_1 l0_1.length c0_1] 25 (0, 0)) (by (with_reducible repeat (first | refine blk_drewN ?_ _ | refine blk_drew ?_ | refine blk_alloc ?_ _)); refine blk_far ?_ NB400_418.out _; (with_reducible repeat (first | refine blk_drewN ?_ _ | refine blk_drew ?_ | refine blk_alloc ?_ _)); refine blk_far ?_ NB400_418.out _; (with_reducible repeat (first | refine blk_drewN ?_ _ | refine blk_drew ?_ | refine blk_alloc ?_ _)); exact BK400.out) hb); have n7_ := Aside0.mk (blk_below (g := gb418) (o := .cells #[.slice Ao36 t412.length co36, .slice Ao39 t415.length co39] 32 (0, 0)) (by (with_reducible repeat (first | refine blk_drewN ?_ _ | refine blk_drew ?_ | refine blk_alloc ?_ _)); refine blk_put (cs := #[.slice Ao36 t412.length co36, .slice none 0 0]) ?_ 1 _ rfl; (with_reducible repeat (first | refine blk_drewN ?_ _ | refine blk_drew ?_ | refine blk_alloc ?_ _)); refine blk_put (cs := #[.slice none 0 0, .slice none 0 0]) ?_ 0 _ rfl; (with_reducible repeat (first | refine blk_drewN ?_ _ | refine blk_drew ?_ | refine blk_alloc ?_ _)); exact BK418.out) hb); have n8_ := Aside0.mk (below_step aG hb); clear HO404; clear HO407; clear HO410; clear HO414; clear HO417; clear BK400; clear BK418; clear HB; have HO404 := n0_; have HO407 := n1_; have HO410 := n2_; have HO414 := n3_; have HO417 := n4_; have HO421 := n5_; have BK400 := n6_; have BK418 := n7_; have HB := n8_; clear n0_ n1_ n2_ n3_ n4_ n5_ n6_ n7_ n8_; (try clear hb); (try clear hb2); (try clear hk); (try clear hi); (try clear ho0); have hcz41_0 : w40.cell? ⟨gb418, 0, none⟩ = some (.slice Ao36 t412.length co36) := (blk_cell BK418.out 0).trans rfl; have hcz41_1 : w40.cell? ⟨gb418, 1, none⟩ = some (.slice Ao39 t415.length co39) := (blk_cell BK418.out 1).trans rfl; have hfz41_0 := blk_frozen BK418.out 0; have hfz41_1 := blk_frozen BK418.out 1; obtain ⟨Ao42, co42, eo42⟩ := Kd.R_slice HO421.out; subst eo42) | ((with_reducible refine gate_callee (f := 30) rfl ?_); refine goesL_ (some 29) rfl rfl Try.func30 (by kernel_rfl) rfl #[.agg #[.slice Ao36 t412.length co36, .slice Ao39 t415.length co39], .slice Ao42 t419.length co42] rfl (by (try simp only [List.map_toArray, List.map_cons, List.map_nil]); first | done | rfl | (simp only [List.length_drop, List.length_take]; rfl)) ?_; (with_reducible refine (impl_IsRepair.calls k _ _ t412 _ _ t415 _ _ t419 t422 _ ?side1 ?side2 ?side3 ?side4 ?side5 ?side6 A15.out).mono ?_); (case side1 => repeat (first | exact (Kd.R_reads' HO414.out).2.2 | (with_reducible refine Kd.C_alloc ?_ _) | (with_reducible refine Kd.C_drewN ?_ _) | (with_reducible refine Kd.C_drew ?_))); (case side2 => exact (Kd.R_reads' HO414.out).2.1); (case side3 => repeat (first | exact (Kd.S_reads' HO417.out).2.2 | (with_reducible refine Kd.C_alloc ?_ _) | (with_reducible refine Kd.C_drewN ?_ _) | (with_reducible refine Kd.C_drew ?_))); (case side4 => exact (Kd.S_reads' HO417.out).2.1); (case side5 => repeat (first | exact (Kd.R_reads' HO421.out).2.2 | (with_reducible refine Kd.C_alloc ?_ _) | (with_reducible refine Kd.C_drewN ?_ _) | (with_reducible refine Kd.C_drew ?_))); (case side6 => exact (Kd.R_reads' HO421.out).2.1); rintro e w43 ⟨rfl, hb⟩; refine ⟨_, rfl, ?_⟩; have n0_ := Aside0.mk (Kd.R_below (by (with_reducible repeat (first | apply Kd.R_alloc | apply Kd.R_drewN | apply Kd.R_drew)); exact HO404.out) hb); have n1_ := Aside0.mk (Kd.S_below (by (with_reducible repeat (first | apply Kd.S_alloc | apply Kd.S_drewN | apply Kd.S_drew)); exact HO407.out) hb); have n2_ := Aside0.mk (Kd.R_below (by (with_reducible repeat (first | apply Kd.R_alloc | apply Kd.R_drewN | apply Kd.R_drew)); exact HO410.out) hb); have n3_ := Aside0.mk (Kd.R_below (by (with_reducible repeat (first | apply Kd.R_alloc | apply Kd.R_drewN | apply Kd.R_drew)); exact HO414.out) hb); have n4_ := Aside0.mk (Kd.S_below (by (with_reducible repeat (first | apply Kd.S_alloc | apply Kd.S_drewN | apply Kd.S_drew)); exact HO417.out) hb); have n5_ := Aside0.mk (Kd.R_below (by (with_reducible repeat (first | apply Kd.R_alloc | apply Kd.R_drewN | apply Kd.R_drew)); exact HO421.out) hb); have n6_ := Aside0.mk (blk_below (g := gb400) (o := .cells #[.slice A0_0 l0_0.length c0_0, .slice A0_1 l0_1.length c0_1] 25 (0, 0)) aK hb); have n7_ := Aside0.mk (blk_below (g := gb418) (o := .cells #[.slice Ao36 t412.length co36, .slice Ao39 t415.length co39] 32 (0, 0)) aK hb); have n8_ := Aside0.mk (below_step aG hb); clear HO404; clear HO407; clear HO410; clear HO414; clear HO417; clear HO421; clear BK400; clear BK418; clear HB; have HO404 := n0_; have HO407 := n1_; have HO410 := n2_; have HO414 := n3_; have HO417 := n4_; have HO421 := n5_; have BK400 := n6_; have BK418 := n7_; have HB := n8_; clear n0_ n1_ n2_ n3_ n4_ n5_ n6_ n7_ n8_; (try clear hb); (try clear hb2); (try clear hk); (try clear hi)))
      have n0_ := Aside0.mk (Kd.R_drew HO404.out)
      have n1_ := Aside0.mk (Kd.S_drew HO407.out)
      have n2_ := Aside0.mk (Kd.R_drew HO410.out)
      have n3_ := Aside0.mk (Kd.R_drew HO414.out)
      have n4_ := Aside0.mk (Kd.S_drew HO417.out)
      have n5_ := Aside0.mk (Kd.R_drew HO421.out)
      have n6_ := Aside0.mk (blk_drew BK400.out)
      have n7_ := Aside0.mk (blk_drew BK418.out)
      have n8_ := Aside0.mk (below_drew1 HB.out)
      clear HO404
      clear HO407
      clear HO410
      clear HO414
      clear HO417
      clear HO421
      clear BK400
      clear BK418
      clear HB
      have HO404 := n0_
      have HO407 := n1_
      have HO410 := n2_
      have HO414 := n3_
      have HO417 := n4_
      have HO421 := n5_
      have BK400 := n6_
      have BK418 := n7_
      have HB := n8_
      clear n0_ n1_ n2_ n3_ n4_ n5_ n6_ n7_ n8_
      refine start_ (n := 5) (S := fun w' => w'.cell? ⟨gb418, 0, none⟩ = some (.slice Ao36 t412.length co36) ∧ w'.cell? ⟨gb418, 1, none⟩ = some (.slice Ao39 t415.length co39) ∧ w'.cell? ⟨gb400, 0, none⟩ = some (.slice A0_0 l0_0.length c0_0) ∧ w'.cell? ⟨gb400, 1, none⟩ = some (.slice A0_1 l0_1.length c0_1)) (ds := []) #[false, false, false, false, false] (by kernel_rfl) rfl rfl ⟨(blk_cell BK418.out 0).trans rfl, (blk_cell BK418.out 1).trans rfl, (blk_cell BK400.out 0).trans rfl, (blk_cell BK400.out 1).trans rfl⟩ (fun hHeld => ?_)
      generalize w43.drew = w44 at HO404 HO407 HO410 HO414 HO417 HO421 BK400 BK418 HB hHeld ⊢
      refine take_ (i := 0) (N := some 33) (v := ?_) (a' := ?_) #[true, false, false, false, false] rfl rfl (by kernel_rfl) (fun _ _ _ h => h) (Or.inl ⟨by rfl, ?_⟩) hHeld ?_ ?_
      rotate_left
      ·rintro w' ⟨s0, s1, s2, s3⟩
       go_simp
       with_reducible rfl
      rotate_left
      ·simp only [Act.put, List.setIfInBounds_toArray, List.set_cons_zero, List.set_cons_succ, i64_w, i32_w]
       rfl
      refine take_ (i := 1) (N := some 34) (v := ?_) (a' := ?_) #[true, true, false, false, false] rfl rfl (by kernel_rfl) (fun _ _ _ h => h) (Or.inl ⟨by rfl, ?_⟩) hHeld ?_ ?_
      rotate_left
      ·rintro w' ⟨s0, s1, s2, s3⟩
       go_simp
       with_reducible rfl
      rotate_left
      ·simp only [Act.put, List.setIfInBounds_toArray, List.set_cons_zero, List.set_cons_succ, i64_w, i32_w]
       rfl
      refine one_ (i := 2) (N := some 35) #[true, true, true, false, false] rfl rfl (by kernel_rfl) (by decide) (fun K hK => ?_)
      refine goes_ Try.func17 (by kernel_rfl) rfl #[.agg #[.slice A0_0 l0_0.length c0_0, .slice A0_1 l0_1.length c0_1]] (by rfl) rfl rfl (by (try simp only [List.map_toArray, List.map_cons, List.map_nil]); first | done | rfl | (simp only [List.length_drop, List.length_take]; rfl)) ?_
      with_reducible refine (laws_toDatabase.calls k _ _ l0_0 _ _ l0_1 t423 t426 _ ?side1 ?side2 ?side3 ?side4 A17.out).mono ?_
      (case side1 => exact aC)
      (case side2 => exact HC0_0.out)
      (case side3 => exact aC)
      (case side4 => exact HC0_1.out)
      rintro e w45 ⟨v424, v427, rfl, ho0, ho1, hb⟩
      refine ⟨_, rfl, ?_⟩
      have n0_ := Aside0.mk (Kd.R_elder' (by (with_reducible repeat (first | apply Kd.R_alloc | apply Kd.R_drewN | apply Kd.R_drew)); exact HO404.out) (Kd.R_base ho0) hb)
      have n1_ := Aside0.mk (Kd.S_elder' (by (with_reducible repeat (first | apply Kd.S_alloc | apply Kd.S_drewN | apply Kd.S_drew)); exact HO407.out) (Kd.S_base ho1) hb)
      have n2_ := Aside0.mk (Kd.R_below (by (with_reducible repeat (first | apply Kd.R_alloc | apply Kd.R_drewN | apply Kd.R_drew)); exact HO410.out) hb)
      have n3_ := Aside0.mk (Kd.R_elder' (by (with_reducible repeat (first | apply Kd.R_alloc | apply Kd.R_drewN | apply Kd.R_drew)); exact HO414.out) (Kd.R_base ho0) hb)
      have n4_ := Aside0.mk (Kd.S_elder' (by (with_reducible repeat (first | apply Kd.S_alloc | apply Kd.S_drewN | apply Kd.S_drew)); exact HO417.out) (Kd.S_base ho1) hb)
      have n5_ := Aside0.mk (Kd.R_below (by (with_reducible repeat (first | apply Kd.R_alloc | apply Kd.R_drewN | apply Kd.R_drew)); exact HO421.out) hb)
      have n6_ := Aside0.mk (Kd.R_lower (Kd.R_new' (Kd.R_new' ho0 (Kd.R_lt (by (with_reducible repeat (first | apply Kd.R_alloc | apply Kd.R_drewN | apply Kd.R_drew)); exact HO404.out))) (Kd.R_lt (by (with_reducible repeat (first | apply Kd.R_alloc | apply Kd.R_drewN | apply Kd.R_drew)); exact HO414.out))) (below_size aG))
      have n7_ := Aside0.mk (Kd.S_lower (Kd.S_new' (Kd.S_new' (Kd.S_new' (Kd.S_new' ho1 (Kd.S_lt (by (with_reducible repeat (first | apply Kd.S_alloc | apply Kd.S_drewN | apply Kd.S_drew)); exact HO407.out))) (Kd.R_lt (by (with_reducible repeat (first | apply Kd.R_alloc | apply Kd.R_drewN | apply Kd.R_drew)); exact HO410.out))) (Kd.S_lt (by (with_reducible repeat (first | apply Kd.S_alloc | apply Kd.S_drewN | apply Kd.S_drew)); exact HO417.out))) (Kd.R_lt (by (with_reducible repeat (first | apply Kd.R_alloc | apply Kd.R_drewN | apply Kd.R_drew)); exact HO421.out))) (below_size aG))
      have n8_ := Aside0.mk (blk_below (g := gb400) (o := .cells #[.slice A0_0 l0_0.length c0_0, .slice A0_1 l0_1.length c0_1] 25 (0, 0)) aK hb)
      have n9_ := Aside0.mk (blk_below (g := gb418) (o := .cells #[.slice Ao36 t412.length co36, .slice Ao39 t415.length co39] 32 (0, 0)) aK hb)
      have n10_ := Aside0.mk (below_step aG hb)
      clear HO404
      clear HO407
      clear HO410
      clear HO414
      clear HO417
      clear HO421
      clear BK400
      clear BK418
      clear HB
      have HO404 := n0_
      have HO407 := n1_
      have HO410 := n2_
      have HO414 := n3_
      have HO417 := n4_
      have HO421 := n5_
      have HO425 := n6_
      have HO428 := n7_
      have BK400 := n8_
      have BK418 := n9_
      have HB := n10_
      clear n0_ n1_ n2_ n3_ n4_ n5_ n6_ n7_ n8_ n9_ n10_
      (try clear hb)
      (try clear hb2)
      (try clear hk)
      (try clear hi)
      (try clear ho0)
      (try clear ho1)
      obtain ⟨Ao46, co46, eo46⟩ := Kd.R_slice HO425.out
      (first | subst eo46 | (injection eo46 with f1_ f2_ f3_; have f4_ := f1_.symm; have f5_ := f3_.symm; clear f1_ f2_ f3_; subst f4_; subst f5_))
      obtain ⟨Ao47, co47, eo47⟩ := Kd.S_slice HO428.out
      (first | subst eo47 | (injection eo47 with f1_ f2_ f3_; have f4_ := f1_.symm; have f5_ := f3_.symm; clear f1_ f2_ f3_; subst f4_; subst f5_))
      refine hK.out _ _ ⟨(blk_cell BK418.out 0).trans rfl, (blk_cell BK418.out 1).trans rfl, (blk_cell BK400.out 0).trans rfl, (blk_cell BK400.out 1).trans rfl⟩ (fun hHeld => ?_)
      clear hK K
      refine norm_ (a' := ?_) ?_ ?_
      rotate_left
      ·show Act.put _ (some 35) _ = _
       simp only [Act.put, List.setIfInBounds_toArray, List.set_cons_zero, List.set_cons_succ, i64_w, i32_w]
       rfl
      refine one_ (i := 3) (N := some 36) #[true, true, true, true, false] rfl rfl (by kernel_rfl) (by decide) (fun K hK => ?_)
      refine goes_ Try.func20 (by kernel_rfl) rfl #[.agg #[.slice Ao36 t412.length co36, .slice Ao39 t415.length co39], .agg #[.slice Ao46 t423.length co46, .slice Ao47 t426.length co47]] (by rfl) rfl rfl (by (try simp only [List.map_toArray, List.map_cons, List.map_nil]); first | done | rfl | (simp only [List.length_drop, List.length_take]; rfl)) ?_
      with_reducible refine (laws_eqDatabase.calls k _ _ t412 _ _ t415 _ _ t423 _ _ t426 true _ ?side1 ?side2 ?side3 ?side4 ?side5 ?side6 ?side7 ?side8 A18.out).mono ?_
      (case side1 => repeat (first | exact (Kd.R_reads' HO414.out).2.2 | (with_reducible refine Kd.C_alloc ?_ _) | (with_reducible refine Kd.C_drewN ?_ _) | (with_reducible refine Kd.C_drew ?_)))
      (case side2 => exact (Kd.R_reads' HO414.out).2.1)
      (case side3 => repeat (first | exact (Kd.S_reads' HO417.out).2.2 | (with_reducible refine Kd.C_alloc ?_ _) | (with_reducible refine Kd.C_drewN ?_ _) | (with_reducible refine Kd.C_drew ?_)))
      (case side4 => exact (Kd.S_reads' HO417.out).2.1)
      (case side5 => repeat (first | exact (Kd.R_reads' HO425.out).2.2 | (with_reducible refine Kd.C_alloc ?_ _) | (with_reducible refine Kd.C_drewN ?_ _) | (with_reducible refine Kd.C_drew ?_)))
      (case side6 => exact (Kd.R_reads' HO425.out).2.1)
      (case side7 => repeat (first | exact (Kd.S_reads' HO428.out).2.2 | (with_reducible refine Kd.C_alloc ?_ _) | (with_reducible refine Kd.C_drewN ?_ _) | (with_reducible refine Kd.C_drew ?_)))
      (case side8 => exact (Kd.S_reads' HO428.out).2.1)
      rintro e w48 ⟨rfl, hb⟩
      refine ⟨_, rfl, ?_⟩
      have n0_ := Aside0.mk (Kd.R_below (by (with_reducible repeat (first | apply Kd.R_alloc | apply Kd.R_drewN | apply Kd.R_drew)); exact HO404.out) hb)
      have n1_ := Aside0.mk (Kd.S_below (by (with_reducible repeat (first | apply Kd.S_alloc | apply Kd.S_drewN | apply Kd.S_drew)); exact HO407.out) hb)
      have n2_ := Aside0.mk (Kd.R_below (by (with_reducible repeat (first | apply Kd.R_alloc | apply Kd.R_drewN | apply Kd.R_drew)); exact HO410.out) hb)
      have n3_ := Aside0.mk (Kd.R_below (by (with_reducible repeat (first | apply Kd.R_alloc | apply Kd.R_drewN | apply Kd.R_drew)); exact HO414.out) hb)
      have n4_ := Aside0.mk (Kd.S_below (by (with_reducible repeat (first | apply Kd.S_alloc | apply Kd.S_drewN | apply Kd.S_drew)); exact HO417.out) hb)
      have n5_ := Aside0.mk (Kd.R_below (by (with_reducible repeat (first | apply Kd.R_alloc | apply Kd.R_drewN | apply Kd.R_drew)); exact HO421.out) hb)
      have n6_ := Aside0.mk (Kd.R_below (by (with_reducible repeat (first | apply Kd.R_alloc | apply Kd.R_drewN | apply Kd.R_drew)); exact HO425.out) hb)
      have n7_ := Aside0.mk (Kd.S_below (by (with_reducible repeat (first | apply Kd.S_alloc | apply Kd.S_drewN | apply Kd.S_drew)); exact HO428.out) hb)
      have n8_ := Aside0.mk (blk_below (g := gb400) (o := .cells #[.slice A0_0 l0_0.length c0_0, .slice A0_1 l0_1.length c0_1] 25 (0, 0)) aK hb)
      have n9_ := Aside0.mk (blk_below (g := gb418) (o := .cells #[.slice Ao36 t412.length co36, .slice Ao39 t415.length co39] 32 (0, 0)) aK hb)
      have n10_ := Aside0.mk (below_step aG hb)
      clear HO404
      clear HO407
      clear HO410
      clear HO414
      clear HO417
      clear HO421
      clear HO425
      clear HO428
      clear BK400
      clear BK418
      clear HB
      have HO404 := n0_
      have HO407 := n1_
      have HO410 := n2_
      have HO414 := n3_
      have HO417 := n4_
      have HO421 := n5_
      have HO425 := n6_
      have HO428 := n7_
      have BK400 := n8_
      have BK418 := n9_
      have HB := n10_
      clear n0_ n1_ n2_ n3_ n4_ n5_ n6_ n7_ n8_ n9_ n10_
      (try clear hb)
      (try clear hb2)
      (try clear hk)
      (try clear hi)
      refine hK.out _ _ ⟨(blk_cell BK418.out 0).trans rfl, (blk_cell BK418.out 1).trans rfl, (blk_cell BK400.out 0).trans rfl, (blk_cell BK400.out 1).trans rfl⟩ (fun hHeld => ?_)
      clear hK K
      refine norm_ (a' := ?_) ?_ ?_
      rotate_left
      ·show Act.put _ (some 36) _ = _
       simp only [Act.put, List.setIfInBounds_toArray, List.set_cons_zero, List.set_cons_succ, i64_w, i32_w]
       rfl
      refine pure_ (i := 4) (N := some 37) (v := ?_) (a' := ?_) #[true, true, true, true, true] rfl rfl (by kernel_rfl) (fun _ _ _ h => h) (Or.inl ⟨by rfl, ?_⟩) ?_ ?_
      rotate_left
      ·intro w'
       go_simp
       with_reducible rfl
      rotate_left
      ·simp only [Act.put, List.setIfInBounds_toArray, List.set_cons_zero, List.set_cons_succ, i64_w, i32_w]
       rfl
      refine done_ (by kernel_rfl) ?_
      try go_wp2_with (first | ((with_reducible refine gate_callee (f := 18) rfl ?_); refine goesL_ (some 40) rfl rfl Try.func18 (by kernel_rfl) rfl #[.slice A1 l1.length c1] rfl (by (try simp only [List.map_toArray, List.map_cons, List.map_nil]); first | done | rfl | (simp only [List.length_drop, List.length_take]; rfl)) ?_; (with_reducible refine (laws_toIntS.calls k _ _ l1 t430 _ ?side1 ?side2 A20.out).mono ?_); (case side1 => exact aC); (case side2 => exact HC1.out); rintro e w49 ⟨v431, rfl, ho0, hb⟩; refine ⟨_, rfl, ?_⟩; have n0_ := Aside0.mk (Kd.R_below (by (with_reducible repeat (first | apply Kd.R_alloc | apply Kd.R_drewN | apply Kd.R_drew)); exact HO404.out) hb); have n1_ := Aside0.mk (Kd.S_elder' (by (with_reducible repeat (first | apply Kd.S_alloc | apply Kd.S_drewN | apply Kd.S_drew)); exact HO407.out) (Kd.R_base ho0) hb); have n2_ := Aside0.mk (Kd.R_elder' (by (with_reducible repeat (first | apply Kd.R_alloc | apply Kd.R_drewN | apply Kd.R_drew)); exact HO410.out) (Kd.R_base ho0) hb); have n3_ := Aside0.mk (Kd.R_below (by (with_reducible repeat (first | apply Kd.R_alloc | apply Kd.R_drewN | apply Kd.R_drew)); exact HO414.out) hb); have n4_ := Aside0.mk (Kd.S_elder' (by (with_reducible repeat (first | apply Kd.S_alloc | apply Kd.S_drewN | apply Kd.S_drew)); exact HO417.out) (Kd.R_base ho0) hb); have n5_ := Aside0.mk (Kd.R_elder' (by (with_reducible repeat (first | apply Kd.R_alloc | apply Kd.R_drewN | apply Kd.R_drew)); exact HO421.out) (Kd.R_base ho0) hb); have n6_ := Aside0.mk (Kd.R_below (by (with_reducible repeat (first | apply Kd.R_alloc | apply Kd.R_drewN | apply Kd.R_drew)); exact HO425.out) hb); have n7_ := Aside0.mk (Kd.S_elder' (by (with_reducible repeat (first | apply Kd.S_alloc | apply Kd.S_drewN | apply Kd.S_drew)); exact HO428.out) (Kd.R_base ho0) hb); have n8_ := Aside0.mk (Kd.R_lower (Kd.R_new' (Kd.R_new' ho0 (Kd.R_lt (by (with_reducible repeat (first | apply Kd.R_alloc | apply Kd.R_drewN | apply Kd.R_drew)); exact HO410.out))) (Kd.R_lt (by (with_reducible repeat (first | apply Kd.R_alloc | apply Kd.R_drewN | apply Kd.R_drew)); exact HO421.out))) (below_size aG)); have n9_ := Aside0.mk (blk_below (g := gb400) (o := .cells #[.slice A0_0 l0_0.length c0_0, .slice A0_1 l0_1.length c0_1] 25 (0, 0)) aK hb); have n10_ := Aside0.mk (blk_below (g := gb418) (o := .cells #[.slice Ao36 t412.length co36, .slice Ao39 t415.length co39] 32 (0, 0)) aK hb); have n11_ := Aside0.mk (below_step aG hb); clear HO404; clear HO407; clear HO410; clear HO414; clear HO417; clear HO421; clear HO425; clear HO428; clear BK400; clear BK418; clear HB; have HO404 := n0_; have HO407 := n1_; have HO410 := n2_; have HO414 := n3_; have HO417 := n4_; have HO421 := n5_; have HO425 := n6_; have HO428 := n7_; have HO432 := n8_; have BK400 := n9_; have BK418 := n10_; have HB := n11_; clear n0_ n1_ n2_ n3_ n4_ n5_ n6_ n7_ n8_ n9_ n10_ n11_; (try clear hb); (try clear hb2); (try clear hk); (try clear hi); (try clear ho0); obtain ⟨Ao50, co50, eo50⟩ := Kd.R_slice HO432.out; subst eo50) | ((with_reducible refine gate_callee (f := 21) rfl ?_); refine goesL_ (some 41) rfl rfl Try.func21 (by kernel_rfl) rfl #[.slice Ao42 t419.length co42, .slice Ao50 t430.length co50] rfl (by (try simp only [List.map_toArray, List.map_cons, List.map_nil]); first | done | rfl | (simp only [List.length_drop, List.length_take]; rfl)) ?_; (with_reducible refine (laws_eqIntS.calls k _ _ t419 _ _ t430 true _ ?side1 ?side2 ?side3 ?side4 A21.out).mono ?_); (case side1 => repeat (first | exact (Kd.R_reads' HO421.out).2.2 | (with_reducible refine Kd.C_alloc ?_ _) | (with_reducible refine Kd.C_drewN ?_ _) | (with_reducible refine Kd.C_drew ?_))); (case side2 => exact (Kd.R_reads' HO421.out).2.1); (case side3 => repeat (first | exact (Kd.R_reads' HO432.out).2.2 | (with_reducible refine Kd.C_alloc ?_ _) | (with_reducible refine Kd.C_drewN ?_ _) | (with_reducible refine Kd.C_drew ?_))); (case side4 => exact (Kd.R_reads' HO432.out).2.1); rintro e w' ⟨rfl, ⟨nd, rfl⟩⟩; refine ⟨_, rfl, ?_⟩))
      go_ret
      exact ⟨by first | rfl | (simp [errW_none, errW_some] <;> rfl) | (simp [*, errW_none, errW_some] <;> rfl), by repeat (first | (with_reducible first | exact HB.out | apply below_alloc | apply pw_below_drewN | apply below_drew1 | refine below_set ?_ GE400.out | refine below_set ?_ GE418.out) | exact HB.out)⟩
     ·replace c22 := Bool.eq_false_iff.mpr c22
      subst c22
      have H1 : (some false) = some r := by rw [if_neg (show ¬ (false = true) by decide)] at H; exact H
      clear H
      have H := H1
      clear H1
      exact absurd (Option.some.inj (H.trans (congrArg some HRT_.out))) (by decide)
    ·replace c19 := Bool.eq_false_iff.mpr c19
     subst c19
     have H1 : (some false) = some r := by rw [if_neg (show ¬ (false = true) by decide)] at H; exact H
     clear H
     have H := H1
     clear H1
     exact absurd (Option.some.inj (H.trans (congrArg some HRT_.out))) (by decide)

end Go.Proofs.Ytehlhbidmanbmaa.PFnExactIsRepair
