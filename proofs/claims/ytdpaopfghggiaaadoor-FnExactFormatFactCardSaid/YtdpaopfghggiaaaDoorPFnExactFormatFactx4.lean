-- Laid by a program of this claim: what the functions come to, some of them proved by hand.
import Derived.Test.YtdpaopfghggiaaaDoorPFnExactFormatFactx0
import Derived.Test.YtdpaopfghggiaaaDoorPFnExactFormatFactx1
import Derived.Test.YtdpaopfghggiaaaDoorPFnExactFormatFactx2
import Derived.Test.YtdpaopfghggiaaaDoorPFnExactFormatFactx3
namespace Go.Proofs.YtdpaopfghggiaaaDoor.PFnExactFormatFact
open Go.RowKit Go.Proofs.YtdpaopfghggiaaaDoorW.PrintWords Go.Proofs.YtdpaopfghggiaaaDoorW.PrintLast Go.Proofs.YtdpaopfghggiaaaDoorW.PrintMore
attribute [local go_sem] max2_int min2_int max_two min_two max_three min_three max_four min_four   -- for this text's walks alone
set_option linter.unusedVariables false
set_option linter.unusedSimpArgs false

/-! ### laws_FnExactFormatFact: function 7 -/
def laws_FnExactFormatFact.f (k : Nat) (l0 : List (S25)) (a1_0 : Int) (l1_1 : List Int) : Option (Bool) := (laws_szRelationS.f k l0 1048576).bind fun t204 => (if t204 < 0 then (some true) else ((laws_szFact.f a1_0 l1_1 t204).bind fun t205 => (if t205 < 0 then (some true) else ((laws_toRelationS.f k l0).bind fun t206 => ((laws_toFact.f k a1_0 l1_1).bind fun bt209 => ((spec_FormatFact.f k t206 bt209.1 bt209.2).bind fun t213 => ((laws_toRelationS.f k l0).bind fun t214 => ((laws_toFact.f k a1_0 l1_1).bind fun bt217 => ((impl_FormatFact.f k t214 bt217.1 bt217.2).bind fun t222 => (if t222.toList = t213.toList then ((laws_toRelationS.f k l0).bind fun t223 => ((laws_eqRelationS.f k t214 t223).bind fun t226 => (if t226 = true then ((laws_toFact.f k a1_0 l1_1).bind fun bt227 => ((laws_eqFact.f k bt217.1 bt217.2 bt227.1 bt227.2).bind fun t231 => (if t231 = true then (some true) else (some false)))) else (some false)))) else (some false)))))))))))
set_option maxHeartbeats 8000000 in
set_option maxRecDepth 100000 in
theorem laws_FnExactFormatFact.calls (k : Nat) (A0 : Option Addr) (c0 : Nat) (l0 : List (S25)) (a1_0 : Int) (A1_1 : Option Addr) (c1_1 : Nat) (l1_1 : List Int) (r : Bool) (w : World) (hr0 : Kd.C k25 w A0 l0.length l0) (hc0 : l0.length ≤ c0) (hr1_1 : Kd.C (Kd.int .i64) w A1_1 l1_1.length l1_1) (hc1_1 : l1_1.length ≤ c1_1) (h : laws_FnExactFormatFact.f k l0 a1_0 l1_1 = some r) (hr_ : r = true) (hp_ : Go.Proofs.YtdpaopfghggiaaaDoor.Shelf.Pow w) :
  Calls Tryd.prog 7 #[.slice A0 l0.length c0, .agg #[.int .i64 a1_0, .slice A1_1 l1_1.length c1_1]] w fun e w' => e = .returned (.bool r) ∧ Below w.heap.size w w' := by
 have HRT_ := aM hr_
 clear hr_
 have hu47 := Tryd.underlying47
 have hu52 := Tryd.underlying52
 have HR0 := aM hr0
 have HC0 := aM hc0
 clear hr0 hc0
 have HR1_1 := aM hr1_1
 have HC1_1 := aM hc1_1
 clear hr1_1 hc1_1
 have HB := aM (Below.refl w.heap.size w)
 have H : ((laws_szRelationS.f k l0 1048576).bind fun t204 => (if t204 < 0 then (some true) else ((laws_szFact.f a1_0 l1_1 t204).bind fun t205 => (if t205 < 0 then (some true) else ((laws_toRelationS.f k l0).bind fun t206 => ((laws_toFact.f k a1_0 l1_1).bind fun bt209 => ((spec_FormatFact.f k t206 bt209.1 bt209.2).bind fun t213 => ((laws_toRelationS.f k l0).bind fun t214 => ((laws_toFact.f k a1_0 l1_1).bind fun bt217 => ((impl_FormatFact.f k t214 bt217.1 bt217.2).bind fun t222 => (if t222.toList = t213.toList then ((laws_toRelationS.f k l0).bind fun t223 => ((laws_eqRelationS.f k t214 t223).bind fun t226 => (if t226 = true then ((laws_toFact.f k a1_0 l1_1).bind fun bt227 => ((laws_eqFact.f k bt217.1 bt217.2 bt227.1 bt227.2).bind fun t231 => (if t231 = true then (some true) else (some false)))) else (some false)))) else (some false)))))))))))) = some r := h
 clear h
 replace H := Option.bind_eq_some_iff.mp H
 obtain ⟨t204, A30, H⟩ := H
 replace H : (if t204 < 0 then (some true) else ((laws_szFact.f a1_0 l1_1 t204).bind fun t205 => (if t205 < 0 then (some true) else ((laws_toRelationS.f k l0).bind fun t206 => ((laws_toFact.f k a1_0 l1_1).bind fun bt209 => ((spec_FormatFact.f k t206 bt209.1 bt209.2).bind fun t213 => ((laws_toRelationS.f k l0).bind fun t214 => ((laws_toFact.f k a1_0 l1_1).bind fun bt217 => ((impl_FormatFact.f k t214 bt217.1 bt217.2).bind fun t222 => (if t222.toList = t213.toList then ((laws_toRelationS.f k l0).bind fun t223 => ((laws_eqRelationS.f k t214 t223).bind fun t226 => (if t226 = true then ((laws_toFact.f k a1_0 l1_1).bind fun bt227 => ((laws_eqFact.f k bt217.1 bt217.2 bt227.1 bt227.2).bind fun t231 => (if t231 = true then (some true) else (some false)))) else (some false)))) else (some false))))))))))) = some r := H
 have A3 := aM A30
 clear A30
 by_cases c4 : t204 < 0
 ·rw [if_pos c4] at H
  have c4b0 : decide (t204 < 0) = true := decide_eq_true c4
  clear c4
  obtain rfl := Option.some.inj H
  go_enter Tryd.func7, Tryd.ntmps7
  go_wp2_with (first | ((with_reducible refine gate_dst (N := 3) rfl ?_); refine box_event ?hg (N := 3) ?hd (cs := #[.int .i64 a1_0, .slice A1_1 l1_1.length c1_1]) (t := 47) ?hr ?_; (case hd => rfl); (case hg => rfl); (case hr => first | (go_simp; done) | (go_simp; rfl)); intro gb203 hg w5 hbox hb; have n0_ := aM (below_step aB hb); have n1_ := aM (hbox); have n2_ := aM ((by rw [hg]; exact (below_size aB) : w.heap.size ≤ gb203)); have n3_ := aM ((by rw [hg]; exact (below_size aB) : w.heap.size ≤ gb203)); clear HB; have HB := n0_; have BK203 := n1_; have GW203 := n2_; have GE203 := n3_; clear n0_ n1_ n2_ n3_; clear hb hbox hg) | ((with_reducible refine gate_callee (f := 28) rfl ?_); refine goesL_ (some 12) rfl rfl Tryd.func28 (by kernel_rfl) rfl #[.slice A0 l0.length c0, .int .i64 1048576] rfl (by (try simp only [List.map_toArray, List.map_cons, List.map_nil]); first | done | rfl | (simp only [List.length_drop, List.length_take]; rfl)) ?_; (with_reducible refine (laws_szRelationS.calls k _ _ l0 1048576 t204 _ ?side1 ?side2 A3.out).mono ?_); (case side1 => exact aC); (case side2 => exact HC0.out); rintro e w6 ⟨rfl, hb⟩; refine ⟨_, rfl, ?_⟩; have n0_ := aM (blk_below (g := gb203) (o := .cells #[.int .i64 a1_0, .slice A1_1 l1_1.length c1_1] 47 (0, 0)) aK hb); have n1_ := aM (below_step aG hb); clear BK203; clear HB; have BK203 := n0_; have HB := n1_; clear n0_ n1_; (try clear hb); (try clear hb2); (try clear hk); (try clear hi)))
  go_ret
  exact ⟨by first | rfl | (simp [errW_none, errW_some] <;> rfl) | (simp [*, errW_none, errW_some] <;> rfl), by repeat (first | (with_reducible first | exact HB.out | apply below_alloc | apply pw_below_drewN | apply below_drew1 | refine below_set ?_ GE203.out) | exact HB.out)⟩
 ·rw [if_neg c4] at H
  have c4b0 : decide (t204 < 0) = false := decide_eq_false c4
  clear c4
  replace H := Option.bind_eq_some_iff.mp H
  obtain ⟨t205, A70, H⟩ := H
  replace H : (if t205 < 0 then (some true) else ((laws_toRelationS.f k l0).bind fun t206 => ((laws_toFact.f k a1_0 l1_1).bind fun bt209 => ((spec_FormatFact.f k t206 bt209.1 bt209.2).bind fun t213 => ((laws_toRelationS.f k l0).bind fun t214 => ((laws_toFact.f k a1_0 l1_1).bind fun bt217 => ((impl_FormatFact.f k t214 bt217.1 bt217.2).bind fun t222 => (if t222.toList = t213.toList then ((laws_toRelationS.f k l0).bind fun t223 => ((laws_eqRelationS.f k t214 t223).bind fun t226 => (if t226 = true then ((laws_toFact.f k a1_0 l1_1).bind fun bt227 => ((laws_eqFact.f k bt217.1 bt217.2 bt227.1 bt227.2).bind fun t231 => (if t231 = true then (some true) else (some false)))) else (some false)))) else (some false))))))))) = some r := H
  have A7 := aM A70
  clear A70
  by_cases c8 : t205 < 0
  ·rw [if_pos c8] at H
   have c8b0 : decide (t205 < 0) = true := decide_eq_true c8
   clear c8
   obtain rfl := Option.some.inj H
   go_enter Tryd.func7, Tryd.ntmps7
   go_wp2_with (first | ((with_reducible refine gate_dst (N := 3) rfl ?_); refine box_event ?hg (N := 3) ?hd (cs := #[.int .i64 a1_0, .slice A1_1 l1_1.length c1_1]) (t := 47) ?hr ?_; (case hd => rfl); (case hg => rfl); (case hr => first | (go_simp; done) | (go_simp; rfl)); intro gb203 hg w9 hbox hb; have n0_ := aM (below_step aB hb); have n1_ := aM (hbox); have n2_ := aM ((by rw [hg]; exact (below_size aB) : w.heap.size ≤ gb203)); have n3_ := aM ((by rw [hg]; exact (below_size aB) : w.heap.size ≤ gb203)); clear HB; have HB := n0_; have BK203 := n1_; have GW203 := n2_; have GE203 := n3_; clear n0_ n1_ n2_ n3_; clear hb hbox hg) | ((with_reducible refine gate_callee (f := 28) rfl ?_); refine goesL_ (some 12) rfl rfl Tryd.func28 (by kernel_rfl) rfl #[.slice A0 l0.length c0, .int .i64 1048576] rfl (by (try simp only [List.map_toArray, List.map_cons, List.map_nil]); first | done | rfl | (simp only [List.length_drop, List.length_take]; rfl)) ?_; (with_reducible refine (laws_szRelationS.calls k _ _ l0 1048576 t204 _ ?side1 ?side2 A3.out).mono ?_); (case side1 => exact aC); (case side2 => exact HC0.out); rintro e w10 ⟨rfl, hb⟩; refine ⟨_, rfl, ?_⟩; have n0_ := aM (blk_below (g := gb203) (o := .cells #[.int .i64 a1_0, .slice A1_1 l1_1.length c1_1] 47 (0, 0)) aK hb); have n1_ := aM (below_step aG hb); clear BK203; clear HB; have BK203 := n0_; have HB := n1_; clear n0_ n1_; (try clear hb); (try clear hb2); (try clear hk); (try clear hi); have hcz11_0 : w10.cell? ⟨gb203, 0, none⟩ = some (.int .i64 a1_0) := (blk_cell BK203.out 0).trans rfl; have hcz11_1 : w10.cell? ⟨gb203, 1, none⟩ = some (.slice A1_1 l1_1.length c1_1) := (blk_cell BK203.out 1).trans rfl; have hfz11_0 := blk_frozen BK203.out 0; have hfz11_1 := blk_frozen BK203.out 1) | ((with_reducible refine gate_callee (f := 29) rfl ?_); refine goesL_ (some 17) rfl rfl Tryd.func29 (by kernel_rfl) rfl #[.agg #[.int .i64 a1_0, .slice A1_1 l1_1.length c1_1], .int .i64 t204] rfl (by (try simp only [List.map_toArray, List.map_cons, List.map_nil]); first | done | rfl | (simp only [List.length_drop, List.length_take]; rfl)) ?_; (with_reducible refine (laws_szFact.calls a1_0 _ _ l1_1 t204 t205 _ ?side1 ?side2 A7.out).mono ?_); (case side1 => exact aC); (case side2 => exact HC1_1.out); rintro e w12 ⟨rfl, hb⟩; refine ⟨_, rfl, ?_⟩; have n0_ := aM (blk_below (g := gb203) (o := .cells #[.int .i64 a1_0, .slice A1_1 l1_1.length c1_1] 47 (0, 0)) aK hb); have n1_ := aM (below_step aG hb); clear BK203; clear HB; have BK203 := n0_; have HB := n1_; clear n0_ n1_; (try clear hb); (try clear hb2); (try clear hk); (try clear hi)))
   go_ret
   exact ⟨by first | rfl | (simp [errW_none, errW_some] <;> rfl) | (simp [*, errW_none, errW_some] <;> rfl), by repeat (first | (with_reducible first | exact HB.out | apply below_alloc | apply pw_below_drewN | apply below_drew1 | refine below_set ?_ GE203.out) | exact HB.out)⟩
  ·rw [if_neg c8] at H
   have c8b0 : decide (t205 < 0) = false := decide_eq_false c8
   clear c8
   replace H := Option.bind_eq_some_iff.mp H
   obtain ⟨t206, A130, H⟩ := H
   replace H : ((laws_toFact.f k a1_0 l1_1).bind fun bt209 => ((spec_FormatFact.f k t206 bt209.1 bt209.2).bind fun t213 => ((laws_toRelationS.f k l0).bind fun t214 => ((laws_toFact.f k a1_0 l1_1).bind fun bt217 => ((impl_FormatFact.f k t214 bt217.1 bt217.2).bind fun t222 => (if t222.toList = t213.toList then ((laws_toRelationS.f k l0).bind fun t223 => ((laws_eqRelationS.f k t214 t223).bind fun t226 => (if t226 = true then ((laws_toFact.f k a1_0 l1_1).bind fun bt227 => ((laws_eqFact.f k bt217.1 bt217.2 bt227.1 bt227.2).bind fun t231 => (if t231 = true then (some true) else (some false)))) else (some false)))) else (some false))))))) = some r := H
   have A13 := aM A130
   clear A130
   replace H := Option.bind_eq_some_iff.mp H
   obtain ⟨⟨t209, t210⟩, A140, H⟩ := H
   replace H : ((spec_FormatFact.f k t206 t209 t210).bind fun t213 => ((laws_toRelationS.f k l0).bind fun t214 => ((laws_toFact.f k a1_0 l1_1).bind fun bt217 => ((impl_FormatFact.f k t214 bt217.1 bt217.2).bind fun t222 => (if t222.toList = t213.toList then ((laws_toRelationS.f k l0).bind fun t223 => ((laws_eqRelationS.f k t214 t223).bind fun t226 => (if t226 = true then ((laws_toFact.f k a1_0 l1_1).bind fun bt227 => ((laws_eqFact.f k bt217.1 bt217.2 bt227.1 bt227.2).bind fun t231 => (if t231 = true then (some true) else (some false)))) else (some false)))) else (some false)))))) = some r := H
   have A14 := aM A140
   clear A140
   replace H := Option.bind_eq_some_iff.mp H
   obtain ⟨t213, A150, H⟩ := H
   replace H : ((laws_toRelationS.f k l0).bind fun t214 => ((laws_toFact.f k a1_0 l1_1).bind fun bt217 => ((impl_FormatFact.f k t214 bt217.1 bt217.2).bind fun t222 => (if t222.toList = t213.toList then ((laws_toRelationS.f k l0).bind fun t223 => ((laws_eqRelationS.f k t214 t223).bind fun t226 => (if t226 = true then ((laws_toFact.f k a1_0 l1_1).bind fun bt227 => ((laws_eqFact.f k bt217.1 bt217.2 bt227.1 bt227.2).bind fun t231 => (if t231 = true then (some true) else (some false)))) else (some false)))) else (some false))))) = some r := H
   have A15 := aM A150
   clear A150
   replace H := Option.bind_eq_some_iff.mp H
   obtain ⟨t214, A160, H⟩ := H
   replace H : ((laws_toFact.f k a1_0 l1_1).bind fun bt217 => ((impl_FormatFact.f k t214 bt217.1 bt217.2).bind fun t222 => (if t222.toList = t213.toList then ((laws_toRelationS.f k l0).bind fun t223 => ((laws_eqRelationS.f k t214 t223).bind fun t226 => (if t226 = true then ((laws_toFact.f k a1_0 l1_1).bind fun bt227 => ((laws_eqFact.f k bt217.1 bt217.2 bt227.1 bt227.2).bind fun t231 => (if t231 = true then (some true) else (some false)))) else (some false)))) else (some false)))) = some r := H
   have A16 := aM A160
   clear A160
   replace H := Option.bind_eq_some_iff.mp H
   obtain ⟨⟨t217, t218⟩, A170, H⟩ := H
   replace H : ((impl_FormatFact.f k t214 t217 t218).bind fun t222 => (if t222.toList = t213.toList then ((laws_toRelationS.f k l0).bind fun t223 => ((laws_eqRelationS.f k t214 t223).bind fun t226 => (if t226 = true then ((laws_toFact.f k a1_0 l1_1).bind fun bt227 => ((laws_eqFact.f k t217 t218 bt227.1 bt227.2).bind fun t231 => (if t231 = true then (some true) else (some false)))) else (some false)))) else (some false))) = some r := H
   have A17 := aM A170
   clear A170
   replace H := Option.bind_eq_some_iff.mp H
   obtain ⟨t222, A180, H⟩ := H
   replace H : (if t222.toList = t213.toList then ((laws_toRelationS.f k l0).bind fun t223 => ((laws_eqRelationS.f k t214 t223).bind fun t226 => (if t226 = true then ((laws_toFact.f k a1_0 l1_1).bind fun bt227 => ((laws_eqFact.f k t217 t218 bt227.1 bt227.2).bind fun t231 => (if t231 = true then (some true) else (some false)))) else (some false)))) else (some false)) = some r := H
   have A18 := aM A180
   clear A180
   by_cases c19 : t222.toList = t213.toList
   ·rw [if_pos c19] at H
    have c19b0 : (t222.toList == t213.toList) = true := beq_iff_eq.mpr c19
    have c19b1 : (t222.toList != t213.toList) = false := bne_eq_false_iff_eq.mpr c19
    clear c19
    replace H := Option.bind_eq_some_iff.mp H
    obtain ⟨t223, A200, H⟩ := H
    replace H : ((laws_eqRelationS.f k t214 t223).bind fun t226 => (if t226 = true then ((laws_toFact.f k a1_0 l1_1).bind fun bt227 => ((laws_eqFact.f k t217 t218 bt227.1 bt227.2).bind fun t231 => (if t231 = true then (some true) else (some false)))) else (some false))) = some r := H
    have A20 := aM A200
    clear A200
    replace H := Option.bind_eq_some_iff.mp H
    obtain ⟨t226, A210, H⟩ := H
    replace H : (if t226 = true then ((laws_toFact.f k a1_0 l1_1).bind fun bt227 => ((laws_eqFact.f k t217 t218 bt227.1 bt227.2).bind fun t231 => (if t231 = true then (some true) else (some false)))) else (some false)) = some r := H
    have A21 := aM A210
    clear A210
    by_cases c22 : t226 = true
    ·subst c22
     have H1 : ((laws_toFact.f k a1_0 l1_1).bind fun bt227 => ((laws_eqFact.f k t217 t218 bt227.1 bt227.2).bind fun t231 => (if t231 = true then (some true) else (some false)))) = some r := by rw [if_pos rfl] at H; exact H
     clear H
     have H := H1
     clear H1
     replace H := Option.bind_eq_some_iff.mp H
     obtain ⟨⟨t227, t228⟩, A230, H⟩ := H
     replace H : ((laws_eqFact.f k t217 t218 t227 t228).bind fun t231 => (if t231 = true then (some true) else (some false))) = some r := H
     have A23 := aM A230
     clear A230
     replace H := Option.bind_eq_some_iff.mp H
     obtain ⟨t231, A240, H⟩ := H
     replace H : (if t231 = true then (some true) else (some false)) = some r := H
     have A24 := aM A240
     clear A240
     by_cases c25 : t231 = true
     ·subst c25
      have H1 : (some true) = some r := by rw [if_pos rfl] at H; exact H
      clear H
      have H := H1
      clear H1
      obtain rfl := Option.some.inj H
      go_enter Tryd.func7, Tryd.ntmps7
      try go_wp2_with (first | ((with_reducible refine gate_dst (N := 3) rfl ?_); refine box_event ?hg (N := 3) ?hd (cs := #[.int .i64 a1_0, .slice A1_1 l1_1.length c1_1]) (t := 47) ?hr ?_; (case hd => rfl); (case hg => rfl); (case hr => first | (go_simp; done) | (go_simp; rfl)); intro gb203 hg w26 hbox hb; have n0_ := aM (below_step aB hb); have n1_ := aM (hbox); have n2_ := aM ((by rw [hg]; exact (below_size aB) : w.heap.size ≤ gb203)); have n3_ := aM ((by rw [hg]; exact (below_size aB) : w.heap.size ≤ gb203)); clear HB; have HB := n0_; have BK203 := n1_; have GW203 := n2_; have GE203 := n3_; clear n0_ n1_ n2_ n3_; clear hb hbox hg) | ((with_reducible refine gate_callee (f := 28) rfl ?_); refine goesL_ (some 12) rfl rfl Tryd.func28 (by kernel_rfl) rfl #[.slice A0 l0.length c0, .int .i64 1048576] rfl (by (try simp only [List.map_toArray, List.map_cons, List.map_nil]); first | done | rfl | (simp only [List.length_drop, List.length_take]; rfl)) ?_; (with_reducible refine (laws_szRelationS.calls k _ _ l0 1048576 t204 _ ?side1 ?side2 A3.out).mono ?_); (case side1 => exact aC); (case side2 => exact HC0.out); rintro e w27 ⟨rfl, hb⟩; refine ⟨_, rfl, ?_⟩; have n0_ := aM (blk_below (g := gb203) (o := .cells #[.int .i64 a1_0, .slice A1_1 l1_1.length c1_1] 47 (0, 0)) aK hb); have n1_ := aM (below_step aG hb); clear BK203; clear HB; have BK203 := n0_; have HB := n1_; clear n0_ n1_; (try clear hb); (try clear hb2); (try clear hk); (try clear hi); have hcz28_0 : w27.cell? ⟨gb203, 0, none⟩ = some (.int .i64 a1_0) := (blk_cell BK203.out 0).trans rfl; have hcz28_1 : w27.cell? ⟨gb203, 1, none⟩ = some (.slice A1_1 l1_1.length c1_1) := (blk_cell BK203.out 1).trans rfl; have hfz28_0 := blk_frozen BK203.out 0; have hfz28_1 := blk_frozen BK203.out 1) | ((with_reducible refine gate_callee (f := 29) rfl ?_); refine goesL_ (some 17) rfl rfl Tryd.func29 (by kernel_rfl) rfl #[.agg #[.int .i64 a1_0, .slice A1_1 l1_1.length c1_1], .int .i64 t204] rfl (by (try simp only [List.map_toArray, List.map_cons, List.map_nil]); first | done | rfl | (simp only [List.length_drop, List.length_take]; rfl)) ?_; (with_reducible refine (laws_szFact.calls a1_0 _ _ l1_1 t204 t205 _ ?side1 ?side2 A7.out).mono ?_); (case side1 => exact aC); (case side2 => exact HC1_1.out); rintro e w29 ⟨rfl, hb⟩; refine ⟨_, rfl, ?_⟩; have n0_ := aM (blk_below (g := gb203) (o := .cells #[.int .i64 a1_0, .slice A1_1 l1_1.length c1_1] 47 (0, 0)) aK hb); have n1_ := aM (below_step aG hb); clear BK203; clear HB; have BK203 := n0_; have HB := n1_; clear n0_ n1_; (try clear hb); (try clear hb2); (try clear hk); (try clear hi)))
      have n0_ := aM (blk_drew BK203.out)
      have n1_ := aM (below_drew1 HB.out)
      clear BK203
      clear HB
      have BK203 := n0_
      have HB := n1_
      clear n0_ n1_
      refine start_ (n := 6) (S := fun w' => w'.cell? ⟨gb203, 0, none⟩ = some (.int .i64 a1_0) ∧ w'.cell? ⟨gb203, 1, none⟩ = some (.slice A1_1 l1_1.length c1_1)) (ds := []) #[false, false, false, false, false, false] (by kernel_rfl) rfl rfl ⟨(blk_cell BK203.out 0).trans rfl, (blk_cell BK203.out 1).trans rfl⟩ (fun hHeld => ?_)
      generalize w29.drew = w30 at BK203 HB hHeld ⊢
      refine pure_ (i := 0) (N := some 20) (v := ?_) (a' := ?_) #[true, false, false, false, false, false] rfl rfl (by kernel_rfl) (fun _ _ _ h => h) (Or.inl ⟨by rfl, ?_⟩) ?_ ?_
      rotate_left
      ·exact aI
      rotate_left
      ·exact aP
      refine take_ (i := 2) (N := some 22) (v := ?_) (a' := ?_) #[true, false, true, false, false, false] rfl rfl (by kernel_rfl) (fun _ _ _ h => h) (Or.inl ⟨by rfl, ?_⟩) hHeld ?_ ?_
      rotate_left
      ·rintro w' ⟨s0, s1⟩
       go_simp
       with_reducible rfl
      rotate_left
      ·exact aP
      refine one_ (i := 1) (N := some 21) #[true, true, true, false, false, false] rfl rfl (by kernel_rfl) (by decide) (fun K hK => ?_)
      refine goes_ Tryd.func31 (by kernel_rfl) rfl #[.slice A0 l0.length c0] (by rfl) rfl rfl (by (try simp only [List.map_toArray, List.map_cons, List.map_nil]); first | done | rfl | (simp only [List.length_drop, List.length_take]; rfl)) ?_
      with_reducible refine (laws_toRelationS.calls k _ _ l0 t206 _ ?side1 ?side2 A13.out).mono ?_
      (case side1 => exact aC)
      (case side2 => exact HC0.out)
      rintro e w31 ⟨v207, rfl, ho0, hb⟩
      refine ⟨_, rfl, ?_⟩
      have n0_ := aM (Kd.R_lower ho0 (below_size aG))
      have n1_ := aM (blk_below (g := gb203) (o := .cells #[.int .i64 a1_0, .slice A1_1 l1_1.length c1_1] 47 (0, 0)) aK hb)
      have n2_ := aM (below_step aG hb)
      clear BK203
      clear HB
      have HO208 := n0_
      have BK203 := n1_
      have HB := n2_
      clear n0_ n1_ n2_
      (try clear hb)
      (try clear hb2)
      (try clear hk)
      (try clear hi)
      (try clear ho0)
      refine hK.out _ _ ⟨(blk_cell BK203.out 0).trans rfl, (blk_cell BK203.out 1).trans rfl⟩ (fun hHeld => ?_)
      clear hK K
      refine norm_ (a' := ?_) ?_ ?_
      rotate_left
      ·show Act.put _ (some 21) _ = _
       simp only [Act.put, List.setIfInBounds_toArray, List.set_cons_zero, List.set_cons_succ, i64_w, i32_w]
       rfl
      refine one_ (i := 3) (N := some 23) #[true, true, true, true, false, false] rfl rfl (by kernel_rfl) (by decide) (fun K hK => ?_)
      refine goes_ Tryd.func32 (by kernel_rfl) rfl #[.agg #[.int .i64 a1_0, .slice A1_1 l1_1.length c1_1]] (by rfl) rfl rfl (by (try simp only [List.map_toArray, List.map_cons, List.map_nil]); first | done | rfl | (simp only [List.length_drop, List.length_take]; rfl)) ?_
      with_reducible refine (laws_toFact.calls k a1_0 _ _ l1_1 t209 t210 _ ?side1 ?side2 A14.out).mono ?_
      (case side1 => exact aC)
      (case side2 => exact HC1_1.out)
      rintro e w32 ⟨v211, rfl, ho0, hb⟩
      refine ⟨_, rfl, ?_⟩
      have n0_ := aM (Kd.R_below (aR HO208) hb)
      have n1_ := aM (Kd.R_lower ho0 (below_size aG))
      have n2_ := aM (blk_below (g := gb203) (o := .cells #[.int .i64 a1_0, .slice A1_1 l1_1.length c1_1] 47 (0, 0)) aK hb)
      have n3_ := aM (below_step aG hb)
      clear HO208
      clear BK203
      clear HB
      have HO208 := n0_
      have HO212 := n1_
      have BK203 := n2_
      have HB := n3_
      clear n0_ n1_ n2_ n3_
      (try clear hb)
      (try clear hb2)
      (try clear hk)
      (try clear hi)
      (try clear ho0)
      obtain ⟨Ao33, co33, eo33⟩ := Kd.R_slice HO208.out
      (first | subst eo33 | (injection eo33 with f1_ f2_ f3_; have f4_ := f1_.symm; have f5_ := f3_.symm; clear f1_ f2_ f3_; subst f4_; subst f5_))
      obtain ⟨Ao34, co34, eo34⟩ := Kd.R_slice HO212.out
      (first | subst eo34 | (injection eo34 with f1_ f2_ f3_; have f4_ := f1_.symm; have f5_ := f3_.symm; clear f1_ f2_ f3_; subst f4_; subst f5_))
      refine hK.out _ _ ⟨(blk_cell BK203.out 0).trans rfl, (blk_cell BK203.out 1).trans rfl⟩ (fun hHeld => ?_)
      clear hK K
      refine norm_ (a' := ?_) ?_ ?_
      rotate_left
      ·show Act.put _ (some 23) _ = _
       simp only [Act.put, List.setIfInBounds_toArray, List.set_cons_zero, List.set_cons_succ, i64_w, i32_w]
       rfl
      refine one_ (i := 4) (N := some 24) #[true, true, true, true, true, false] rfl rfl (by kernel_rfl) (by decide) (fun K hK => ?_)
      refine goes_ Tryd.func30 (by kernel_rfl) rfl #[.slice Ao33 t206.length co33, .agg #[.int .i64 t209, .slice Ao34 t210.length co34]] (by rfl) rfl rfl (by (try simp only [List.map_toArray, List.map_cons, List.map_nil]); first | done | rfl | (simp only [List.length_drop, List.length_take]; rfl)) ?_
      with_reducible refine (spec_FormatFact.calls k _ _ t206 t209 _ _ t210 t213 _ ?side1 ?side2 ?side3 ?side4 A15.out).mono ?_
      (case side1 => repeat (first | exact (Kd.R_reads' HO208.out).2.2 | (with_reducible refine Kd.C_alloc ?_ _) | (with_reducible refine Kd.C_drewN ?_ _) | (with_reducible refine Kd.C_drew ?_)))
      (case side2 => exact (Kd.R_reads' HO208.out).2.1)
      (case side3 => repeat (first | exact (Kd.R_reads' HO212.out).2.2 | (with_reducible refine Kd.C_alloc ?_ _) | (with_reducible refine Kd.C_drewN ?_ _) | (with_reducible refine Kd.C_drew ?_)))
      (case side4 => exact (Kd.R_reads' HO212.out).2.1)
      rintro e w35 ⟨rfl, hb⟩
      refine ⟨_, rfl, ?_⟩
      have n0_ := aM (Kd.R_below (aR HO208) hb)
      have n1_ := aM (Kd.R_below (aR HO212) hb)
      have n2_ := aM (blk_below (g := gb203) (o := .cells #[.int .i64 a1_0, .slice A1_1 l1_1.length c1_1] 47 (0, 0)) aK hb)
      have n3_ := aM (below_step aG hb)
      clear HO208
      clear HO212
      clear BK203
      clear HB
      have HO208 := n0_
      have HO212 := n1_
      have BK203 := n2_
      have HB := n3_
      clear n0_ n1_ n2_ n3_
      (try clear hb)
      (try clear hb2)
      (try clear hk)
      (try clear hi)
      refine hK.out _ _ ⟨(blk_cell BK203.out 0).trans rfl, (blk_cell BK203.out 1).trans rfl⟩ (fun hHeld => ?_)
      clear hK K
      refine norm_ (a' := ?_) ?_ ?_
      rotate_left
      ·show Act.put _ (some 24) _ = _
       simp only [Act.put, List.setIfInBounds_toArray, List.set_cons_zero, List.set_cons_succ, i64_w, i32_w]
       rfl
      refine pure_ (i := 5) (N := some 6) (v := ?_) (a' := ?_) #[true, true, true, true, true, true] rfl rfl (by kernel_rfl) (fun _ _ _ h => h) (Or.inl ⟨by rfl, ?_⟩) ?_ ?_
      rotate_left
      ·exact aI
      rotate_left
      ·exact aP
      refine done_ (by kernel_rfl) ?_
      try go_wp2_with (first | ((with_reducible refine gate_callee (f := 31) rfl ?_); refine goesL_ (some 26) rfl rfl Tryd.func31 (by kernel_rfl) rfl #[.slice A0 l0.length c0] rfl (by (try simp only [List.map_toArray, List.map_cons, List.map_nil]); first | done | rfl | (simp only [List.length_drop, List.length_take]; rfl)) ?_; (with_reducible refine (laws_toRelationS.calls k _ _ l0 t214 _ ?side1 ?side2 A16.out).mono ?_); (case side1 => exact aC); (case side2 => exact HC0.out); rintro e w36 ⟨v215, rfl, ho0, hb⟩; refine ⟨_, rfl, ?_⟩; have n0_ := aM (Kd.R_elder' (aR HO208) (Kd.R_base ho0) hb); have n1_ := aM (Kd.R_below (aR HO212) hb); have n2_ := aM (Kd.R_lower (Kd.R_new' ho0 (Kd.R_lt (aR HO208))) (below_size aG)); have n3_ := aM (blk_below (g := gb203) (o := .cells #[.int .i64 a1_0, .slice A1_1 l1_1.length c1_1] 47 (0, 0)) aK hb); have n4_ := aM (below_step aG hb); clear HO208; clear HO212; clear BK203; clear HB; have HO208 := n0_; have HO212 := n1_; have HO216 := n2_; have BK203 := n3_; have HB := n4_; clear n0_ n1_ n2_ n3_ n4_; (try clear hb); (try clear hb2); (try clear hk); (try clear hi); (try clear ho0); have hcz37_0 : w36.cell? ⟨gb203, 0, none⟩ = some (.int .i64 a1_0) := (blk_cell BK203.out 0).trans rfl; have hcz37_1 : w36.cell? ⟨gb203, 1, none⟩ = some (.slice A1_1 l1_1.length c1_1) := (blk_cell BK203.out 1).trans rfl; have hfz37_0 := blk_frozen BK203.out 0; have hfz37_1 := blk_frozen BK203.out 1) | ((with_reducible refine gate_callee (f := 32) rfl ?_); refine goesL_ (some 28) rfl rfl Tryd.func32 (by kernel_rfl) rfl #[.agg #[.int .i64 a1_0, .slice A1_1 l1_1.length c1_1]] rfl (by (try simp only [List.map_toArray, List.map_cons, List.map_nil]); first | done | rfl | (simp only [List.length_drop, List.length_take]; rfl)) ?_; (with_reducible refine (laws_toFact.calls k a1_0 _ _ l1_1 t217 t218 _ ?side1 ?side2 A17.out).mono ?_); (case side1 => exact aC); (case side2 => exact HC1_1.out); rintro e w38 ⟨v219, rfl, ho0, hb⟩; refine ⟨_, rfl, ?_⟩; have n0_ := aM (Kd.R_below (aR HO208) hb); have n1_ := aM (Kd.R_elder' (aR HO212) (Kd.R_base ho0) hb); have n2_ := aM (Kd.R_below (aR HO216) hb); have n3_ := aM (Kd.R_lower (Kd.R_new' ho0 (Kd.R_lt (aR HO212))) (below_size aG)); have n4_ := aM (blk_below (g := gb203) (o := .cells #[.int .i64 a1_0, .slice A1_1 l1_1.length c1_1] 47 (0, 0)) aK hb); have n5_ := aM (below_step aG hb); clear HO208; clear HO212; clear HO216; clear BK203; clear HB; have HO208 := n0_; have HO212 := n1_; have HO216 := n2_; have HO220 := n3_; have BK203 := n4_; have HB := n5_; clear n0_ n1_ n2_ n3_ n4_ n5_; (try clear hb); (try clear hb2); (try clear hk); (try clear hi); (try clear ho0)) | ((with_reducible refine gate_dst (N := 8) rfl ?_); refine box_event ?hg (N := 8) ?hd (cs := #[.int .i64 0, .slice none 0 0]) (t := 52) ?hr ?_; (case hd => rfl); (case hg => rfl); (case hr => first | (go_simp; done) | (go_simp; rfl)); intro gb221 hg w39 hbox hb; have n0_ := aM (Kd.R_below (aR HO208) hb); have n1_ := aM (Kd.R_below (aR HO212) hb); have n2_ := aM (Kd.R_below (aR HO216) hb); have n3_ := aM (Kd.R_below (aR HO220) hb); have n4_ := aM (blk_below (g := gb203) (o := .cells #[.int .i64 a1_0, .slice A1_1 l1_1.length c1_1] 47 (0, 0)) aK hb); have n5_ := aM (below_step aG hb); have n6_ := aM (hbox); have n7_ := aM ((by rw [hg]; exact (below_size aG) : w.heap.size ≤ gb221)); have n8_ := aM ((by rw [hg]; exact (below_size aG) : w.heap.size ≤ gb221)); have n9_ := aM ((by rw [hg]; exact Nat.ne_of_lt (blk_lt (g := gb203) (o := .cells #[.int .i64 a1_0, .slice A1_1 l1_1.length c1_1] 47 (0, 0)) aK) : gb203 ≠ gb221)); have n10_ := aM ((by rw [hg]; exact Nat.ne_of_gt (blk_lt (g := gb203) (o := .cells #[.int .i64 a1_0, .slice A1_1 l1_1.length c1_1] 47 (0, 0)) aK) : gb221 ≠ gb203)); clear HO208; clear HO212; clear HO216; clear HO220; clear BK203; clear HB; have HO208 := n0_; have HO212 := n1_; have HO216 := n2_; have HO220 := n3_; have BK203 := n4_; have HB := n5_; have BK221 := n6_; have GW221 := n7_; have GE221 := n8_; have NB203_221 := n9_; have NB221_203 := n10_; clear n0_ n1_ n2_ n3_ n4_ n5_ n6_ n7_ n8_ n9_ n10_; clear hb hbox hg; have hnb40 := NB221_203.out; have hnc40 := NB203_221.out; have hcz41_0 : w39.cell? ⟨gb221, 0, none⟩ = some (.int .i64 0) := (blk_cell BK221.out 0).trans rfl; have hcz41_1 : w39.cell? ⟨gb221, 1, none⟩ = some (.slice none 0 0) := (blk_cell BK221.out 1).trans rfl; have hfz41_0 := blk_frozen BK221.out 0; have hfz41_1 := blk_frozen BK221.out 1; obtain ⟨Ao42, co42, eo42⟩ := Kd.R_slice HO220.out; subst eo42; obtain ⟨Ao43, co43, eo43⟩ := Kd.R_slice HO216.out; subst eo43) | ((with_reducible refine gate_callee (f := 33) rfl ?_); refine goesL_ (some 31) rfl rfl Tryd.func33 (by kernel_rfl) rfl #[.slice Ao43 t214.length co43, .agg #[.int .i64 t217, .slice Ao42 t218.length co42]] rfl (by (try simp only [List.map_toArray, List.map_cons, List.map_nil]); first | done | rfl | (simp only [List.length_drop, List.length_take]; rfl)) ?_; (with_reducible refine (impl_FormatFact.calls k _ _ t214 t217 _ _ t218 t222 _ ?side1 ?side2 ?side3 ?side4 A18.out (hp_.on (by repeat (first | (with_reducible first | exact HB.out | apply below_alloc | apply pw_below_drewN | apply below_drew1 | refine below_set ?_ GE203.out | refine below_set ?_ GE221.out) | exact HB.out)))).mono ?_); (case side1 => refine (Kd.R_reads' (e := 28) (base := w.heap.size) (ok := fun k_ => (True ∧ some k_ ≠ (.slice Ao33 t206.length co33 : Value).ownBlock)) (n := t214.length) (c := co43) ?_).2.2; exact (by (with_reducible repeat (first | apply Kd.R_alloc | apply Kd.R_drewN | apply Kd.R_drew)); exact (Kd.R_mono (Kd.R_far (p := ⟨gb221, 1, none⟩) (Kd.R_far (p := ⟨gb221, 0, none⟩) (Kd.R_types HO216.out BK221.out (by decide)) (fun _ hk => hk.2) (.int .i64 t217)) (fun _ hk => hk.2) (.slice Ao42 t218.length co42)) (fun _ h_ => h_.1)))); (case side2 => exact (Kd.R_reads' HO216.out).2.1); (case side3 => refine (Kd.R_reads' (e := 3) (base := w.heap.size) (ok := fun k_ => (True ∧ some k_ ≠ (.slice Ao34 t210.length co34 : Value).ownBlock)) (n := t218.length) (c := co42) ?_).2.2; exact (by (with_reducible repeat (first | apply Kd.R_alloc | apply Kd.R_drewN | apply Kd.R_drew)); exact (Kd.R_mono (Kd.R_far (p := ⟨gb221, 1, none⟩) (Kd.R_far (p := ⟨gb221, 0, none⟩) (Kd.R_types HO220.out BK221.out (by decide)) (fun _ hk => hk.2) (.int .i64 t217)) (fun _ hk => hk.2) (.slice Ao42 t218.length co42)) (fun _ h_ => h_.1)))); (case side4 => exact (Kd.R_reads' HO220.out).2.1); rintro e w44 ⟨rfl, hb⟩; refine ⟨_, rfl, ?_⟩; have n0_ := aM (Kd.R_below (by (with_reducible repeat (first | apply Kd.R_alloc | apply Kd.R_drewN | apply Kd.R_drew)); exact (Kd.R_mono (Kd.R_far (p := ⟨gb221, 1, none⟩) (Kd.R_far (p := ⟨gb221, 0, none⟩) (Kd.R_types HO208.out BK221.out (by decide)) (fun _ hk => hk.2) (.int .i64 t217)) (fun _ hk => hk.2) (.slice Ao42 t218.length co42)) (fun _ h_ => h_.1))) hb); have n1_ := aM (Kd.R_below (by (with_reducible repeat (first | apply Kd.R_alloc | apply Kd.R_drewN | apply Kd.R_drew)); exact (Kd.R_mono (Kd.R_far (p := ⟨gb221, 1, none⟩) (Kd.R_far (p := ⟨gb221, 0, none⟩) (Kd.R_types HO212.out BK221.out (by decide)) (fun _ hk => hk.2) (.int .i64 t217)) (fun _ hk => hk.2) (.slice Ao42 t218.length co42)) (fun _ h_ => h_.1))) hb); have n2_ := aM (Kd.R_below (by (with_reducible repeat (first | apply Kd.R_alloc | apply Kd.R_drewN | apply Kd.R_drew)); exact (Kd.R_mono (Kd.R_far (p := ⟨gb221, 1, none⟩) (Kd.R_far (p := ⟨gb221, 0, none⟩) (Kd.R_types HO216.out BK221.out (by decide)) (fun _ hk => hk.2) (.int .i64 t217)) (fun _ hk => hk.2) (.slice Ao42 t218.length co42)) (fun _ h_ => h_.1))) hb); have n3_ := aM (Kd.R_below (by (with_reducible repeat (first | apply Kd.R_alloc | apply Kd.R_drewN | apply Kd.R_drew)); exact (Kd.R_mono (Kd.R_far (p := ⟨gb221, 1, none⟩) (Kd.R_far (p := ⟨gb221, 0, none⟩) (Kd.R_types HO220.out BK221.out (by decide)) (fun _ hk => hk.2) (.int .i64 t217)) (fun _ hk => hk.2) (.slice Ao42 t218.length co42)) (fun _ h_ => h_.1))) hb); have n4_ := aM (blk_below (g := gb203) (o := .cells #[.int .i64 a1_0, .slice A1_1 l1_1.length c1_1] 47 (0, 0)) (by (with_reducible repeat (first | refine blk_drewN ?_ _ | refine blk_drew ?_ | refine blk_alloc ?_ _)); refine blk_far ?_ NB203_221.out _; (with_reducible repeat (first | refine blk_drewN ?_ _ | refine blk_drew ?_ | refine blk_alloc ?_ _)); refine blk_far ?_ NB203_221.out _; (with_reducible repeat (first | refine blk_drewN ?_ _ | refine blk_drew ?_ | refine blk_alloc ?_ _)); exact BK203.out) hb); have n5_ := aM (blk_below (g := gb221) (o := .cells #[.int .i64 t217, .slice Ao42 t218.length co42] 52 (0, 0)) (by (with_reducible repeat (first | refine blk_drewN ?_ _ | refine blk_drew ?_ | refine blk_alloc ?_ _)); refine blk_put (cs := #[.int .i64 t217, .slice none 0 0]) ?_ 1 _ rfl; (with_reducible repeat (first | refine blk_drewN ?_ _ | refine blk_drew ?_ | refine blk_alloc ?_ _)); refine blk_put (cs := #[.int .i64 0, .slice none 0 0]) ?_ 0 _ rfl; (with_reducible repeat (first | refine blk_drewN ?_ _ | refine blk_drew ?_ | refine blk_alloc ?_ _)); exact BK221.out) hb); have n6_ := aM (below_step aG hb); clear HO208; clear HO212; clear HO216; clear HO220; clear BK203; clear BK221; clear HB; have HO208 := n0_; have HO212 := n1_; have HO216 := n2_; have HO220 := n3_; have BK203 := n4_; have BK221 := n5_; have HB := n6_; clear n0_ n1_ n2_ n3_ n4_ n5_ n6_; (try clear hb); (try clear hb2); (try clear hk); (try clear hi)) | ((with_reducible refine gate_callee (f := 31) rfl ?_); refine goesL_ (some 37) rfl rfl Tryd.func31 (by kernel_rfl) rfl #[.slice A0 l0.length c0] rfl (by (try simp only [List.map_toArray, List.map_cons, List.map_nil]); first | done | rfl | (simp only [List.length_drop, List.length_take]; rfl)) ?_; (with_reducible refine (laws_toRelationS.calls k _ _ l0 t223 _ ?side1 ?side2 A20.out).mono ?_); (case side1 => exact aC); (case side2 => exact HC0.out); rintro e w45 ⟨v224, rfl, ho0, hb⟩; refine ⟨_, rfl, ?_⟩; have n0_ := aM (Kd.R_elder' (aR HO208) (Kd.R_base ho0) hb); have n1_ := aM (Kd.R_below (aR HO212) hb); have n2_ := aM (Kd.R_elder' (aR HO216) (Kd.R_base ho0) hb); have n3_ := aM (Kd.R_below (aR HO220) hb); have n4_ := aM (Kd.R_lower (Kd.R_new' (Kd.R_new' ho0 (Kd.R_lt (aR HO208))) (Kd.R_lt (aR HO216))) (below_size aG)); have n5_ := aM (blk_below (g := gb203) (o := .cells #[.int .i64 a1_0, .slice A1_1 l1_1.length c1_1] 47 (0, 0)) aK hb); have n6_ := aM (blk_below (g := gb221) (o := .cells #[.int .i64 t217, .slice Ao42 t218.length co42] 52 (0, 0)) aK hb); have n7_ := aM (below_step aG hb); clear HO208; clear HO212; clear HO216; clear HO220; clear BK203; clear BK221; clear HB; have HO208 := n0_; have HO212 := n1_; have HO216 := n2_; have HO220 := n3_; have HO225 := n4_; have BK203 := n5_; have BK221 := n6_; have HB := n7_; clear n0_ n1_ n2_ n3_ n4_ n5_ n6_ n7_; (try clear hb); (try clear hb2); (try clear hk); (try clear hi); (try clear ho0); obtain ⟨Ao46, co46, eo46⟩ := Kd.R_slice HO225.out; subst eo46) | ((with_reducible refine gate_callee (f := 34) rfl ?_); refine goesL_ (some 38) rfl rfl Tryd.func34 (by kernel_rfl) rfl #[.slice Ao43 t214.length co43, .slice Ao46 t223.length co46] rfl (by (try simp only [List.map_toArray, List.map_cons, List.map_nil]); first | done | rfl | (simp only [List.length_drop, List.length_take]; rfl)) ?_; (with_reducible refine (laws_eqRelationS.calls k _ _ t214 _ _ t223 true _ ?side1 ?side2 ?side3 ?side4 A21.out).mono ?_); (case side1 => repeat (first | exact (Kd.R_reads' HO216.out).2.2 | (with_reducible refine Kd.C_alloc ?_ _) | (with_reducible refine Kd.C_drewN ?_ _) | (with_reducible refine Kd.C_drew ?_))); (case side2 => exact (Kd.R_reads' HO216.out).2.1); (case side3 => repeat (first | exact (Kd.R_reads' HO225.out).2.2 | (with_reducible refine Kd.C_alloc ?_ _) | (with_reducible refine Kd.C_drewN ?_ _) | (with_reducible refine Kd.C_drew ?_))); (case side4 => exact (Kd.R_reads' HO225.out).2.1); rintro e w47 ⟨rfl, hb⟩; refine ⟨_, rfl, ?_⟩; have n0_ := aM (Kd.R_below (aR HO208) hb); have n1_ := aM (Kd.R_below (aR HO212) hb); have n2_ := aM (Kd.R_below (aR HO216) hb); have n3_ := aM (Kd.R_below (aR HO220) hb); have n4_ := aM (Kd.R_below (aR HO225) hb); have n5_ := aM (blk_below (g := gb203) (o := .cells #[.int .i64 a1_0, .slice A1_1 l1_1.length c1_1] 47 (0, 0)) aK hb); have n6_ := aM (blk_below (g := gb221) (o := .cells #[.int .i64 t217, .slice Ao42 t218.length co42] 52 (0, 0)) aK hb); have n7_ := aM (below_step aG hb); clear HO208; clear HO212; clear HO216; clear HO220; clear HO225; clear BK203; clear BK221; clear HB; have HO208 := n0_; have HO212 := n1_; have HO216 := n2_; have HO220 := n3_; have HO225 := n4_; have BK203 := n5_; have BK221 := n6_; have HB := n7_; clear n0_ n1_ n2_ n3_ n4_ n5_ n6_ n7_; (try clear hb); (try clear hb2); (try clear hk); (try clear hi)))
      have n0_ := aM (Kd.R_drew HO208.out)
      have n1_ := aM (Kd.R_drew HO212.out)
      have n2_ := aM (Kd.R_drew HO216.out)
      have n3_ := aM (Kd.R_drew HO220.out)
      have n4_ := aM (Kd.R_drew HO225.out)
      have n5_ := aM (blk_drew BK203.out)
      have n6_ := aM (blk_drew BK221.out)
      have n7_ := aM (below_drew1 HB.out)
      clear HO208
      clear HO212
      clear HO216
      clear HO220
      clear HO225
      clear BK203
      clear BK221
      clear HB
      have HO208 := n0_
      have HO212 := n1_
      have HO216 := n2_
      have HO220 := n3_
      have HO225 := n4_
      have BK203 := n5_
      have BK221 := n6_
      have HB := n7_
      clear n0_ n1_ n2_ n3_ n4_ n5_ n6_ n7_
      refine start_ (n := 5) (S := fun w' => w'.cell? ⟨gb221, 0, none⟩ = some (.int .i64 t217) ∧ w'.cell? ⟨gb221, 1, none⟩ = some (.slice Ao42 t218.length co42) ∧ w'.cell? ⟨gb203, 0, none⟩ = some (.int .i64 a1_0) ∧ w'.cell? ⟨gb203, 1, none⟩ = some (.slice A1_1 l1_1.length c1_1)) (ds := []) #[false, false, false, false, false] (by kernel_rfl) rfl rfl ⟨(blk_cell BK221.out 0).trans rfl, (blk_cell BK221.out 1).trans rfl, (blk_cell BK203.out 0).trans rfl, (blk_cell BK203.out 1).trans rfl⟩ (fun hHeld => ?_)
      generalize w47.drew = w48 at HO208 HO212 HO216 HO220 HO225 BK203 BK221 HB hHeld ⊢
      refine take_ (i := 0) (N := some 40) (v := ?_) (a' := ?_) #[true, false, false, false, false] rfl rfl (by kernel_rfl) (fun _ _ _ h => h) (Or.inl ⟨by rfl, ?_⟩) hHeld ?_ ?_
      rotate_left
      ·rintro w' ⟨s0, s1, s2, s3⟩
       go_simp
       with_reducible rfl
      rotate_left
      ·exact aP
      refine take_ (i := 1) (N := some 41) (v := ?_) (a' := ?_) #[true, true, false, false, false] rfl rfl (by kernel_rfl) (fun _ _ _ h => h) (Or.inl ⟨by rfl, ?_⟩) hHeld ?_ ?_
      rotate_left
      ·rintro w' ⟨s0, s1, s2, s3⟩
       go_simp
       with_reducible rfl
      rotate_left
      ·exact aP
      refine one_ (i := 2) (N := some 42) #[true, true, true, false, false] rfl rfl (by kernel_rfl) (by decide) (fun K hK => ?_)
      refine goes_ Tryd.func32 (by kernel_rfl) rfl #[.agg #[.int .i64 a1_0, .slice A1_1 l1_1.length c1_1]] (by rfl) rfl rfl (by (try simp only [List.map_toArray, List.map_cons, List.map_nil]); first | done | rfl | (simp only [List.length_drop, List.length_take]; rfl)) ?_
      with_reducible refine (laws_toFact.calls k a1_0 _ _ l1_1 t227 t228 _ ?side1 ?side2 A23.out).mono ?_
      (case side1 => exact aC)
      (case side2 => exact HC1_1.out)
      rintro e w49 ⟨v229, rfl, ho0, hb⟩
      refine ⟨_, rfl, ?_⟩
      have n0_ := aM (Kd.R_below (aR HO208) hb)
      have n1_ := aM (Kd.R_elder' (aR HO212) (Kd.R_base ho0) hb)
      have n2_ := aM (Kd.R_below (aR HO216) hb)
      have n3_ := aM (Kd.R_elder' (aR HO220) (Kd.R_base ho0) hb)
      have n4_ := aM (Kd.R_below (aR HO225) hb)
      have n5_ := aM (Kd.R_lower (Kd.R_new' (Kd.R_new' ho0 (Kd.R_lt (aR HO212))) (Kd.R_lt (aR HO220))) (below_size aG))
      have n6_ := aM (blk_below (g := gb203) (o := .cells #[.int .i64 a1_0, .slice A1_1 l1_1.length c1_1] 47 (0, 0)) aK hb)
      have n7_ := aM (blk_below (g := gb221) (o := .cells #[.int .i64 t217, .slice Ao42 t218.length co42] 52 (0, 0)) aK hb)
      have n8_ := aM (below_step aG hb)
      clear HO208
      clear HO212
      clear HO216
      clear HO220
      clear HO225
      clear BK203
      clear BK221
      clear HB
      have HO208 := n0_
      have HO212 := n1_
      have HO216 := n2_
      have HO220 := n3_
      have HO225 := n4_
      have HO230 := n5_
      have BK203 := n6_
      have BK221 := n7_
      have HB := n8_
      clear n0_ n1_ n2_ n3_ n4_ n5_ n6_ n7_ n8_
      (try clear hb)
      (try clear hb2)
      (try clear hk)
      (try clear hi)
      (try clear ho0)
      obtain ⟨Ao50, co50, eo50⟩ := Kd.R_slice HO230.out
      (first | subst eo50 | (injection eo50 with f1_ f2_ f3_; have f4_ := f1_.symm; have f5_ := f3_.symm; clear f1_ f2_ f3_; subst f4_; subst f5_))
      refine hK.out _ _ ⟨(blk_cell BK221.out 0).trans rfl, (blk_cell BK221.out 1).trans rfl, (blk_cell BK203.out 0).trans rfl, (blk_cell BK203.out 1).trans rfl⟩ (fun hHeld => ?_)
      clear hK K
      refine norm_ (a' := ?_) ?_ ?_
      rotate_left
      ·show Act.put _ (some 42) _ = _
       simp only [Act.put, List.setIfInBounds_toArray, List.set_cons_zero, List.set_cons_succ, i64_w, i32_w]
       rfl
      refine one_ (i := 3) (N := some 43) #[true, true, true, true, false] rfl rfl (by kernel_rfl) (by decide) (fun K hK => ?_)
      refine goes_ Tryd.func35 (by kernel_rfl) rfl #[.agg #[.int .i64 t217, .slice Ao42 t218.length co42], .agg #[.int .i64 t227, .slice Ao50 t228.length co50]] (by rfl) rfl rfl (by (try simp only [List.map_toArray, List.map_cons, List.map_nil]); first | done | rfl | (simp only [List.length_drop, List.length_take]; rfl)) ?_
      with_reducible refine (laws_eqFact.calls k t217 _ _ t218 t227 _ _ t228 true _ ?side1 ?side2 ?side3 ?side4 A24.out).mono ?_
      (case side1 => repeat (first | exact (Kd.R_reads' HO220.out).2.2 | (with_reducible refine Kd.C_alloc ?_ _) | (with_reducible refine Kd.C_drewN ?_ _) | (with_reducible refine Kd.C_drew ?_)))
      (case side2 => exact (Kd.R_reads' HO220.out).2.1)
      (case side3 => repeat (first | exact (Kd.R_reads' HO230.out).2.2 | (with_reducible refine Kd.C_alloc ?_ _) | (with_reducible refine Kd.C_drewN ?_ _) | (with_reducible refine Kd.C_drew ?_)))
      (case side4 => exact (Kd.R_reads' HO230.out).2.1)
      rintro e w51 ⟨rfl, hb⟩
      refine ⟨_, rfl, ?_⟩
      have n0_ := aM (Kd.R_below (aR HO208) hb)
      have n1_ := aM (Kd.R_below (aR HO212) hb)
      have n2_ := aM (Kd.R_below (aR HO216) hb)
      have n3_ := aM (Kd.R_below (aR HO220) hb)
      have n4_ := aM (Kd.R_below (aR HO225) hb)
      have n5_ := aM (Kd.R_below (aR HO230) hb)
      have n6_ := aM (blk_below (g := gb203) (o := .cells #[.int .i64 a1_0, .slice A1_1 l1_1.length c1_1] 47 (0, 0)) aK hb)
      have n7_ := aM (blk_below (g := gb221) (o := .cells #[.int .i64 t217, .slice Ao42 t218.length co42] 52 (0, 0)) aK hb)
      have n8_ := aM (below_step aG hb)
      clear HO208
      clear HO212
      clear HO216
      clear HO220
      clear HO225
      clear HO230
      clear BK203
      clear BK221
      clear HB
      have HO208 := n0_
      have HO212 := n1_
      have HO216 := n2_
      have HO220 := n3_
      have HO225 := n4_
      have HO230 := n5_
      have BK203 := n6_
      have BK221 := n7_
      have HB := n8_
      clear n0_ n1_ n2_ n3_ n4_ n5_ n6_ n7_ n8_
      (try clear hb)
      (try clear hb2)
      (try clear hk)
      (try clear hi)
      refine hK.out _ _ ⟨(blk_cell BK221.out 0).trans rfl, (blk_cell BK221.out 1).trans rfl, (blk_cell BK203.out 0).trans rfl, (blk_cell BK203.out 1).trans rfl⟩ (fun hHeld => ?_)
      clear hK K
      refine norm_ (a' := ?_) ?_ ?_
      rotate_left
      ·show Act.put _ (some 43) _ = _
       simp only [Act.put, List.setIfInBounds_toArray, List.set_cons_zero, List.set_cons_succ, i64_w, i32_w]
       rfl
      refine pure_ (i := 4) (N := some 44) (v := ?_) (a' := ?_) #[true, true, true, true, true] rfl rfl (by kernel_rfl) (fun _ _ _ h => h) (Or.inl ⟨by rfl, ?_⟩) ?_ ?_
      rotate_left
      ·exact aI
      rotate_left
      ·exact aP
      refine done_ (by kernel_rfl) ?_
      try go_wp2
      go_ret
      exact ⟨by first | rfl | (simp [errW_none, errW_some] <;> rfl) | (simp [*, errW_none, errW_some] <;> rfl), by repeat (first | (with_reducible first | exact HB.out | apply below_alloc | apply pw_below_drewN | apply below_drew1 | refine below_set ?_ GE203.out | refine below_set ?_ GE221.out) | exact HB.out)⟩
     ·replace c25 := Bool.eq_false_iff.mpr c25
      subst c25
      have H1 : (some false) = some r := by rw [if_neg (show ¬ (false = true) by decide)] at H; exact H
      clear H
      have H := H1
      clear H1
      exact absurd (Option.some.inj (H.trans (congrArg some HRT_.out))) (by decide)
    ·replace c22 := Bool.eq_false_iff.mpr c22
     subst c22
     have H1 : (some false) = some r := by rw [if_neg (show ¬ (false = true) by decide)] at H; exact H
     clear H
     have H := H1
     clear H1
     exact absurd (Option.some.inj (H.trans (congrArg some HRT_.out))) (by decide)
   ·rw [if_neg c19] at H
    have c19b0 : (t222.toList == t213.toList) = false := beq_eq_false_iff_ne.mpr c19
    have c19b1 : (t222.toList != t213.toList) = true := bne_iff_ne.mpr c19
    exact absurd (Option.some.inj (H.trans (congrArg some HRT_.out))) (by decide)

end Go.Proofs.YtdpaopfghggiaaaDoor.PFnExactFormatFact
