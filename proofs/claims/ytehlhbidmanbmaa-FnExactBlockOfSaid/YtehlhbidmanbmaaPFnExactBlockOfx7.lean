-- Laid by a program of this claim: what the functions come to, some of them proved by hand.
import Derived.Test.YtehlhbidmanbmaaPFnExactBlockOfx0
import Derived.Test.YtehlhbidmanbmaaPFnExactBlockOfx1
import Derived.Test.YtehlhbidmanbmaaPFnExactBlockOfx2
import Derived.Test.YtehlhbidmanbmaaPFnExactBlockOfx4
import Derived.Test.YtehlhbidmanbmaaPFnExactBlockOfx5
import Derived.Test.YtehlhbidmanbmaaPFnExactBlockOfx6
namespace Go.Proofs.Ytehlhbidmanbmaa.PFnExactBlockOf
open Go.RowKit Go.Proofs.YtehlhbidmanbmaaW.PrintWords Go.Proofs.YtehlhbidmanbmaaW.PrintLast Go.Proofs.YtehlhbidmanbmaaW.PrintMore
attribute [local go_sem] max2_int min2_int max_two min_two max_three min_three max_four min_four   -- for this text's walks alone
set_option linter.unusedVariables false
set_option linter.unusedSimpArgs false

/-! ### impl_Blocks: function 61 -/
def impl_Blocks.f (k : Nat) (l0_0 : List (S86)) (l0_1 : List (S50)) : Option ((List (List Int))) := (impl_IsValidDatabase.f l0_0 l0_1).bind fun t282 => (if t282 = true then ((impl_blocks.f k l0_0 l0_1).bind fun t283 => (some t283)) else (some ([] : List (List Int))))
set_option maxHeartbeats 8000000 in
set_option maxRecDepth 100000 in
theorem impl_Blocks.calls (k : Nat) (A0_0 : Option Addr) (c0_0 : Nat) (l0_0 : List (S86)) (A0_1 : Option Addr) (c0_1 : Nat) (l0_1 : List (S50)) (r : List (List Int)) (w : World) (hr0_0 : Kd.C k86 w A0_0 l0_0.length l0_0) (hc0_0 : l0_0.length ≤ c0_0) (hr0_1 : Kd.C k50 w A0_1 l0_1.length l0_1) (hc0_1 : l0_1.length ≤ c0_1) (h : impl_Blocks.f k l0_0 l0_1 = some r) :
  Calls Try.prog 61 #[.agg #[.slice A0_0 l0_0.length c0_0, .slice A0_1 l0_1.length c0_1]] w fun e w' => ∃ v0_ : Value, e = .returned (v0_) ∧ Kd.S (Kd.slice 3 (Kd.int .i64)) 26 w' w.heap.size (fun _ => True) v0_ r ∧ Below w.heap.size w w' := by
 have hu32 := Try.underlying32
 have HR0_0 := aM hr0_0
 have HC0_0 := aM hc0_0
 clear hr0_0 hc0_0
 have HR0_1 := aM hr0_1
 have HC0_1 := aM hc0_1
 clear hr0_1 hc0_1
 have HB := aM (Below.refl w.heap.size w)
 have H : ((impl_IsValidDatabase.f l0_0 l0_1).bind fun t282 => (if t282 = true then ((impl_blocks.f k l0_0 l0_1).bind fun t283 => (some t283)) else (some ([] : List (List Int))))) = some r := h
 clear h
 replace H := Option.bind_eq_some_iff.mp H
 obtain ⟨t282, A20, H⟩ := H
 replace H : (if t282 = true then ((impl_blocks.f k l0_0 l0_1).bind fun t283 => (some t283)) else (some ([] : List (List Int)))) = some r := H
 have A2 := aM A20
 clear A20
 by_cases c3 : t282 = true
 ·subst c3
  have H1 : ((impl_blocks.f k l0_0 l0_1).bind fun t283 => (some t283)) = some r := by rw [if_pos rfl] at H; exact H
  clear H
  have H := H1
  clear H1
  replace H := Option.bind_eq_some_iff.mp H
  obtain ⟨t283, A40, H⟩ := H
  replace H : (some t283) = some r := H
  have A4 := aM A40
  clear A40
  obtain rfl := Option.some.inj H
  go_enter Try.func61, Try.ntmps61
  go_wp2_with (first | ((with_reducible refine gate_dst (N := 1) rfl ?_); refine box_event ?hg (N := 1) ?hd (cs := #[.slice A0_0 l0_0.length c0_0, .slice A0_1 l0_1.length c0_1]) (t := 32) ?hr ?_; (case hd => rfl); (case hg => rfl); (case hr => first | (go_simp; done) | (go_simp; rfl)); intro gb281 hg w5 hbox hb; have n0_ := aM (below_step aB hb); have n1_ := aM (hbox); have n2_ := aM ((by rw [hg]; exact (below_size aB) : w.heap.size ≤ gb281)); have n3_ := aM ((by rw [hg]; exact (below_size aB) : w.heap.size ≤ gb281)); clear HB; have HB := n0_; have BK281 := n1_; have GW281 := n2_; have GE281 := n3_; clear n0_ n1_ n2_ n3_; clear hb hbox hg; have hcz6_0 : w5.cell? ⟨gb281, 0, none⟩ = some (.slice A0_0 l0_0.length c0_0) := (blk_cell BK281.out 0).trans rfl; have hcz6_1 : w5.cell? ⟨gb281, 1, none⟩ = some (.slice A0_1 l0_1.length c0_1) := (blk_cell BK281.out 1).trans rfl; have hfz6_0 := blk_frozen BK281.out 0; have hfz6_1 := blk_frozen BK281.out 1) | ((with_reducible refine gate_callee (f := 69) rfl ?_); refine goesL_ (some 4) rfl rfl Try.func69 (by kernel_rfl) rfl #[.agg #[.slice A0_0 l0_0.length c0_0, .slice A0_1 l0_1.length c0_1]] rfl (by (try simp only [List.map_toArray, List.map_cons, List.map_nil]); first | done | rfl | (simp only [List.length_drop, List.length_take]; rfl)) ?_; (with_reducible refine (impl_IsValidDatabase.calls _ _ l0_0 _ _ l0_1 true _ ?side1 ?side2 ?side3 ?side4 A2.out).mono ?_); (case side1 => exact aC); (case side2 => exact HC0_0.out); (case side3 => exact aC); (case side4 => exact HC0_1.out); rintro e w7 ⟨rfl, hb⟩; refine ⟨_, rfl, ?_⟩; have n0_ := aM (blk_below (g := gb281) (o := .cells #[.slice A0_0 l0_0.length c0_0, .slice A0_1 l0_1.length c0_1] 32 (0, 0)) aK hb); have n1_ := aM (below_step aG hb); clear BK281; clear HB; have BK281 := n0_; have HB := n1_; clear n0_ n1_; (try clear hb); (try clear hb2); (try clear hk); (try clear hi); have hcz8_0 : w7.cell? ⟨gb281, 0, none⟩ = some (.slice A0_0 l0_0.length c0_0) := (blk_cell BK281.out 0).trans rfl; have hcz8_1 : w7.cell? ⟨gb281, 1, none⟩ = some (.slice A0_1 l0_1.length c0_1) := (blk_cell BK281.out 1).trans rfl; have hfz8_0 := blk_frozen BK281.out 0; have hfz8_1 := blk_frozen BK281.out 1) | ((with_reducible refine gate_callee (f := 82) rfl ?_); refine goesL_ (some 7) rfl rfl Try.func82 (by kernel_rfl) rfl #[.agg #[.slice A0_0 l0_0.length c0_0, .slice A0_1 l0_1.length c0_1]] rfl (by (try simp only [List.map_toArray, List.map_cons, List.map_nil]); first | done | rfl | (simp only [List.length_drop, List.length_take]; rfl)) ?_; (with_reducible refine (impl_blocks.calls k _ _ l0_0 _ _ l0_1 t283 _ ?side1 ?side2 ?side3 ?side4 A4.out).mono ?_); (case side1 => exact aC); (case side2 => exact HC0_0.out); (case side3 => exact aC); (case side4 => exact HC0_1.out); rintro e w9 ⟨v284, rfl, ho0, hb⟩; refine ⟨_, rfl, ?_⟩; have n0_ := aM (Kd.S_lower ho0 (below_size aG)); have n1_ := aM (blk_below (g := gb281) (o := .cells #[.slice A0_0 l0_0.length c0_0, .slice A0_1 l0_1.length c0_1] 32 (0, 0)) aK hb); have n2_ := aM (below_step aG hb); clear BK281; clear HB; have HO285 := n0_; have BK281 := n1_; have HB := n2_; clear n0_ n1_ n2_; (try clear hb); (try clear hb2); (try clear hk); (try clear hi); (try clear ho0)))
  go_ret
  exact ⟨_, by first | rfl | (simp [errW_none, errW_some] <;> rfl) | (simp [*, errW_none, errW_some] <;> rfl), aS HO285, by repeat (first | (with_reducible first | exact HB.out | apply below_alloc | apply pw_below_drewN | apply below_drew1 | refine below_set ?_ GE281.out) | exact HB.out)⟩
 ·replace c3 := Bool.eq_false_iff.mpr c3
  subst c3
  have H1 : (some ([] : List (List Int))) = some r := by rw [if_neg (show ¬ (false = true) by decide)] at H; exact H
  clear H
  have H := H1
  clear H1
  obtain rfl := Option.some.inj H
  go_enter Try.func61, Try.ntmps61
  go_wp2_with (first | ((with_reducible refine gate_dst (N := 1) rfl ?_); refine box_event ?hg (N := 1) ?hd (cs := #[.slice A0_0 l0_0.length c0_0, .slice A0_1 l0_1.length c0_1]) (t := 32) ?hr ?_; (case hd => rfl); (case hg => rfl); (case hr => first | (go_simp; done) | (go_simp; rfl)); intro gb281 hg w10 hbox hb; have n0_ := aM (below_step aB hb); have n1_ := aM (hbox); have n2_ := aM ((by rw [hg]; exact (below_size aB) : w.heap.size ≤ gb281)); have n3_ := aM ((by rw [hg]; exact (below_size aB) : w.heap.size ≤ gb281)); clear HB; have HB := n0_; have BK281 := n1_; have GW281 := n2_; have GE281 := n3_; clear n0_ n1_ n2_ n3_; clear hb hbox hg; have hcz11_0 : w10.cell? ⟨gb281, 0, none⟩ = some (.slice A0_0 l0_0.length c0_0) := (blk_cell BK281.out 0).trans rfl; have hcz11_1 : w10.cell? ⟨gb281, 1, none⟩ = some (.slice A0_1 l0_1.length c0_1) := (blk_cell BK281.out 1).trans rfl; have hfz11_0 := blk_frozen BK281.out 0; have hfz11_1 := blk_frozen BK281.out 1) | ((with_reducible refine gate_callee (f := 69) rfl ?_); refine goesL_ (some 4) rfl rfl Try.func69 (by kernel_rfl) rfl #[.agg #[.slice A0_0 l0_0.length c0_0, .slice A0_1 l0_1.length c0_1]] rfl (by (try simp only [List.map_toArray, List.map_cons, List.map_nil]); first | done | rfl | (simp only [List.length_drop, List.length_take]; rfl)) ?_; (with_reducible refine (impl_IsValidDatabase.calls _ _ l0_0 _ _ l0_1 false _ ?side1 ?side2 ?side3 ?side4 A2.out).mono ?_); (case side1 => exact aC); (case side2 => exact HC0_0.out); (case side3 => exact aC); (case side4 => exact HC0_1.out); rintro e w12 ⟨rfl, hb⟩; refine ⟨_, rfl, ?_⟩; have n0_ := aM (blk_below (g := gb281) (o := .cells #[.slice A0_0 l0_0.length c0_0, .slice A0_1 l0_1.length c0_1] 32 (0, 0)) aK hb); have n1_ := aM (below_step aG hb); clear BK281; clear HB; have BK281 := n0_; have HB := n1_; clear n0_ n1_; (try clear hb); (try clear hb2); (try clear hk); (try clear hi)))
  go_ret
  exact ⟨_, by first | rfl | (simp [errW_none, errW_some] <;> rfl) | (simp [*, errW_none, errW_some] <;> rfl), by first | exact Kd.S_nil _ _ _ _ _ | exact Kd.N_nil _ _ _ _ _ | exact Kd.V_nil _ _ _ _ _ | exact Kd.Q_nil _ _ _ _ _ | exact Kd.R_nil _ _ _ _ _, by repeat (first | (with_reducible first | exact HB.out | apply below_alloc | apply pw_below_drewN | apply below_drew1 | refine below_set ?_ GE281.out) | exact HB.out)⟩

/-! ### slices_Index_int_int: function 83 -/
def slices_Index_int_int.l0 : Nat → List Int → Int → Int → Int → Option (Int)
 | 0, _, _, _, _ => none
 | k + 1, x0, x1, x7, x8 => if x8 < x7 then (if 0 ≤ x8 then (if x8 < (x0.length : Int) then (if x1 = (rd x0 x8) then (some x8) else (slices_Index_int_int.l0 k x0 x1 x7 (wrap64 (x8 + 1)))) else (none)) else (none)) else (some (-1))
def slices_Index_int_int.f (k : Nat) (l0 : List Int) (a1 : Int) : Option (Int) := slices_Index_int_int.l0 k l0 a1 (l0.length : Int) 0
set_option maxHeartbeats 8000000 in
set_option maxRecDepth 100000 in
theorem slices_Index_int_int.calls (k : Nat) (A0 : Option Addr) (c0 : Nat) (l0 : List Int) (a1 : Int) (r : Int) (w : World) (hr0 : Kd.C (Kd.int .i64) w A0 l0.length l0) (hc0 : l0.length ≤ c0) (h : slices_Index_int_int.f k l0 a1 = some r) :
  Calls Try.prog 83 #[.slice A0 l0.length c0, .int .i64 a1] w fun e w' => e = .returned (.int .i64 r) ∧ Drawn0 w w' := by
 unfold slices_Index_int_int.f at h
 ·go_enter Try.func83, Try.ntmps83
  go_wp2
  go_loopg [8] k (fun kq v8 w' => ∃ (x8_0 : Int), v8 = .int .i64 x8_0 ∧ slices_Index_int_int.l0 kq l0 a1 (l0.length : Int) x8_0 = some r ∧ Drawn0 w w')
  case atStart => exact ⟨_, zR, zA, zD⟩
  case round =>
   clear h
   obtain ⟨x8_0, rfl, h, hb⟩ := hrel
   have hd := hb
   replace hb := hb.below
   replace hb := aM hb
   have HB : Below w.heap.size w wr := zB
   rcases gk with _ | kk0
   exact absurd h (by simp [slices_Index_int_int.l0])
   simp only [slices_Index_int_int.l0] at h
   replace h := il h; rcases h with ⟨c1, c1a, h⟩ | ⟨c1, c1a, h⟩
   replace h := ie h; rcases h with ⟨c2, c2a, h⟩ | ⟨c2, c2a, h⟩
   replace h := il h; rcases h with ⟨c3, c3a, h⟩ | ⟨c3, c3a, h⟩
   replace h := iq h; rcases h with ⟨c4, ⟨c4a, c4b⟩, h⟩ | ⟨c4, ⟨c4a, c4b⟩, h⟩
   obtain rfl := si h
   obtain ⟨ad286, e286, hx286_0⟩ := Kd.at_int hr0 (x8_0 : Int) aD aD
   have p286 := eq_true (aD : 0 ≤ (x8_0 : Int))
   have q286 := eq_true (aD : x8_0 < (l0.length : Int))
   cases e286
   replace hx286_0 := qa hx286_0
   rotate_left
   obtain ⟨kf, hkf⟩ : ∃ kf, kf = kk0 := ⟨_, rfl⟩; rw [← hkf] at h
   obtain ⟨ad286, e286, hx286_0⟩ := Kd.at_int hr0 (x8_0 : Int) aD aD
   have p286 := eq_true (aD : 0 ≤ (x8_0 : Int))
   have q286 := eq_true (aD : x8_0 < (l0.length : Int))
   cases e286
   replace hx286_0 := qa hx286_0
   rotate_left
   exact absurd h (by simp)
   exact absurd h (by simp)
   obtain rfl := si h
   rotate_left
   all_goals (go_wp2; first | (go_ret; exact zE zD) | (go_roundg kf; (case measure => omega); (case rel => exact ⟨_, zR, zA, zD⟩)))

/-! ### slices_Contains_int_int: function 66 -/
def slices_Contains_int_int.f (k : Nat) (l0 : List Int) (a1 : Int) : Option (Bool) := (slices_Index_int_int.f k l0 a1).bind fun t287 => (some (decide (t287 ≥ 0)))
set_option maxHeartbeats 8000000 in
set_option maxRecDepth 100000 in
theorem slices_Contains_int_int.calls (k : Nat) (A0 : Option Addr) (c0 : Nat) (l0 : List Int) (a1 : Int) (r : Bool) (w : World) (hr0 : Kd.C (Kd.int .i64) w A0 l0.length l0) (hc0 : l0.length ≤ c0) (h : slices_Contains_int_int.f k l0 a1 = some r) :
  Calls Try.prog 66 #[.slice A0 l0.length c0, .int .i64 a1] w fun e w' => e = .returned (.bool r) ∧ Drawn0 w w' := by
 unfold slices_Contains_int_int.f at h
 replace h := bs h; obtain ⟨t287, B0, h⟩ := h
 obtain rfl := si h
 rotate_left
 all_goals (go_enter Try.func66, Try.ntmps66; go_wp2_with (first | (go_at_call 83; refine (slices_Index_int_int.calls ?_ _ _ _ _ ?_ _ ?_ ?_ ?h).mono ?_; (case h => exact zA); (iterate 2 (first | exact zC | exact zA)); rintro e w1 ⟨rfl, hb⟩; have hd := hb; replace hb := hb.below; replace hb := aM hb; have HB : Below w.heap.size w w1 := zB)); go_ret; exact zE zD)

/-! ### impl_BlockOf: function 28 -/
def impl_BlockOf.l0 : Nat → Int → List (List Int) → Int → Int → Option (List Int)
 | 0, _, _, _, _ => none
 | k + 1, x1, x8, x9, x10 => if x10 < x9 then (if 0 ≤ x10 then (if x10 < (x8.length : Int) then ((slices_Contains_int_int.f k (rd_L3 x8 x10) x1).bind fun t293 => (if t293 = true then (some (rd_L3 x8 x10)) else (impl_BlockOf.l0 k x1 x8 x9 (wrap64 (x10 + 1))))) else (none)) else (none)) else (some ([] : List Int))
def impl_BlockOf.f (k : Nat) (l0_0 : List (S86)) (l0_1 : List (S50)) (a1 : Int) : Option (List Int) := (impl_Blocks.f k l0_0 l0_1).bind fun t289 => (impl_BlockOf.l0 k a1 t289 (t289.length : Int) 0)
set_option maxHeartbeats 8000000 in
set_option maxRecDepth 100000 in
theorem impl_BlockOf.calls (k : Nat) (A0_0 : Option Addr) (c0_0 : Nat) (l0_0 : List (S86)) (A0_1 : Option Addr) (c0_1 : Nat) (l0_1 : List (S50)) (a1 : Int) (r : List Int) (w : World) (hr0_0 : Kd.C k86 w A0_0 l0_0.length l0_0) (hc0_0 : l0_0.length ≤ c0_0) (hr0_1 : Kd.C k50 w A0_1 l0_1.length l0_1) (hc0_1 : l0_1.length ≤ c0_1) (h : impl_BlockOf.f k l0_0 l0_1 a1 = some r) :
  Calls Try.prog 28 #[.agg #[.slice A0_0 l0_0.length c0_0, .slice A0_1 l0_1.length c0_1], .int .i64 a1] w fun e w' => ∃ v0_ : Value, e = .returned (v0_) ∧ Kd.R (Kd.int .i64) 3 w' w.heap.size (fun _ => True) v0_ r ∧ Below w.heap.size w w' := by
 have hu32 := Try.underlying32
 have HR0_0 := aM hr0_0
 have HC0_0 := aM hc0_0
 clear hr0_0 hc0_0
 have HR0_1 := aM hr0_1
 have HC0_1 := aM hc0_1
 clear hr0_1 hc0_1
 have HB := aM (Below.refl w.heap.size w)
 have H : ((impl_Blocks.f k l0_0 l0_1).bind fun t289 => (impl_BlockOf.l0 k a1 t289 (t289.length : Int) 0)) = some r := h
 clear h
 replace H := Option.bind_eq_some_iff.mp H
 obtain ⟨t289, A30, H⟩ := H
 replace H : (impl_BlockOf.l0 k a1 t289 (t289.length : Int) 0) = some r := H
 have A3 := aM A30
 clear A30
 have H' := aM H
 clear H
 go_enter Try.func28, Try.ntmps28
 go_wp2_with (first | ((with_reducible refine gate_dst (N := 2) rfl ?_); refine box_event ?hg (N := 2) ?hd (cs := #[.slice A0_0 l0_0.length c0_0, .slice A0_1 l0_1.length c0_1]) (t := 32) ?hr ?_; (case hd => rfl); (case hg => rfl); (case hr => first | (go_simp; done) | (go_simp; rfl)); intro gb288 hg w4 hbox hb; have n0_ := aM (below_step aB hb); have n1_ := aM (hbox); have n2_ := aM ((by rw [hg]; exact (below_size aB) : w.heap.size ≤ gb288)); have n3_ := aM ((by rw [hg]; exact (below_size aB) : w.heap.size ≤ gb288)); clear HB; have HB := n0_; have BK288 := n1_; have GW288 := n2_; have GE288 := n3_; clear n0_ n1_ n2_ n3_; clear hb hbox hg; have hcz5_0 : w4.cell? ⟨gb288, 0, none⟩ = some (.slice A0_0 l0_0.length c0_0) := (blk_cell BK288.out 0).trans rfl; have hcz5_1 : w4.cell? ⟨gb288, 1, none⟩ = some (.slice A0_1 l0_1.length c0_1) := (blk_cell BK288.out 1).trans rfl; have hfz5_0 := blk_frozen BK288.out 0; have hfz5_1 := blk_frozen BK288.out 1) | ((with_reducible refine gate_callee (f := 61) rfl ?_); refine goesL_ (some 8) rfl rfl Try.func61 (by kernel_rfl) rfl #[.agg #[.slice A0_0 l0_0.length c0_0, .slice A0_1 l0_1.length c0_1]] rfl (by (try simp only [List.map_toArray, List.map_cons, List.map_nil]); first | done | rfl | (simp only [List.length_drop, List.length_take]; rfl)) ?_; (with_reducible refine (impl_Blocks.calls k _ _ l0_0 _ _ l0_1 t289 _ ?side1 ?side2 ?side3 ?side4 A3.out).mono ?_); (case side1 => exact aC); (case side2 => exact HC0_0.out); (case side3 => exact aC); (case side4 => exact HC0_1.out); rintro e w6 ⟨v290, rfl, ho0, hb⟩; refine ⟨_, rfl, ?_⟩; have n0_ := aM (Kd.S_lower ho0 (below_size aG)); have n1_ := aM (blk_below (g := gb288) (o := .cells #[.slice A0_0 l0_0.length c0_0, .slice A0_1 l0_1.length c0_1] 32 (0, 0)) aK hb); have n2_ := aM (below_step aG hb); clear BK288; clear HB; have HO291 := n0_; have BK288 := n1_; have HB := n2_; clear n0_ n1_ n2_; (try clear hb); (try clear hb2); (try clear hk); (try clear hi); (try clear ho0); obtain ⟨Ao7, co7, eo7⟩ := Kd.S_slice HO291.out; subst eo7))
 go_loopg [10] k (fun kq v10 w' => ∃ (x10_1 : Int), v10 = .int .i64 x10_1 ∧ Aside0 (impl_BlockOf.l0 kq a1 t289 (t289.length : Int) x10_1 = some r) ∧ Aside0 (kq ≤ k) ∧ Aside0 (Kd.S (Kd.slice 3 (Kd.int .i64)) 26 w' w.heap.size (fun _ => True) (.slice Ao7 t289.length co7) t289) ∧ Aside0 (w'.heap[gb288]? = some (.cells #[(.slice A0_0 l0_0.length c0_0), (.slice A0_1 l0_1.length c0_1)] 32 (0, 0))) ∧ Aside0 (Below w.heap.size w w'))
 case atStart => exact ⟨(0), (by first | rfl | (simp; done) | (simp [*]; done)), H', ⟨Nat.le_refl _⟩, ⟨aS HO291⟩, ⟨by (with_reducible repeat (first | refine blk_drewN ?_ _ | refine blk_drew ?_ | refine blk_alloc ?_ _)); exact BK288.out⟩, ⟨by repeat (first | (with_reducible first | exact HB.out | apply below_alloc | apply pw_below_drewN | apply below_drew1 | refine below_set ?_ GE288.out) | exact HB.out)⟩⟩
 case round =>
  clear H'
  try clear c2
  try clear p2
  try clear c6
  try clear hcz5_0
  try clear hcz5_1
  try clear hfz5_0
  try clear hfz5_1
  obtain ⟨x10_1, rfl, HA, HK1, HO_8, BK288, HB⟩ := hrel
  cases gk with
  | zero => exact absurd HA.out (by simp [impl_BlockOf.l0])
  | succ k1 =>
   have H := HA.out
   clear HA
   simp only [impl_BlockOf.l0] at H
   by_cases c8 : x10_1 < (t289.length : Int)
   ·rw [if_pos c8] at H
    have c8b0 : decide (x10_1 < (t289.length : Int)) = true := decide_eq_true c8
    clear c8
    by_cases c9 : 0 ≤ x10_1
    ·rw [if_pos c9] at H
     have c9b0 : decide (0 ≤ x10_1) = true := decide_eq_true c9
     clear c9
     by_cases c10 : x10_1 < (t289.length : Int)
     ·rw [if_pos c10] at H
      have c10b0 : decide (x10_1 < (t289.length : Int)) = true := decide_eq_true c10
      clear c10
      replace H := Option.bind_eq_some_iff.mp H
      obtain ⟨t293, A110, H⟩ := H
      replace H : (if t293 = true then (some (rd_L3 t289 x10_1)) else (impl_BlockOf.l0 k1 a1 t289 (t289.length : Int) (wrap64 (x10_1 + 1)))) = some r := H
      have A11 := aM A110
      clear A110
      by_cases c12 : t293 = true
      ·subst c12
       have H1 : (some (rd_L3 t289 x10_1)) = some r := by rw [if_pos rfl] at H; exact H
       clear H
       have H := H1
       clear H1
       obtain rfl := Option.some.inj H
       have p292 : 0 ≤ (x10_1 : Int) := aD
       have q292 : x10_1 < (t289.length : Int) := aD
       obtain ⟨ad292, A292_0, c292_0, e292, hx292_0, hl292_0, hi292_0⟩ := at_L3 (Kd.S_reads' HO_8.out).2.2 x10_1 p292 q292
       cases e292
       obtain ⟨ce292, hce292, hMe292, hcc292⟩ := Kd.S_get HO_8.out [] x10_1 p292 (by first | exact q292 | exact aD | (have e_ := (Kd.S_reads' HO_8.out).1; omega))
       obtain ⟨ve292_0, rfl, ge292_0⟩ := hMe292
       have hv292_0 := hcc292 0 _ rfl
       rw [Nat.add_zero, show ((Kd.slice 3 (Kd.int .i64))).sz = 1 from rfl, Nat.mul_one] at hv292_0
       replace hv292_0 := Option.some.inj (hv292_0.symm.trans hx292_0)
       rw [hv292_0] at ge292_0
       have HL292_0 := aM (show Kd.R (Kd.int .i64) 3 _ _ _ _ (rd_L3 t289 x10_1) from ge292_0)
       clear hv292_0 ge292_0
       clear hcc292 hce292
       have HR292_0 := aM hi292_0
       have HC292_0 := aM hl292_0
       clear hi292_0 hl292_0
       replace p292 := eq_true p292
       replace q292 := eq_true q292
       go_wp2_with (first | ((with_reducible refine gate_callee (f := 66) rfl ?_); refine goesL_ (some 16) rfl rfl Try.func66 (by kernel_rfl) rfl #[.slice A292_0 (rd_L3 t289 x10_1).length c292_0, .int .i64 a1] rfl (by (try simp only [List.map_toArray, List.map_cons, List.map_nil]); first | done | rfl | (simp only [List.length_drop, List.length_take]; rfl)) ?_; (with_reducible refine (slices_Contains_int_int.calls k1 _ _ (rd_L3 t289 x10_1) a1 true _ ?side1 ?side2 A11.out).mono ?_); (case side1 => repeat (first | exact (by repeat (first | (with_reducible exact HR292_0.out) | (with_reducible refine Kd.C_alloc ?_ _) | (with_reducible refine Kd.C_drewN ?_ _) | (with_reducible refine Kd.C_drew ?_) | exact HR292_0.out)) | (with_reducible refine Kd.C_alloc ?_ _) | (with_reducible refine Kd.C_drewN ?_ _) | (with_reducible refine Kd.C_drew ?_))); (case side2 => exact HC292_0.out); rintro e w' ⟨rfl, ⟨nd, rfl⟩⟩; refine ⟨_, rfl, ?_⟩))
       go_ret
       exact ⟨_, by first | rfl | (simp [errW_none, errW_some] <;> rfl) | (simp [*, errW_none, errW_some] <;> rfl), by (with_reducible repeat (first | apply Kd.R_alloc | apply Kd.R_drewN | apply Kd.R_drew)); exact Kd.R_mono HL292_0.out (fun _ hk => trivial), by repeat (first | (with_reducible first | exact HB.out | apply below_alloc | apply pw_below_drewN | apply below_drew1 | refine below_set ?_ GE288.out) | exact HB.out)⟩
      ·replace c12 := Bool.eq_false_iff.mpr c12
       subst c12
       have H1 : (impl_BlockOf.l0 k1 a1 t289 (t289.length : Int) (wrap64 (x10_1 + 1))) = some r := by rw [if_neg (show ¬ (false = true) by decide)] at H; exact H
       clear H
       have H := H1
       clear H1
       have H' := aM H
       clear H
       have p292 : 0 ≤ (x10_1 : Int) := aD
       have q292 : x10_1 < (t289.length : Int) := aD
       obtain ⟨ad292, A292_0, c292_0, e292, hx292_0, hl292_0, hi292_0⟩ := at_L3 (Kd.S_reads' HO_8.out).2.2 x10_1 p292 q292
       cases e292
       obtain ⟨ce292, hce292, hMe292, hcc292⟩ := Kd.S_get HO_8.out [] x10_1 p292 (by first | exact q292 | exact aD | (have e_ := (Kd.S_reads' HO_8.out).1; omega))
       obtain ⟨ve292_0, rfl, ge292_0⟩ := hMe292
       have hv292_0 := hcc292 0 _ rfl
       rw [Nat.add_zero, show ((Kd.slice 3 (Kd.int .i64))).sz = 1 from rfl, Nat.mul_one] at hv292_0
       replace hv292_0 := Option.some.inj (hv292_0.symm.trans hx292_0)
       rw [hv292_0] at ge292_0
       have HL292_0 := aM (show Kd.R (Kd.int .i64) 3 _ _ _ _ (rd_L3 t289 x10_1) from ge292_0)
       clear hv292_0 ge292_0
       clear hcc292 hce292
       have HR292_0 := aM hi292_0
       have HC292_0 := aM hl292_0
       clear hi292_0 hl292_0
       replace p292 := eq_true p292
       replace q292 := eq_true q292
       go_wp2_with (first | ((with_reducible refine gate_callee (f := 66) rfl ?_); refine goesL_ (some 16) rfl rfl Try.func66 (by kernel_rfl) rfl #[.slice A292_0 (rd_L3 t289 x10_1).length c292_0, .int .i64 a1] rfl (by (try simp only [List.map_toArray, List.map_cons, List.map_nil]); first | done | rfl | (simp only [List.length_drop, List.length_take]; rfl)) ?_; (with_reducible refine (slices_Contains_int_int.calls k1 _ _ (rd_L3 t289 x10_1) a1 false _ ?side1 ?side2 A11.out).mono ?_); (case side1 => repeat (first | exact (by repeat (first | (with_reducible exact HR292_0.out) | (with_reducible refine Kd.C_alloc ?_ _) | (with_reducible refine Kd.C_drewN ?_ _) | (with_reducible refine Kd.C_drew ?_) | exact HR292_0.out)) | (with_reducible refine Kd.C_alloc ?_ _) | (with_reducible refine Kd.C_drewN ?_ _) | (with_reducible refine Kd.C_drew ?_))); (case side2 => exact HC292_0.out); rintro e w' ⟨rfl, ⟨nd, rfl⟩⟩; refine ⟨_, rfl, ?_⟩))
       go_roundg k1
       case measure => have := HK1.out; omega
       case rel => exact ⟨(wrap64 (x10_1 + 1)), (by first | rfl | (simp; done) | (simp [*]; done)), H', ⟨by have := HK1.out; omega⟩, ⟨aS HO_8⟩, ⟨by (with_reducible repeat (first | refine blk_drewN ?_ _ | refine blk_drew ?_ | refine blk_alloc ?_ _)); exact BK288.out⟩, ⟨by repeat (first | (with_reducible first | exact HB.out | apply below_alloc | apply pw_below_drewN | apply below_drew1 | refine below_set ?_ GE288.out) | exact HB.out)⟩⟩
     ·rw [if_neg c10] at H
      exact absurd H (by simp)
    ·rw [if_neg c9] at H
     exact absurd H (by simp)
   ·rw [if_neg c8] at H
    have c8b0 : decide (x10_1 < (t289.length : Int)) = false := decide_eq_false c8
    clear c8
    obtain rfl := Option.some.inj H
    go_wp2
    go_ret
    exact ⟨_, by first | rfl | (simp [errW_none, errW_some] <;> rfl) | (simp [*, errW_none, errW_some] <;> rfl), by first | exact Kd.R_nil _ _ _ _ _ | exact Kd.N_nil _ _ _ _ _ | exact Kd.V_nil _ _ _ _ _ | exact Kd.Q_nil _ _ _ _ _ | exact Kd.S_nil _ _ _ _ _, by repeat (first | (with_reducible first | exact HB.out | apply below_alloc | apply pw_below_drewN | apply below_drew1 | refine below_set ?_ GE288.out) | exact HB.out)⟩

/-! ### laws_FnExactBlockOf: function 5 -/
def laws_FnExactBlockOf.f (k : Nat) (l0_0 : List S85) (l0_1 : List S47) (a1 : Int) : Option Bool := (laws_szDatabase.f k l0_0 l0_1 1048576).bind fun t0 => if t0 < 0 then some true else (laws_toDatabase.f k l0_0 l0_1).bind fun d => (spec_BlockOf.f k d.1 d.2 a1).bind fun s => (impl_BlockOf.f k d.1 d.2 a1).bind fun g => (laws_eqIntS.f k g s).bind fun b1 => if b1 = true then ((laws_eqDatabase.f k d.1 d.2 d.1 d.2).bind fun b2 => if b2 = true then ((laws_markDatabase.f k d.1 d.2 1).bind fun m => if m.1 < 0 then some false else ((laws_markIntS.f k g 1).bind fun mg => (laws_heldIntS.f k mg.2 1).bind fun q => if q < 0 then some false else if q = mg.1 then some true else some false)) else some false) else some false
set_option maxHeartbeats 8000000 in
set_option maxRecDepth 100000 in
theorem laws_FnExactBlockOf.calls (k : Nat) (A0_0 : Option Addr) (c0_0 : Nat) (l0_0 : List S85) (A0_1 : Option Addr) (c0_1 : Nat) (l0_1 : List S47) (a1 : Int) (r : Bool) (w : World) (hr0_0 : Kd.C k85 w A0_0 l0_0.length l0_0) (hc0_0 : l0_0.length ≤ c0_0) (hr0_1 : Kd.C k47 w A0_1 l0_1.length l0_1) (hc0_1 : l0_1.length ≤ c0_1) (h : laws_FnExactBlockOf.f k l0_0 l0_1 a1 = some r) (hr_ : r = true) :
  Calls Try.prog 5 #[.agg #[.slice A0_0 l0_0.length c0_0, .slice A0_1 l0_1.length c0_1], .int .i64 a1] w fun e w' => e = .returned (.bool r) ∧ Below w.heap.size w w' := by
 subst hr_
 have hu25 := Try.underlying25
 have hu32 := Try.underlying32
 obtain ⟨W, hW⟩ : ∃ W, w.alloc (.cells #[.slice A0_0 l0_0.length c0_0, .slice A0_1 l0_1.length c0_1] 25) = W := ⟨_, rfl⟩
 have bx0 : W.heap[w.heap.size]? = some (.cells #[.slice A0_0 l0_0.length c0_0, .slice A0_1 l0_1.length c0_1] 25 (0, 0)) := by subst hW; first | exact heap_alloc_new _ _ | exact blk_alloc (heap_alloc_new _ _) _ | (have := heap_alloc_new (w.alloc (.cells #[.slice A0_0 l0_0.length c0_0, .slice A0_1 l0_1.length c0_1] 25)) (.cells #[.slice A0_0 l0_0.length c0_0, .slice A0_1 l0_1.length c0_1] 25); simpa using this)
 have HB : Below w.heap.size w W := by subst hW; exact zB
 have hb := aM HB
 have HA := Below.refl W.heap.size W
 have z0 := aM HB.size
 have zl := aM (show w.heap.size < W.heap.size by subst hW; simp)
 have qbx0_0 := qa (w := W) ((blk_cell bx0 0).trans rfl)
 have qbx0_1 := qa (w := W) ((blk_cell bx0 1).trans rfl)
 have rg_ := @bcl w
 have rd_ := @bdr w
 unfold laws_FnExactBlockOf.f at h
 replace h := bs h; obtain ⟨t0, B0, h⟩ := h
 replace h := il h; rcases h with ⟨c0, c0a, h⟩ | ⟨c0, c0a, h⟩
 go_enter Try.func5, Try.ntmps5
 go_wp2_with (first | (go_at_call 15; refine (laws_szDatabase.calls ?_ _ _ _ _ _ _ _ ?_ _ ?_ ?_ ?_ ?_ ?h).mono ?_; (case h => exact zA); (iterate 4 (first | exact zC | exact zA)); rintro e w1 ⟨rfl, hb⟩; replace hb := aM hb; have HB : Below w.heap.size w w1 := zB))
 go_ret
 exact zE zB
 replace h := bs h; obtain ⟨⟨d1, d2⟩, Bd, h⟩ := h
 replace h := bs h; obtain ⟨s1, Bs, h⟩ := h
 replace h := bs h; obtain ⟨g1, Bg, h⟩ := h
 dsimp only at h Bs Bg
 replace h := bs h; obtain ⟨b1, Be, h⟩ := h
 replace h := ib h; rcases h with ⟨rfl, h⟩ | ⟨rfl, h⟩
 rotate_left
 exact absurd (si h) (by decide)
 replace h := bs h; obtain ⟨b2, Be2, h⟩ := h
 replace h := ib h; rcases h with ⟨rfl, h⟩ | ⟨rfl, h⟩
 rotate_left
 exact absurd (si h) (by decide)
 replace h := bs h; obtain ⟨⟨m1, m2, m3⟩, Bm, h⟩ := h
 dsimp only at h
 replace h := il h; rcases h with ⟨cm, cma, h⟩ | ⟨cm, cma, h⟩
 exact absurd (si h) (by decide)
 replace h := bs h; obtain ⟨⟨n1, n2⟩, Bn, h⟩ := h
 replace h := bs h; obtain ⟨q, Bq, h⟩ := h
 dsimp only at h Bq
 replace h := il h; rcases h with ⟨cq, cqa, h⟩ | ⟨cq, cqa, h⟩
 exact absurd (si h) (by decide)
 replace h := iq h; rcases h with ⟨ce, ⟨cea, ceb⟩, h⟩ | ⟨ce, ⟨cea, ceb⟩, h⟩
 rotate_left
 exact absurd (si h) (by decide)
 obtain rfl := ce.out
 clear h ce cea ceb
 go_enter Try.func5, Try.ntmps5
 go_wp2_with fail
 refine (laws_szDatabase.calls ?_ _ _ _ _ _ _ _ ?_ _ ?_ ?_ ?_ ?_ ?h).mono ?_
 (case h => exact zA)
 (iterate 4 (first | exact zC | exact zA))
 rintro e u1 ⟨rfl, hb⟩
 replace hb := aM hb
 have z1 := aM hb.out.size
 have HA : Below W.heap.size W u1 := zB
 have HB : Below w.heap.size w u1 := zB
 go_wp2_with fail
 refine (laws_toDatabase.calls ?_ _ _ _ _ _ _ ?_ ?_ _ ?_ ?_ ?_ ?_ ?h).mono ?_
 (case h => exact zA)
 (iterate 4 (first | exact zC | exact zA))
 rintro e u2 ⟨t2v0, t2v1, rfl, t2o0, t2o1, hb⟩
 obtain ⟨t2A0, t2c0, rfl, t2l0, t2C0⟩ := Kd.R_reads t2o0
 obtain ⟨t2A1, t2c1, rfl, t2l1, t2C1⟩ := Kd.S_reads t2o1
 replace hb := aM hb
 have z2 := aM hb.out.size
 have HA : Below W.heap.size W u2 := zB
 have HB : Below w.heap.size w u2 := zB
 go_wp2_with fail
 refine (spec_BlockOf.calls ?_ _ _ _ _ _ _ _ ?_ _ ?_ ?_ ?_ ?_ ?h).mono ?_
 (case h => exact zA)
 (iterate 4 (first | exact zC | exact zA))
 rintro e u3 ⟨sv0, rfl, so0, hb⟩
 obtain ⟨sA0, sc0, rfl, sl0, sC0⟩ := Kd.R_reads so0
 replace hb := aM hb
 have z3 := aM hb.out.size
 have HA : Below W.heap.size W u3 := zB
 have HB : Below w.heap.size w u3 := zB
 go_wp2_with fail
 refine (laws_toDatabase.calls ?_ _ _ _ _ _ _ ?_ ?_ _ ?_ ?_ ?_ ?_ ?h).mono ?_
 (case h => exact zA)
 (iterate 4 (first | exact zC | exact zA))
 rintro e u4 ⟨xv0, xv1, rfl, xo0, xo1, hb⟩
 obtain ⟨xA0, xc0, rfl, xl0, xC0⟩ := Kd.R_reads xo0
 obtain ⟨xA1, xc1, rfl, xl1, xC1⟩ := Kd.S_reads xo1
 replace hb := aM hb
 have z4 := aM hb.out.size
 have HA : Below W.heap.size W u4 := zB
 have HB : Below w.heap.size w u4 := zB
 obtain ⟨W4, hW4⟩ : ∃ W_, u4.alloc (.cells #[.slice xA0 d1.length xc0, .slice xA1 d2.length xc1] 32) = W_ := ⟨_, rfl⟩
 have bxx : W4.heap[u4.heap.size]? = some (.cells #[.slice xA0 d1.length xc0, .slice xA1 d2.length xc1] 32 (0, 0)) := by subst hW4; exact heap_alloc_new _ _
 have hb : Aside0 (Below u4.heap.size u4 W4) := ⟨by subst hW4; exact below_alloc (Below.refl _ _) _⟩
 have bx0 := blk_below bx0 (zB (w := W) (w' := W4))
 clear qbx0_0 qbx0_1
 clear HA
 have z4b := aM (show u4.heap.size < W4.heap.size by subst hW4; simp)
 have qbx0_0 := qa (w := W4) ((blk_cell bx0 0).trans rfl)
 have qbx0_1 := qa (w := W4) ((blk_cell bx0 1).trans rfl)
 have qbxx_0 := qa (w := W4) ((blk_cell bxx 0).trans rfl)
 have qbxx_1 := qa (w := W4) ((blk_cell bxx 1).trans rfl)
 have HA := Below.refl W4.heap.size W4
 have HB : Below w.heap.size w W4 := zB
 go_wp2_with fail
 refine (impl_BlockOf.calls ?_ _ _ _ _ _ _ _ ?_ _ ?_ ?_ ?_ ?_ ?h).mono ?_
 (case h => exact zA)
 (iterate 4 (first | exact zC | exact zA))
 rintro e u5 ⟨gv0, rfl, go0, hb⟩
 obtain ⟨gA0, gc0, rfl, gl0, gC0⟩ := Kd.R_reads go0
 replace hb := aM hb
 have z5 := aM hb.out.size
 have HA : Below W4.heap.size W4 u5 := zB
 have HB : Below w.heap.size w u5 := zB
 go_wp2_with fail
 refine (laws_eqIntS.calls ?_ _ _ _ _ _ _ ?_ _ ?_ ?_ ?_ ?_ ?h).mono ?_
 (case h => exact zA)
 (iterate 4 (first | exact zC | exact zA))
 rintro e u6 ⟨rfl, hb⟩
 replace hb := aM hb.below
 have z6 := aM hb.out.size
 have HA : Below W4.heap.size W4 u6 := zB
 have HB : Below w.heap.size w u6 := zB
 go_wp2_with fail
 refine nw (w0 := w) zB ?_
 intro Wd7 HB hb hd
 have HA : Below W4.heap.size W4 Wd7 := zB
 have rG_ := @bcl W4
 have rD_ := @bdr W4
 refine Txt.rg (id := 10) [0, 1, 2, 3, 4] (by kernel_rfl) (by kernel_rfl) ?_
 simp only [List.map_cons, List.map_nil, List.getD_cons_zero, List.getD_cons_succ]
 (repeat (first | (refine Txt.off rfl ?_; simp only [Act.put, List.setIfInBounds_toArray, List.set_cons_zero, List.set_cons_succ]) | (refine Txt.take rfl rfl ?_; intro K hK; go_big_quiet_op; go_big_quiet_on) | (refine Txt.call rfl rfl Try.func17 (by kernel_rfl) rfl (laws_toDatabase.calls ?_ _ _ _ _ _ _ ?_ ?_ _ ?_ ?_ ?_ ?_ ?h) rfl ?_; (case h => exact zA); (iterate 4 (first | exact zC | exact zA)); rintro e w1 ⟨v0, v1, rfl, ho0, ho1, hb⟩; obtain ⟨A0, c0, rfl, hc0, hC0⟩ := Kd.R_reads ho0; obtain ⟨A1, c1, rfl, hc1, hC1⟩ := Kd.R_reads (Kd.S_R ho1); replace hb := aM hb; have HA : Below W4.heap.size W4 w1 := zB; have HB : Below w.heap.size w w1 := zB; refine ⟨_, rfl, zS, ?_⟩; simp only [Act.put, List.setIfInBounds_toArray, List.set_cons_zero, List.set_cons_succ]) | (refine Txt.call rfl rfl Try.func20 (by kernel_rfl) rfl (laws_eqDatabase.calls ?_ _ _ _ _ _ _ _ _ _ _ _ _ ?_ _ ?_ ?_ ?_ ?_ ?_ ?_ ?_ ?_ ?h) rfl ?_; (case h => exact zA); (iterate 8 (first | exact zC | exact zA)); rintro e u7 ⟨rfl, hb⟩; replace hb := aM hb; have HA : Below W4.heap.size W4 u7 := zB; have HB : Below w.heap.size w u7 := zB; refine ⟨_, rfl, zS, ?_⟩; simp only [Act.put, List.setIfInBounds_toArray, List.set_cons_zero, List.set_cons_succ])))
 refine Txt.nil ?_
 have z7 := aM (zB (w := u6) (w' := u7)).size
 clear rG_ rD_
 have xH7_0 := Kd.R_lower (R_iv xo0 (zB (w := u4) (w' := u7))) (show w.heap.size ≤ _ by have := z0.out; have := zl.out; have := z1.out; have := z2.out; have := z3.out; have := z4.out; have := z4b.out; have := z5.out; have := z6.out; have := z7.out; omega)
 have xH7_1 := Kd.S_lower (S_iv xo1 (zB (w := u4) (w' := u7))) (show w.heap.size ≤ _ by have := z0.out; have := zl.out; have := z1.out; have := z2.out; have := z3.out; have := z4.out; have := z4b.out; have := z5.out; have := z6.out; have := z7.out; omega)
 go_wp2_with fail
 refine (laws_markDatabase.calls k _ _ _ _ _ _ 1 _ _ _ w _ HB xH7_0 xH7_1 (fun k_ a_ b_ => Ty.ne a_.2 b_.2 (by decide)) Bm).mono ?_
 rintro e u8 ⟨rfl, -, -, hB, hK⟩
 replace hK : Kept u7 u8 (Iv u3.heap.size u4.heap.size) := kept_iv hK (fun k_ h_ => h_.elim (fun h_ => h_.1) (fun h_ => h_.1))
 have bx0 := blk_past (blk_below bx0 (zB (w := W4) (w' := u7))) hK (by have := z0.out; have := zl.out; have := z1.out; have := z2.out; have := z3.out; have := z4.out; have := z4b.out; have := z5.out; have := z6.out; have := z7.out; omega)
 have bxx := blk_past (blk_below bxx (zB (w := W4) (w' := u7))) hK (by have := z0.out; have := zl.out; have := z1.out; have := z2.out; have := z3.out; have := z4.out; have := z4b.out; have := z5.out; have := z6.out; have := z7.out; omega)
 have sH8_0 := Kd.R_lower (R_iv so0 (zB (w := u3) (w' := u7))) (show w.heap.size ≤ _ by have := z0.out; have := zl.out; have := z1.out; have := z2.out; have := z3.out; have := z4.out; have := z4b.out; have := z5.out; have := z6.out; have := z7.out; omega)
 have sH8_0_8 := R_past sH8_0 hK (by have := z0.out; have := zl.out; have := z1.out; have := z2.out; have := z3.out; have := z4.out; have := z4b.out; have := z5.out; have := z6.out; have := z7.out; omega)
 have sC0 := (Kd.R_reads' sH8_0_8).2.2
 have gH8_0 := Kd.R_lower (R_iv go0 (zB (w := u5) (w' := u7))) (show w.heap.size ≤ _ by have := z0.out; have := zl.out; have := z1.out; have := z2.out; have := z3.out; have := z4.out; have := z4b.out; have := z5.out; have := z6.out; have := z7.out; omega)
 have gH8_0_8 := R_past gH8_0 hK (by have := z0.out; have := zl.out; have := z1.out; have := z2.out; have := z3.out; have := z4.out; have := z4b.out; have := z5.out; have := z6.out; have := z7.out; omega)
 have gC0 := (Kd.R_reads' gH8_0_8).2.2
 have HB := hB
 have z8 := aM hK.1
 clear HA
 clear qbx0_0 qbx0_1
 clear qbxx_0 qbxx_1
 have qbx0_0 := qa (w := u8) ((blk_cell bx0 0).trans rfl)
 have qbx0_1 := qa (w := u8) ((blk_cell bx0 1).trans rfl)
 have qbxx_0 := qa (w := u8) ((blk_cell bxx 0).trans rfl)
 have qbxx_1 := qa (w := u8) ((blk_cell bxx 1).trans rfl)
 have HA := Below.refl u8.heap.size u8
 go_wp2_with fail
 refine (laws_eqIntS.calls ?_ _ _ _ _ _ _ ?_ _ ?_ ?_ ?_ ?_ ?h).mono ?_
 (case h => exact zA)
 (iterate 4 (first | exact zC | exact zA))
 rintro e u9 ⟨rfl, hb⟩
 replace hb := aM hb.below
 have z9 := aM hb.out.size
 have HA : Below u8.heap.size u8 u9 := zB
 have HB : Below w.heap.size w u9 := zB
 have gH9_0 := R_at gH8_0_8 (zB (w := u8) (w' := u9))
 go_wp2_with fail
 refine (laws_markIntS.calls k _ _ _ 1 _ _ w _ HB gH9_0 Bn).mono ?_
 rintro e u10 ⟨rfl, mR0, hB, hK⟩
 replace hK : Kept u9 u10 (Iv W4.heap.size u5.heap.size) := kept_iv hK (fun k_ h_ => h_.1)
 have bx0 := blk_past (blk_below bx0 (zB (w := u8) (w' := u9))) hK (by have := z0.out; have := zl.out; have := z1.out; have := z2.out; have := z3.out; have := z4.out; have := z4b.out; have := z5.out; have := z6.out; have := z7.out; have := z8.out; have := z9.out; omega)
 have bxx := blk_past (blk_below bxx (zB (w := u8) (w' := u9))) hK (by have := z0.out; have := zl.out; have := z1.out; have := z2.out; have := z3.out; have := z4.out; have := z4b.out; have := z5.out; have := z6.out; have := z7.out; have := z8.out; have := z9.out; omega)
 have sH10_0 := R_at sH8_0_8 (zB (w := u8) (w' := u9))
 have sH10_0_10 := R_past sH10_0 hK (by have := z0.out; have := zl.out; have := z1.out; have := z2.out; have := z3.out; have := z4.out; have := z4b.out; have := z5.out; have := z6.out; have := z7.out; have := z8.out; have := z9.out; omega)
 have sC0 := (Kd.R_reads' sH10_0_10).2.2
 have HB := hB
 have z10 := aM hK.1
 clear HA
 clear qbx0_0 qbx0_1
 clear qbxx_0 qbxx_1
 have qbx0_0 := qa (w := u10) ((blk_cell bx0 0).trans rfl)
 have qbx0_1 := qa (w := u10) ((blk_cell bx0 1).trans rfl)
 have qbxx_0 := qa (w := u10) ((blk_cell bxx 0).trans rfl)
 have qbxx_1 := qa (w := u10) ((blk_cell bxx 1).trans rfl)
 have HA := Below.refl u10.heap.size u10
 have nE0 := (Kd.R_reads' mR0).1
 have nC0 := (Kd.R_reads' mR0).2.2
 have nL0 : n2.length ≤ gc0 := nE0 ▸ gl0
 have nX0 := aM nE0
 clear nE0 mR0
 go_wp2_with fail
 have hc := laws_heldIntS.calls k gA0 gc0 n2 1 q u10 zC nL0 Bq
 rw [← nX0.out] at hc
 refine hc.mono ?_
 clear hc
 rintro e u11 ⟨rfl, hb⟩
 replace hb := aM hb.below
 have z11 := aM hb.out.size
 have HA : Below u10.heap.size u10 u11 := zB
 have HB : Below w.heap.size w u11 := zB
 go_wp2_with fail
 refine (laws_toDatabase.calls ?_ _ _ _ _ _ _ ?_ ?_ _ ?_ ?_ ?_ ?_ ?h).mono ?_
 (case h => exact zA)
 (iterate 4 (first | exact zC | exact zA))
 rintro e u12 ⟨t12v0, t12v1, rfl, t12o0, t12o1, hb⟩
 obtain ⟨t12A0, t12c0, rfl, t12l0, t12C0⟩ := Kd.R_reads t12o0
 obtain ⟨t12A1, t12c1, rfl, t12l1, t12C1⟩ := Kd.S_reads t12o1
 replace hb := aM hb
 have z12 := aM hb.out.size
 have HA : Below u10.heap.size u10 u12 := zB
 have HB : Below w.heap.size w u12 := zB
 go_wp2_with fail
 refine (impl_BlockOf.calls ?_ _ _ _ _ _ _ _ ?_ _ ?_ ?_ ?_ ?_ ?h).mono ?_
 (case h => exact zA)
 (iterate 4 (first | exact zC | exact zA))
 rintro e u13 ⟨iv0, rfl, io0, hb⟩
 obtain ⟨iA0, ic0, rfl, il0, iC0⟩ := Kd.R_reads io0
 replace hb := aM hb
 have z13 := aM hb.out.size
 have HA : Below u10.heap.size u10 u13 := zB
 have HB : Below w.heap.size w u13 := zB
 go_wp2_with fail
 refine (laws_eqIntS.calls ?_ _ _ _ _ _ _ ?_ _ ?_ ?_ ?_ ?_ ?h).mono ?_
 (case h => exact zA)
 (iterate 4 (first | exact zC | exact zA))
 rintro e u14 ⟨rfl, hb⟩
 replace hb := aM hb.below
 have z14 := aM hb.out.size
 have HA : Below u10.heap.size u10 u14 := zB
 have HB : Below w.heap.size w u14 := zB
 go_wp2_with fail
 have hc := laws_heldIntS.calls k gA0 gc0 n2 1 q u14 zC nL0 Bq
 rw [← nX0.out] at hc
 refine hc.mono ?_
 clear hc
 rintro e u15 ⟨rfl, hb⟩
 replace hb := aM hb.below
 have z15 := aM hb.out.size
 have HA : Below u10.heap.size u10 u15 := zB
 have HB : Below w.heap.size w u15 := zB
 go_wp2
 go_ret
 exact zE zB

end Go.Proofs.Ytehlhbidmanbmaa.PFnExactBlockOf
