-- Laid by a program of this claim: what the functions come to, some of them proved by hand.
import Derived.Test.YtehlhbidmanbmaaPFnExactConflictingFactsx0
import Derived.Test.YtehlhbidmanbmaaPFnExactConflictingFactsx1
import Derived.Test.YtehlhbidmanbmaaPFnExactConflictingFactsx3
import Derived.Test.YtehlhbidmanbmaaPFnExactConflictingFactsx4
import Derived.Test.YtehlhbidmanbmaaPFnExactConflictingFactsx6
namespace Go.Proofs.Ytehlhbidmanbmaa.PFnExactConflictingFacts
open Go.RowKit Go.Proofs.YtehlhbidmanbmaaW.PrintWords Go.Proofs.YtehlhbidmanbmaaW.PrintLast Go.Proofs.YtehlhbidmanbmaaW.PrintMore
attribute [local go_sem] max2_int min2_int max_two min_two max_three min_three max_four min_four   -- for this text's walks alone
set_option linter.unusedVariables false
set_option linter.unusedSimpArgs false

/-! ### impl_Blocks: function 61 -/
def impl_Blocks.f (k : Nat) (l0_0 : List (S86)) (l0_1 : List (S50)) : Option ((List (List Int))) := (impl_IsValidDatabase.f l0_0 l0_1).bind fun t284 => (if t284 = true then ((impl_blocks.f k l0_0 l0_1).bind fun t285 => (some t285)) else (some ([] : List (List Int))))
set_option maxHeartbeats 8000000 in
set_option maxRecDepth 100000 in
theorem impl_Blocks.calls (k : Nat) (A0_0 : Option Addr) (c0_0 : Nat) (l0_0 : List (S86)) (A0_1 : Option Addr) (c0_1 : Nat) (l0_1 : List (S50)) (r : List (List Int)) (w : World) (hr0_0 : Kd.C k86 w A0_0 l0_0.length l0_0) (hc0_0 : l0_0.length ≤ c0_0) (hr0_1 : Kd.C k50 w A0_1 l0_1.length l0_1) (hc0_1 : l0_1.length ≤ c0_1) (h : impl_Blocks.f k l0_0 l0_1 = some r) :
  Calls Try.prog 61 #[.agg #[.slice A0_0 l0_0.length c0_0, .slice A0_1 l0_1.length c0_1]] w fun e w' => ∃ v0_ : Value, e = .returned (v0_) ∧ Kd.S (Kd.slice 3 (Kd.int .i64)) 26 w' w.heap.size (fun _ => True) v0_ r ∧ Below w.heap.size w w' := by
 have hu32 := Try.underlying32
 have HR0_0 := aM hr0_0
 have HC0_0 := aM hc0_0
 clear hr0_0 hc0_0
 have HR0_1 := aM hr0_1
 have HC0_1 := aM hc0_1
 clear hr0_1 hc0_1
 have HB := aM (Below.refl w.heap.size w)
 have H : ((impl_IsValidDatabase.f l0_0 l0_1).bind fun t284 => (if t284 = true then ((impl_blocks.f k l0_0 l0_1).bind fun t285 => (some t285)) else (some ([] : List (List Int))))) = some r := h
 clear h
 replace H := Option.bind_eq_some_iff.mp H
 obtain ⟨t284, A20, H⟩ := H
 replace H : (if t284 = true then ((impl_blocks.f k l0_0 l0_1).bind fun t285 => (some t285)) else (some ([] : List (List Int)))) = some r := H
 have A2 := aM A20
 clear A20
 by_cases c3 : t284 = true
 ·subst c3
  have H1 : ((impl_blocks.f k l0_0 l0_1).bind fun t285 => (some t285)) = some r := by rw [if_pos rfl] at H; exact H
  clear H
  have H := H1
  clear H1
  replace H := Option.bind_eq_some_iff.mp H
  obtain ⟨t285, A40, H⟩ := H
  replace H : (some t285) = some r := H
  have A4 := aM A40
  clear A40
  obtain rfl := Option.some.inj H
  go_enter Try.func61, Try.ntmps61
  go_wp2_with (first | ((with_reducible refine gate_dst (N := 1) rfl ?_); refine box_event ?hg (N := 1) ?hd (cs := #[.slice A0_0 l0_0.length c0_0, .slice A0_1 l0_1.length c0_1]) (t := 32) ?hr ?_; (case hd => rfl); (case hg => rfl); (case hr => first | (go_simp; done) | (go_simp; rfl)); intro gb283 hg w5 hbox hb; have n0_ := aM (below_step aB hb); have n1_ := aM (hbox); have n2_ := aM ((by rw [hg]; exact (below_size aB) : w.heap.size ≤ gb283)); have n3_ := aM ((by rw [hg]; exact (below_size aB) : w.heap.size ≤ gb283)); clear HB; have HB := n0_; have BK283 := n1_; have GW283 := n2_; have GE283 := n3_; clear n0_ n1_ n2_ n3_; clear hb hbox hg; have hcz6_0 : w5.cell? ⟨gb283, 0, none⟩ = some (.slice A0_0 l0_0.length c0_0) := (blk_cell BK283.out 0).trans rfl; have hcz6_1 : w5.cell? ⟨gb283, 1, none⟩ = some (.slice A0_1 l0_1.length c0_1) := (blk_cell BK283.out 1).trans rfl; have hfz6_0 := blk_frozen BK283.out 0; have hfz6_1 := blk_frozen BK283.out 1) | ((with_reducible refine gate_callee (f := 69) rfl ?_); refine goesL_ (some 4) rfl rfl Try.func69 (by kernel_rfl) rfl #[.agg #[.slice A0_0 l0_0.length c0_0, .slice A0_1 l0_1.length c0_1]] rfl (by (try simp only [List.map_toArray, List.map_cons, List.map_nil]); first | done | rfl | (simp only [List.length_drop, List.length_take]; rfl)) ?_; (with_reducible refine (impl_IsValidDatabase.calls _ _ l0_0 _ _ l0_1 true _ ?side1 ?side2 ?side3 ?side4 A2.out).mono ?_); (case side1 => exact aC); (case side2 => exact HC0_0.out); (case side3 => exact aC); (case side4 => exact HC0_1.out); rintro e w7 ⟨rfl, hb⟩; refine ⟨_, rfl, ?_⟩; have n0_ := aM (blk_below (g := gb283) (o := .cells #[.slice A0_0 l0_0.length c0_0, .slice A0_1 l0_1.length c0_1] 32 (0, 0)) aK hb); have n1_ := aM (below_step aG hb); clear BK283; clear HB; have BK283 := n0_; have HB := n1_; clear n0_ n1_; (try clear hb); (try clear hb2); (try clear hk); (try clear hi); have hcz8_0 : w7.cell? ⟨gb283, 0, none⟩ = some (.slice A0_0 l0_0.length c0_0) := (blk_cell BK283.out 0).trans rfl; have hcz8_1 : w7.cell? ⟨gb283, 1, none⟩ = some (.slice A0_1 l0_1.length c0_1) := (blk_cell BK283.out 1).trans rfl; have hfz8_0 := blk_frozen BK283.out 0; have hfz8_1 := blk_frozen BK283.out 1) | ((with_reducible refine gate_callee (f := 82) rfl ?_); refine goesL_ (some 7) rfl rfl Try.func82 (by kernel_rfl) rfl #[.agg #[.slice A0_0 l0_0.length c0_0, .slice A0_1 l0_1.length c0_1]] rfl (by (try simp only [List.map_toArray, List.map_cons, List.map_nil]); first | done | rfl | (simp only [List.length_drop, List.length_take]; rfl)) ?_; (with_reducible refine (impl_blocks.calls k _ _ l0_0 _ _ l0_1 t285 _ ?side1 ?side2 ?side3 ?side4 A4.out).mono ?_); (case side1 => exact aC); (case side2 => exact HC0_0.out); (case side3 => exact aC); (case side4 => exact HC0_1.out); rintro e w9 ⟨v286, rfl, ho0, hb⟩; refine ⟨_, rfl, ?_⟩; have n0_ := aM (Kd.S_lower ho0 (below_size aG)); have n1_ := aM (blk_below (g := gb283) (o := .cells #[.slice A0_0 l0_0.length c0_0, .slice A0_1 l0_1.length c0_1] 32 (0, 0)) aK hb); have n2_ := aM (below_step aG hb); clear BK283; clear HB; have HO287 := n0_; have BK283 := n1_; have HB := n2_; clear n0_ n1_ n2_; (try clear hb); (try clear hb2); (try clear hk); (try clear hi); (try clear ho0)))
  go_ret
  exact ⟨_, by first | rfl | (simp [errW_none, errW_some] <;> rfl) | (simp [*, errW_none, errW_some] <;> rfl), aS HO287, by repeat (first | (with_reducible first | exact HB.out | apply below_alloc | apply pw_below_drewN | apply below_drew1 | refine below_set ?_ GE283.out) | exact HB.out)⟩
 ·replace c3 := Bool.eq_false_iff.mpr c3
  subst c3
  have H1 : (some ([] : List (List Int))) = some r := by rw [if_neg (show ¬ (false = true) by decide)] at H; exact H
  clear H
  have H := H1
  clear H1
  obtain rfl := Option.some.inj H
  go_enter Try.func61, Try.ntmps61
  go_wp2_with (first | ((with_reducible refine gate_dst (N := 1) rfl ?_); refine box_event ?hg (N := 1) ?hd (cs := #[.slice A0_0 l0_0.length c0_0, .slice A0_1 l0_1.length c0_1]) (t := 32) ?hr ?_; (case hd => rfl); (case hg => rfl); (case hr => first | (go_simp; done) | (go_simp; rfl)); intro gb283 hg w10 hbox hb; have n0_ := aM (below_step aB hb); have n1_ := aM (hbox); have n2_ := aM ((by rw [hg]; exact (below_size aB) : w.heap.size ≤ gb283)); have n3_ := aM ((by rw [hg]; exact (below_size aB) : w.heap.size ≤ gb283)); clear HB; have HB := n0_; have BK283 := n1_; have GW283 := n2_; have GE283 := n3_; clear n0_ n1_ n2_ n3_; clear hb hbox hg; have hcz11_0 : w10.cell? ⟨gb283, 0, none⟩ = some (.slice A0_0 l0_0.length c0_0) := (blk_cell BK283.out 0).trans rfl; have hcz11_1 : w10.cell? ⟨gb283, 1, none⟩ = some (.slice A0_1 l0_1.length c0_1) := (blk_cell BK283.out 1).trans rfl; have hfz11_0 := blk_frozen BK283.out 0; have hfz11_1 := blk_frozen BK283.out 1) | ((with_reducible refine gate_callee (f := 69) rfl ?_); refine goesL_ (some 4) rfl rfl Try.func69 (by kernel_rfl) rfl #[.agg #[.slice A0_0 l0_0.length c0_0, .slice A0_1 l0_1.length c0_1]] rfl (by (try simp only [List.map_toArray, List.map_cons, List.map_nil]); first | done | rfl | (simp only [List.length_drop, List.length_take]; rfl)) ?_; (with_reducible refine (impl_IsValidDatabase.calls _ _ l0_0 _ _ l0_1 false _ ?side1 ?side2 ?side3 ?side4 A2.out).mono ?_); (case side1 => exact aC); (case side2 => exact HC0_0.out); (case side3 => exact aC); (case side4 => exact HC0_1.out); rintro e w12 ⟨rfl, hb⟩; refine ⟨_, rfl, ?_⟩; have n0_ := aM (blk_below (g := gb283) (o := .cells #[.slice A0_0 l0_0.length c0_0, .slice A0_1 l0_1.length c0_1] 32 (0, 0)) aK hb); have n1_ := aM (below_step aG hb); clear BK283; clear HB; have BK283 := n0_; have HB := n1_; clear n0_ n1_; (try clear hb); (try clear hb2); (try clear hk); (try clear hi)))
  go_ret
  exact ⟨_, by first | rfl | (simp [errW_none, errW_some] <;> rfl) | (simp [*, errW_none, errW_some] <;> rfl), by first | exact Kd.S_nil _ _ _ _ _ | exact Kd.N_nil _ _ _ _ _ | exact Kd.V_nil _ _ _ _ _ | exact Kd.Q_nil _ _ _ _ _ | exact Kd.R_nil _ _ _ _ _, by repeat (first | (with_reducible first | exact HB.out | apply below_alloc | apply pw_below_drewN | apply below_drew1 | refine below_set ?_ GE283.out) | exact HB.out)⟩

/-! ### impl_ConflictingFacts: function 23 -/
def impl_ConflictingFacts.l0 : Nat → List Int → List (List Int) → Int → Int → Option (List Int)
 | 0, _, _, _, _ => none
 | k + 1, x3, x8, x9, x10 => if x10 < x9 then (if 0 ≤ x10 then (if x10 < (x8.length : Int) then (if ((rd_L3 x8 x10).length : Int) > 1 then (if x3.length + (rd_L3 x8 x10).length < 17592186044416 then (impl_ConflictingFacts.l0 k (x3 ++ (rd_L3 x8 x10)) x8 x9 (wrap64 (x10 + 1))) else (none)) else (impl_ConflictingFacts.l0 k x3 x8 x9 (wrap64 (x10 + 1)))) else (none)) else (none)) else (some x3)
def impl_ConflictingFacts.f (k : Nat) (l0_0 : List (S86)) (l0_1 : List (S50)) : Option (List Int) := (impl_Blocks.f k l0_0 l0_1).bind fun t292 => (impl_ConflictingFacts.l0 k (([] : List Int)) t292 (t292.length : Int) 0)
set_option maxHeartbeats 8000000 in
set_option maxRecDepth 100000 in
theorem impl_ConflictingFacts.calls (k : Nat) (A0_0 : Option Addr) (c0_0 : Nat) (l0_0 : List (S86)) (A0_1 : Option Addr) (c0_1 : Nat) (l0_1 : List (S50)) (r : List Int) (w : World) (hr0_0 : Kd.C k86 w A0_0 l0_0.length l0_0) (hc0_0 : l0_0.length ≤ c0_0) (hr0_1 : Kd.C k50 w A0_1 l0_1.length l0_1) (hc0_1 : l0_1.length ≤ c0_1) (h : impl_ConflictingFacts.f k l0_0 l0_1 = some r) :
  Calls Try.prog 23 #[.agg #[.slice A0_0 l0_0.length c0_0, .slice A0_1 l0_1.length c0_1]] w fun e w' => ∃ v0_ : Value, e = .returned (v0_) ∧ Kd.R (Kd.int .i64) 3 w' w.heap.size (fun _ => True) v0_ r ∧ Below w.heap.size w w' := by
 have hu32 := Try.underlying32
 have HR0_0 := aM hr0_0
 have HC0_0 := aM hc0_0
 clear hr0_0 hc0_0
 have HR0_1 := aM hr0_1
 have HC0_1 := aM hc0_1
 clear hr0_1 hc0_1
 have HB := aM (Below.refl w.heap.size w)
 have H : ((impl_Blocks.f k l0_0 l0_1).bind fun t292 => (impl_ConflictingFacts.l0 k (([] : List Int)) t292 (t292.length : Int) 0)) = some r := h
 clear h
 obtain ⟨y289, hy289⟩ : ∃ y_ : List Int, y_ = (([] : List Int)) := ⟨_, rfl⟩
 replace H : ((impl_Blocks.f k l0_0 l0_1).bind fun t292 => (impl_ConflictingFacts.l0 k y289 t292 (t292.length : Int) 0)) = some r := by first | (rw [hy289]; with_reducible exact H) | (have H2_ := (Option.bind_some _ _).symm.trans H; rw [hy289]; with_reducible exact H2_) | (have H2_ := (Option.bind_some _ _).symm.trans H; with_reducible exact H2_) | with_reducible exact H | (rw [hy289]; exact H) | exact H
 have Ny289 := aM hy289
 clear hy289
 replace H := Option.bind_eq_some_iff.mp H
 obtain ⟨t292, A20, H⟩ := H
 replace H : (impl_ConflictingFacts.l0 k y289 t292 (t292.length : Int) 0) = some r := H
 have A2 := aM A20
 clear A20
 have H' := aM H
 clear H
 go_enter Try.func23, Try.ntmps23
 go_wp2_with (first | ((with_reducible refine gate_dst (N := 1) rfl ?_); refine box_event ?hg (N := 1) ?hd (cs := #[.slice A0_0 l0_0.length c0_0, .slice A0_1 l0_1.length c0_1]) (t := 32) ?hr ?_; (case hd => rfl); (case hg => rfl); (case hr => first | (go_simp; done) | (go_simp; rfl)); intro gb288 hg w3 hbox hb; have n0_ := aM (below_step aB hb); have n1_ := aM (hbox); have n2_ := aM ((by rw [hg]; exact (below_size aB) : w.heap.size ≤ gb288)); have n3_ := aM ((by rw [hg]; exact (below_size aB) : w.heap.size ≤ gb288)); clear HB; have HB := n0_; have BK288 := n1_; have GW288 := n2_; have GE288 := n3_; clear n0_ n1_ n2_ n3_; clear hb hbox hg) | ((with_reducible refine gate_dst (N := 6) rfl ?_); refine Kd.R_lit (Kd.int .i64) _ 3 ?hg (N := 6) ?hd (xs := ([] : List Int)) (inner := []) (ok := fun _ => True) (okp := fun _ => True) ?hr ?hp (fun _ hk => hk) trivial (Below.refl _ _) (Nat.le_refl _) (by simp) ?_; (case hd => rfl); (case hg => rfl); (case hr => first | (go_simp; done) | (go_simp; rfl)); (case hp => exact (Reps.none _ _)); intro v290 w4 ho5 hb hg_ hnew_; clear hg_ hnew_; (first | rw [← Ny289.out] at ho5 | (simp only [Int.reduceToNat] at ho5; rw [← Ny289.out] at ho5)); have n0_ := aM (Kd.R_lower ho5 (below_size aG)); have n1_ := aM (blk_below (g := gb288) (o := .cells #[.slice A0_0 l0_0.length c0_0, .slice A0_1 l0_1.length c0_1] 32 (0, 0)) aK hb); have n2_ := aM (below_step aG hb); clear BK288; clear HB; have HO291 := n0_; have BK288 := n1_; have HB := n2_; clear n0_ n1_ n2_; clear hb ho5; have hcz6_0 : w4.cell? ⟨gb288, 0, none⟩ = some (.slice A0_0 l0_0.length c0_0) := (blk_cell BK288.out 0).trans rfl; have hcz6_1 : w4.cell? ⟨gb288, 1, none⟩ = some (.slice A0_1 l0_1.length c0_1) := (blk_cell BK288.out 1).trans rfl; have hfz6_0 := blk_frozen BK288.out 0; have hfz6_1 := blk_frozen BK288.out 1) | ((with_reducible refine gate_callee (f := 61) rfl ?_); refine goesL_ (some 8) rfl rfl Try.func61 (by kernel_rfl) rfl #[.agg #[.slice A0_0 l0_0.length c0_0, .slice A0_1 l0_1.length c0_1]] rfl (by (try simp only [List.map_toArray, List.map_cons, List.map_nil]); first | done | rfl | (simp only [List.length_drop, List.length_take]; rfl)) ?_; (with_reducible refine (impl_Blocks.calls k _ _ l0_0 _ _ l0_1 t292 _ ?side1 ?side2 ?side3 ?side4 A2.out).mono ?_); (case side1 => exact aC); (case side2 => exact HC0_0.out); (case side3 => exact aC); (case side4 => exact HC0_1.out); rintro e w7 ⟨v293, rfl, ho0, hb⟩; refine ⟨_, rfl, ?_⟩; have n0_ := aM (Kd.R_below (aR HO291) hb); have n1_ := aM (Kd.S_lower (Kd.S_new' ho0 (Kd.R_lt (aR HO291))) (below_size aG)); have n2_ := aM (blk_below (g := gb288) (o := .cells #[.slice A0_0 l0_0.length c0_0, .slice A0_1 l0_1.length c0_1] 32 (0, 0)) aK hb); have n3_ := aM (below_step aG hb); clear HO291; clear BK288; clear HB; have HO291 := n0_; have HO294 := n1_; have BK288 := n2_; have HB := n3_; clear n0_ n1_ n2_ n3_; (try clear hb); (try clear hb2); (try clear hk); (try clear hi); (try clear ho0); obtain ⟨Ao8, co8, eo8⟩ := Kd.S_slice HO294.out; subst eo8))
 go_loopg [3, 10] k (fun kq v3 v10 w' => ∃ (x3_1 : List Int) (x10_1 : Int), v10 = .int .i64 x10_1 ∧ Aside0 (impl_ConflictingFacts.l0 kq x3_1 t292 (t292.length : Int) x10_1 = some r) ∧ Aside0 (kq ≤ k) ∧ Aside0 (Kd.R (Kd.int .i64) 3 w' w.heap.size (fun _ => True) v3 x3_1) ∧ Aside0 (Kd.S (Kd.slice 3 (Kd.int .i64)) 26 w' w.heap.size (fun k_ => some k_ ≠ (v3 : Value).ownBlock) (.slice Ao8 t292.length co8) t292) ∧ Aside0 (w'.heap[gb288]? = some (.cells #[(.slice A0_0 l0_0.length c0_0), (.slice A0_1 l0_1.length c0_1)] 32 (0, 0))) ∧ Aside0 (Below w.heap.size w w'))
 case atStart => exact ⟨(y289), (0), (by first | rfl | (simp; done) | (simp [*]; done)), H', ⟨Nat.le_refl _⟩, ⟨aR HO291⟩, ⟨by (with_reducible repeat (first | apply Kd.S_alloc | apply Kd.S_drewN | apply Kd.S_drew)); exact Kd.S_mono HO294.out (fun _ hk => hk.2)⟩, ⟨by (with_reducible repeat (first | refine blk_drewN ?_ _ | refine blk_drew ?_ | refine blk_alloc ?_ _)); exact BK288.out⟩, ⟨by repeat (first | (with_reducible first | exact HB.out | apply below_alloc | apply pw_below_drewN | apply below_drew1 | refine below_set ?_ GE288.out) | exact HB.out)⟩⟩
 case round =>
  clear H'
  try clear c2
  try clear p2
  try clear c6
  try clear hcz6_0
  try clear hcz6_1
  try clear hfz6_0
  try clear hfz6_1
  obtain ⟨x3_1, x10_1, rfl, HA, HK1, HO_3, HO_8, BK288, HB⟩ := hrel
  cases gk with
  | zero => exact absurd HA.out (by simp [impl_ConflictingFacts.l0])
  | succ k1 =>
   have H := HA.out
   clear HA
   simp only [impl_ConflictingFacts.l0] at H
   by_cases c9 : x10_1 < (t292.length : Int)
   ·rw [if_pos c9] at H
    have c9b0 : decide (x10_1 < (t292.length : Int)) = true := decide_eq_true c9
    clear c9
    by_cases c10 : 0 ≤ x10_1
    ·rw [if_pos c10] at H
     have c10b0 : decide (0 ≤ x10_1) = true := decide_eq_true c10
     clear c10
     by_cases c11 : x10_1 < (t292.length : Int)
     ·rw [if_pos c11] at H
      have c11b0 : decide (x10_1 < (t292.length : Int)) = true := decide_eq_true c11
      clear c11
      by_cases c12 : ((rd_L3 t292 x10_1).length : Int) > 1
      ·rw [if_pos c12] at H
       have c12b0 : decide (1 < ((rd_L3 t292 x10_1).length : Int)) = true := decide_eq_true c12
       have c12b1 : decide (1 < (rd_L3 t292 x10_1).length) = true := decide_eq_true (by omega)
       clear c12
       by_cases c13 : x3_1.length + (rd_L3 t292 x10_1).length < 17592186044416
       ·rw [if_pos c13] at H
        have LMc13 := aM c13
        clear c13
        obtain ⟨y296, hy296⟩ : ∃ y_ : List Int, y_ = (x3_1 ++ (rd_L3 t292 x10_1)) := ⟨_, rfl⟩
        replace H : (impl_ConflictingFacts.l0 k1 y296 t292 (t292.length : Int) (wrap64 (x10_1 + 1))) = some r := by first | (rw [hy296]; with_reducible exact H) | (have H2_ := (Option.bind_some _ _).symm.trans H; rw [hy296]; with_reducible exact H2_) | (have H2_ := (Option.bind_some _ _).symm.trans H; with_reducible exact H2_) | with_reducible exact H | (rw [hy296]; exact H) | exact H
        have Ny296 := aM hy296
        clear hy296
        have H' := aM H
        clear H
        have p295 : 0 ≤ (x10_1 : Int) := aD
        have q295 : x10_1 < (t292.length : Int) := aD
        obtain ⟨ad295, A295_0, c295_0, e295, hx295_0, hl295_0, hi295_0⟩ := at_L3 (Kd.S_reads' HO_8.out).2.2 x10_1 p295 q295
        cases e295
        obtain ⟨ce295, hce295, hMe295, hcc295⟩ := Kd.S_get HO_8.out [] x10_1 p295 (by first | exact q295 | exact aD | (have e_ := (Kd.S_reads' HO_8.out).1; omega))
        obtain ⟨ve295_0, rfl, ge295_0⟩ := hMe295
        have hv295_0 := hcc295 0 _ rfl
        rw [Nat.add_zero, show ((Kd.slice 3 (Kd.int .i64))).sz = 1 from rfl, Nat.mul_one] at hv295_0
        replace hv295_0 := Option.some.inj (hv295_0.symm.trans hx295_0)
        rw [hv295_0] at ge295_0
        have HL295_0 := aM (show Kd.R (Kd.int .i64) 3 _ _ _ _ (rd_L3 t292 x10_1) from ge295_0)
        clear hv295_0 ge295_0
        clear hcc295 hce295
        have HR295_0 := aM hi295_0
        have HC295_0 := aM hl295_0
        clear hi295_0 hl295_0
        replace p295 := eq_true p295
        replace q295 := eq_true q295
        go_wp2_with (first | ((with_reducible refine gate_builtin (b := .append) (xs := #[.tmp 17, .tmp 18]) rfl ?_); at_builtin; refine Kd.R_append_rows (Kd.int .i64) (w0 := w) w.heap.size rfl (.tmp 17) (.tmp 18) 26 3 (.int .i64 0) 8 rfl Try.underlying26 info3 rfl (by decide) (by omega) u3 x3_1 (rd_L3 t292 x10_1) _ _ _ (fun _ => True) (fun _ => False) rfl rfl ?aO ?aR (fun _ _ h => h) (fun _ h => h.elim) ?aF ?aB ?aS ?aL ?_; (case aR => repeat (first | exact (by repeat (first | (with_reducible exact HR295_0.out) | (with_reducible refine Kd.C_alloc ?_ _) | (with_reducible refine Kd.C_drewN ?_ _) | (with_reducible refine Kd.C_drew ?_) | exact HR295_0.out)) | (with_reducible refine Kd.C_alloc ?_ _) | (with_reducible refine Kd.C_drewN ?_ _) | (with_reducible refine Kd.C_drew ?_))); (case aB => exact aG); (case aF => exact (fun _ _ => trivial)); (case aO => exact (aR HO_3)); (case aS => exact (below_size aG)); (case aL => have := LMc13.out; omega); intro v297 w14 ho hb hg hat; rw [← Ny296.out] at ho; have n0_ := aM (Kd.S_after (ok := (fun _ => True)) (by (with_reducible repeat (first | apply Kd.S_alloc | apply Kd.S_drewN | apply Kd.S_drew)); exact Kd.S_mono HO_8.out (fun _ hk => ⟨trivial, hk⟩)) hg hat); have n1_ := aM (blk_grown (g := gb288) (o := .cells #[.slice A0_0 l0_0.length c0_0, .slice A0_1 l0_1.length c0_1] 32 (0, 0)) aK hg (Kd.R_ne HO_3.out BK288.out (by decide))); have n2_ := aM (Kd.R_after (ok := (fun k_ => some k_ ≠ (.slice (some ad295) t292.length co8 : Value).ownBlock)) (by (with_reducible repeat (first | apply Kd.R_alloc | apply Kd.R_drewN | apply Kd.R_drew)); exact Kd.R_mono HL295_0.out (fun _ hk => ⟨hk.2, hk.1⟩)) hg hat); have n3_ := aM (hb); have n4_ := aM (ho); clear HO_8; clear BK288; clear HL295_0; clear HB; clear HO_3; have HO_8 := n0_; have BK288 := n1_; have HL295_0 := n2_; have HB := n3_; have HO298 := n4_; clear n0_ n1_ n2_ n3_ n4_; clear ho hb hg hat))
        go_roundg k1
        case measure => have := HK1.out; omega
        case rel => exact ⟨(y296), (wrap64 (x10_1 + 1)), (by first | rfl | (simp; done) | (simp [*]; done)), H', ⟨by have := HK1.out; omega⟩, ⟨aR HO298⟩, ⟨by (with_reducible repeat (first | apply Kd.S_alloc | apply Kd.S_drewN | apply Kd.S_drew)); exact Kd.S_mono HO_8.out (fun _ hk => hk.2)⟩, ⟨by (with_reducible repeat (first | refine blk_drewN ?_ _ | refine blk_drew ?_ | refine blk_alloc ?_ _)); exact BK288.out⟩, ⟨by repeat (first | (with_reducible first | exact HB.out | apply below_alloc | apply pw_below_drewN | apply below_drew1 | refine below_set ?_ GE288.out) | exact HB.out)⟩⟩
       ·rw [if_neg c13] at H
        exact absurd H (by simp)
      ·rw [if_neg c12] at H
       have c12b0 : decide (1 < ((rd_L3 t292 x10_1).length : Int)) = false := decide_eq_false c12
       have c12b1 : decide (1 < (rd_L3 t292 x10_1).length) = false := decide_eq_false (by omega)
       clear c12
       have H' := aM H
       clear H
       have p295 : 0 ≤ (x10_1 : Int) := aD
       have q295 : x10_1 < (t292.length : Int) := aD
       obtain ⟨ad295, A295_0, c295_0, e295, hx295_0, hl295_0, hi295_0⟩ := at_L3 (Kd.S_reads' HO_8.out).2.2 x10_1 p295 q295
       cases e295
       obtain ⟨ce295, hce295, hMe295, hcc295⟩ := Kd.S_get HO_8.out [] x10_1 p295 (by first | exact q295 | exact aD | (have e_ := (Kd.S_reads' HO_8.out).1; omega))
       obtain ⟨ve295_0, rfl, ge295_0⟩ := hMe295
       have hv295_0 := hcc295 0 _ rfl
       rw [Nat.add_zero, show ((Kd.slice 3 (Kd.int .i64))).sz = 1 from rfl, Nat.mul_one] at hv295_0
       replace hv295_0 := Option.some.inj (hv295_0.symm.trans hx295_0)
       rw [hv295_0] at ge295_0
       have HL295_0 := aM (show Kd.R (Kd.int .i64) 3 _ _ _ _ (rd_L3 t292 x10_1) from ge295_0)
       clear hv295_0 ge295_0
       clear hcc295 hce295
       have HR295_0 := aM hi295_0
       have HC295_0 := aM hl295_0
       clear hi295_0 hl295_0
       replace p295 := eq_true p295
       replace q295 := eq_true q295
       go_wp2
       go_roundg k1
       case measure => have := HK1.out; omega
       case rel => exact ⟨(x3_1), (wrap64 (x10_1 + 1)), (by first | rfl | (simp; done) | (simp [*]; done)), H', ⟨by have := HK1.out; omega⟩, ⟨aR HO_3⟩, ⟨aS HO_8⟩, ⟨by (with_reducible repeat (first | refine blk_drewN ?_ _ | refine blk_drew ?_ | refine blk_alloc ?_ _)); exact BK288.out⟩, ⟨by repeat (first | (with_reducible first | exact HB.out | apply below_alloc | apply pw_below_drewN | apply below_drew1 | refine below_set ?_ GE288.out) | exact HB.out)⟩⟩
     ·rw [if_neg c11] at H
      exact absurd H (by simp)
    ·rw [if_neg c10] at H
     exact absurd H (by simp)
   ·rw [if_neg c9] at H
    have c9b0 : decide (x10_1 < (t292.length : Int)) = false := decide_eq_false c9
    clear c9
    obtain rfl := Option.some.inj H
    go_wp2
    go_ret
    exact ⟨_, by first | rfl | (simp [errW_none, errW_some] <;> rfl) | (simp [*, errW_none, errW_some] <;> rfl), aR HO_3, by repeat (first | (with_reducible first | exact HB.out | apply below_alloc | apply pw_below_drewN | apply below_drew1 | refine below_set ?_ GE288.out) | exact HB.out)⟩

/-! ### laws_markText: function 98 -/
def laws_markText.l0 : Nat → Int → ByteArray → Option (ByteArray)
 | 0, _, _ => none
 | k + 1, x0, x3 => if x0 > 0 then ((some (([(wrap64 (48 + (Int.tmod x0 10))) % 256] : List Int) : List Int)).bind fun y299 => (if (strOfNums y299).size + x3.size ≤ 9223372036854775807 then (laws_markText.l0 k (wrap64 (Int.tdiv x0 10)) ((strOfNums y299) ++ x3)) else (none))) else (if 1 + x3.size ≤ 9223372036854775807 then (some ((⟨#[109]⟩ : ByteArray) ++ x3)) else (none))
def laws_markText.f (k : Nat) (a0 : Int) : Option (ByteArray) := if a0 ≤ 0 then (some (⟨#[109, 48]⟩ : ByteArray)) else (laws_markText.l0 k a0 (⟨#[]⟩ : ByteArray))
set_option maxHeartbeats 8000000 in
set_option maxRecDepth 100000 in
theorem laws_markText.calls (k : Nat) (a0 : Int) (r : ByteArray) (w : World) (h : laws_markText.f k a0 = some r) :
  Calls Try.prog 98 #[.int .i64 a0] w fun e w' => e = .returned (.string r) ∧ Below w.heap.size w w' := by
 have HB := aM (Below.refl w.heap.size w)
 have H : (if a0 ≤ 0 then (some (⟨#[109, 48]⟩ : ByteArray)) else (laws_markText.l0 k a0 (⟨#[]⟩ : ByteArray))) = some r := h
 clear h
 by_cases c2 : a0 ≤ 0
 ·rw [if_pos c2] at H
  have c2b0 : decide (a0 ≤ 0) = true := decide_eq_true c2
  clear c2
  obtain rfl := Option.some.inj H
  go_enter Try.func98, Try.ntmps98
  go_wp2
  go_ret
  exact ⟨by first | rfl | (simp [errW_none, errW_some] <;> rfl) | (simp [*, errW_none, errW_some] <;> rfl), by repeat (first | (with_reducible first | exact HB.out | apply below_alloc | apply pw_below_drewN | apply below_drew1) | exact HB.out)⟩
 ·rw [if_neg c2] at H
  have c2b0 : decide (a0 ≤ 0) = false := decide_eq_false c2
  clear c2
  have H' := aM H
  clear H
  go_enter Try.func98, Try.ntmps98
  go_wp2
  go_loopg [0, 3] k (fun kq v0 v3 w' => ∃ (x0_1 : Int) (x3_1 : ByteArray), v0 = .int .i64 x0_1 ∧ v3 = .string x3_1 ∧ Aside0 (laws_markText.l0 kq x0_1 x3_1 = some r) ∧ Aside0 (kq ≤ k) ∧ Aside0 (Below w.heap.size w w'))
  case atStart => exact ⟨(a0), ((⟨#[]⟩ : ByteArray)), (by first | rfl | (simp; done) | (simp [*]; done)), (by first | rfl | (simp; done) | (simp [*]; done)), H', ⟨Nat.le_refl _⟩, ⟨by repeat (first | (with_reducible first | exact HB.out | apply below_alloc | apply pw_below_drewN | apply below_drew1) | exact HB.out)⟩⟩
  case round =>
   clear H'
   try clear c2
   try clear c2b0
   try clear p2
   obtain ⟨x0_1, x3_1, rfl, rfl, HA, HK1, HB⟩ := hrel
   cases gk with
   | zero => exact absurd HA.out (by simp [laws_markText.l0])
   | succ k1 =>
    have H := HA.out
    clear HA
    simp only [laws_markText.l0] at H
    by_cases c3 : x0_1 > 0
    ·rw [if_pos c3] at H
     have c3b0 : decide (0 < x0_1) = true := decide_eq_true c3
     clear c3
     obtain ⟨y299, hy299⟩ : ∃ y_ : List Int, y_ = (([(wrap64 (48 + (Int.tmod x0_1 10))) % 256] : List Int)) := ⟨_, rfl⟩
     replace H : (if (strOfNums y299).size + x3_1.size ≤ 9223372036854775807 then (laws_markText.l0 k1 (wrap64 (Int.tdiv x0_1 10)) ((strOfNums y299) ++ x3_1)) else (none)) = some r := by first | (rw [hy299]; with_reducible exact H) | (have H2_ := (Option.bind_some _ _).symm.trans H; rw [hy299]; with_reducible exact H2_) | (have H2_ := (Option.bind_some _ _).symm.trans H; with_reducible exact H2_) | with_reducible exact H | (rw [hy299]; exact H) | exact H
     have Ny299 := aM hy299
     clear hy299
     by_cases c4 : (strOfNums y299).size + x3_1.size ≤ 9223372036854775807
     ·rw [if_pos c4] at H
      have c4b0 := eq_true c4
      have c4b1 : decide ((strOfNums y299).size + x3_1.size ≤ 9223372036854775807) = true := decide_eq_true c4
      try have c4b2 : (9223372036854775807 < (strOfNums y299).size + x3_1.size) = False := eq_false (Nat.not_lt.2 c4)
      have H' := aM H
      clear H
      go_wp2_with (first | ((with_reducible refine gate_dst (N := 12) rfl ?_); refine Kd.R_lit (Kd.int .u8) _ 5 ?hg (N := 12) ?hd (xs := ([(wrap64 (48 + (Int.tmod x0_1 10))) % 256] : List Int)) (inner := [.int .u8 ((wrap64 (48 + (Int.tmod x0_1 10))) % 256)]) (ok := fun _ => True) (okp := fun _ => True) ?hr ?hp (fun _ hk => hk) trivial (Below.refl _ _) (Nat.le_refl _) (by simp) ?_; (case hd => rfl); (case hg => rfl); (case hr => first | (go_simp; done) | (go_simp; rfl)); (case hp => exact (Reps.one (show Kd.M (Kd.int .u8) _ _ _ ((wrap64 (48 + (Int.tmod x0_1 10))) % 256) [.int .u8 ((wrap64 (48 + (Int.tmod x0_1 10))) % 256)] from rfl) (Reps.none _ _))); intro v300 w5 ho6 hb hg_ hnew_; clear hg_ hnew_; (first | rw [← Ny299.out] at ho6 | (simp only [Int.reduceToNat] at ho6; rw [← Ny299.out] at ho6)); have n0_ := aM (Kd.R_lower ho6 (below_size aB)); have n1_ := aM (below_step aB hb); clear HB; have HO301 := n0_; have HB := n1_; clear n0_ n1_; clear hb ho6; have hcv7 := own_string (P := Try.prog) Try.underlying100 Try.underlying5 Try.underlying9 (Kd.own_of_R HO301.out)))
      go_roundg k1
      case measure => have := HK1.out; omega
      case rel => exact ⟨(wrap64 (Int.tdiv x0_1 10)), ((strOfNums y299) ++ x3_1), (by first | rfl | (simp; done) | (simp [*]; done)), (by first | rfl | (simp; done) | (simp [*]; done)), H', ⟨by have := HK1.out; omega⟩, ⟨by repeat (first | (with_reducible first | exact HB.out | apply below_alloc | apply pw_below_drewN | apply below_drew1) | exact HB.out)⟩⟩
     ·rw [if_neg c4] at H
      exact absurd H (by simp)
    ·rw [if_neg c3] at H
     have c3b0 : decide (0 < x0_1) = false := decide_eq_false c3
     clear c3
     by_cases c8 : 1 + x3_1.size ≤ 9223372036854775807
     ·rw [if_pos c8] at H
      have c8b0 := eq_true c8
      have c8b1 : decide (1 + x3_1.size ≤ 9223372036854775807) = true := decide_eq_true c8
      try have c8b2 : (9223372036854775807 < 1 + x3_1.size) = False := eq_false (Nat.not_lt.2 c8)
      obtain rfl := Option.some.inj H
      go_wp2
      go_ret
      exact ⟨by first | rfl | (simp [errW_none, errW_some] <;> rfl) | (simp [*, errW_none, errW_some] <;> rfl), by repeat (first | (with_reducible first | exact HB.out | apply below_alloc | apply pw_below_drewN | apply below_drew1) | exact HB.out)⟩
     ·rw [if_neg c8] at H
      exact absurd H (by simp)

/-! ### laws_markRelationS: function 62 -/
def laws_markRelationS.l0 : Nat → List (S86) → Int → Int → Option (Int × (List (S86)))
 | 0, _, _, _ => none
 | k + 1, x0, x1, x5 => if x5 < (x0.length : Int) then ((laws_markText.f k x1).bind fun t302 => (if 0 ≤ x5 then ((some (x0.set (x5 : Int).toNat (⟨t302, (rd_T86 x0 x5).f1, (rd_T86 x0 x5).f2⟩ : S86) : List (S86))).bind fun y303 => ((some (y303.set (x5 : Int).toNat (⟨(rd_T86 y303 x5).f0, wrap64 (x1 + 1), (rd_T86 y303 x5).f2⟩ : S86) : List (S86))).bind fun y304 => (laws_markRelationS.l0 k (y304.set (x5 : Int).toNat (⟨(rd_T86 y304 x5).f0, (rd_T86 y304 x5).f1, wrap64 ((wrap64 (x1 + 1)) + 1)⟩ : S86)) (wrap64 ((wrap64 ((wrap64 (x1 + 1)) + 1)) + 1)) (wrap64 (x5 + 1))))) else (none))) else (some (x1, x0))
def laws_markRelationS.f (k : Nat) (l0 : List (S86)) (a1 : Int) : Option (Int × (List (S86))) := laws_markRelationS.l0 k l0 a1 0
set_option maxHeartbeats 8000000 in
set_option maxRecDepth 100000 in
theorem laws_markRelationS.calls (k : Nat) (P0_ : Nat → Prop) (u9000_ : Value) (l0 : List (S86)) (a1 : Int) (r1 : Int) (r2 : List (S86)) (w0 w : World) (hB : Below w0.heap.size w0 w) (ho0 : Kd.R k86 86 w w0.heap.size P0_ u9000_ l0) (h : laws_markRelationS.f k l0 a1 = some (r1, r2)) :
  Calls Try.prog 62 #[u9000_, .int .i64 a1] w fun e w' => e = .returned (.int .i64 r1) ∧ Kd.R k86 86 w' w0.heap.size (fun k_ => (P0_ k_ ∨ w.heap.size ≤ k_)) u9000_ r2 ∧ Below w0.heap.size w0 w' ∧ Kept w w' (fun k_ => P0_ k_) := by
 have HO0 := aM (show Kd.R k86 86 w w0.heap.size (fun k_ => (P0_ k_ ∨ w.heap.size ≤ k_)) u9000_ l0 from Kd.R_mono ho0 (fun k_ hk => (.inl hk)))
 have HK := aM (Kept.refl w (fun k_ => P0_ k_))
 have HW0 := aM hB.size
 have HB := aM hB
 clear hB
 have H : (laws_markRelationS.l0 k l0 a1 0) = some (r1, r2) := h
 clear h
 have H' := aM H
 clear H
 go_enter Try.func62, Try.ntmps62
 go_wp2
 go_loopg [1, 5] k (fun kq v1 v5 w' => ∃ (x0_1 : List (S86)) (x1_1 : Int) (x5_1 : Int), v1 = .int .i64 x1_1 ∧ v5 = .int .i64 x5_1 ∧ Aside0 (laws_markRelationS.l0 kq x0_1 x1_1 x5_1 = some (r1, r2)) ∧ Aside0 (kq ≤ k) ∧ Aside0 (Kd.R k86 86 w' w0.heap.size (fun k_ => (P0_ k_ ∨ w.heap.size ≤ k_)) u9000_ x0_1) ∧ Aside0 (Kept w w' (fun k_ => P0_ k_)) ∧ Aside0 (Below w0.heap.size w0 w'))
 case atStart => exact ⟨(l0), (a1), (0), (by first | rfl | (simp; done) | (simp [*]; done)), (by first | rfl | (simp; done) | (simp [*]; done)), H', ⟨Nat.le_refl _⟩, ⟨aR HO0⟩, ⟨by repeat (first | (with_reducible first | exact HK.out | apply Kept.alloc | apply Kept.drewN | apply Kept.drew) | exact HK.out)⟩, ⟨by repeat (first | (with_reducible first | exact HB.out | apply below_alloc | apply pw_below_drewN | apply below_drew1) | exact HB.out)⟩⟩
 case round =>
  clear H'
  try clear p2
  obtain ⟨x0_1, x1_1, x5_1, rfl, rfl, HA, HK1, HO_0, HK, HB⟩ := hrel
  cases gk with
  | zero => exact absurd HA.out (by simp [laws_markRelationS.l0])
  | succ k1 =>
   have H := HA.out
   clear HA
   simp only [laws_markRelationS.l0] at H
   by_cases c3 : x5_1 < (x0_1.length : Int)
   ·rw [if_pos c3] at H
    have c3b0 : decide (x5_1 < (x0_1.length : Int)) = true := decide_eq_true c3
    clear c3
    replace H := Option.bind_eq_some_iff.mp H
    obtain ⟨t302, A40, H⟩ := H
    replace H : (if 0 ≤ x5_1 then ((some (x0_1.set (x5_1 : Int).toNat (⟨t302, (rd_T86 x0_1 x5_1).f1, (rd_T86 x0_1 x5_1).f2⟩ : S86) : List (S86))).bind fun y303 => ((some (y303.set (x5_1 : Int).toNat (⟨(rd_T86 y303 x5_1).f0, wrap64 (x1_1 + 1), (rd_T86 y303 x5_1).f2⟩ : S86) : List (S86))).bind fun y304 => (laws_markRelationS.l0 k1 (y304.set (x5_1 : Int).toNat (⟨(rd_T86 y304 x5_1).f0, (rd_T86 y304 x5_1).f1, wrap64 ((wrap64 (x1_1 + 1)) + 1)⟩ : S86)) (wrap64 ((wrap64 ((wrap64 (x1_1 + 1)) + 1)) + 1)) (wrap64 (x5_1 + 1))))) else (none)) = some (r1, r2) := H
    have A4 := aM A40
    clear A40
    by_cases c5 : 0 ≤ x5_1
    ·rw [if_pos c5] at H
     have c5b0 : decide (0 ≤ x5_1) = true := decide_eq_true c5
     clear c5
     obtain ⟨y303, hy303⟩ : ∃ y_ : List (S86), y_ = (x0_1.set (x5_1 : Int).toNat (⟨t302, (rd_T86 x0_1 x5_1).f1, (rd_T86 x0_1 x5_1).f2⟩ : S86)) := ⟨_, rfl⟩
     replace H : ((some (y303.set (x5_1 : Int).toNat (⟨(rd_T86 y303 x5_1).f0, wrap64 (x1_1 + 1), (rd_T86 y303 x5_1).f2⟩ : S86) : List (S86))).bind fun y304 => (laws_markRelationS.l0 k1 (y304.set (x5_1 : Int).toNat (⟨(rd_T86 y304 x5_1).f0, (rd_T86 y304 x5_1).f1, wrap64 ((wrap64 (x1_1 + 1)) + 1)⟩ : S86)) (wrap64 ((wrap64 ((wrap64 (x1_1 + 1)) + 1)) + 1)) (wrap64 (x5_1 + 1)))) = some (r1, r2) := by first | (rw [hy303]; with_reducible exact H) | (have H2_ := (Option.bind_some _ _).symm.trans H; rw [hy303]; with_reducible exact H2_) | (have H2_ := (Option.bind_some _ _).symm.trans H; with_reducible exact H2_) | with_reducible exact H | (rw [hy303]; exact H) | exact H
     have Ny303 := aM hy303
     clear hy303
     obtain ⟨y304, hy304⟩ : ∃ y_ : List (S86), y_ = (y303.set (x5_1 : Int).toNat (⟨(rd_T86 y303 x5_1).f0, wrap64 (x1_1 + 1), (rd_T86 y303 x5_1).f2⟩ : S86)) := ⟨_, rfl⟩
     replace H : (laws_markRelationS.l0 k1 (y304.set (x5_1 : Int).toNat (⟨(rd_T86 y304 x5_1).f0, (rd_T86 y304 x5_1).f1, wrap64 ((wrap64 (x1_1 + 1)) + 1)⟩ : S86)) (wrap64 ((wrap64 ((wrap64 (x1_1 + 1)) + 1)) + 1)) (wrap64 (x5_1 + 1))) = some (r1, r2) := by first | (rw [hy304]; with_reducible exact H) | (have H2_ := (Option.bind_some _ _).symm.trans H; rw [hy304]; with_reducible exact H2_) | (have H2_ := (Option.bind_some _ _).symm.trans H; with_reducible exact H2_) | with_reducible exact H | (rw [hy304]; exact H) | exact H
     have Ny304 := aM hy304
     clear hy304
     obtain ⟨y305, hy305⟩ : ∃ y_ : List (S86), y_ = (y304.set (x5_1 : Int).toNat (⟨(rd_T86 y304 x5_1).f0, (rd_T86 y304 x5_1).f1, wrap64 ((wrap64 (x1_1 + 1)) + 1)⟩ : S86)) := ⟨_, rfl⟩
     replace H : (laws_markRelationS.l0 k1 y305 (wrap64 ((wrap64 ((wrap64 (x1_1 + 1)) + 1)) + 1)) (wrap64 (x5_1 + 1))) = some (r1, r2) := by first | (rw [hy305]; with_reducible exact H) | (have H2_ := (Option.bind_some _ _).symm.trans H; rw [hy305]; with_reducible exact H2_) | (have H2_ := (Option.bind_some _ _).symm.trans H; with_reducible exact H2_) | with_reducible exact H | (rw [hy305]; exact H) | exact H
     have Ny305 := aM hy305
     clear hy305
     have H' := aM H
     clear H
     obtain ⟨Ao9, co9, eo9⟩ := Kd.R_slice HO_0.out
     subst eo9
     go_wp2_with (first | ((with_reducible refine gate_callee (f := 98) rfl ?_); refine goesL_ (some 15) rfl rfl Try.func98 (by kernel_rfl) rfl #[.int .i64 x1_1] rfl (by (try simp only [List.map_toArray, List.map_cons, List.map_nil]); first | done | rfl | (simp only [List.length_drop, List.length_take]; rfl)) ?_; (with_reducible refine (laws_markText.calls k1 x1_1 t302 _ A4.out).mono ?_); rintro e w10 ⟨rfl, hb⟩; refine ⟨_, rfl, ?_⟩; have n0_ := aM (Kd.R_below (aR HO_0) hb); have n1_ := aM (Kept.below (S := (fun k_ => P0_ k_)) (by repeat (first | (with_reducible first | exact HK.out | apply Kept.alloc | apply Kept.drewN | apply Kept.drew) | exact HK.out)) hb); have n2_ := aM (below_step aB hb); clear HO_0; clear HK; clear HB; have HO_0 := n0_; have HK := n1_; have HB := n2_; clear n0_ n1_ n2_; (try clear hb); (try clear hb2); (try clear hk); (try clear hi); have p6 : 0 ≤ (x5_1 : Int) := aD; have q6 : (x5_1 : Int) < ((x0_1.length : Int) : Int) := aD; obtain ⟨go6, co6, eo6, gb6, gl6, cl6, HG6⟩ := Kd.R_form HO_0.out (by omega); (first | cases eo6 | (injection eo6 with ea_ en_ ec_; (first | subst ea_ | (injection ea_ with ea_; subst ea_)); subst ec_; clear en_)); have GB6 := aM gb6; have GG6 := aM HG6; clear gb6 gl6 HG6; have HMgo6 := aM (show (P0_ go6 ∨ w.heap.size ≤ go6) from (HO_0.out.1 _ rfl)); obtain ⟨ce6, hcl6, hM6, hcc6, hfr6⟩ := Kd.R_elem HO_0.out z86 (x5_1 : Int) p6 q6; obtain rfl := k86_openM hM6; have hx6_0 : w10.cell? ⟨go6, (x5_1 : Int).toNat * 3, none⟩ = some (.string ((rd_T86 x0_1 x5_1).f0)) := hcc6 0 _ rfl; have hx6_1 : w10.cell? ⟨go6, (x5_1 : Int).toNat * 3 + 1, none⟩ = some (.int .i64 ((rd_T86 x0_1 x5_1).f1)) := hcc6 1 _ rfl; have hx6_2 : w10.cell? ⟨go6, (x5_1 : Int).toNat * 3 + 2, none⟩ = some (.int .i64 ((rd_T86 x0_1 x5_1).f2)) := hcc6 2 _ rfl; have hf6_0 : w10.frozen? ⟨go6, (x5_1 : Int).toNat * 3, none⟩ = false := hfr6 0; have hf6_1 : w10.frozen? ⟨go6, (x5_1 : Int).toNat * 3 + 1, none⟩ = false := hfr6 1; have hf6_2 : w10.frozen? ⟨go6, (x5_1 : Int).toNat * 3 + 2, none⟩ = false := hfr6 2; clear hcl6 hcc6 hfr6 hM6; replace p6 := eq_true p6; replace q6 := eq_true q6; have HX11 := aM (show Kd.R k86 86 w10 w0.heap.size (fun k_ => (P0_ k_ ∨ w.heap.size ≤ k_)) (.slice (some ⟨go6, 0, none⟩) x0_1.length co9) x0_1 from (aR HO_0)); obtain ⟨ce11, hcl11, hM11, hcc11, hfr11⟩ := Kd.R_elem HX11.out z86 (x5_1 : Int) (aD) (by have h_ : (x5_1 : Int) < ((x0_1.length : Int) : Int) := aD; first | exact h_ | (have e_ := (Kd.R_reads' HO_0.out).1; omega) | simpa using h_); obtain rfl := k86_openM hM11; have HP11 := Kd.R_seg HX11.out (x5_1 : Int) (aD) (by have h_ : (x5_1 : Int) < ((x0_1.length : Int) : Int) := aD; first | exact h_ | (have e_ := (Kd.R_reads' HO_0.out).1; omega) | simpa using h_) (seg := [.string t302]) (j := 0) hcl11 hcc11 (show 1 ≤ 3 from by decide) (x' := (⟨t302, (rd_T86 x0_1 x5_1).f1, (rd_T86 x0_1 x5_1).f2⟩ : S86)) (k86_mkM _ _ _ (⟨t302, (rd_T86 x0_1 x5_1).f1, (rd_T86 x0_1 x5_1).f2⟩ : S86) ) (fun _ hk => hk); have hx11_0 := hcc11 0 _ rfl; (try simp only [show (k86).sz = 3 from rfl, Nat.mul_one, Nat.add_zero] at hx11_0); have hf11_0 := hfr11 0; (try simp only [show (k86).sz = 3 from rfl, Nat.mul_one, Nat.add_zero] at hf11_0); clear hcl11 hcc11 hfr11 hM11) | ((with_reducible refine gate_store (t := 9) (p := 17) rfl ?_); refine store_event (t := 9) (p := 17) (v := ?vo_w12) (w1 := (w10.setCell ⟨go6, (x5_1 : Int).toNat * 3, none⟩ (.string t302))) ?hg ?ho ?hn ?hr ?_; (case ho => rfl); (case hg => rfl); (case hn => rfl); (case hr => first | (go_simp; done) | (go_simp; rfl) | (obtain ⟨A_, c_, e_⟩ := Kd.R_slice HO_0.out; subst e_; first | (go_simp; done) | (go_simp; rfl))); intro w12 hw; have hg : w10.grownBy w12 (some go6) := (by rw [hw]; exact HP11.2); have hp_ : Kd.R k86 86 w12 w0.heap.size (fun k_ => (P0_ k_ ∨ w.heap.size ≤ k_)) (.slice (some ⟨go6, 0, none⟩) x0_1.length co9) y303 := (by rw [hw, Ny303.out]; exact HP11.1); clear HP11; have n0_ := aM (hp_); have n1_ := aM ((by rw [hw]; exact below_set (HB.out) GB6.out : Below w0.heap.size w0 w12)); have n2_ := aM (Kept.of_grown (S := (fun k_ => P0_ k_)) hg (by repeat (first | (with_reducible first | exact HK.out | apply Kept.alloc | apply Kept.drewN | apply Kept.drew) | exact HK.out)) (fun k_ e_ => (HO_0.out.1 k_ e_))); clear HO_0; clear HB; clear HK; have HO_0 := n0_; have HB := n1_; have HK := n2_; clear n0_ n1_ n2_; clear hg hw hp_; have p7 : 0 ≤ (x5_1 : Int) := aD; have q7 : (x5_1 : Int) < ((x0_1.length : Int) : Int) := aD; obtain ⟨ce7, hcl7, hM7, hcc7, hfr7⟩ := Kd.R_elem HO_0.out z86 (x5_1 : Int) p7 q7; obtain rfl := k86_openM hM7; have hx7_0 : w12.cell? ⟨go6, (x5_1 : Int).toNat * 3, none⟩ = some (.string ((rd_T86 y303 x5_1).f0)) := hcc7 0 _ rfl; have hx7_1 : w12.cell? ⟨go6, (x5_1 : Int).toNat * 3 + 1, none⟩ = some (.int .i64 ((rd_T86 y303 x5_1).f1)) := hcc7 1 _ rfl; have hx7_2 : w12.cell? ⟨go6, (x5_1 : Int).toNat * 3 + 2, none⟩ = some (.int .i64 ((rd_T86 y303 x5_1).f2)) := hcc7 2 _ rfl; have hf7_0 : w12.frozen? ⟨go6, (x5_1 : Int).toNat * 3, none⟩ = false := hfr7 0; have hf7_1 : w12.frozen? ⟨go6, (x5_1 : Int).toNat * 3 + 1, none⟩ = false := hfr7 1; have hf7_2 : w12.frozen? ⟨go6, (x5_1 : Int).toNat * 3 + 2, none⟩ = false := hfr7 2; clear hcl7 hcc7 hfr7 hM7; replace p7 := eq_true p7; replace q7 := eq_true q7; have HX13 := aM (show Kd.R k86 86 w12 w0.heap.size (fun k_ => (P0_ k_ ∨ w.heap.size ≤ k_)) (.slice (some ⟨go6, 0, none⟩) x0_1.length co9) y303 from (aR HO_0)); obtain ⟨ce13, hcl13, hM13, hcc13, hfr13⟩ := Kd.R_elem HX13.out z86 (x5_1 : Int) (aD) (by have h_ : (x5_1 : Int) < ((x0_1.length : Int) : Int) := aD; first | exact h_ | (have e_ := (Kd.R_reads' HO_0.out).1; omega) | simpa using h_); obtain rfl := k86_openM hM13; have HP13 := Kd.R_seg HX13.out (x5_1 : Int) (aD) (by have h_ : (x5_1 : Int) < ((x0_1.length : Int) : Int) := aD; first | exact h_ | (have e_ := (Kd.R_reads' HO_0.out).1; omega) | simpa using h_) (seg := [.int .i64 (wrap64 (x1_1 + 1))]) (j := 1) hcl13 hcc13 (show 2 ≤ 3 from by decide) (x' := (⟨(rd_T86 y303 x5_1).f0, wrap64 (x1_1 + 1), (rd_T86 y303 x5_1).f2⟩ : S86)) (k86_mkM _ _ _ (⟨(rd_T86 y303 x5_1).f0, wrap64 (x1_1 + 1), (rd_T86 y303 x5_1).f2⟩ : S86) ) (fun _ hk => hk); have hx13_1 := hcc13 1 _ rfl; (try simp only [show (k86).sz = 3 from rfl, Nat.mul_one, Nat.add_zero] at hx13_1); have hf13_1 := hfr13 1; (try simp only [show (k86).sz = 3 from rfl, Nat.mul_one, Nat.add_zero] at hf13_1); clear hcl13 hcc13 hfr13 hM13) | ((with_reducible refine gate_store (t := 3) (p := 24) rfl ?_); refine store_event (t := 3) (p := 24) (v := ?vo_w14) (w1 := (w12.setCell ⟨go6, (x5_1 : Int).toNat * 3 + 1, none⟩ (.int .i64 (wrap64 (x1_1 + 1))))) ?hg ?ho ?hn ?hr ?_; (case ho => rfl); (case hg => rfl); (case hn => rfl); (case hr => first | (go_simp; done) | (go_simp; rfl) | (obtain ⟨A_, c_, e_⟩ := Kd.R_slice HO_0.out; subst e_; first | (go_simp; done) | (go_simp; rfl))); intro w14 hw; have hg : w12.grownBy w14 (some go6) := (by rw [hw]; exact HP13.2); have hp_ : Kd.R k86 86 w14 w0.heap.size (fun k_ => (P0_ k_ ∨ w.heap.size ≤ k_)) (.slice (some ⟨go6, 0, none⟩) x0_1.length co9) y304 := (by rw [hw, Ny304.out]; exact HP13.1); clear HP13; have n0_ := aM (hp_); have n1_ := aM ((by rw [hw]; exact below_set (HB.out) GB6.out : Below w0.heap.size w0 w14)); have n2_ := aM (Kept.of_grown (S := (fun k_ => P0_ k_)) hg (by repeat (first | (with_reducible first | exact HK.out | apply Kept.alloc | apply Kept.drewN | apply Kept.drew) | exact HK.out)) (fun k_ e_ => (HO_0.out.1 k_ e_))); clear HO_0; clear HB; clear HK; have HO_0 := n0_; have HB := n1_; have HK := n2_; clear n0_ n1_ n2_; clear hg hw hp_; have p8 : 0 ≤ (x5_1 : Int) := aD; have q8 : (x5_1 : Int) < ((x0_1.length : Int) : Int) := aD; obtain ⟨ce8, hcl8, hM8, hcc8, hfr8⟩ := Kd.R_elem HO_0.out z86 (x5_1 : Int) p8 q8; obtain rfl := k86_openM hM8; have hx8_0 : w14.cell? ⟨go6, (x5_1 : Int).toNat * 3, none⟩ = some (.string ((rd_T86 y304 x5_1).f0)) := hcc8 0 _ rfl; have hx8_1 : w14.cell? ⟨go6, (x5_1 : Int).toNat * 3 + 1, none⟩ = some (.int .i64 ((rd_T86 y304 x5_1).f1)) := hcc8 1 _ rfl; have hx8_2 : w14.cell? ⟨go6, (x5_1 : Int).toNat * 3 + 2, none⟩ = some (.int .i64 ((rd_T86 y304 x5_1).f2)) := hcc8 2 _ rfl; have hf8_0 : w14.frozen? ⟨go6, (x5_1 : Int).toNat * 3, none⟩ = false := hfr8 0; have hf8_1 : w14.frozen? ⟨go6, (x5_1 : Int).toNat * 3 + 1, none⟩ = false := hfr8 1; have hf8_2 : w14.frozen? ⟨go6, (x5_1 : Int).toNat * 3 + 2, none⟩ = false := hfr8 2; clear hcl8 hcc8 hfr8 hM8; replace p8 := eq_true p8; replace q8 := eq_true q8; have HX15 := aM (show Kd.R k86 86 w14 w0.heap.size (fun k_ => (P0_ k_ ∨ w.heap.size ≤ k_)) (.slice (some ⟨go6, 0, none⟩) x0_1.length co9) y304 from (aR HO_0)); obtain ⟨ce15, hcl15, hM15, hcc15, hfr15⟩ := Kd.R_elem HX15.out z86 (x5_1 : Int) (aD) (by have h_ : (x5_1 : Int) < ((x0_1.length : Int) : Int) := aD; first | exact h_ | (have e_ := (Kd.R_reads' HO_0.out).1; omega) | simpa using h_); obtain rfl := k86_openM hM15; have HP15 := Kd.R_seg HX15.out (x5_1 : Int) (aD) (by have h_ : (x5_1 : Int) < ((x0_1.length : Int) : Int) := aD; first | exact h_ | (have e_ := (Kd.R_reads' HO_0.out).1; omega) | simpa using h_) (seg := [.int .i64 (wrap64 ((wrap64 (x1_1 + 1)) + 1))]) (j := 2) hcl15 hcc15 (show 3 ≤ 3 from by decide) (x' := (⟨(rd_T86 y304 x5_1).f0, (rd_T86 y304 x5_1).f1, wrap64 ((wrap64 (x1_1 + 1)) + 1)⟩ : S86)) (k86_mkM _ _ _ (⟨(rd_T86 y304 x5_1).f0, (rd_T86 y304 x5_1).f1, wrap64 ((wrap64 (x1_1 + 1)) + 1)⟩ : S86) ) (fun _ hk => hk); have hx15_2 := hcc15 2 _ rfl; (try simp only [show (k86).sz = 3 from rfl, Nat.mul_one, Nat.add_zero] at hx15_2); have hf15_2 := hfr15 2; (try simp only [show (k86).sz = 3 from rfl, Nat.mul_one, Nat.add_zero] at hf15_2); clear hcl15 hcc15 hfr15 hM15) | ((with_reducible refine gate_store (t := 3) (p := 31) rfl ?_); refine store_event (t := 3) (p := 31) (v := ?vo_w16) (w1 := (w14.setCell ⟨go6, (x5_1 : Int).toNat * 3 + 2, none⟩ (.int .i64 (wrap64 ((wrap64 (x1_1 + 1)) + 1))))) ?hg ?ho ?hn ?hr ?_; (case ho => rfl); (case hg => rfl); (case hn => rfl); (case hr => first | (go_simp; done) | (go_simp; rfl) | (obtain ⟨A_, c_, e_⟩ := Kd.R_slice HO_0.out; subst e_; first | (go_simp; done) | (go_simp; rfl))); intro w16 hw; have hg : w14.grownBy w16 (some go6) := (by rw [hw]; exact HP15.2); have hp_ : Kd.R k86 86 w16 w0.heap.size (fun k_ => (P0_ k_ ∨ w.heap.size ≤ k_)) (.slice (some ⟨go6, 0, none⟩) x0_1.length co9) y305 := (by rw [hw, Ny305.out]; exact HP15.1); clear HP15; have n0_ := aM (hp_); have n1_ := aM ((by rw [hw]; exact below_set (HB.out) GB6.out : Below w0.heap.size w0 w16)); have n2_ := aM (Kept.of_grown (S := (fun k_ => P0_ k_)) hg (by repeat (first | (with_reducible first | exact HK.out | apply Kept.alloc | apply Kept.drewN | apply Kept.drew) | exact HK.out)) (fun k_ e_ => (HO_0.out.1 k_ e_))); clear HO_0; clear HB; clear HK; have HO_0 := n0_; have HB := n1_; have HK := n2_; clear n0_ n1_ n2_; clear hg hw hp_))
     go_roundg k1
     case measure => have := HK1.out; omega
     case rel => exact ⟨(y305), (wrap64 ((wrap64 ((wrap64 (x1_1 + 1)) + 1)) + 1)), (wrap64 (x5_1 + 1)), (by first | rfl | (simp; done) | (simp [*]; done)), (by first | rfl | (simp; done) | (simp [*]; done)), H', ⟨by have := HK1.out; omega⟩, ⟨aR HO_0⟩, ⟨by repeat (first | (with_reducible first | exact HK.out | apply Kept.alloc | apply Kept.drewN | apply Kept.drew) | exact HK.out)⟩, ⟨by repeat (first | (with_reducible first | exact HB.out | apply below_alloc | apply pw_below_drewN | apply below_drew1) | exact HB.out)⟩⟩
    ·rw [if_neg c5] at H
     exact absurd H (by simp)
   ·rw [if_neg c3] at H
    have c3b0 : decide (x5_1 < (x0_1.length : Int)) = false := decide_eq_false c3
    clear c3
    simp only [Option.some.injEq, Prod.mk.injEq] at H
    obtain ⟨rfl, rfl⟩ := H
    obtain ⟨Ao17, co17, eo17⟩ := Kd.R_slice HO_0.out
    subst eo17
    go_wp2
    go_ret
    exact ⟨by first | rfl | (simp [errW_none, errW_some] <;> rfl) | (simp [*, errW_none, errW_some] <;> rfl), aR HO_0, by repeat (first | (with_reducible first | exact HB.out | apply below_alloc | apply pw_below_drewN | apply below_drew1) | exact HB.out), by repeat (first | (with_reducible first | exact HK.out | apply Kept.alloc | apply Kept.drewN | apply Kept.drew) | exact HK.out)⟩

/-! ### laws_markIntS: function 25 -/
def laws_markIntS.l0 : Nat → List Int → Int → Int → Option (Int × List Int)
 | 0, _, _, _ => none
 | k + 1, x0, x1, x5 => if x5 < (x0.length : Int) then (if 0 ≤ x5 then (laws_markIntS.l0 k (x0.set (x5 : Int).toNat x1) (wrap64 (x1 + 1)) (wrap64 (x5 + 1))) else (none)) else (some (x1, x0))
def laws_markIntS.f (k : Nat) (l0 : List Int) (a1 : Int) : Option (Int × List Int) := laws_markIntS.l0 k l0 a1 0
set_option maxHeartbeats 8000000 in
set_option maxRecDepth 100000 in
theorem laws_markIntS.calls (k : Nat) (P0_ : Nat → Prop) (u9000_ : Value) (l0 : List Int) (a1 : Int) (r1 : Int) (r2 : List Int) (w0 w : World) (hB : Below w0.heap.size w0 w) (ho0 : Kd.R (Kd.int .i64) 3 w w0.heap.size P0_ u9000_ l0) (h : laws_markIntS.f k l0 a1 = some (r1, r2)) :
  Calls Try.prog 25 #[u9000_, .int .i64 a1] w fun e w' => e = .returned (.int .i64 r1) ∧ Kd.R (Kd.int .i64) 3 w' w0.heap.size (fun k_ => (P0_ k_ ∨ w.heap.size ≤ k_)) u9000_ r2 ∧ Below w0.heap.size w0 w' ∧ Kept w w' (fun k_ => P0_ k_) := by
 have HO0 := aM (show Kd.R (Kd.int .i64) 3 w w0.heap.size (fun k_ => (P0_ k_ ∨ w.heap.size ≤ k_)) u9000_ l0 from Kd.R_mono ho0 (fun k_ hk => (.inl hk)))
 have HK := aM (Kept.refl w (fun k_ => P0_ k_))
 have HW0 := aM hB.size
 have HB := aM hB
 clear hB
 have H : (laws_markIntS.l0 k l0 a1 0) = some (r1, r2) := h
 clear h
 have H' := aM H
 clear H
 go_enter Try.func25, Try.ntmps25
 go_wp2
 go_loopg [1, 5] k (fun kq v1 v5 w' => ∃ (x0_1 : List Int) (x1_1 : Int) (x5_1 : Int), v1 = .int .i64 x1_1 ∧ v5 = .int .i64 x5_1 ∧ Aside0 (laws_markIntS.l0 kq x0_1 x1_1 x5_1 = some (r1, r2)) ∧ Aside0 (kq ≤ k) ∧ Aside0 (Kd.R (Kd.int .i64) 3 w' w0.heap.size (fun k_ => (P0_ k_ ∨ w.heap.size ≤ k_)) u9000_ x0_1) ∧ Aside0 (Kept w w' (fun k_ => P0_ k_)) ∧ Aside0 (Below w0.heap.size w0 w'))
 case atStart => exact ⟨(l0), (a1), (0), (by first | rfl | (simp; done) | (simp [*]; done)), (by first | rfl | (simp; done) | (simp [*]; done)), H', ⟨Nat.le_refl _⟩, ⟨aR HO0⟩, ⟨by repeat (first | (with_reducible first | exact HK.out | apply Kept.alloc | apply Kept.drewN | apply Kept.drew) | exact HK.out)⟩, ⟨by repeat (first | (with_reducible first | exact HB.out | apply below_alloc | apply pw_below_drewN | apply below_drew1) | exact HB.out)⟩⟩
 case round =>
  clear H'
  try clear c2
  try clear p2
  obtain ⟨x0_1, x1_1, x5_1, rfl, rfl, HA, HK1, HO_0, HK, HB⟩ := hrel
  cases gk with
  | zero => exact absurd HA.out (by simp [laws_markIntS.l0])
  | succ k1 =>
   have H := HA.out
   clear HA
   simp only [laws_markIntS.l0] at H
   by_cases c3 : x5_1 < (x0_1.length : Int)
   ·rw [if_pos c3] at H
    have c3b0 : decide (x5_1 < (x0_1.length : Int)) = true := decide_eq_true c3
    clear c3
    by_cases c4 : 0 ≤ x5_1
    ·rw [if_pos c4] at H
     have c4b0 : decide (0 ≤ x5_1) = true := decide_eq_true c4
     clear c4
     obtain ⟨y306, hy306⟩ : ∃ y_ : List Int, y_ = (x0_1.set (x5_1 : Int).toNat x1_1) := ⟨_, rfl⟩
     replace H : (laws_markIntS.l0 k1 y306 (wrap64 (x1_1 + 1)) (wrap64 (x5_1 + 1))) = some (r1, r2) := by first | (rw [hy306]; with_reducible exact H) | (have H2_ := (Option.bind_some _ _).symm.trans H; rw [hy306]; with_reducible exact H2_) | (have H2_ := (Option.bind_some _ _).symm.trans H; with_reducible exact H2_) | with_reducible exact H | (rw [hy306]; exact H) | exact H
     have Ny306 := aM hy306
     clear hy306
     have H' := aM H
     clear H
     obtain ⟨Ao6, co6, eo6⟩ := Kd.R_slice HO_0.out
     subst eo6
     have p5 : 0 ≤ (x5_1 : Int) := aD
     have q5 : (x5_1 : Int) < ((x0_1.length : Int) : Int) := aD
     obtain ⟨go5, co5, eo5, gb5, gl5, cl5, HG5⟩ := Kd.R_form HO_0.out (by omega)
     (first | cases eo5 | (injection eo5 with ea_ en_ ec_; (first | subst ea_ | (injection ea_ with ea_; subst ea_)); subst ec_; clear en_))
     have GB5 := aM gb5
     have GG5 := aM HG5
     clear gb5 gl5 HG5
     have HMgo5 := aM (show (P0_ go5 ∨ w.heap.size ≤ go5) from (HO_0.out.1 _ rfl))
     obtain ⟨hx5_0, hf5_0⟩ := Kd.R_celln 0 HO_0.out (x5_1 : Int) p5 q5
     replace p5 := eq_true p5
     replace q5 := eq_true q5
     have HP7 := Kd.R_putg HO_0.out (x5_1 : Int) x1_1
     go_wp2_with (first | ((with_reducible refine gate_store (t := 3) (p := 15) rfl ?_); refine store_event (t := 3) (p := 15) (v := ?vo_w8) (w1 := (wr.setCell ⟨go5, (x5_1 : Int).toNat, none⟩ (.int .i64 x1_1))) ?hg ?ho ?hn ?hr ?_; (case ho => rfl); (case hg => rfl); (case hn => rfl); (case hr => first | (go_simp; done) | (go_simp; rfl) | (obtain ⟨A_, c_, e_⟩ := Kd.R_slice HO_0.out; subst e_; first | (go_simp; done) | (go_simp; rfl))); intro w8 hw; have hg : wr.grownBy w8 (some go5) := (by rw [hw]; exact HP7.2); have hp_ : Kd.R (Kd.int .i64) 3 w8 w0.heap.size (fun k_ => (P0_ k_ ∨ w.heap.size ≤ k_)) (.slice (some ⟨go5, 0, none⟩) x0_1.length co6) y306 := (by rw [hw, Ny306.out]; exact HP7.1); clear HP7; have n0_ := aM (hp_); have n1_ := aM ((by rw [hw]; exact below_set (HB.out) GB5.out : Below w0.heap.size w0 w8)); have n2_ := aM (Kept.of_grown (S := (fun k_ => P0_ k_)) hg (by repeat (first | (with_reducible first | exact HK.out | apply Kept.alloc | apply Kept.drewN | apply Kept.drew) | exact HK.out)) (fun k_ e_ => (HO_0.out.1 k_ e_))); clear HO_0; clear HB; clear HK; have HO_0 := n0_; have HB := n1_; have HK := n2_; clear n0_ n1_ n2_; clear hg hw hp_))
     go_roundg k1
     case measure => have := HK1.out; omega
     case rel => exact ⟨(y306), (wrap64 (x1_1 + 1)), (wrap64 (x5_1 + 1)), (by first | rfl | (simp; done) | (simp [*]; done)), (by first | rfl | (simp; done) | (simp [*]; done)), H', ⟨by have := HK1.out; omega⟩, ⟨aR HO_0⟩, ⟨by repeat (first | (with_reducible first | exact HK.out | apply Kept.alloc | apply Kept.drewN | apply Kept.drew) | exact HK.out)⟩, ⟨by repeat (first | (with_reducible first | exact HB.out | apply below_alloc | apply pw_below_drewN | apply below_drew1) | exact HB.out)⟩⟩
    ·rw [if_neg c4] at H
     exact absurd H (by simp)
   ·rw [if_neg c3] at H
    have c3b0 : decide (x5_1 < (x0_1.length : Int)) = false := decide_eq_false c3
    clear c3
    simp only [Option.some.injEq, Prod.mk.injEq] at H
    obtain ⟨rfl, rfl⟩ := H
    obtain ⟨Ao9, co9, eo9⟩ := Kd.R_slice HO_0.out
    subst eo9
    go_wp2
    go_ret
    exact ⟨by first | rfl | (simp [errW_none, errW_some] <;> rfl) | (simp [*, errW_none, errW_some] <;> rfl), aR HO_0, by repeat (first | (with_reducible first | exact HB.out | apply below_alloc | apply pw_below_drewN | apply below_drew1) | exact HB.out), by repeat (first | (with_reducible first | exact HK.out | apply Kept.alloc | apply Kept.drewN | apply Kept.drew) | exact HK.out)⟩

/-! ### laws_markFactS: function 63 -/
def laws_markFactS.l0 : Nat → List S50 → Int → Int → Option (Int × List S50)
 | 0, _, _, _ => none
 | k + 1, x0, x1, x5 => if x5 < (x0.length : Int) then (if 0 ≤ x5 then ((laws_markIntS.f k (rd_T50 x0 x5).f1 (wrap64 (x1 + 1))).bind fun bt => laws_markFactS.l0 k (x0.set (x5 : Int).toNat (⟨x1, bt.2⟩ : S50)) bt.1 (wrap64 (x5 + 1))) else none) else some (x1, x0)
def laws_markFactS.f (k : Nat) (l0 : List S50) (a1 : Int) : Option (Int × List S50) := laws_markFactS.l0 k l0 a1 0
set_option maxHeartbeats 8000000 in
set_option maxRecDepth 100000 in
theorem laws_markFactS.calls (k : Nat) (P0_ : Nat → Prop) (u9000_ : Value) (l0 : List S50) (a1 : Int) (r1 : Int) (r2 : List S50) (w0 w : World) (hB : Below w0.heap.size w0 w) (ho0 : Kd.S k50 50 w w0.heap.size P0_ u9000_ l0) (h : laws_markFactS.f k l0 a1 = some (r1, r2)) :
  Calls Try.prog 63 #[u9000_, .int .i64 a1] w fun e w' => e = .returned (.int .i64 r1) ∧ Kd.S k50 50 w' w0.heap.size (fun k_ => (P0_ k_ ∨ w.heap.size ≤ k_)) u9000_ r2 ∧ Below w0.heap.size w0 w' ∧ Kept w w' (fun k_ => P0_ k_) := by
 have HO0 := aM (show Kd.S k50 50 w w0.heap.size (fun k_ => (P0_ k_ ∨ w.heap.size ≤ k_)) u9000_ l0 from Kd.S_mono ho0 (fun k_ hk => (.inl hk)))
 have HK := aM (Kept.refl w (fun k_ => P0_ k_))
 have HW0 := aM hB.size
 have HB := aM hB
 clear hB ho0
 have H' : Aside0 (laws_markFactS.l0 k l0 a1 0 = some (r1, r2)) := ⟨h⟩
 clear h
 go_enter Try.func63, Try.ntmps63
 go_wp2
 go_loopg [1, 5] k (fun kq v1 v5 w' => ∃ (x0 : List S50) (x1 x5 : Int), v1 = .int .i64 x1 ∧ v5 = .int .i64 x5 ∧ Aside0 (laws_markFactS.l0 kq x0 x1 x5 = some (r1, r2)) ∧ Aside0 (kq ≤ k) ∧ Aside0 (Kd.S k50 50 w' w0.heap.size (fun k_ => (P0_ k_ ∨ w.heap.size ≤ k_)) u9000_ x0) ∧ Aside0 (Kept w w' (fun k_ => P0_ k_)) ∧ Aside0 (Below w0.heap.size w0 w'))
 case atStart => exact ⟨l0, a1, 0, rfl, rfl, H', ⟨Nat.le_refl _⟩, HO0, HK, HB⟩
 case round =>
  clear H' HO0
  obtain ⟨x0, x1, x5, rfl, rfl, HA, HK1, HO, HKw, HBw⟩ := hrel
  clear HK HB
  cases gk with
  | zero => exact absurd HA.out (by simp [laws_markFactS.l0])
  | succ k1 =>
   have H := HA.out
   clear HA
   simp only [laws_markFactS.l0] at H
   by_cases c3 : x5 < (x0.length : Int)
   ·rw [if_pos c3] at H
    by_cases c4 : 0 ≤ x5
    ·rw [if_pos c4] at H
     obtain ⟨⟨t1, t2⟩, hm, H⟩ := Option.bind_eq_some_iff.mp H
     have H' := aM H
     have HM := aM hm
     clear H hm
     have c3b : decide (x5 < (x0.length : Int)) = true := decide_eq_true c3
     have c4b : decide (0 ≤ x5) = true := decide_eq_true c4
     obtain ⟨go, co, eo, gb, gl, cl, HG⟩ := Kd.S_form HO.out (by omega)
     subst eo
     have hmine : P0_ go ∨ w.heap.size ≤ go := (Kd.S_R HO.out).1 _ rfl
     obtain ⟨oki, c, hcl, hM, hcc, hfr, hoki, hH⟩ := Kd.S_elem HO.out z50 x5 c4 c3
     obtain ⟨ve, rfl, hR⟩ := k50_openM hM
     have hcell : wr.cell? ⟨go, x5.toNat * 2, none⟩ = some (.int .i64 (x0.getD x5.toNat z50).f0) := hcc 0 _ rfl
     have hfz : wr.frozen? ⟨go, x5.toNat * 2, none⟩ = false := hfr 0
     have HP := Kd.S_seg0 hH c4 c3 (seg := [.int .i64 x1]) (j := 0) (show 1 ≤ 2 by decide) (x' := (⟨x1, (x0.getD x5.toNat z50).f1⟩ : S50)) (k50_mkM _ _ _ (⟨x1, (x0.getD x5.toNat z50).f1⟩ : S50) hR) (fun _ hk => hk)
     have hB1 : Below w0.heap.size w0 (wr.setCell ⟨go, x5.toNat * 2, none⟩ (.int .i64 x1)) := below_set HBw.out gb
     have hK1 : Kept w (wr.setCell ⟨go, x5.toNat * 2, none⟩ (.int .i64 x1)) (fun k_ => P0_ k_) := Kept.setCell HKw.out hmine _
     have hS1 : Kd.S k50 50 (wr.setCell ⟨go, x5.toNat * 2, none⟩ (.int .i64 x1)) w0.heap.size (fun k_ => (P0_ k_ ∨ w.heap.size ≤ k_)) (.slice (some ⟨go, 0, none⟩) x0.length co) (x0.set x5.toNat (⟨x1, (x0.getD x5.toNat z50).f1⟩ : S50)) := HP.1
     obtain ⟨oki2, cc2, hcl2, hM2, hcc2, hfr2, hoki2, hH2⟩ := Kd.S_elem hS1 z50 x5 c4 c3
     have hset : (x0.set x5.toNat (⟨x1, (x0.getD x5.toNat z50).f1⟩ : S50)).getD x5.toNat z50 = ⟨x1, (x0.getD x5.toNat z50).f1⟩ := by
      rw [List.getD_eq_getElem?_getD, List.getElem?_set_self (by omega)]; rfl
     rw [hset] at hM2
     obtain ⟨ve2, rfl, hR2⟩ := k50_openM hM2
     obtain ⟨Ai, ci, rfl⟩ := Kd.R_slice hR2
     have hc2 := hcc2 1 _ rfl
     have HC := aM (laws_markIntS.calls k1 oki2 _ _ (wrap64 (x1 + 1)) t1 t2 w0 _ hB1 hR2 HM.out)
     have p5 := eq_true c4
     have q5 := eq_true c3
     have HS1 := aM hS1
     have HH2 := aM hH2
     have HO2 := aM hoki2
     have HB1 := aM hB1
     have HK1' := aM hK1
     have HC2 := aM hc2
     clear hS1 hH2 hoki2 hB1 hK1 hH HP hcc hcc2 hfr hfr2 hoki hM hM2 hR hR2 hc2
     obtain ⟨fl, hfl⟩ : ∃ fl, fl = (x0.getD x5.toNat z50).f1 := ⟨_, rfl⟩
     rw [← hfl] at HC2 HC HH2
     clear hfl hset HS1 hcl hcl2
     go_wp2_with (first | ((with_reducible refine gate_store (t := 3) (p := 16) rfl ?_); refine store_event (t := 3) (p := 16) (v := ?vo) (w1 := wr.setCell ⟨go, x5.toNat * 2, none⟩ (.int .i64 x1)) ?hg ?ho ?hn ?hr ?_; (case ho => rfl); (case hg => rfl); (case hn => rfl); (case hr => first | (go_simp; done) | (go_simp; rfl)); intro w13 hw; rw [← hw] at HC2 HC HH2 HB1 HK1'; clear hw; have hc2 : w13.cell? ⟨go, x5.toNat * 2 + 1, none⟩ = some (.slice Ai fl.length ci) := HC2.out) | (go_at_call 25; refine HC.out.mono ?_; rintro e w2 ⟨rfl, hR3, hB3, hK3⟩))
     have hsz : w.heap.size ≤ w13.heap.size := HK1'.out.1
     have hS3 := Kd.H_back (Kd.H_step (Kd.H_widen HH2.out) (fun k _ hn hlt => hK3.2 k hlt (fun ho => hn (.inl ho)))) (k50_mkM _ _ _ (⟨x1, t2⟩ : S50) hR3) (fun k hk => hk.elim .inl (fun h2 => .inr ⟨.inr (Nat.le_trans hsz h2), h2⟩))
     rw [List.set_set] at hS3
     have HS3 := aM hS3
     have HK3 := aM (Kept.then_ HK1'.out hK3 (fun k h2 => (HO2.out k h2).1))
     have HB3 := aM hB3
     clear hS3 hR3 hK3 hB3 hc2 HC2 HC HH2 HB1 HK1' hsz
     go_roundg k1
     case measure => exact Nat.lt_succ_self _
     case rel => exact ⟨_, _, _, rfl, by first | rfl | (simp; done) | (simp [*]; done), H', ⟨by have := HK1.out; omega⟩, HS3, HK3, HB3⟩
    ·rw [if_neg c4] at H
     exact absurd H (by simp)
   ·rw [if_neg c3] at H
    have c3b : decide (x5 < (x0.length : Int)) = false := decide_eq_false c3
    clear c3
    simp only [Option.some.injEq, Prod.mk.injEq] at H
    obtain ⟨rfl, rfl⟩ := H
    obtain ⟨Ao, co, eo⟩ := Kd.S_slice HO.out
    subst eo
    go_wp2
    go_ret
    exact ⟨rfl, HO.out, HBw.out, HKw.out⟩


/-! ### laws_markDatabase: function 24 -/
def laws_markDatabase.f (k : Nat) (l0 : List S86) (l1 : List S50) (a1 : Int) : Option (Int × List S86 × List S50) := (laws_markRelationS.f k l0 a1).bind fun x => (laws_markFactS.f k l1 x.1).bind fun y => some (y.1, x.2, y.2)
set_option maxHeartbeats 4000000 in
set_option maxRecDepth 100000 in
theorem laws_markDatabase.calls (k : Nat) (P0_ P1_ : Nat → Prop) (u0 u1 : Value) (l0 : List S86) (l1 : List S50) (a1 r1 : Int) (r2 : List S86) (r3 : List S50) (w0 w : World) (hB : Below w0.heap.size w0 w) (ho0 : Kd.R k86 86 w w0.heap.size P0_ u0 l0) (ho1 : Kd.S k50 50 w w0.heap.size P1_ u1 l1) (hp : ∀ k_, P0_ k_ → ¬ P1_ k_) (h : laws_markDatabase.f k l0 l1 a1 = some (r1, r2, r3)) :
  Calls Try.prog 24 #[.agg #[u0, u1], .int .i64 a1] w fun e w' => e = .returned (.int .i64 r1) ∧ Kd.R k86 86 w' w0.heap.size (fun k_ => (P0_ k_ ∨ w.heap.size ≤ k_)) u0 r2 ∧ Kd.S k50 50 w' w0.heap.size (fun k_ => (P1_ k_ ∨ w.heap.size ≤ k_)) u1 r3 ∧ Below w0.heap.size w0 w' ∧ Kept w w' (fun k_ => P0_ k_ ∨ P1_ k_) := by
 obtain ⟨⟨t1, t2⟩, h1, h⟩ := Option.bind_eq_some_iff.mp h
 obtain ⟨⟨t3, t4⟩, h2, h⟩ := Option.bind_eq_some_iff.mp h
 simp only [Option.some.injEq, Prod.mk.injEq] at h
 obtain ⟨rfl, rfl, rfl⟩ := h
 have hu := Try.underlying32
 obtain ⟨A0, c0, rfl⟩ := Kd.R_slice ho0
 obtain ⟨A1, c1, rfl⟩ := Kd.S_slice ho1
 have hs : ∀ o : Obj, w.heap.size < (w.alloc o).heap.size := fun o => by show _ < (Array.push _ _).size; rw [Array.size_push]; exact Nat.lt_succ_self _
 have hr := Kd.R_mono (Kd.R_bound ho0) (ok' := fun k_ => P0_ k_ ∧ k_ < w.heap.size) (fun _ hk => ⟨hk.1, hk.2.2.1⟩)
 have hf := Kd.S_mono (Kd.S_bound ho1) (ok' := fun k_ => P1_ k_ ∧ k_ < w.heap.size) (fun _ hk => ⟨hk.1, hk.2.2.1⟩)
 obtain ⟨W, hW⟩ : ∃ W, w.alloc (.cells #[.slice A0 l0.length c0, .slice A1 l1.length c1] 32) = W := ⟨_, rfl⟩
 have hBW : Below w0.heap.size w0 W := by subst hW; exact below_alloc hB _
 have hKW : Kept w W (fun k_ => P0_ k_ ∨ P1_ k_) := by subst hW; exact Kept.alloc (Kept.refl _ _) _
 have hrW := show Kd.R k86 86 W w0.heap.size (fun k_ => P0_ k_ ∧ k_ < w.heap.size) (.slice A0 l0.length c0) l0 by subst hW; exact Kd.R_alloc hr _
 have hfW := show Kd.S k50 50 W w0.heap.size (fun k_ => P1_ k_ ∧ k_ < w.heap.size) (.slice A1 l1.length c1) l1 by subst hW; exact Kd.S_alloc hf _
 have hg : W.heap[w.heap.size]? = some (.cells #[.slice A0 l0.length c0, .slice A1 l1.length c1] 32 (0, 0)) := by subst hW; exact heap_alloc_new w _
 have HC1 := aM (laws_markRelationS.calls k _ _ _ a1 t1 t2 w0 W hBW hrW h1)
 have HG := aM hg
 have HF := aM hfW
 have HP := aM hp
 have HKW := aM hKW
 have H2 := aM h2
 have hc0 : W.cell? ⟨w.heap.size, 0, none⟩ = some (.slice A0 l0.length c0) := (blk_cell hg 0).trans rfl
 have hsz : w.heap.size < W.heap.size := by subst hW; exact hs _
 clear hs hr hf hBW hKW hrW hfW hg ho0 ho1 hp h1 h2
 go_enter Try.func24, Try.ntmps24
 go_wp2_with (first | (go_at_call 62; refine HC1.out.mono ?_; rintro e w1 ⟨rfl, hR1, hB1, hK1⟩; have hg1 := blk_kept HG.out hK1 (fun hk => Nat.lt_irrefl _ hk.2); have hc1 : w1.cell? ⟨w.heap.size, 1, none⟩ = some (.slice A1 l1.length c1) := (blk_cell hg1 1).trans rfl; have hS1 := Kd.S_kept HF.out hK1 (fun k_ hk hk2 => HP.out k_ hk2.1 hk.1); have HC2 := aM (laws_markFactS.calls k _ _ _ t1 t3 t4 w0 w1 hB1 hS1 H2.out); have HR1 := aM hR1; have HK1 := aM hK1; clear hR1 hB1 hK1 hS1 hg1) | (go_at_call 63; refine HC2.out.mono ?_; rintro e w2 ⟨rfl, hS2, hB2, hK2⟩))
 go_ret
 refine ⟨rfl, ?_, ?_, hB2, ?_⟩
 ·exact Kd.R_mono (Kd.R_kept HR1.out hK2 (fun k_ hk hk2 => hk.elim (fun h => HP.out k_ h.1 hk2.1) (fun h => by have := hk2.2; omega))) (fun k_ hk => hk.elim (fun h => .inl h.1) (fun h => .inr (by omega)))
 ·have hz := HK1.out.1
  exact Kd.S_mono hS2 (fun k_ hk => hk.elim (fun h => .inl h.1) (fun h => .inr (by omega)))
 ·exact Kept.then_ (Kept.then_ HKW.out HK1.out (fun k_ hk => .inl (.inl hk.1))) hK2 (fun k_ hk => .inl (.inr hk.1))


/-! ### laws_heldIntS: function 26 -/
def laws_heldIntS.l0 : Nat → List Int → Int → Int → Option (Int)
 | 0, _, _, _ => none
 | k + 1, x0, x1, x5 => if x5 < (x0.length : Int) then (if 0 ≤ x5 then (if (rd x0 x5) = x1 then (laws_heldIntS.l0 k x0 (wrap64 (x1 + 1)) (wrap64 (x5 + 1))) else (some (-1))) else (none)) else (some x1)
def laws_heldIntS.f (k : Nat) (l0 : List Int) (a1 : Int) : Option (Int) := laws_heldIntS.l0 k l0 a1 0
set_option maxHeartbeats 8000000 in
set_option maxRecDepth 100000 in
theorem laws_heldIntS.calls (k : Nat) (A0 : Option Addr) (c0 : Nat) (l0 : List Int) (a1 : Int) (r : Int) (w : World) (hr0 : Kd.C (Kd.int .i64) w A0 l0.length l0) (hc0 : l0.length ≤ c0) (h : laws_heldIntS.f k l0 a1 = some r) :
  Calls Try.prog 26 #[.slice A0 l0.length c0, .int .i64 a1] w fun e w' => e = .returned (.int .i64 r) ∧ Drawn0 w w' := by
 unfold laws_heldIntS.f at h
 ·go_enter Try.func26, Try.ntmps26
  go_wp2
  go_loopg [1, 5] k (fun kq v1 v5 w' => ∃ (x1_0 : Int) (x5_0 : Int), v1 = .int .i64 x1_0 ∧ v5 = .int .i64 x5_0 ∧ laws_heldIntS.l0 kq l0 x1_0 x5_0 = some r ∧ Drawn0 w w')
  case atStart => exact ⟨_, _, zR, zR, zA, zD⟩
  case round =>
   clear h
   obtain ⟨x1_0, x5_0, rfl, rfl, h, hb⟩ := hrel
   have hd := hb
   replace hb := hb.below
   replace hb := aM hb
   have HB : Below w.heap.size w wr := zB
   rcases gk with _ | kk0
   exact absurd h (by simp [laws_heldIntS.l0])
   simp only [laws_heldIntS.l0] at h
   replace h := il h; rcases h with ⟨c1, c1a, h⟩ | ⟨c1, c1a, h⟩
   replace h := ie h; rcases h with ⟨c2, c2a, h⟩ | ⟨c2, c2a, h⟩
   replace h := iq h; rcases h with ⟨c3, ⟨c3a, c3b⟩, h⟩ | ⟨c3, ⟨c3a, c3b⟩, h⟩
   obtain ⟨kf, hkf⟩ : ∃ kf, kf = kk0 := ⟨_, rfl⟩; rw [← hkf] at h
   obtain ⟨ad307, e307, hx307_0⟩ := Kd.at_int hr0 (x5_0 : Int) aD aD
   have p307 := eq_true (aD : 0 ≤ (x5_0 : Int))
   have q307 := eq_true (aD : x5_0 < (l0.length : Int))
   cases e307
   replace hx307_0 := qa hx307_0
   rotate_left
   obtain rfl := si h
   obtain ⟨ad307, e307, hx307_0⟩ := Kd.at_int hr0 (x5_0 : Int) aD aD
   have p307 := eq_true (aD : 0 ≤ (x5_0 : Int))
   have q307 := eq_true (aD : x5_0 < (l0.length : Int))
   cases e307
   replace hx307_0 := qa hx307_0
   rotate_left
   exact absurd h (by simp)
   obtain rfl := si h
   rotate_left
   all_goals (go_wp2; first | (go_ret; exact zE zD) | (go_roundg kf; (case measure => omega); (case rel => exact ⟨_, _, zR, zR, zA, zD⟩)))

/-! ### laws_FnExactConflictingFacts: function 4 -/
def laws_FnExactConflictingFacts.f (k : Nat) (l0_0 : List S85) (l0_1 : List S47) : Option Bool := (laws_szDatabase.f k l0_0 l0_1 1048576).bind fun t0 => if t0 < 0 then some true else (laws_toDatabase.f k l0_0 l0_1).bind fun d => (spec_ConflictingFacts.f k d.1 d.2).bind fun s => (impl_ConflictingFacts.f k d.1 d.2).bind fun g => (laws_eqIntS.f k g s).bind fun b1 => if b1 = true then ((laws_eqDatabase.f k d.1 d.2 d.1 d.2).bind fun b2 => if b2 = true then ((laws_markDatabase.f k d.1 d.2 1).bind fun m => if m.1 < 0 then some false else ((laws_markIntS.f k g 1).bind fun mg => (laws_heldIntS.f k mg.2 1).bind fun q => if q < 0 then some false else if q = mg.1 then some true else some false)) else some false) else some false
set_option maxHeartbeats 8000000 in
set_option maxRecDepth 100000 in
theorem laws_FnExactConflictingFacts.calls (k : Nat) (A0_0 : Option Addr) (c0_0 : Nat) (l0_0 : List S85) (A0_1 : Option Addr) (c0_1 : Nat) (l0_1 : List S47) (r : Bool) (w : World) (hr0_0 : Kd.C k85 w A0_0 l0_0.length l0_0) (hc0_0 : l0_0.length ≤ c0_0) (hr0_1 : Kd.C k47 w A0_1 l0_1.length l0_1) (hc0_1 : l0_1.length ≤ c0_1) (h : laws_FnExactConflictingFacts.f k l0_0 l0_1 = some r) (hr_ : r = true) :
  Calls Try.prog 4 #[.agg #[.slice A0_0 l0_0.length c0_0, .slice A0_1 l0_1.length c0_1]] w fun e w' => e = .returned (.bool r) ∧ Below w.heap.size w w' := by
 subst hr_
 have hu25 := Try.underlying25
 have hu32 := Try.underlying32
 obtain ⟨W, hW⟩ : ∃ W, w.alloc (.cells #[.slice A0_0 l0_0.length c0_0, .slice A0_1 l0_1.length c0_1] 25) = W := ⟨_, rfl⟩
 have bx0 : W.heap[w.heap.size]? = some (.cells #[.slice A0_0 l0_0.length c0_0, .slice A0_1 l0_1.length c0_1] 25 (0, 0)) := by subst hW; first | exact heap_alloc_new _ _ | exact blk_alloc (heap_alloc_new _ _) _ | (have := heap_alloc_new (w.alloc (.cells #[.slice A0_0 l0_0.length c0_0, .slice A0_1 l0_1.length c0_1] 25)) (.cells #[.slice A0_0 l0_0.length c0_0, .slice A0_1 l0_1.length c0_1] 25); simpa using this)
 have HB : Below w.heap.size w W := by subst hW; exact zB
 have hb := aM HB
 have HA := Below.refl W.heap.size W
 have z0 := aM HB.size
 have zl := aM (show w.heap.size < W.heap.size by subst hW; simp)
 have qbx0_0 := qa (w := W) ((blk_cell bx0 0).trans rfl)
 have qbx0_1 := qa (w := W) ((blk_cell bx0 1).trans rfl)
 have rg_ := @bcl w
 have rd_ := @bdr w
 unfold laws_FnExactConflictingFacts.f at h
 replace h := bs h; obtain ⟨t0, B0, h⟩ := h
 replace h := il h; rcases h with ⟨c0, c0a, h⟩ | ⟨c0, c0a, h⟩
 go_enter Try.func4, Try.ntmps4
 go_wp2_with (first | (go_at_call 15; refine (laws_szDatabase.calls ?_ _ _ _ _ _ _ _ ?_ _ ?_ ?_ ?_ ?_ ?h).mono ?_; (case h => exact zA); (iterate 4 (first | exact zC | exact zA)); rintro e w1 ⟨rfl, hb⟩; replace hb := aM hb; have HB : Below w.heap.size w w1 := zB))
 go_ret
 exact zE zB
 replace h := bs h; obtain ⟨⟨d1, d2⟩, Bd, h⟩ := h
 replace h := bs h; obtain ⟨s1, Bs, h⟩ := h
 replace h := bs h; obtain ⟨g1, Bg, h⟩ := h
 dsimp only at h Bs Bg
 replace h := bs h; obtain ⟨b1, Be, h⟩ := h
 replace h := ib h; rcases h with ⟨rfl, h⟩ | ⟨rfl, h⟩
 rotate_left
 exact absurd (si h) (by decide)
 replace h := bs h; obtain ⟨b2, Be2, h⟩ := h
 replace h := ib h; rcases h with ⟨rfl, h⟩ | ⟨rfl, h⟩
 rotate_left
 exact absurd (si h) (by decide)
 replace h := bs h; obtain ⟨⟨m1, m2, m3⟩, Bm, h⟩ := h
 dsimp only at h
 replace h := il h; rcases h with ⟨cm, cma, h⟩ | ⟨cm, cma, h⟩
 exact absurd (si h) (by decide)
 replace h := bs h; obtain ⟨⟨n1, n2⟩, Bn, h⟩ := h
 replace h := bs h; obtain ⟨q, Bq, h⟩ := h
 dsimp only at h Bq
 replace h := il h; rcases h with ⟨cq, cqa, h⟩ | ⟨cq, cqa, h⟩
 exact absurd (si h) (by decide)
 replace h := iq h; rcases h with ⟨ce, ⟨cea, ceb⟩, h⟩ | ⟨ce, ⟨cea, ceb⟩, h⟩
 rotate_left
 exact absurd (si h) (by decide)
 obtain rfl := ce.out
 clear h ce cea ceb
 go_enter Try.func4, Try.ntmps4
 go_wp2_with fail
 refine (laws_szDatabase.calls ?_ _ _ _ _ _ _ _ ?_ _ ?_ ?_ ?_ ?_ ?h).mono ?_
 (case h => exact zA)
 (iterate 4 (first | exact zC | exact zA))
 rintro e u1 ⟨rfl, hb⟩
 replace hb := aM hb
 have z1 := aM hb.out.size
 have HA : Below W.heap.size W u1 := zB
 have HB : Below w.heap.size w u1 := zB
 go_wp2_with fail
 refine (laws_toDatabase.calls ?_ _ _ _ _ _ _ ?_ ?_ _ ?_ ?_ ?_ ?_ ?h).mono ?_
 (case h => exact zA)
 (iterate 4 (first | exact zC | exact zA))
 rintro e u2 ⟨t2v0, t2v1, rfl, t2o0, t2o1, hb⟩
 obtain ⟨t2A0, t2c0, rfl, t2l0, t2C0⟩ := Kd.R_reads t2o0
 obtain ⟨t2A1, t2c1, rfl, t2l1, t2C1⟩ := Kd.S_reads t2o1
 replace hb := aM hb
 have z2 := aM hb.out.size
 have HA : Below W.heap.size W u2 := zB
 have HB : Below w.heap.size w u2 := zB
 go_wp2_with fail
 refine (spec_ConflictingFacts.calls ?_ _ _ _ _ _ _ ?_ _ ?_ ?_ ?_ ?_ ?h).mono ?_
 (case h => exact zA)
 (iterate 4 (first | exact zC | exact zA))
 rintro e u3 ⟨sv0, rfl, so0, hb⟩
 obtain ⟨sA0, sc0, rfl, sl0, sC0⟩ := Kd.R_reads so0
 replace hb := aM hb
 have z3 := aM hb.out.size
 have HA : Below W.heap.size W u3 := zB
 have HB : Below w.heap.size w u3 := zB
 go_wp2_with fail
 refine (laws_toDatabase.calls ?_ _ _ _ _ _ _ ?_ ?_ _ ?_ ?_ ?_ ?_ ?h).mono ?_
 (case h => exact zA)
 (iterate 4 (first | exact zC | exact zA))
 rintro e u4 ⟨xv0, xv1, rfl, xo0, xo1, hb⟩
 obtain ⟨xA0, xc0, rfl, xl0, xC0⟩ := Kd.R_reads xo0
 obtain ⟨xA1, xc1, rfl, xl1, xC1⟩ := Kd.S_reads xo1
 replace hb := aM hb
 have z4 := aM hb.out.size
 have HA : Below W.heap.size W u4 := zB
 have HB : Below w.heap.size w u4 := zB
 obtain ⟨W4, hW4⟩ : ∃ W_, u4.alloc (.cells #[.slice xA0 d1.length xc0, .slice xA1 d2.length xc1] 32) = W_ := ⟨_, rfl⟩
 have bxx : W4.heap[u4.heap.size]? = some (.cells #[.slice xA0 d1.length xc0, .slice xA1 d2.length xc1] 32 (0, 0)) := by subst hW4; exact heap_alloc_new _ _
 have hb : Aside0 (Below u4.heap.size u4 W4) := ⟨by subst hW4; exact below_alloc (Below.refl _ _) _⟩
 have bx0 := blk_below bx0 (zB (w := W) (w' := W4))
 clear qbx0_0 qbx0_1
 clear HA
 have z4b := aM (show u4.heap.size < W4.heap.size by subst hW4; simp)
 have qbx0_0 := qa (w := W4) ((blk_cell bx0 0).trans rfl)
 have qbx0_1 := qa (w := W4) ((blk_cell bx0 1).trans rfl)
 have qbxx_0 := qa (w := W4) ((blk_cell bxx 0).trans rfl)
 have qbxx_1 := qa (w := W4) ((blk_cell bxx 1).trans rfl)
 have HA := Below.refl W4.heap.size W4
 have HB : Below w.heap.size w W4 := zB
 go_wp2_with fail
 refine (impl_ConflictingFacts.calls ?_ _ _ _ _ _ _ ?_ _ ?_ ?_ ?_ ?_ ?h).mono ?_
 (case h => exact zA)
 (iterate 4 (first | exact zC | exact zA))
 rintro e u5 ⟨gv0, rfl, go0, hb⟩
 obtain ⟨gA0, gc0, rfl, gl0, gC0⟩ := Kd.R_reads go0
 replace hb := aM hb
 have z5 := aM hb.out.size
 have HA : Below W4.heap.size W4 u5 := zB
 have HB : Below w.heap.size w u5 := zB
 go_wp2_with fail
 refine (laws_eqIntS.calls ?_ _ _ _ _ _ _ ?_ _ ?_ ?_ ?_ ?_ ?h).mono ?_
 (case h => exact zA)
 (iterate 4 (first | exact zC | exact zA))
 rintro e u6 ⟨rfl, hb⟩
 replace hb := aM hb.below
 have z6 := aM hb.out.size
 have HA : Below W4.heap.size W4 u6 := zB
 have HB : Below w.heap.size w u6 := zB
 go_wp2_with fail
 refine nw (w0 := w) zB ?_
 intro Wd7 HB hb hd
 have HA : Below W4.heap.size W4 Wd7 := zB
 have rG_ := @bcl W4
 have rD_ := @bdr W4
 refine Txt.rg (id := 10) [0, 1, 2, 3, 4] (by kernel_rfl) (by kernel_rfl) ?_
 simp only [List.map_cons, List.map_nil, List.getD_cons_zero, List.getD_cons_succ]
 (repeat (first | (refine Txt.off rfl ?_; simp only [Act.put, List.setIfInBounds_toArray, List.set_cons_zero, List.set_cons_succ]) | (refine Txt.take rfl rfl ?_; intro K hK; go_big_quiet_op; go_big_quiet_on) | (refine Txt.call rfl rfl Try.func17 (by kernel_rfl) rfl (laws_toDatabase.calls ?_ _ _ _ _ _ _ ?_ ?_ _ ?_ ?_ ?_ ?_ ?h) rfl ?_; (case h => exact zA); (iterate 4 (first | exact zC | exact zA)); rintro e w1 ⟨v0, v1, rfl, ho0, ho1, hb⟩; obtain ⟨A0, c0, rfl, hc0, hC0⟩ := Kd.R_reads ho0; obtain ⟨A1, c1, rfl, hc1, hC1⟩ := Kd.R_reads (Kd.S_R ho1); replace hb := aM hb; have HA : Below W4.heap.size W4 w1 := zB; have HB : Below w.heap.size w w1 := zB; refine ⟨_, rfl, zS, ?_⟩; simp only [Act.put, List.setIfInBounds_toArray, List.set_cons_zero, List.set_cons_succ]) | (refine Txt.call rfl rfl Try.func20 (by kernel_rfl) rfl (laws_eqDatabase.calls ?_ _ _ _ _ _ _ _ _ _ _ _ _ ?_ _ ?_ ?_ ?_ ?_ ?_ ?_ ?_ ?_ ?h) rfl ?_; (case h => exact zA); (iterate 8 (first | exact zC | exact zA)); rintro e u7 ⟨rfl, hb⟩; replace hb := aM hb; have HA : Below W4.heap.size W4 u7 := zB; have HB : Below w.heap.size w u7 := zB; refine ⟨_, rfl, zS, ?_⟩; simp only [Act.put, List.setIfInBounds_toArray, List.set_cons_zero, List.set_cons_succ])))
 refine Txt.nil ?_
 have z7 := aM (zB (w := u6) (w' := u7)).size
 clear rG_ rD_
 have xH7_0 := Kd.R_lower (R_iv xo0 (zB (w := u4) (w' := u7))) (show w.heap.size ≤ _ by have := z0.out; have := zl.out; have := z1.out; have := z2.out; have := z3.out; have := z4.out; have := z4b.out; have := z5.out; have := z6.out; have := z7.out; omega)
 have xH7_1 := Kd.S_lower (S_iv xo1 (zB (w := u4) (w' := u7))) (show w.heap.size ≤ _ by have := z0.out; have := zl.out; have := z1.out; have := z2.out; have := z3.out; have := z4.out; have := z4b.out; have := z5.out; have := z6.out; have := z7.out; omega)
 go_wp2_with fail
 refine (laws_markDatabase.calls k _ _ _ _ _ _ 1 _ _ _ w _ HB xH7_0 xH7_1 (fun k_ a_ b_ => Ty.ne a_.2 b_.2 (by decide)) Bm).mono ?_
 rintro e u8 ⟨rfl, -, -, hB, hK⟩
 replace hK : Kept u7 u8 (Iv u3.heap.size u4.heap.size) := kept_iv hK (fun k_ h_ => h_.elim (fun h_ => h_.1) (fun h_ => h_.1))
 have bx0 := blk_past (blk_below bx0 (zB (w := W4) (w' := u7))) hK (by have := z0.out; have := zl.out; have := z1.out; have := z2.out; have := z3.out; have := z4.out; have := z4b.out; have := z5.out; have := z6.out; have := z7.out; omega)
 have bxx := blk_past (blk_below bxx (zB (w := W4) (w' := u7))) hK (by have := z0.out; have := zl.out; have := z1.out; have := z2.out; have := z3.out; have := z4.out; have := z4b.out; have := z5.out; have := z6.out; have := z7.out; omega)
 have sH8_0 := Kd.R_lower (R_iv so0 (zB (w := u3) (w' := u7))) (show w.heap.size ≤ _ by have := z0.out; have := zl.out; have := z1.out; have := z2.out; have := z3.out; have := z4.out; have := z4b.out; have := z5.out; have := z6.out; have := z7.out; omega)
 have sH8_0_8 := R_past sH8_0 hK (by have := z0.out; have := zl.out; have := z1.out; have := z2.out; have := z3.out; have := z4.out; have := z4b.out; have := z5.out; have := z6.out; have := z7.out; omega)
 have sC0 := (Kd.R_reads' sH8_0_8).2.2
 have gH8_0 := Kd.R_lower (R_iv go0 (zB (w := u5) (w' := u7))) (show w.heap.size ≤ _ by have := z0.out; have := zl.out; have := z1.out; have := z2.out; have := z3.out; have := z4.out; have := z4b.out; have := z5.out; have := z6.out; have := z7.out; omega)
 have gH8_0_8 := R_past gH8_0 hK (by have := z0.out; have := zl.out; have := z1.out; have := z2.out; have := z3.out; have := z4.out; have := z4b.out; have := z5.out; have := z6.out; have := z7.out; omega)
 have gC0 := (Kd.R_reads' gH8_0_8).2.2
 have HB := hB
 have z8 := aM hK.1
 clear HA
 clear qbx0_0 qbx0_1
 clear qbxx_0 qbxx_1
 have qbx0_0 := qa (w := u8) ((blk_cell bx0 0).trans rfl)
 have qbx0_1 := qa (w := u8) ((blk_cell bx0 1).trans rfl)
 have qbxx_0 := qa (w := u8) ((blk_cell bxx 0).trans rfl)
 have qbxx_1 := qa (w := u8) ((blk_cell bxx 1).trans rfl)
 have HA := Below.refl u8.heap.size u8
 go_wp2_with fail
 refine (laws_eqIntS.calls ?_ _ _ _ _ _ _ ?_ _ ?_ ?_ ?_ ?_ ?h).mono ?_
 (case h => exact zA)
 (iterate 4 (first | exact zC | exact zA))
 rintro e u9 ⟨rfl, hb⟩
 replace hb := aM hb.below
 have z9 := aM hb.out.size
 have HA : Below u8.heap.size u8 u9 := zB
 have HB : Below w.heap.size w u9 := zB
 have gH9_0 := R_at gH8_0_8 (zB (w := u8) (w' := u9))
 go_wp2_with fail
 refine (laws_markIntS.calls k _ _ _ 1 _ _ w _ HB gH9_0 Bn).mono ?_
 rintro e u10 ⟨rfl, mR0, hB, hK⟩
 replace hK : Kept u9 u10 (Iv W4.heap.size u5.heap.size) := kept_iv hK (fun k_ h_ => h_.1)
 have bx0 := blk_past (blk_below bx0 (zB (w := u8) (w' := u9))) hK (by have := z0.out; have := zl.out; have := z1.out; have := z2.out; have := z3.out; have := z4.out; have := z4b.out; have := z5.out; have := z6.out; have := z7.out; have := z8.out; have := z9.out; omega)
 have bxx := blk_past (blk_below bxx (zB (w := u8) (w' := u9))) hK (by have := z0.out; have := zl.out; have := z1.out; have := z2.out; have := z3.out; have := z4.out; have := z4b.out; have := z5.out; have := z6.out; have := z7.out; have := z8.out; have := z9.out; omega)
 have sH10_0 := R_at sH8_0_8 (zB (w := u8) (w' := u9))
 have sH10_0_10 := R_past sH10_0 hK (by have := z0.out; have := zl.out; have := z1.out; have := z2.out; have := z3.out; have := z4.out; have := z4b.out; have := z5.out; have := z6.out; have := z7.out; have := z8.out; have := z9.out; omega)
 have sC0 := (Kd.R_reads' sH10_0_10).2.2
 have HB := hB
 have z10 := aM hK.1
 clear HA
 clear qbx0_0 qbx0_1
 clear qbxx_0 qbxx_1
 have qbx0_0 := qa (w := u10) ((blk_cell bx0 0).trans rfl)
 have qbx0_1 := qa (w := u10) ((blk_cell bx0 1).trans rfl)
 have qbxx_0 := qa (w := u10) ((blk_cell bxx 0).trans rfl)
 have qbxx_1 := qa (w := u10) ((blk_cell bxx 1).trans rfl)
 have HA := Below.refl u10.heap.size u10
 have nE0 := (Kd.R_reads' mR0).1
 have nC0 := (Kd.R_reads' mR0).2.2
 have nL0 : n2.length ≤ gc0 := nE0 ▸ gl0
 have nX0 := aM nE0
 clear nE0 mR0
 go_wp2_with fail
 have hc := laws_heldIntS.calls k gA0 gc0 n2 1 q u10 zC nL0 Bq
 rw [← nX0.out] at hc
 refine hc.mono ?_
 clear hc
 rintro e u11 ⟨rfl, hb⟩
 replace hb := aM hb.below
 have z11 := aM hb.out.size
 have HA : Below u10.heap.size u10 u11 := zB
 have HB : Below w.heap.size w u11 := zB
 go_wp2_with fail
 refine (laws_toDatabase.calls ?_ _ _ _ _ _ _ ?_ ?_ _ ?_ ?_ ?_ ?_ ?h).mono ?_
 (case h => exact zA)
 (iterate 4 (first | exact zC | exact zA))
 rintro e u12 ⟨t12v0, t12v1, rfl, t12o0, t12o1, hb⟩
 obtain ⟨t12A0, t12c0, rfl, t12l0, t12C0⟩ := Kd.R_reads t12o0
 obtain ⟨t12A1, t12c1, rfl, t12l1, t12C1⟩ := Kd.S_reads t12o1
 replace hb := aM hb
 have z12 := aM hb.out.size
 have HA : Below u10.heap.size u10 u12 := zB
 have HB : Below w.heap.size w u12 := zB
 go_wp2_with fail
 refine (impl_ConflictingFacts.calls ?_ _ _ _ _ _ _ ?_ _ ?_ ?_ ?_ ?_ ?h).mono ?_
 (case h => exact zA)
 (iterate 4 (first | exact zC | exact zA))
 rintro e u13 ⟨iv0, rfl, io0, hb⟩
 obtain ⟨iA0, ic0, rfl, il0, iC0⟩ := Kd.R_reads io0
 replace hb := aM hb
 have z13 := aM hb.out.size
 have HA : Below u10.heap.size u10 u13 := zB
 have HB : Below w.heap.size w u13 := zB
 go_wp2_with fail
 refine (laws_eqIntS.calls ?_ _ _ _ _ _ _ ?_ _ ?_ ?_ ?_ ?_ ?h).mono ?_
 (case h => exact zA)
 (iterate 4 (first | exact zC | exact zA))
 rintro e u14 ⟨rfl, hb⟩
 replace hb := aM hb.below
 have z14 := aM hb.out.size
 have HA : Below u10.heap.size u10 u14 := zB
 have HB : Below w.heap.size w u14 := zB
 go_wp2_with fail
 have hc := laws_heldIntS.calls k gA0 gc0 n2 1 q u14 zC nL0 Bq
 rw [← nX0.out] at hc
 refine hc.mono ?_
 clear hc
 rintro e u15 ⟨rfl, hb⟩
 replace hb := aM hb.below
 have z15 := aM hb.out.size
 have HA : Below u10.heap.size u10 u15 := zB
 have HB : Below w.heap.size w u15 := zB
 go_wp2
 go_ret
 exact zE zB

end Go.Proofs.Ytehlhbidmanbmaa.PFnExactConflictingFacts
