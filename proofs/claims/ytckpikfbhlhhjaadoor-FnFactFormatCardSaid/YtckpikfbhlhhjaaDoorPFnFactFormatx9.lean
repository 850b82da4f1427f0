import Derived.Test.YtckpikfbhlhhjaaDoorPFnFactFormatx0
import Derived.Test.YtckpikfbhlhhjaaDoorPFnFactFormatx3
import Derived.Test.YtckpikfbhlhhjaaDoorPFnFactFormatx5
import Derived.Test.YtckpikfbhlhhjaaDoorPFnFactFormatx8
namespace Go.Proofs.YtckpikfbhlhhjaaDoor.PFnFactFormat
open Go.RowKit Go.Proofs.YtckpikfbhlhhjaaDoorW.PrintWords Go.Proofs.YtckpikfbhlhhjaaDoorW.PrintLast Go.Proofs.YtckpikfbhlhhjaaDoorW.PrintMore
attribute [local go_sem] max2_int min2_int max_two min_two max_three min_three max_four min_four
set_option linter.unusedVariables false
set_option linter.unusedSimpArgs false

/-! ### impl_CompareFacts: function 21 -/
def impl_CompareFacts.f (k : Nat) (a0_0 : Int) (l0_1 : List Int) (a1_0 : Int) (l1_1 : List Int) : Option (Int) := if a0_0 = a1_0 then ((slices_Compare_int_int.f k l0_1 l1_1).bind fun t424 => (some t424)) else ((impl_compare.f a0_0 a1_0).bind fun t425 => (some t425))
set_option maxHeartbeats 8000000 in
set_option maxRecDepth 100000 in
theorem impl_CompareFacts.calls (k : Nat) (a0_0 : Int) (A0_1 : Option Addr) (c0_1 : Nat) (l0_1 : List Int) (a1_0 : Int) (A1_1 : Option Addr) (c1_1 : Nat) (l1_1 : List Int) (r : Int) (w : World) (hr0_1 : Kd.C (Kd.int .i64) w A0_1 l0_1.length l0_1) (hc0_1 : l0_1.length ≤ c0_1) (hr1_1 : Kd.C (Kd.int .i64) w A1_1 l1_1.length l1_1) (hc1_1 : l1_1.length ≤ c1_1) (h : impl_CompareFacts.f k a0_0 l0_1 a1_0 l1_1 = some r) :
  Calls Tryd.prog 21 #[.agg #[.int .i64 a0_0, .slice A0_1 l0_1.length c0_1], .agg #[.int .i64 a1_0, .slice A1_1 l1_1.length c1_1]] w fun e w' => e = .returned (.int .i64 r) ∧ Below w.heap.size w w' := by
 have hu39 := Tryd.underlying39
 obtain ⟨W, hW⟩ : ∃ W, (w.alloc (.cells #[.int .i64 a0_0, .slice A0_1 l0_1.length c0_1] 39)).alloc (.cells #[.int .i64 a1_0, .slice A1_1 l1_1.length c1_1] 39) = W := ⟨_, rfl⟩
 have q0 := qa (w := W) (p := ⟨w.heap.size, 0, none⟩) (v := .int .i64 a0_0) (by subst hW; go_simp)
 have q1 := qa (w := W) (p := ⟨w.heap.size, 1, none⟩) (v := .slice A0_1 l0_1.length c0_1) (by subst hW; go_simp)
 have q2 := qa (w := W) (p := ⟨w.heap.size + 1, 0, none⟩) (v := .int .i64 a1_0) (by subst hW; go_simp)
 have q3 := qa (w := W) (p := ⟨w.heap.size + 1, 1, none⟩) (v := .slice A1_1 l1_1.length c1_1) (by subst hW; go_simp)
 have HB : Below w.heap.size w W := by subst hW; exact zB
 have HW := Below.refl W.heap.size W
 have hb := aM HB
 unfold impl_CompareFacts.f at h
 replace h := iq h; rcases h with ⟨c0, ⟨c0a, c0b⟩, h⟩ | ⟨c0, ⟨c0a, c0b⟩, h⟩
 replace h := bs h; obtain ⟨t424, B1, h⟩ := h
 obtain rfl := si h
 rotate_left
 replace h := bs h; obtain ⟨t425, B2, h⟩ := h
 obtain rfl := si h
 rotate_left
 all_goals (go_enter Tryd.func21, Tryd.ntmps21; go_wp2_with (first | (go_at_call 65; refine (impl_compare.calls _ _ ?_ _ ?h).mono ?_; (case h => exact zA); rintro e w1 ⟨rfl, hb⟩; replace hb := hb.below; replace hb := aM hb; have HW : Below W.heap.size W w1 := zB; have HB : Below w.heap.size w w1 := zB) | (go_at_call 66; refine (slices_Compare_int_int.calls ?_ _ _ _ _ _ _ ?_ _ ?_ ?_ ?_ ?_ ?h).mono ?_; (case h => exact zA); (iterate 4 (first | exact zC | exact zA)); rintro e w1 ⟨rfl, hb⟩; replace hb := hb.below; replace hb := aM hb; have HW : Below W.heap.size W w1 := zB; have HB : Below w.heap.size w w1 := zB)); go_ret; exact zE zB)

/-! ### spec_l3Ints: function 67 -/
mutual
def spec_l3Ints.l0 : Nat → List Int → List Int → Int → Option (Int)
 | 0, _, _, _ => none
 | k + 1, x0, x1, x5 => if x5 < (x0.length : Int) then (spec_l3Ints.j1 k x0 x1 x5 (decide (x5 < (x1.length : Int)))) else (spec_l3Ints.j1 k x0 x1 x5 false)
def spec_l3Ints.j1 : Nat → List Int → List Int → Int → Bool → Option (Int)
 | 0, _, _, _, _ => none
 | k + 1, x0, x1, x5, x15 => if x15 = true then (if 0 ≤ x5 then (if x5 < (x0.length : Int) then (if x5 < (x1.length : Int) then (if (rd x0 x5) < (rd x1 x5) then (some (-1)) else (if (rd x0 x5) > (rd x1 x5) then (some 1) else (spec_l3Ints.l0 k x0 x1 (wrap64 (x5 + 1))))) else (none)) else (none)) else (none)) else (if (x0.length : Int) < (x1.length : Int) then (some (-1)) else (if (x0.length : Int) > (x1.length : Int) then (some 1) else (some 0)))
end
def spec_l3Ints.f (k : Nat) (l0 : List Int) (l1 : List Int) : Option (Int) := spec_l3Ints.l0 k l0 l1 0
set_option maxHeartbeats 8000000 in
set_option maxRecDepth 100000 in
theorem spec_l3Ints.calls (k : Nat) (A0 : Option Addr) (c0 : Nat) (l0 : List Int) (A1 : Option Addr) (c1 : Nat) (l1 : List Int) (r : Int) (w : World) (hr0 : Kd.C (Kd.int .i64) w A0 l0.length l0) (hc0 : l0.length ≤ c0) (hr1 : Kd.C (Kd.int .i64) w A1 l1.length l1) (hc1 : l1.length ≤ c1) (h : spec_l3Ints.f k l0 l1 = some r) :
  Calls Tryd.prog 67 #[.slice A0 l0.length c0, .slice A1 l1.length c1] w fun e w' => e = .returned (.int .i64 r) ∧ Drawn0 w w' := by
 have rg_ := @bcl w
 have rd_ := @bdr w
 unfold spec_l3Ints.f at h
 ·go_enter Tryd.func67, Tryd.ntmps67
  go_wp2
  (repeat ((refine nw (w0 := w) zB ?_; intro W1 HB hb hd; (first | (refine Txt.rg (id := 4) [0, 1, 2, 3, 4, 5, 6, 7, 8] (by kernel_rfl) (by kernel_rfl) ?_; simp only [List.map_cons, List.map_nil, List.getD_cons_zero, List.getD_cons_succ]) | (refine Txt.rg (id := 6) [0, 1, 2, 3, 4, 5, 6, 7, 8] (by kernel_rfl) (by kernel_rfl) ?_; simp only [List.map_cons, List.map_nil, List.getD_cons_zero, List.getD_cons_succ])); (repeat (first | (refine Txt.off rfl ?_; simp only [Act.put, List.setIfInBounds_toArray, List.set_cons_zero, List.set_cons_succ]) | (refine Txt.take rfl rfl ?_; intro K hK; go_big_quiet_op; go_big_quiet_on))); refine Txt.nil ?_); (try go_wp2)))
  go_loopg [5] k (fun kq v5 w' => ∃ (x5_0 : Int), v5 = .int .i64 x5_0 ∧ spec_l3Ints.l0 kq l0 l1 x5_0 = some r ∧ Drawn0 w w')
  case atStart => exact ⟨_, zR, zA, zD⟩
  case round =>
   clear h
   obtain ⟨x5_0, rfl, h, hb⟩ := hrel
   have hd := hb
   replace hb := hb.below
   replace hb := aM hb
   have HB : Below w.heap.size w wr := zB
   rcases gk with _ | kk0
   exact absurd h (by simp [spec_l3Ints.l0])
   simp only [spec_l3Ints.l0] at h
   replace h := il h; rcases h with ⟨c1, c1a, h⟩ | ⟨c1, c1a, h⟩
   rcases kk0 with _ | kj2
   exact absurd h (by simp [spec_l3Ints.j1])
   simp only [spec_l3Ints.j1] at h
   replace h := ib h; rcases h with ⟨c3, h⟩ | ⟨c3, h⟩
   replace h := ie h; rcases h with ⟨c4, c4a, h⟩ | ⟨c4, c4a, h⟩
   replace h := il h; rcases h with ⟨c5, c5a, h⟩ | ⟨c5, c5a, h⟩
   replace h := il h; rcases h with ⟨c6, c6a, h⟩ | ⟨c6, c6a, h⟩
   replace h := il h; rcases h with ⟨c7, c7a, h⟩ | ⟨c7, c7a, h⟩
   obtain rfl := si h
   obtain ⟨ad426, e426, hx426_0⟩ := Kd.at_int hr0 (x5_0 : Int) aD aD
   have p426 := eq_true (aD : 0 ≤ (x5_0 : Int))
   have q426 := eq_true (aD : x5_0 < (l0.length : Int))
   cases e426
   replace hx426_0 := qa hx426_0
   obtain ⟨ad427, e427, hx427_0⟩ := Kd.at_int hr1 (x5_0 : Int) aD aD
   have p427 := eq_true (aD : 0 ≤ (x5_0 : Int))
   have q427 := eq_true (aD : x5_0 < (l1.length : Int))
   cases e427
   replace hx427_0 := qa hx427_0
   rotate_left
   replace h := ig h; rcases h with ⟨c8, c8a, h⟩ | ⟨c8, c8a, h⟩
   obtain rfl := si h
   obtain ⟨ad426, e426, hx426_0⟩ := Kd.at_int hr0 (x5_0 : Int) aD aD
   have p426 := eq_true (aD : 0 ≤ (x5_0 : Int))
   have q426 := eq_true (aD : x5_0 < (l0.length : Int))
   cases e426
   replace hx426_0 := qa hx426_0
   obtain ⟨ad427, e427, hx427_0⟩ := Kd.at_int hr1 (x5_0 : Int) aD aD
   have p427 := eq_true (aD : 0 ≤ (x5_0 : Int))
   have q427 := eq_true (aD : x5_0 < (l1.length : Int))
   cases e427
   replace hx427_0 := qa hx427_0
   obtain ⟨ad428, e428, hx428_0⟩ := Kd.at_int hr0 (x5_0 : Int) aD aD
   have p428 := eq_true (aD : 0 ≤ (x5_0 : Int))
   have q428 := eq_true (aD : x5_0 < (l0.length : Int))
   cases e428
   replace hx428_0 := qa hx428_0
   obtain ⟨ad429, e429, hx429_0⟩ := Kd.at_int hr1 (x5_0 : Int) aD aD
   have p429 := eq_true (aD : 0 ≤ (x5_0 : Int))
   have q429 := eq_true (aD : x5_0 < (l1.length : Int))
   cases e429
   replace hx429_0 := qa hx429_0
   rotate_left
   obtain ⟨kf, hkf⟩ : ∃ kf, kf = kj2 := ⟨_, rfl⟩; rw [← hkf] at h
   obtain ⟨ad426, e426, hx426_0⟩ := Kd.at_int hr0 (x5_0 : Int) aD aD
   have p426 := eq_true (aD : 0 ≤ (x5_0 : Int))
   have q426 := eq_true (aD : x5_0 < (l0.length : Int))
   cases e426
   replace hx426_0 := qa hx426_0
   obtain ⟨ad427, e427, hx427_0⟩ := Kd.at_int hr1 (x5_0 : Int) aD aD
   have p427 := eq_true (aD : 0 ≤ (x5_0 : Int))
   have q427 := eq_true (aD : x5_0 < (l1.length : Int))
   cases e427
   replace hx427_0 := qa hx427_0
   obtain ⟨ad428, e428, hx428_0⟩ := Kd.at_int hr0 (x5_0 : Int) aD aD
   have p428 := eq_true (aD : 0 ≤ (x5_0 : Int))
   have q428 := eq_true (aD : x5_0 < (l0.length : Int))
   cases e428
   replace hx428_0 := qa hx428_0
   obtain ⟨ad429, e429, hx429_0⟩ := Kd.at_int hr1 (x5_0 : Int) aD aD
   have p429 := eq_true (aD : 0 ≤ (x5_0 : Int))
   have q429 := eq_true (aD : x5_0 < (l1.length : Int))
   cases e429
   replace hx429_0 := qa hx429_0
   rotate_left
   exact absurd h (by simp)
   exact absurd h (by simp)
   exact absurd h (by simp)
   replace h := il h; rcases h with ⟨c9, c9a, h⟩ | ⟨c9, c9a, h⟩
   have cz := c9.out
   have c9x1 : decide (l0.length < l1.length) = true := decide_eq_true (Int.ofNat_lt.mp cz)
   clear cz
   obtain rfl := si h
   rotate_left
   have cz := c9.out
   have c9x1 : decide (l0.length < l1.length) = false := decide_eq_false (fun h => cz (Int.ofNat_lt.mpr h))
   clear cz
   replace h := ig h; rcases h with ⟨c10, c10a, h⟩ | ⟨c10, c10a, h⟩
   have cz := c10.out
   have c10x1 : decide (l1.length < l0.length) = true := decide_eq_true (Int.ofNat_lt.mp cz)
   clear cz
   obtain rfl := si h
   rotate_left
   have cz := c10.out
   have c10x1 : decide (l1.length < l0.length) = false := decide_eq_false (fun h => cz (Int.ofNat_lt.mpr h))
   clear cz
   obtain rfl := si h
   rotate_left
   rcases kk0 with _ | kj11
   exact absurd h (by simp [spec_l3Ints.j1])
   simp only [spec_l3Ints.j1] at h
   (try replace h := iff_ h)
   replace h := il h; rcases h with ⟨c12, c12a, h⟩ | ⟨c12, c12a, h⟩
   have cz := c12.out
   have c12x1 : decide (l0.length < l1.length) = true := decide_eq_true (Int.ofNat_lt.mp cz)
   clear cz
   obtain rfl := si h
   rotate_left
   have cz := c12.out
   have c12x1 : decide (l0.length < l1.length) = false := decide_eq_false (fun h => cz (Int.ofNat_lt.mpr h))
   clear cz
   replace h := ig h; rcases h with ⟨c13, c13a, h⟩ | ⟨c13, c13a, h⟩
   have cz := c13.out
   have c13x1 : decide (l1.length < l0.length) = true := decide_eq_true (Int.ofNat_lt.mp cz)
   clear cz
   obtain rfl := si h
   rotate_left
   have cz := c13.out
   have c13x1 : decide (l1.length < l0.length) = false := decide_eq_false (fun h => cz (Int.ofNat_lt.mpr h))
   clear cz
   obtain rfl := si h
   rotate_left
   all_goals (go_wp2; (repeat ((refine nw (w0 := w) zB ?_; intro W1 HB hb hd; (first | (refine Txt.rg (id := 4) [0, 1, 2, 3, 4, 5, 6, 7, 8] (by kernel_rfl) (by kernel_rfl) ?_; simp only [List.map_cons, List.map_nil, List.getD_cons_zero, List.getD_cons_succ]) | (refine Txt.rg (id := 6) [0, 1, 2, 3, 4, 5, 6, 7, 8] (by kernel_rfl) (by kernel_rfl) ?_; simp only [List.map_cons, List.map_nil, List.getD_cons_zero, List.getD_cons_succ])); (repeat (first | (refine Txt.off rfl ?_; simp only [Act.put, List.setIfInBounds_toArray, List.set_cons_zero, List.set_cons_succ]) | (refine Txt.take rfl rfl ?_; intro K hK; go_big_quiet_op; go_big_quiet_on))); refine Txt.nil ?_); (try go_wp2))); first | (go_ret; exact zE zD) | (go_roundg kf; (case measure => omega); (case rel => exact ⟨_, zR, zA, zD⟩)))

/-! ### spec_CompareFacts: function 22 -/
def spec_CompareFacts.f (k : Nat) (a0_0 : Int) (l0_1 : List Int) (a1_0 : Int) (l1_1 : List Int) : Option (Int) := if a0_0 < a1_0 then (some (-1)) else (if a0_0 > a1_0 then (some 1) else ((spec_l3Ints.f k l0_1 l1_1).bind fun t432 => (some t432)))
set_option maxHeartbeats 8000000 in
set_option maxRecDepth 100000 in
theorem spec_CompareFacts.calls (k : Nat) (a0_0 : Int) (A0_1 : Option Addr) (c0_1 : Nat) (l0_1 : List Int) (a1_0 : Int) (A1_1 : Option Addr) (c1_1 : Nat) (l1_1 : List Int) (r : Int) (w : World) (hr0_1 : Kd.C (Kd.int .i64) w A0_1 l0_1.length l0_1) (hc0_1 : l0_1.length ≤ c0_1) (hr1_1 : Kd.C (Kd.int .i64) w A1_1 l1_1.length l1_1) (hc1_1 : l1_1.length ≤ c1_1) (h : spec_CompareFacts.f k a0_0 l0_1 a1_0 l1_1 = some r) :
  Calls Tryd.prog 22 #[.agg #[.int .i64 a0_0, .slice A0_1 l0_1.length c0_1], .agg #[.int .i64 a1_0, .slice A1_1 l1_1.length c1_1]] w fun e w' => e = .returned (.int .i64 r) ∧ Below w.heap.size w w' := by
 have hu39 := Tryd.underlying39
 obtain ⟨W, hW⟩ : ∃ W, (w.alloc (.cells #[.int .i64 a0_0, .slice A0_1 l0_1.length c0_1] 39)).alloc (.cells #[.int .i64 a1_0, .slice A1_1 l1_1.length c1_1] 39) = W := ⟨_, rfl⟩
 have q0 := qa (w := W) (p := ⟨w.heap.size, 0, none⟩) (v := .int .i64 a0_0) (by subst hW; go_simp)
 have q1 := qa (w := W) (p := ⟨w.heap.size, 1, none⟩) (v := .slice A0_1 l0_1.length c0_1) (by subst hW; go_simp)
 have q2 := qa (w := W) (p := ⟨w.heap.size + 1, 0, none⟩) (v := .int .i64 a1_0) (by subst hW; go_simp)
 have q3 := qa (w := W) (p := ⟨w.heap.size + 1, 1, none⟩) (v := .slice A1_1 l1_1.length c1_1) (by subst hW; go_simp)
 have HB : Below w.heap.size w W := by subst hW; exact zB
 have HW := Below.refl W.heap.size W
 have hb := aM HB
 unfold spec_CompareFacts.f at h
 replace h := il h; rcases h with ⟨c0, c0a, h⟩ | ⟨c0, c0a, h⟩
 obtain rfl := si h
 rotate_left
 replace h := ig h; rcases h with ⟨c1, c1a, h⟩ | ⟨c1, c1a, h⟩
 obtain rfl := si h
 rotate_left
 replace h := bs h; obtain ⟨t432, B2, h⟩ := h
 obtain rfl := si h
 rotate_left
 all_goals (go_enter Tryd.func22, Tryd.ntmps22; go_wp2_with (first | (go_at_call 67; refine (spec_l3Ints.calls ?_ _ _ _ _ _ _ ?_ _ ?_ ?_ ?_ ?_ ?h).mono ?_; (case h => exact zA); (iterate 4 (first | exact zC | exact zA)); rintro e w1 ⟨rfl, hb⟩; replace hb := hb.below; replace hb := aM hb; have HW : Below W.heap.size W w1 := zB; have HB : Below w.heap.size w w1 := zB)); go_ret; exact zE zB)

/-! ### slices_Equal_int_int: function 97 -/
def slices_Equal_int_int.l0 : Nat → List Int → List Int → Int → Int → Option (Bool)
 | 0, _, _, _, _ => none
 | k + 1, x0, x1, x12, x13 => if x13 < x12 then (if 0 ≤ x13 then (if x13 < (x0.length : Int) then (if x13 < (x1.length : Int) then (if (rd x0 x13) = (rd x1 x13) then (slices_Equal_int_int.l0 k x0 x1 x12 (wrap64 (x13 + 1))) else (some false)) else (none)) else (none)) else (none)) else (some true)
def slices_Equal_int_int.f (k : Nat) (l0 : List Int) (l1 : List Int) : Option (Bool) := if (l0.length : Int) = (l1.length : Int) then (slices_Equal_int_int.l0 k l0 l1 (l0.length : Int) 0) else (some false)
set_option maxHeartbeats 8000000 in
set_option maxRecDepth 100000 in
theorem slices_Equal_int_int.calls (k : Nat) (A0 : Option Addr) (c0 : Nat) (l0 : List Int) (A1 : Option Addr) (c1 : Nat) (l1 : List Int) (r : Bool) (w : World) (hr0 : Kd.C (Kd.int .i64) w A0 l0.length l0) (hc0 : l0.length ≤ c0) (hr1 : Kd.C (Kd.int .i64) w A1 l1.length l1) (hc1 : l1.length ≤ c1) (h : slices_Equal_int_int.f k l0 l1 = some r) :
  Calls Tryd.prog 97 #[.slice A0 l0.length c0, .slice A1 l1.length c1] w fun e w' => e = .returned (.bool r) ∧ Drawn0 w w' := by
 have rg_ := @bcl w
 have rd_ := @bdr w
 unfold slices_Equal_int_int.f at h
 replace h := iq h; rcases h with ⟨c0, ⟨c0a, c0b⟩, h⟩ | ⟨c0, ⟨c0a, c0b⟩, h⟩
 have cz := c0.out
 have c0x1 : (l0.length == l1.length) = true := by first | simpa using cz | (simp at cz ⊢; omega)
 clear cz
 ·go_enter Tryd.func97, Tryd.ntmps97
  go_wp2
  (repeat ((refine nw (w0 := w) zB ?_; intro W1 HB hb hd; (first | (refine Txt.rg (id := 6) [0, 1, 2, 3, 4, 5, 6, 7, 8] (by kernel_rfl) (by kernel_rfl) ?_; simp only [List.map_cons, List.map_nil, List.getD_cons_zero, List.getD_cons_succ])); (repeat (first | (refine Txt.off rfl ?_; simp only [Act.put, List.setIfInBounds_toArray, List.set_cons_zero, List.set_cons_succ]) | (refine Txt.take rfl rfl ?_; intro K hK; go_big_quiet_op; go_big_quiet_on))); refine Txt.nil ?_); (try go_wp2)))
  go_loopg [13] k (fun kq v13 w' => ∃ (x13_1 : Int), v13 = .int .i64 x13_1 ∧ slices_Equal_int_int.l0 kq l0 l1 (l0.length : Int) x13_1 = some r ∧ Drawn0 w w')
  case atStart => exact ⟨_, zR, zA, zD⟩
  case round =>
   clear h
   obtain ⟨x13_1, rfl, h, hb⟩ := hrel
   have hd := hb
   replace hb := hb.below
   replace hb := aM hb
   have HB : Below w.heap.size w wr := zB
   rcases gk with _ | kk1
   exact absurd h (by simp [slices_Equal_int_int.l0])
   simp only [slices_Equal_int_int.l0] at h
   replace h := il h; rcases h with ⟨c2, c2a, h⟩ | ⟨c2, c2a, h⟩
   replace h := ie h; rcases h with ⟨c3, c3a, h⟩ | ⟨c3, c3a, h⟩
   replace h := il h; rcases h with ⟨c4, c4a, h⟩ | ⟨c4, c4a, h⟩
   replace h := il h; rcases h with ⟨c5, c5a, h⟩ | ⟨c5, c5a, h⟩
   replace h := iq h; rcases h with ⟨c6, ⟨c6a, c6b⟩, h⟩ | ⟨c6, ⟨c6a, c6b⟩, h⟩
   obtain ⟨kf, hkf⟩ : ∃ kf, kf = kk1 := ⟨_, rfl⟩; rw [← hkf] at h
   obtain ⟨ad433, e433, hx433_0⟩ := Kd.at_int hr0 (x13_1 : Int) aD aD
   have p433 := eq_true (aD : 0 ≤ (x13_1 : Int))
   have q433 := eq_true (aD : x13_1 < (l0.length : Int))
   cases e433
   replace hx433_0 := qa hx433_0
   obtain ⟨ad434, e434, hx434_0⟩ := Kd.at_int hr1 (x13_1 : Int) aD aD
   have p434 := eq_true (aD : 0 ≤ (x13_1 : Int))
   have q434 := eq_true (aD : x13_1 < (l1.length : Int))
   cases e434
   replace hx434_0 := qa hx434_0
   rotate_left
   obtain rfl := si h
   obtain ⟨ad433, e433, hx433_0⟩ := Kd.at_int hr0 (x13_1 : Int) aD aD
   have p433 := eq_true (aD : 0 ≤ (x13_1 : Int))
   have q433 := eq_true (aD : x13_1 < (l0.length : Int))
   cases e433
   replace hx433_0 := qa hx433_0
   obtain ⟨ad434, e434, hx434_0⟩ := Kd.at_int hr1 (x13_1 : Int) aD aD
   have p434 := eq_true (aD : 0 ≤ (x13_1 : Int))
   have q434 := eq_true (aD : x13_1 < (l1.length : Int))
   cases e434
   replace hx434_0 := qa hx434_0
   rotate_left
   exact absurd h (by simp)
   exact absurd h (by simp)
   exact absurd h (by simp)
   obtain rfl := si h
   rotate_left
   all_goals (go_wp2; (repeat ((refine nw (w0 := w) zB ?_; intro W1 HB hb hd; (first | (refine Txt.rg (id := 6) [0, 1, 2, 3, 4, 5, 6, 7, 8] (by kernel_rfl) (by kernel_rfl) ?_; simp only [List.map_cons, List.map_nil, List.getD_cons_zero, List.getD_cons_succ])); (repeat (first | (refine Txt.off rfl ?_; simp only [Act.put, List.setIfInBounds_toArray, List.set_cons_zero, List.set_cons_succ]) | (refine Txt.take rfl rfl ?_; intro K hK; go_big_quiet_op; go_big_quiet_on))); refine Txt.nil ?_); (try go_wp2))); first | (go_ret; exact zE zD) | (go_roundg kf; (case measure => omega); (case rel => exact ⟨_, zR, zA, zD⟩)))
 have cz := c0.out
 have c0x1 : (l0.length == l1.length) = false := by first | simpa using cz | (simp at cz ⊢; omega)
 clear cz
 obtain rfl := si h
 rotate_left
 all_goals (go_enter Tryd.func97, Tryd.ntmps97; go_wp2; (repeat ((refine nw (w0 := w) zB ?_; intro W1 HB hb hd; (first | (refine Txt.rg (id := 6) [0, 1, 2, 3, 4, 5, 6, 7, 8] (by kernel_rfl) (by kernel_rfl) ?_; simp only [List.map_cons, List.map_nil, List.getD_cons_zero, List.getD_cons_succ])); (repeat (first | (refine Txt.off rfl ?_; simp only [Act.put, List.setIfInBounds_toArray, List.set_cons_zero, List.set_cons_succ]) | (refine Txt.take rfl rfl ?_; intro K hK; go_big_quiet_op; go_big_quiet_on))); refine Txt.nil ?_); (try go_wp2))); go_ret; exact zE zD)

/-! ### impl_sameKey: function 68 -/
theorem eqInts_go (x y : List Int) (hx : x.length ≤ 9223372036854775807) (hl : y.length = x.length) (d : Nat) : ∀ (i : Nat), i + d = x.length → slices_Equal_int_int.l0 (d + 1) x y x.length i = some (decide (x.drop i = y.drop i)) := by
 induction d with
 | zero =>
  intro i hd
  rw [slices_Equal_int_int.l0, if_neg (by omega), List.drop_of_length_le (by omega), List.drop_of_length_le (by omega)]
  rfl
 | succ d ih =>
  intro i hd
  rw [slices_Equal_int_int.l0, if_pos (by omega), if_pos (by omega), if_pos (by omega), if_pos (by omega), List.drop_eq_getElem_cons (i := i) (l := x) (by omega), List.drop_eq_getElem_cons (i := i) (l := y) (by omega)]
  have e1 : rd x (i : Int) = x[i] := by unfold rd; rw [Int.toNat_natCast, List.getD_eq_getElem?_getD, List.getElem?_eq_getElem (by omega)]; rfl
  have e2 : rd y (i : Int) = y[i] := by unfold rd; rw [Int.toNat_natCast, List.getD_eq_getElem?_getD, List.getElem?_eq_getElem (by omega)]; rfl
  rw [e1, e2, show wrap64 ((i : Int) + 1) = ((i + 1 : Nat) : Int) by unfold wrap64; omega]
  by_cases h : x[i] = y[i]
  ·rw [if_pos h, ih (i + 1) (by omega)]
   exact congrArg some (decide_eq_decide.2 ⟨fun e => by rw [h, e], fun e => (List.cons.inj e).2⟩)
  ·rw [if_neg h]
   exact congrArg some (decide_eq_false fun e => h (List.cons.inj e).1).symm
theorem eqInts (x y : List Int) (hx : x.length ≤ 9223372036854775807) : slices_Equal_int_int.f (x.length + 1) x y = some (decide (x = y)) := by
 unfold slices_Equal_int_int.f
 by_cases h : x.length = y.length
 ·rw [if_pos (by omega)]
  exact eqInts_go x y hx h.symm x.length 0 (by omega)
 ·rw [if_neg (by omega), decide_eq_false]
  rintro rfl
  exact h rfl
/-- The two facts' keys are one. -/
def impl_sameKey.f (l0 : List S68) (a1_0 : Int) (l1_1 : List Int) (a2_0 : Int) (l2_1 : List Int) : Option Bool :=
 if a1_0 = a2_0 then
  (if 0 ≤ a1_0 ∧ a1_0 < (l0.length : Int) ∧ 0 ≤ (rd_T68 l0 a1_0).f2 ∧ (rd_T68 l0 a1_0).f2 ≤ (l1_1.length : Int) ∧ (rd_T68 l0 a1_0).f2 ≤ (l2_1.length : Int) then
   some (decide (l1_1.take ((rd_T68 l0 a1_0).f2).toNat = l2_1.take ((rd_T68 l0 a1_0).f2).toNat)) else none)
 else some false
set_option maxHeartbeats 4000000 in
set_option maxRecDepth 100000 in
theorem impl_sameKey.calls (A0 : Option Addr) (c0 : Nat) (l0 : List S68) (a1_0 : Int) (A1_1 : Option Addr) (c1_1 : Nat) (l1_1 : List Int) (a2_0 : Int) (A2_1 : Option Addr) (c2_1 : Nat) (l2_1 : List Int) (r : Bool) (w : World) (hr0 : Kd.C k68 w A0 l0.length l0) (hc0 : l0.length ≤ c0) (hr1_1 : Kd.C (Kd.int .i64) w A1_1 l1_1.length l1_1) (hc1_1 : l1_1.length ≤ c1_1) (hr2_1 : Kd.C (Kd.int .i64) w A2_1 l2_1.length l2_1) (hc2_1 : l2_1.length ≤ c2_1) (h : impl_sameKey.f l0 a1_0 l1_1 a2_0 l2_1 = some r) :
  Calls Tryd.prog 68 #[.slice A0 l0.length c0, .agg #[.int .i64 a1_0, .slice A1_1 l1_1.length c1_1], .agg #[.int .i64 a2_0, .slice A2_1 l2_1.length c2_1]] w fun e w' => e = .returned (.bool r) ∧ Below w.heap.size w w' := by
 have hu := Tryd.underlying39
 unfold impl_sameKey.f at h
 by_cases c1 : a1_0 = a2_0
 ·rw [if_pos c1] at h
  by_cases c2 : 0 ≤ a1_0 ∧ a1_0 < (l0.length : Int) ∧ 0 ≤ (rd_T68 l0 a1_0).f2 ∧ (rd_T68 l0 a1_0).f2 ≤ (l1_1.length : Int) ∧ (rd_T68 l0 a1_0).f2 ≤ (l2_1.length : Int)
  ·rw [if_pos c2] at h
   obtain rfl := Option.some.inj h
   subst c1
   obtain ⟨p0, p1, p2, p3, p4⟩ := c2
   obtain ⟨ad, e, h0, h1, h2⟩ := at_T68 hr0 a1_0 p0 p1
   cases e
   generalize (rd_T68 l0 a1_0).f2 = n at *
   clear h0 h1 h
   obtain ⟨i0, hi, _, hsz, _⟩ := info_parts info3
   obtain ⟨hcA, hRA, hCA⟩ := print_take_of (P := Tryd.prog) (Value.int .i64) 0 37 3 .i64 Tryd.underlying37 hi hsz A1_1 c1_1 l1_1 n p2 p3 hc1_1
   obtain ⟨hcB, hRB, hCB⟩ := print_take_of (P := Tryd.prog) (Value.int .i64) 0 37 3 .i64 Tryd.underlying37 hi hsz A2_1 c2_1 l2_1 n p2 p4 hc2_1
   have CA : Kd.C (Kd.int .i64) w A1_1 (l1_1.take n.toNat).length (l1_1.take n.toNat) := Kd.C_of_reads (h1 := fun _ => rfl) (hRA _ (Kd.reads_of_C hr1_1))
   have CB : Kd.C (Kd.int .i64) w A2_1 (l2_1.take n.toNat).length (l2_1.take n.toNat) := Kd.C_of_reads (h1 := fun _ => rfl) (hRB _ (Kd.reads_of_C hr2_1))
   have hle : (l1_1.take n.toNat).length ≤ 9223372036854775807 := CA.2.1
   have HE := aM (eqInts (l1_1.take n.toNat) (l2_1.take n.toNat) hle)
   have CA := aM CA
   have CB := aM CB
   have HCA := aM hCA
   have HCB := aM hCB
   clear hRA hRB hCA hCB hle hr0 hr1_1 hr2_1 hi hsz hc0 hc1_1 hc2_1
   have HN : Aside0 (∀ W : World, Below w.heap.size w W → ∀ d os, Calls Tryd.prog 97 #[.slice A1_1 (l1_1.take n.toNat).length c1_1, .slice A2_1 (l2_1.take n.toNat).length c2_1] (Go.Sort.grow (redrawn W d) os) fun e w'' => e = .returned (.bool (decide (l1_1.take n.toNat = l2_1.take n.toNat))) ∧ ∃ p : Regrown, w'' = Go.Sort.grow (redrawn W p.d) p.os) :=
    ⟨fun W hb d os => Calls.regrown_of (calls_below_of_drawn (slices_Equal_int_int.calls ((l1_1.take n.toNat).length + 1) A1_1 c1_1 (l1_1.take n.toNat) A2_1 c2_1 (l2_1.take n.toNat) _ _ (Kd.C_below CA.out (below_then hb hb.size (below_regrown W d os))) HCA.out (Kd.C_below CB.out (below_then hb hb.size (below_regrown W d os))) HCB.out HE.out))⟩
   clear CA CB HCA HCB HE
   generalize decide (l1_1.take n.toNat = l2_1.take n.toNat) = bb at HN ⊢
   generalize (l1_1.take n.toNat).length = nA at HN hcA
   generalize (l2_1.take n.toNat).length = nB at HN hcB
   have F0 : Aside0 (((w.alloc (.cells #[.int .i64 a1_0, .slice A1_1 l1_1.length c1_1] 39)).alloc (.cells #[.int .i64 a1_0, .slice A2_1 l2_1.length c2_1] 39)).cell? ⟨w.heap.size, 1, none⟩ = some (.slice A1_1 l1_1.length c1_1)) :=
    ⟨have hk := (blk_cell (heap_alloc_new w (.cells #[.int .i64 a1_0, .slice A1_1 l1_1.length c1_1] 39)) 1).trans rfl; (World.cell?_alloc_lt _ _ _ (World.block_lt_of_cell? _ _ hk)).trans hk⟩
   have F1 : Aside0 (((w.alloc (.cells #[.int .i64 a1_0, .slice A1_1 l1_1.length c1_1] 39)).alloc (.cells #[.int .i64 a1_0, .slice A2_1 l2_1.length c2_1] 39)).cell? ⟨w.heap.size + 1, 1, none⟩ = some (.slice A2_1 l2_1.length c2_1)) :=
    ⟨by
     have hz : (w.alloc (.cells #[.int .i64 a1_0, .slice A1_1 l1_1.length c1_1] 39)).heap.size = w.heap.size + 1 := by show (Array.push _ _).size = _; exact Array.size_push ..
     have hk := heap_alloc_new (w.alloc (.cells #[.int .i64 a1_0, .slice A1_1 l1_1.length c1_1] 39)) (.cells #[.int .i64 a1_0, .slice A2_1 l2_1.length c2_1] 39)
     rw [hz] at hk
     exact (blk_cell hk 1).trans rfl⟩
   have B2 : Aside0 (Below w.heap.size w ((w.alloc (.cells #[.int .i64 a1_0, .slice A1_1 l1_1.length c1_1] 39)).alloc (.cells #[.int .i64 a1_0, .slice A2_1 l2_1.length c2_1] 39))) := ⟨below_alloc (below_alloc (Below.refl _ _) _) _⟩
   have H2 : ((w.alloc (.cells #[.int .i64 a1_0, .slice A1_1 l1_1.length c1_1] 39)).alloc (.cells #[.int .i64 a1_0, .slice A2_1 l2_1.length c2_1] 39)).cell? ⟨(ad.add (a1_0.toNat * 3)).block, (ad.add (a1_0.toNat * 3)).off + 2, none⟩ = some (.int .i64 n) :=
    have hk := (World.cell?_alloc_lt _ _ _ (World.block_lt_of_cell? _ _ h2)).trans h2
    (World.cell?_alloc_lt _ _ _ (World.block_lt_of_cell? _ _ hk)).trans hk
   clear h2
   have q0 : decide (0 ≤ a1_0) = true := decide_eq_true p0
   have q1 : decide (a1_0 < (l0.length : Int)) = true := decide_eq_true p1
   go_enter Tryd.func68, Tryd.ntmps68
   go_wp2_with fail
   clear H2
   generalize (w.alloc (.cells #[.int .i64 a1_0, .slice A1_1 l1_1.length c1_1] 39)).alloc (.cells #[.int .i64 a1_0, .slice A2_1 l2_1.length c2_1] 39) = w2 at F0 F1 B2 ⊢
   have f0 := cell_regrown F0.out
   have f1 := cell_regrown F1.out
   have HC := aM (HN.out w2 B2.out)
   clear F0 F1 HN
   refine wp_region_quiet_below (by kernel_rfl) (by kernel_rfl) ?_
   repeat (go_big_quiet_step (exact HC.out _ _))
   refine wpQuiet_nil ?_
   intro _ hw'
   obtain ⟨⟨dq, osq⟩, hw''⟩ := hw'
   subst hw''
   go_wp2
   go_ret
   exact ⟨rfl, below_then B2.out B2.out.size (below_regrown _ _ _)⟩
  ·rw [if_neg c2] at h
   exact absurd h (by simp)
 ·rw [if_neg c1] at h
  obtain rfl := Option.some.inj h
  have b0 : (a1_0 == a2_0) = false := by simpa using c1
  have b1 : (a1_0 != a2_0) = true := by simpa using c1
  go_enter Tryd.func68, Tryd.ntmps68
  go_wp2
  go_ret
  exact ⟨rfl, below_alloc (below_alloc (Below.refl _ _) _) _⟩


/-! ### impl_HaveSameKey: function 23 -/
def impl_HaveSameKey.f (l0 : List (S68)) (a1_0 : Int) (l1_1 : List Int) (a2_0 : Int) (l2_1 : List Int) : Option (Bool) := (impl_IsValidFact.f l0 a1_0 l1_1).bind fun t437 => (if t437 = true then ((impl_IsValidFact.f l0 a2_0 l2_1).bind fun t438 => (if t438 = true then ((impl_sameKey.f l0 a1_0 l1_1 a2_0 l2_1).bind fun t439 => (some t439)) else (some false))) else (some false))
set_option maxHeartbeats 8000000 in
set_option maxRecDepth 100000 in
theorem impl_HaveSameKey.calls (A0 : Option Addr) (c0 : Nat) (l0 : List (S68)) (a1_0 : Int) (A1_1 : Option Addr) (c1_1 : Nat) (l1_1 : List Int) (a2_0 : Int) (A2_1 : Option Addr) (c2_1 : Nat) (l2_1 : List Int) (r : Bool) (w : World) (hr0 : Kd.C k68 w A0 l0.length l0) (hc0 : l0.length ≤ c0) (hr1_1 : Kd.C (Kd.int .i64) w A1_1 l1_1.length l1_1) (hc1_1 : l1_1.length ≤ c1_1) (hr2_1 : Kd.C (Kd.int .i64) w A2_1 l2_1.length l2_1) (hc2_1 : l2_1.length ≤ c2_1) (h : impl_HaveSameKey.f l0 a1_0 l1_1 a2_0 l2_1 = some r) :
  Calls Tryd.prog 23 #[.slice A0 l0.length c0, .agg #[.int .i64 a1_0, .slice A1_1 l1_1.length c1_1], .agg #[.int .i64 a2_0, .slice A2_1 l2_1.length c2_1]] w fun e w' => e = .returned (.bool r) ∧ Below w.heap.size w w' := by
 have hu39 := Tryd.underlying39
 obtain ⟨W, hW⟩ : ∃ W, (w.alloc (.cells #[.int .i64 a1_0, .slice A1_1 l1_1.length c1_1] 39)).alloc (.cells #[.int .i64 a2_0, .slice A2_1 l2_1.length c2_1] 39) = W := ⟨_, rfl⟩
 have q0 := qa (w := W) (p := ⟨w.heap.size, 0, none⟩) (v := .int .i64 a1_0) (by subst hW; go_simp)
 have q1 := qa (w := W) (p := ⟨w.heap.size, 1, none⟩) (v := .slice A1_1 l1_1.length c1_1) (by subst hW; go_simp)
 have q2 := qa (w := W) (p := ⟨w.heap.size + 1, 0, none⟩) (v := .int .i64 a2_0) (by subst hW; go_simp)
 have q3 := qa (w := W) (p := ⟨w.heap.size + 1, 1, none⟩) (v := .slice A2_1 l2_1.length c2_1) (by subst hW; go_simp)
 have HB : Below w.heap.size w W := by subst hW; exact zB
 have HW := Below.refl W.heap.size W
 have hb := aM HB
 unfold impl_HaveSameKey.f at h
 replace h := bs h; obtain ⟨t437, B0, h⟩ := h
 replace h := ib h; rcases h with ⟨rfl, h⟩ | ⟨rfl, h⟩
 replace h := bs h; obtain ⟨t438, B2, h⟩ := h
 replace h := ib h; rcases h with ⟨rfl, h⟩ | ⟨rfl, h⟩
 replace h := bs h; obtain ⟨t439, B4, h⟩ := h
 obtain rfl := si h
 rotate_left
 obtain rfl := si h
 rotate_left
 obtain rfl := si h
 rotate_left
 all_goals (go_enter Tryd.func23, Tryd.ntmps23; go_wp2_with (first | (go_at_call 50; refine (impl_IsValidFact.calls _ _ _ _ _ _ _ ?_ _ ?_ ?_ ?_ ?_ ?h).mono ?_; (case h => exact zA); (iterate 4 (first | exact zC | exact zA)); rintro e w1 ⟨rfl, hb⟩; replace hb := aM hb; have HW : Below W.heap.size W w1 := zB; have HB : Below w.heap.size w w1 := zB) | (go_at_call 68; refine (impl_sameKey.calls _ _ _ _ _ _ _ _ _ _ _ ?_ _ ?_ ?_ ?_ ?_ ?_ ?_ ?h).mono ?_; (case h => exact zA); (iterate 6 (first | exact zC | exact zA)); rintro e w1 ⟨rfl, hb⟩; replace hb := aM hb; have HW : Below W.heap.size W w1 := zB; have HB : Below w.heap.size w w1 := zB)); go_ret; exact zE zB)

/-! ### spec_KeyOf: function 69 -/
def spec_KeyOf.f (k : Nat) (l0 : List (S68)) (a1_0 : Int) (l1_1 : List Int) : Option (List Int) := (spec_IsValidFact.f k l0 a1_0 l1_1).bind fun t441 => (if t441 = true then ((some (([] : List Int) : List Int)).bind fun y442 => (if 0 ≤ a1_0 then (if a1_0 < (l0.length : Int) then (if 0 ≤ ((rd_T68 l0 a1_0).f2) then (if ((rd_T68 l0 a1_0).f2) ≤ (l1_1.length : Int) then (if y442.length + (l1_1.take (((rd_T68 l0 a1_0).f2) : Int).toNat).length < 17592186044416 then (some (y442 ++ (l1_1.take (((rd_T68 l0 a1_0).f2) : Int).toNat))) else (none)) else (none)) else (none)) else (none)) else (none))) else (some (([] : List Int))))
def spec_KeyOf.T3 : Bool × List (List Nat × List Nat) := (true, [([], []), ([], []), ([1], [1]), ([], []), ([], []), ([4], [4]), ([3, 5], [3, 5]), ([6], [6]), ([7], [7]), ([2, 8], [2, 8]), ([0, 9], [0, 9]), ([10, 10, 0, 1, 2, 3, 4, 5, 6, 7, 8, 9, 10], [10])])
def spec_KeyOf.B3 : List Nat := [0, 0, 2, 0, 0, 16, 56, 120, 248, 510, 1023, 2047]
theorem spec_KeyOf.tab3 : rtab .any (opsOf Tryd.f69 3) = spec_KeyOf.T3 := by kernel_rfl
theorem spec_KeyOf.bits3 : waitsOk spec_KeyOf.T3.2 spec_KeyOf.B3 = true := by kernel_rfl
set_option maxHeartbeats 8000000 in
set_option maxRecDepth 100000 in
theorem spec_KeyOf.calls (k : Nat) (A0 : Option Addr) (c0 : Nat) (l0 : List (S68)) (a1_0 : Int) (A1_1 : Option Addr) (c1_1 : Nat) (l1_1 : List Int) (r : List Int) (w : World) (hr0 : Kd.C k68 w A0 l0.length l0) (hc0 : l0.length ≤ c0) (hr1_1 : Kd.C (Kd.int .i64) w A1_1 l1_1.length l1_1) (hc1_1 : l1_1.length ≤ c1_1) (h : spec_KeyOf.f k l0 a1_0 l1_1 = some r) :
  Calls Tryd.prog 69 #[.slice A0 l0.length c0, .agg #[.int .i64 a1_0, .slice A1_1 l1_1.length c1_1]] w fun e w' => ∃ v0_ : Value, e = .returned (v0_) ∧ Kd.R (Kd.int .i64) 3 w' w.heap.size (fun _ => True) v0_ r ∧ Below w.heap.size w w' := by
 have hu39 := Tryd.underlying39
 have HR0 := aM hr0
 have HC0 := aM hc0
 clear hr0 hc0
 have HR1_1 := aM hr1_1
 have HC1_1 := aM hc1_1
 clear hr1_1 hc1_1
 have HB := aM (Below.refl w.heap.size w)
 have H : ((spec_IsValidFact.f k l0 a1_0 l1_1).bind fun t441 => (if t441 = true then ((some (([] : List Int) : List Int)).bind fun y442 => (if 0 ≤ a1_0 then (if a1_0 < (l0.length : Int) then (if 0 ≤ ((rd_T68 l0 a1_0).f2) then (if ((rd_T68 l0 a1_0).f2) ≤ (l1_1.length : Int) then (if y442.length + (l1_1.take (((rd_T68 l0 a1_0).f2) : Int).toNat).length < 17592186044416 then (some (y442 ++ (l1_1.take (((rd_T68 l0 a1_0).f2) : Int).toNat))) else (none)) else (none)) else (none)) else (none)) else (none))) else (some (([] : List Int))))) = some r := h
 clear h
 replace H := bM H
 obtain ⟨t441, A30, H⟩ := H
 have A3 := aM A30
 clear A30
 by_cases c4 : t441 = true
 ·subst c4
  replace H := iT H
  obtain ⟨y442, hy442⟩ : ∃ y_ : List Int, y_ = (([] : List Int)) := ⟨_, rfl⟩
  first | replace H := bY hy442 H | rw [← hy442] at H
  have Ny442 := aM hy442
  clear hy442
  by_cases c5 : 0 ≤ a1_0
  ·rw [if_pos c5] at H
   have c5b0 : decide (0 ≤ a1_0) = true := decide_eq_true c5
   clear c5
   by_cases c6 : a1_0 < (l0.length : Int)
   ·rw [if_pos c6] at H
    have c6b0 : decide (a1_0 < (l0.length : Int)) = true := decide_eq_true c6
    clear c6
    by_cases c7 : 0 ≤ ((rd_T68 l0 a1_0).f2)
    ·rw [if_pos c7] at H
     have c7b0 := eq_true c7
     have c7b1 : decide (0 ≤ ((rd_T68 l0 a1_0).f2)) = true := decide_eq_true c7
     clear c7
     by_cases c8 : ((rd_T68 l0 a1_0).f2) ≤ (l1_1.length : Int)
     ·rw [if_pos c8] at H
      have c8b0 := eq_true c8
      have c8b1 : decide (((rd_T68 l0 a1_0).f2) ≤ (l1_1.length : Int)) = true := decide_eq_true c8
      clear c8
      by_cases c9 : y442.length + (l1_1.take (((rd_T68 l0 a1_0).f2) : Int).toNat).length < 17592186044416
      ·rw [if_pos c9] at H
       have LMc9 := aM c9
       clear c9
       obtain ⟨y447, hy447⟩ : ∃ y_ : List Int, y_ = (y442 ++ (l1_1.take (((rd_T68 l0 a1_0).f2) : Int).toNat)) := ⟨_, rfl⟩
       first | replace H := bY hy447 H | rw [← hy447] at H
       have Ny447 := aM hy447
       clear hy447
       obtain rfl := Option.some.inj H
       go_enter Tryd.func69, Tryd.ntmps69
       try go_wp2_with (first | ((with_reducible refine gate_dst (N := 3) rfl ?_); refine bE 3 (cs := #[.int .i64 a1_0, .slice A1_1 l1_1.length c1_1]) (t := 39) ?_; intro gb440 hg w10 hbox hb; have BK440 := aM (hbox); have GW440 := aM ((by rw [hg]; exact (below_size aB) : w.heap.size ≤ gb440)); have GE440 := aM ((by rw [hg]; exact (below_size aB) : w.heap.size ≤ gb440)); replace HB := aM (below_step aB hb); clear hb hbox hg; have hcz11_0 : w10.cell? ⟨gb440, 0, none⟩ = some (.int .i64 a1_0) := (blk_cell BK440.out 0).trans rfl; have hcz11_1 : w10.cell? ⟨gb440, 1, none⟩ = some (.slice A1_1 l1_1.length c1_1) := (blk_cell BK440.out 1).trans rfl; have hfz11_0 := blk_frozen BK440.out 0; have hfz11_1 := blk_frozen BK440.out 1) | ((with_reducible refine gate_callee (f := 20) rfl ?_); refine goesL_ (some 7) rfl rfl Tryd.func20 (by kernel_rfl) rfl #[.slice A0 l0.length c0, .agg #[.int .i64 a1_0, .slice A1_1 l1_1.length c1_1]] rfl aA ?_; (with_reducible refine (spec_IsValidFact.calls k _ _ l0 a1_0 _ _ l1_1 true _ ?side1 ?side2 ?side3 ?side4 A3.out).mono ?_); (case side1 => exact aC); (case side2 => exact HC0.out); (case side3 => exact aC); (case side4 => exact HC1_1.out); rintro e w12 ⟨rfl, hb⟩; refine ⟨_, rfl, ?_⟩; replace BK440 := aM (kB gb440 #[.int .i64 a1_0, .slice A1_1 l1_1.length c1_1] 39 hb); replace HB := aM (below_step aG hb); (try clear hb); (try clear hb2); (try clear hk); (try clear hi)))
       replace BK440 := aM (blk_drew BK440.out)
       replace HB := aM (below_drew1 HB.out)
       have p445 : 0 ≤ (a1_0 : Int) := aD
       have q445 : a1_0 < (l0.length : Int) := aD
       obtain ⟨ad445, e445, hx445_0, hx445_1, hx445_2⟩ := at_T68 HR0.out a1_0 p445 q445
       have hw445_2 := hx445_2
       have hw445_1 := hx445_1
       have hw445_0 := hx445_0
       cases e445
       replace hx445_0 := (HB.out.cell (World.block_lt_of_cell? w _ hx445_0)).trans hx445_0
       replace hx445_1 := (HB.out.cell (World.block_lt_of_cell? w _ hx445_1)).trans hx445_1
       replace hx445_2 := (HB.out.cell (World.block_lt_of_cell? w _ hx445_2)).trans hx445_2
       replace p445 := eq_true p445
       replace q445 := eq_true q445
       obtain ⟨i014, hi014, _, hsz14, _⟩ := info_parts info3
       obtain ⟨hcut14, hA14, hC14⟩ := print_take_of (P := Tryd.prog) (Value.int .i64) 0 37 3 .i64 Tryd.underlying37 hi014 hsz14 A1_1 c1_1 l1_1 ((rd_T68 l0 a1_0).f2) (aD) (aD) HC1_1.out
       have HR446 := aM (Kd.C_of_reads (h1 := fun _ => rfl) (hA14 _ (Kd.reads_of_C HR1_1.out)))
       have HC446 := aM hC14
       clear hA14 hC14 hi014 hsz14
       refine start_ (n := 12) (S := fun w' => w'.cell? ⟨gb440, 0, none⟩ = some (.int .i64 a1_0) ∧ w'.cell? ⟨gb440, 1, none⟩ = some (.slice A1_1 l1_1.length c1_1) ∧ w'.cell? (ad445.add ((a1_0).toNat * 3)) = some (.string ((rd_T68 l0 a1_0).f0)) ∧ w'.cell? ⟨(ad445.add ((a1_0).toNat * 3)).block, (ad445.add ((a1_0).toNat * 3)).off + 1, none⟩ = some (.int .i64 ((rd_T68 l0 a1_0).f1)) ∧ w'.cell? ⟨(ad445.add ((a1_0).toNat * 3)).block, (ad445.add ((a1_0).toNat * 3)).off + 2, none⟩ = some (.int .i64 ((rd_T68 l0 a1_0).f2))) (ds := []) #[false, false, false, false, false, false, false, false, false, false, false, false] (by kernel_rfl) rfl rfl ⟨(blk_cell BK440.out 0).trans rfl, (blk_cell BK440.out 1).trans rfl, (pw_cell_below HB.out hw445_0), (pw_cell_below HB.out hw445_1), (pw_cell_below HB.out hw445_2)⟩ (fun hHeld => ?_); refine with_tabW spec_KeyOf.tab3 spec_KeyOf.bits3 (fun HT_ HW_ => ?_)
       generalize w12.drew = w13 at BK440 HB HR446 hx445_0 hx445_1 hx445_2 hHeld ⊢
       refine pU 1 11 ?_
       refine pU 3 13 ?_
       refine pU 4 14 ?_
       refine tU5 2 12 hHeld ?_
       refine tU5 5 15 hHeld ?_
       refine pU 6 16 ?_
       refine pU 7 17 ?_
       refine tU5 8 18 hHeld ?_
       refine pU 9 19 ?_
       refine oU 0 10 (fun K hK => ?_)
       refine Kd.R_lit_step (Kd.int .i64) _ 3 ?hg (N := 10) ?hd (xs := ([] : List Int)) (inner := []) (ok := fun _ => True) (okp := fun _ => True) ?hr ?hp (fun _ hk => hk) trivial (Below.refl _ _) (Nat.le_refl _) (by simp) ?_; (case hd => rfl); (case hg => rfl); (case hr => first | (go_simp; done) | (go_simp; rfl)); (case hp => exact (Reps.none _ _))
       intro v443 w15 ho16 hb hg_ hnew_
       clear hg_ hnew_
       (first | rw [← Ny442.out] at ho16 | (simp only [Int.reduceToNat] at ho16; rw [← Ny442.out] at ho16))
       have HO444 := aM (Kd.R_lower ho16 (below_size aG))
       replace BK440 := aM (kB gb440 #[.int .i64 a1_0, .slice A1_1 l1_1.length c1_1] 39 hb)
       replace HB := aM (below_step aG hb)
       clear hb ho16
       refine hK.out _ _ ⟨(blk_cell BK440.out 0).trans rfl, (blk_cell BK440.out 1).trans rfl, (pw_cell_below HB.out hw445_0), (pw_cell_below HB.out hw445_1), (pw_cell_below HB.out hw445_2)⟩ (fun hHeld => ?_)
       clear hK K
       refine nU 10 ?_
       refine oU 10 20 (fun K hK => ?_)
       refine Kd.R_append_rows_step (Kd.int .i64) (w0 := w) w.heap.size (by rfl) (.tmp 10) (.tmp 19) 37 3 (.int .i64 0) 8 rfl Tryd.underlying37 info3 rfl (by decide) (by omega) v443 y442 (l1_1.take (((rd_T68 l0 a1_0).f2) : Int).toNat) _ _ _ (fun _ => True) (fun _ => False) rfl rfl ?aO ?aR (fun _ _ h => h) (fun _ h => h.elim) ?aF ?aB ?aS ?aL ?_
       (case aR => first | (rw (occs := .pos [1]) [← show (l1_1.take (((rd_T68 l0 a1_0).f2) : Int).toNat).length = ((rd_T68 l0 a1_0).f2).toNat from (by rw [List.length_take]; have h_ : (((rd_T68 l0 a1_0).f2) : Int) ≤ (l1_1.length : Int) := aD; omega)]; repeat (first | exact (Kd.C_below HR446.out HB.out) | (with_reducible refine pC ?_)); done) | (rw (occs := .pos [2]) [← show (l1_1.take (((rd_T68 l0 a1_0).f2) : Int).toNat).length = ((rd_T68 l0 a1_0).f2).toNat from (by rw [List.length_take]; have h_ : (((rd_T68 l0 a1_0).f2) : Int) ≤ (l1_1.length : Int) := aD; omega)]; repeat (first | exact (Kd.C_below HR446.out HB.out) | (with_reducible refine pC ?_)); done) | (rw [← show (l1_1.take (((rd_T68 l0 a1_0).f2) : Int).toNat).length = ((rd_T68 l0 a1_0).f2).toNat from (by rw [List.length_take]; have h_ : (((rd_T68 l0 a1_0).f2) : Int) ≤ (l1_1.length : Int) := aD; omega)]; repeat (first | exact (Kd.C_below HR446.out HB.out) | (with_reducible refine pC ?_)); done) | (exact aC))
       (case aB => exact aG)
       (case aF => exact (fun _ _ => trivial))
       (case aO => exact (aR HO444))
       (case aS => exact (below_size aG))
       (case aL => have := LMc9.out; have hlx_ := (show (l1_1.take (((rd_T68 l0 a1_0).f2) : Int).toNat).length = ((rd_T68 l0 a1_0).f2).toNat from (by rw [List.length_take]; have h_ : (((rd_T68 l0 a1_0).f2) : Int) ≤ (l1_1.length : Int) := aD; omega)); omega)
       intro v448 w17 ho hb hg hat
       rw [← Ny447.out] at ho
       have HO449 := aM (ho)
       replace BK440 := aM (blk_grown (g := gb440) (o := .cells #[.int .i64 a1_0, .slice A1_1 l1_1.length c1_1] 39 (0, 0)) aK hg (Kd.R_ne HO444.out BK440.out (by decide)))
       replace HB := aM (hb)
       clear HO444
       clear ho hb hg hat
       refine hK.out _ _ ⟨(blk_cell BK440.out 0).trans rfl, (blk_cell BK440.out 1).trans rfl, (pw_cell_below HB.out hw445_0), (pw_cell_below HB.out hw445_1), (pw_cell_below HB.out hw445_2)⟩ (fun hHeld => ?_)
       clear hK K
       refine nU 20 ?_
       refine pU 11 4 ?_
       refine done_ (done_of HT_.out (by kernel_rfl)) ?_
       try go_wp2
       go_ret
       exact ⟨_, aE, aR HO449, aG⟩
      ·rw [if_neg c9] at H
       exact absurd H (by simp)
     ·rw [if_neg c8] at H
      exact absurd H (by simp)
    ·rw [if_neg c7] at H
     exact absurd H (by simp)
   ·rw [if_neg c6] at H
    exact absurd H (by simp)
  ·rw [if_neg c5] at H
   exact absurd H (by simp)
 ·replace c4 := Bool.eq_false_iff.mpr c4
  subst c4
  have H1 : (some (([] : List Int))) = some r := by rw [if_neg (show ¬ (false = true) by decide)] at H; exact H
  clear H
  have H := H1
  clear H1
  obtain ⟨y450, hy450⟩ : ∃ y_ : List Int, y_ = (([] : List Int)) := ⟨_, rfl⟩
  first | replace H := bY hy450 H | rw [← hy450] at H
  have Ny450 := aM hy450
  clear hy450
  obtain rfl := Option.some.inj H
  go_enter Tryd.func69, Tryd.ntmps69
  go_wp2_with (first | ((with_reducible refine gate_dst (N := 3) rfl ?_); refine bE 3 (cs := #[.int .i64 a1_0, .slice A1_1 l1_1.length c1_1]) (t := 39) ?_; intro gb440 hg w18 hbox hb; have BK440 := aM (hbox); have GW440 := aM ((by rw [hg]; exact (below_size aB) : w.heap.size ≤ gb440)); have GE440 := aM ((by rw [hg]; exact (below_size aB) : w.heap.size ≤ gb440)); replace HB := aM (below_step aB hb); clear hb hbox hg; have hcz19_0 : w18.cell? ⟨gb440, 0, none⟩ = some (.int .i64 a1_0) := (blk_cell BK440.out 0).trans rfl; have hcz19_1 : w18.cell? ⟨gb440, 1, none⟩ = some (.slice A1_1 l1_1.length c1_1) := (blk_cell BK440.out 1).trans rfl; have hfz19_0 := blk_frozen BK440.out 0; have hfz19_1 := blk_frozen BK440.out 1) | ((with_reducible refine gate_callee (f := 20) rfl ?_); refine goesL_ (some 7) rfl rfl Tryd.func20 (by kernel_rfl) rfl #[.slice A0 l0.length c0, .agg #[.int .i64 a1_0, .slice A1_1 l1_1.length c1_1]] rfl aA ?_; (with_reducible refine (spec_IsValidFact.calls k _ _ l0 a1_0 _ _ l1_1 false _ ?side1 ?side2 ?side3 ?side4 A3.out).mono ?_); (case side1 => exact aC); (case side2 => exact HC0.out); (case side3 => exact aC); (case side4 => exact HC1_1.out); rintro e w20 ⟨rfl, hb⟩; refine ⟨_, rfl, ?_⟩; replace BK440 := aM (kB gb440 #[.int .i64 a1_0, .slice A1_1 l1_1.length c1_1] 39 hb); replace HB := aM (below_step aG hb); (try clear hb); (try clear hb2); (try clear hk); (try clear hi)) | ((with_reducible refine gate_dst (N := 9) rfl ?_); refine Kd.R_lit (Kd.int .i64) _ 3 ?hg (N := 9) ?hd (xs := ([] : List Int)) (inner := []) (ok := fun _ => True) (okp := fun _ => True) ?hr ?hp (fun _ hk => hk) trivial (Below.refl _ _) (Nat.le_refl _) (by simp) ?_; (case hd => rfl); (case hg => rfl); (case hr => first | (go_simp; done) | (go_simp; rfl)); (case hp => exact (Reps.none _ _)); intro v451 w21 ho22 hb hg_ hnew_; clear hg_ hnew_; (first | rw [← Ny450.out] at ho22 | (simp only [Int.reduceToNat] at ho22; rw [← Ny450.out] at ho22)); have HO452 := aM (Kd.R_lower ho22 (below_size aG)); replace BK440 := aM (kB gb440 #[.int .i64 a1_0, .slice A1_1 l1_1.length c1_1] 39 hb); replace HB := aM (below_step aG hb); clear hb ho22))
  go_ret
  exact ⟨_, aE, aR HO452, aG⟩

/-! ### spec_HaveSameKey: function 24 -/
def spec_HaveSameKey.f (k : Nat) (l0 : List (S68)) (a1_0 : Int) (l1_1 : List Int) (a2_0 : Int) (l2_1 : List Int) : Option (Bool) := (spec_IsValidFact.f k l0 a1_0 l1_1).bind fun t455 => (if t455 = true then ((spec_IsValidFact.f k l0 a2_0 l2_1).bind fun t456 => (if t456 = true then (if a1_0 = a2_0 then ((spec_KeyOf.f k l0 a1_0 l1_1).bind fun t457 => ((spec_KeyOf.f k l0 a2_0 l2_1).bind fun t460 => ((spec_l3Ints.f k t457 t460).bind fun t463 => (some (t463 == 0))))) else (some false)) else (some false))) else (some false))
set_option maxHeartbeats 8000000 in
set_option maxRecDepth 100000 in
theorem spec_HaveSameKey.calls (k : Nat) (A0 : Option Addr) (c0 : Nat) (l0 : List (S68)) (a1_0 : Int) (A1_1 : Option Addr) (c1_1 : Nat) (l1_1 : List Int) (a2_0 : Int) (A2_1 : Option Addr) (c2_1 : Nat) (l2_1 : List Int) (r : Bool) (w : World) (hr0 : Kd.C k68 w A0 l0.length l0) (hc0 : l0.length ≤ c0) (hr1_1 : Kd.C (Kd.int .i64) w A1_1 l1_1.length l1_1) (hc1_1 : l1_1.length ≤ c1_1) (hr2_1 : Kd.C (Kd.int .i64) w A2_1 l2_1.length l2_1) (hc2_1 : l2_1.length ≤ c2_1) (h : spec_HaveSameKey.f k l0 a1_0 l1_1 a2_0 l2_1 = some r) :
  Calls Tryd.prog 24 #[.slice A0 l0.length c0, .agg #[.int .i64 a1_0, .slice A1_1 l1_1.length c1_1], .agg #[.int .i64 a2_0, .slice A2_1 l2_1.length c2_1]] w fun e w' => e = .returned (.bool r) ∧ Below w.heap.size w w' := by
 have hu39 := Tryd.underlying39
 obtain ⟨W, hW⟩ : ∃ W, (w.alloc (.cells #[.int .i64 a1_0, .slice A1_1 l1_1.length c1_1] 39)).alloc (.cells #[.int .i64 a2_0, .slice A2_1 l2_1.length c2_1] 39) = W := ⟨_, rfl⟩
 have q0 := qa (w := W) (p := ⟨w.heap.size, 0, none⟩) (v := .int .i64 a1_0) (by subst hW; go_simp)
 have q1 := qa (w := W) (p := ⟨w.heap.size, 1, none⟩) (v := .slice A1_1 l1_1.length c1_1) (by subst hW; go_simp)
 have q2 := qa (w := W) (p := ⟨w.heap.size + 1, 0, none⟩) (v := .int .i64 a2_0) (by subst hW; go_simp)
 have q3 := qa (w := W) (p := ⟨w.heap.size + 1, 1, none⟩) (v := .slice A2_1 l2_1.length c2_1) (by subst hW; go_simp)
 have HB : Below w.heap.size w W := by subst hW; exact zB
 have HW := Below.refl W.heap.size W
 have hb := aM HB
 have rg_ := @bcl w
 have rd_ := @bdr w
 have rG_ := @bcl W
 have rD_ := @bdr W
 unfold spec_HaveSameKey.f at h
 replace h := bs h; obtain ⟨t455, B0, h⟩ := h
 replace h := ib h; rcases h with ⟨rfl, h⟩ | ⟨rfl, h⟩
 replace h := bs h; obtain ⟨t456, B2, h⟩ := h
 replace h := ib h; rcases h with ⟨rfl, h⟩ | ⟨rfl, h⟩
 replace h := iq h; rcases h with ⟨c4, ⟨c4a, c4b⟩, h⟩ | ⟨c4, ⟨c4a, c4b⟩, h⟩
 replace h := bs h; obtain ⟨t457, B5, h⟩ := h
 replace h := bs h; obtain ⟨t460, B6, h⟩ := h
 replace h := bs h; obtain ⟨t463, B7, h⟩ := h
 obtain rfl := si h
 rotate_left
 obtain rfl := si h
 rotate_left
 obtain rfl := si h
 rotate_left
 obtain rfl := si h
 rotate_left
 all_goals (go_enter Tryd.func24, Tryd.ntmps24; go_wp2; (repeat ((refine nw (w0 := w) zB ?_; intro W1 HB hb hd; have HW : Below W.heap.size W W1 := zB; (first | (refine Txt.rg (id := 1) [0, 1, 2, 3, 4, 5, 6, 7, 8, 9, 10, 11, 12, 13, 14, 15, 16, 17, 19, 20, 18, 21, 22, 23, 24, 25] (by kernel_rfl) (by kernel_rfl) ?_; simp only [List.map_cons, List.map_nil, List.getD_cons_zero, List.getD_cons_succ])); (repeat (first | (refine Txt.off rfl ?_; simp only [Act.put, List.setIfInBounds_toArray, List.set_cons_zero, List.set_cons_succ]) | (refine Txt.take rfl rfl ?_; intro K hK; go_big_quiet_op; go_big_quiet_on) | (refine Txt.call rfl rfl Tryd.func20 (by kernel_rfl) rfl (spec_IsValidFact.calls ?_ _ _ _ _ _ _ _ ?_ _ ?_ ?_ ?_ ?_ ?h) rfl ?_; (case h => exact zA); (iterate 4 (first | exact zC | exact zA)); rintro e w1 ⟨rfl, hb⟩; replace hb := aM hb; have HW : Below W.heap.size W w1 := zB; have HB : Below w.heap.size w w1 := zB; refine ⟨_, rfl, zS, ?_⟩; simp only [Act.put, List.setIfInBounds_toArray, List.set_cons_zero, List.set_cons_succ]) | (refine Txt.call rfl rfl Tryd.func69 (by kernel_rfl) rfl (spec_KeyOf.calls ?_ _ _ _ _ _ _ _ ?_ _ ?_ ?_ ?_ ?_ ?h) rfl ?_; (case h => exact zA); (iterate 4 (first | exact zC | exact zA)); rintro e w1 ⟨v0, rfl, ho0, hb⟩; obtain ⟨A0, c0, rfl, hc0, hC0⟩ := Kd.R_reads ho0; replace hb := aM hb; have HW : Below W.heap.size W w1 := zB; have HB : Below w.heap.size w w1 := zB; refine ⟨_, rfl, zS, ?_⟩; simp only [Act.put, List.setIfInBounds_toArray, List.set_cons_zero, List.set_cons_succ]) | (refine Txt.call rfl rfl Tryd.func67 (by kernel_rfl) rfl (spec_l3Ints.calls ?_ _ _ _ _ _ _ ?_ _ ?_ ?_ ?_ ?_ ?h) rfl ?_; (case h => exact zA); (iterate 4 (first | exact zC | exact zA)); rintro e w1 ⟨rfl, hb⟩; replace hb := hb.below; replace hb := aM hb; have HW : Below W.heap.size W w1 := zB; have HB : Below w.heap.size w w1 := zB; refine ⟨_, rfl, zS, ?_⟩; simp only [Act.put, List.setIfInBounds_toArray, List.set_cons_zero, List.set_cons_succ]))); refine Txt.nil ?_); (try go_wp2))); go_ret; exact zE zB)

/-! ### laws_sameInts: function 25 -/
def laws_sameInts.l0 : Nat → List Int → List Int → Int → Option (Bool)
 | 0, _, _, _ => none
 | k + 1, x0, x1, x5 => if x5 < (x0.length : Int) then (if 0 ≤ x5 then (if x5 < (x1.length : Int) then (if (rd x0 x5) = (rd x1 x5) then (laws_sameInts.l0 k x0 x1 (wrap64 (x5 + 1))) else (some false)) else (none)) else (none)) else (some true)
def laws_sameInts.f (k : Nat) (l0 : List Int) (l1 : List Int) : Option (Bool) := if (l0.length : Int) = (l1.length : Int) then (laws_sameInts.l0 k l0 l1 0) else (some false)
set_option maxHeartbeats 8000000 in
set_option maxRecDepth 100000 in
theorem laws_sameInts.calls (k : Nat) (A0 : Option Addr) (c0 : Nat) (l0 : List Int) (A1 : Option Addr) (c1 : Nat) (l1 : List Int) (r : Bool) (w : World) (hr0 : Kd.C (Kd.int .i64) w A0 l0.length l0) (hc0 : l0.length ≤ c0) (hr1 : Kd.C (Kd.int .i64) w A1 l1.length l1) (hc1 : l1.length ≤ c1) (h : laws_sameInts.f k l0 l1 = some r) :
  Calls Tryd.prog 25 #[.slice A0 l0.length c0, .slice A1 l1.length c1] w fun e w' => e = .returned (.bool r) ∧ Drawn0 w w' := by
 have rg_ := @bcl w
 have rd_ := @bdr w
 unfold laws_sameInts.f at h
 replace h := iq h; rcases h with ⟨c0, ⟨c0a, c0b⟩, h⟩ | ⟨c0, ⟨c0a, c0b⟩, h⟩
 have cz := c0.out
 have c0x1 : (l0.length == l1.length) = true := by first | simpa using cz | (simp at cz ⊢; omega)
 clear cz
 ·go_enter Tryd.func25, Tryd.ntmps25
  go_wp2
  (repeat ((refine nw (w0 := w) zB ?_; intro W1 HB hb hd; (first | (refine Txt.rg (id := 6) [0, 1, 2, 3, 4, 5, 6, 7, 8] (by kernel_rfl) (by kernel_rfl) ?_; simp only [List.map_cons, List.map_nil, List.getD_cons_zero, List.getD_cons_succ])); (repeat (first | (refine Txt.off rfl ?_; simp only [Act.put, List.setIfInBounds_toArray, List.set_cons_zero, List.set_cons_succ]) | (refine Txt.take rfl rfl ?_; intro K hK; go_big_quiet_op; go_big_quiet_on))); refine Txt.nil ?_); (try go_wp2)))
  go_loopg [5] k (fun kq v5 w' => ∃ (x5_1 : Int), v5 = .int .i64 x5_1 ∧ laws_sameInts.l0 kq l0 l1 x5_1 = some r ∧ Drawn0 w w')
  case atStart => exact ⟨_, zR, zA, zD⟩
  case round =>
   clear h
   obtain ⟨x5_1, rfl, h, hb⟩ := hrel
   have hd := hb
   replace hb := hb.below
   replace hb := aM hb
   have HB : Below w.heap.size w wr := zB
   rcases gk with _ | kk1
   exact absurd h (by simp [laws_sameInts.l0])
   simp only [laws_sameInts.l0] at h
   replace h := il h; rcases h with ⟨c2, c2a, h⟩ | ⟨c2, c2a, h⟩
   replace h := ie h; rcases h with ⟨c3, c3a, h⟩ | ⟨c3, c3a, h⟩
   replace h := il h; rcases h with ⟨c4, c4a, h⟩ | ⟨c4, c4a, h⟩
   replace h := iq h; rcases h with ⟨c5, ⟨c5a, c5b⟩, h⟩ | ⟨c5, ⟨c5a, c5b⟩, h⟩
   obtain ⟨kf, hkf⟩ : ∃ kf, kf = kk1 := ⟨_, rfl⟩; rw [← hkf] at h
   obtain ⟨ad464, e464, hx464_0⟩ := Kd.at_int hr0 (x5_1 : Int) aD aD
   have p464 := eq_true (aD : 0 ≤ (x5_1 : Int))
   have q464 := eq_true (aD : x5_1 < (l0.length : Int))
   cases e464
   replace hx464_0 := qa hx464_0
   obtain ⟨ad465, e465, hx465_0⟩ := Kd.at_int hr1 (x5_1 : Int) aD aD
   have p465 := eq_true (aD : 0 ≤ (x5_1 : Int))
   have q465 := eq_true (aD : x5_1 < (l1.length : Int))
   cases e465
   replace hx465_0 := qa hx465_0
   rotate_left
   obtain rfl := si h
   obtain ⟨ad464, e464, hx464_0⟩ := Kd.at_int hr0 (x5_1 : Int) aD aD
   have p464 := eq_true (aD : 0 ≤ (x5_1 : Int))
   have q464 := eq_true (aD : x5_1 < (l0.length : Int))
   cases e464
   replace hx464_0 := qa hx464_0
   obtain ⟨ad465, e465, hx465_0⟩ := Kd.at_int hr1 (x5_1 : Int) aD aD
   have p465 := eq_true (aD : 0 ≤ (x5_1 : Int))
   have q465 := eq_true (aD : x5_1 < (l1.length : Int))
   cases e465
   replace hx465_0 := qa hx465_0
   rotate_left
   exact absurd h (by simp)
   exact absurd h (by simp)
   obtain rfl := si h
   rotate_left
   all_goals (go_wp2; (repeat ((refine nw (w0 := w) zB ?_; intro W1 HB hb hd; (first | (refine Txt.rg (id := 6) [0, 1, 2, 3, 4, 5, 6, 7, 8] (by kernel_rfl) (by kernel_rfl) ?_; simp only [List.map_cons, List.map_nil, List.getD_cons_zero, List.getD_cons_succ])); (repeat (first | (refine Txt.off rfl ?_; simp only [Act.put, List.setIfInBounds_toArray, List.set_cons_zero, List.set_cons_succ]) | (refine Txt.take rfl rfl ?_; intro K hK; go_big_quiet_op; go_big_quiet_on))); refine Txt.nil ?_); (try go_wp2))); first | (go_ret; exact zE zD) | (go_roundg kf; (case measure => omega); (case rel => exact ⟨_, zR, zA, zD⟩)))
 have cz := c0.out
 have c0x1 : (l0.length == l1.length) = false := by first | simpa using cz | (simp at cz ⊢; omega)
 clear cz
 obtain rfl := si h
 rotate_left
 all_goals (go_enter Tryd.func25, Tryd.ntmps25; go_wp2; (repeat ((refine nw (w0 := w) zB ?_; intro W1 HB hb hd; (first | (refine Txt.rg (id := 6) [0, 1, 2, 3, 4, 5, 6, 7, 8] (by kernel_rfl) (by kernel_rfl) ?_; simp only [List.map_cons, List.map_nil, List.getD_cons_zero, List.getD_cons_succ])); (repeat (first | (refine Txt.off rfl ?_; simp only [Act.put, List.setIfInBounds_toArray, List.set_cons_zero, List.set_cons_succ]) | (refine Txt.take rfl rfl ?_; intro K hK; go_big_quiet_op; go_big_quiet_on))); refine Txt.nil ?_); (try go_wp2))); go_ret; exact zE zD)

/-! ### slices_Clone_int_int: function 70 -/
def slices_Clone_int_int.f (l0 : List Int) : Option (List Int) := (some (([] : List Int) : List Int)).bind fun y466 => (if y466.length + l0.length < 17592186044416 then (some (y466 ++ l0)) else (none))
set_option maxHeartbeats 8000000 in
set_option maxRecDepth 100000 in
theorem slices_Clone_int_int.callsSome (ad0_ : Addr) (c0 : Nat) (l0 : List Int) (r : List Int) (w : World) (hr0 : Kd.C (Kd.int .i64) w (some ad0_) l0.length l0) (hc0 : l0.length ≤ c0) (h : slices_Clone_int_int.f l0 = some r) :
  Calls Tryd.prog 70 #[.slice (some ad0_) l0.length c0] w fun e w' => ∃ v0_ : Value, e = .returned (v0_) ∧ Kd.R (Kd.int .i64) 3 w' w.heap.size (fun _ => True) v0_ r ∧ Below w.heap.size w w' := by
 have HR0 := aM hr0
 have HC0 := aM hc0
 clear hr0 hc0
 have HB := aM (Below.refl w.heap.size w)
 have H : ((some (([] : List Int) : List Int)).bind fun y466 => (if y466.length + l0.length < 17592186044416 then (some (y466 ++ l0)) else (none))) = some r := h
 clear h
 obtain ⟨y466, hy466⟩ : ∃ y_ : List Int, y_ = (([] : List Int)) := ⟨_, rfl⟩
 first | replace H := bY hy466 H | rw [← hy466] at H
 have Ny466 := aM hy466
 clear hy466
 by_cases c2 : y466.length + l0.length < 17592186044416
 ·rw [if_pos c2] at H
  have LMc2 := aM c2
  clear c2
  obtain ⟨y469, hy469⟩ : ∃ y_ : List Int, y_ = (y466 ++ l0) := ⟨_, rfl⟩
  first | replace H := bY hy469 H | rw [← hy469] at H
  have Ny469 := aM hy469
  clear hy469
  obtain rfl := Option.some.inj H
  have hnl_ : ∀ W : World, (binOp .eql 37 (.slice (some ad0_) l0.length c0) (.slice none 0 0)).run Tryd.prog W = .ok (.bool false) W := fun W => by unfold binOp; simp [run_equal_slice_nil W 37 _ (some ad0_) l0.length c0 Tryd.underlying37]
  go_enter Tryd.func70, Tryd.ntmps70
  go_wp2_with (first | ((with_reducible refine gate_dst (N := 5) rfl ?_); refine Kd.R_lit (Kd.int .i64) _ 3 ?hg (N := 5) ?hd (xs := ([] : List Int)) (inner := []) (ok := fun _ => True) (okp := fun _ => True) ?hr ?hp (fun _ hk => hk) trivial (Below.refl _ _) (Nat.le_refl _) (by simp) ?_; (case hd => rfl); (case hg => rfl); (case hr => first | (go_simp; done) | (go_simp; rfl)); (case hp => exact (Reps.none _ _)); intro v467 w3 ho4 hb hg_ hnew_; clear hg_ hnew_; (first | rw [← Ny466.out] at ho4 | (simp only [Int.reduceToNat] at ho4; rw [← Ny466.out] at ho4)); have HO468 := aM (Kd.R_lower ho4 (below_size aB)); replace HB := aM (below_step aB hb); clear hb ho4) | ((with_reducible refine gate_builtin (b := .append) (xs := #[.tmp 5, .tmp 6]) rfl ?_); at_builtin; refine Kd.R_append_rows (Kd.int .i64) (w0 := w) w.heap.size rfl (.tmp 5) (.tmp 6) 37 3 (.int .i64 0) 8 rfl Tryd.underlying37 info3 rfl (by decide) (by omega) v467 y466 l0 _ _ _ (fun _ => True) (fun _ => False) rfl rfl ?aO ?aR (fun _ _ h => h) (fun _ h => h.elim) ?aF ?aB ?aS ?aL ?_; (case aR => exact aC); (case aB => exact aB); (case aF => exact (fun _ _ => trivial)); (case aO => exact (aR HO468)); (case aS => exact (below_size aB)); (case aL => have := LMc2.out; omega); intro v470 w5 ho hb hg hat; rw [← Ny469.out] at ho; have HO471 := aM (ho); replace HB := aM (hb); clear HO468; clear ho hb hg hat))
  go_ret
  exact ⟨_, aE, aR HO471, aB⟩
 ·rw [if_neg c2] at H
  exact absurd H (by simp)


set_option maxHeartbeats 4000000 in
theorem slices_Clone_int_int.calls (A0 : Option Addr) (c0 : Nat) (l0 : List Int) (r : List Int) (w : World) (hr0 : Kd.C (Kd.int .i64) w A0 l0.length l0) (hc0 : l0.length ≤ c0) (h : slices_Clone_int_int.f l0 = some r) :
  Calls Tryd.prog 70 #[.slice A0 l0.length c0] w fun e w' => ∃ v0_ : Value, e = .returned (v0_) ∧ Kd.R (Kd.int .i64) 3 w' w.heap.size (fun _ => True) v0_ r ∧ Below w.heap.size w w' := by
 cases A0 with
 | some ad => exact slices_Clone_int_int.callsSome ad c0 l0 r w hr0 hc0 h
 | none =>
  have hl : l0 = [] := by
   cases l0 with
   | nil => rfl
   | cons z zs =>
    obtain ⟨ad, e, _⟩ := Kd.at_int hr0 0 (Int.le_refl 0) (by simp only [List.length_cons]; omega)
    cases e
  subst hl
  have hr : r = [] := by
   unfold slices_Clone_int_int.f at h
   simpa using h.symm
  subst hr
  clear hr0 h
  have hnl_ : ∀ W : World, (binOp .eql 37 (.slice none 0 c0) (.slice none 0 0)).run Tryd.prog W = .ok (.bool true) W := fun W => by unfold binOp; simp [run_equal_slice_nil W 37 _ none 0 c0 Tryd.underlying37]
  simp only [List.length_nil]
  go_enter Tryd.func70, Tryd.ntmps70
  go_wp2
  go_ret
  exact ⟨_, rfl, Kd.R_nil _ _ _ _ _, by first | exact Below.refl _ _ | exact below_drew1 (Below.refl _ _) | exact pw_below_drewN (Below.refl _ _) _⟩

end Go.Proofs.YtckpikfbhlhhjaaDoor.PFnFactFormat
