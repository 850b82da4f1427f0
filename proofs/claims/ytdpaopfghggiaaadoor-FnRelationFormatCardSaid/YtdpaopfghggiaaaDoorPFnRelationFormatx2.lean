-- Laid by a program of this claim: what the functions come to, some of them proved by hand.
import Derived.Test.YtdpaopfghggiaaaDoorPFnRelationFormatx0
namespace Go.Proofs.YtdpaopfghggiaaaDoor.PFnRelationFormat
open Go.RowKit Go.Proofs.YtdpaopfghggiaaaDoorW.PrintWords Go.Proofs.YtdpaopfghggiaaaDoorW.PrintLast Go.Proofs.YtdpaopfghggiaaaDoorW.PrintMore
attribute [local go_sem] max2_int min2_int max_two min_two max_three min_three max_four min_four   -- for this text's walks alone
set_option linter.unusedVariables false
set_option linter.unusedSimpArgs false

/-! ### strconv_Itoa_52: function 52 -/
def strconv_Itoa_52.f (a0 : Int) : Option (ByteArray) := if -9223372036854775808 ≤ a0 then (if a0 ≤ 9223372036854775807 then (some (⟨(Lib.itoa a0).toArray⟩ : ByteArray)) else (none)) else (none)
theorem strconv_Itoa_52.calls (a0 : Int) (r : ByteArray) (w : World) (h : strconv_Itoa_52.f a0 = some r) (hp_ : Go.Proofs.YtdpaopfghggiaaaDoor.Shelf.Pow w) :
 Calls Tryd.prog 52 #[.int .i64 a0] w fun e w' => e = .returned (.string r) ∧ Below w.heap.size w w' := by
 unfold strconv_Itoa_52.f at h
 replace h := ie h; rcases h with ⟨c0, c0a, h⟩ | ⟨c0, c0a, h⟩
 replace h := ie h; rcases h with ⟨c1, c1a, h⟩ | ⟨c1, c1a, h⟩
 obtain rfl := si h
 exact Shelf.Itoa a0 c0.out c1.out w hp_
 exact absurd h (by simp)
 exact absurd h (by simp)


/-! ### impl_FormatInt: function 12 -/
def impl_FormatInt.f (a0 : Int) : Option (ByteArray) := (strconv_Itoa_52.f a0).bind fun t118 => (some t118)
set_option maxHeartbeats 8000000 in
set_option maxRecDepth 100000 in
theorem impl_FormatInt.calls (a0 : Int) (r : ByteArray) (w : World) (h : impl_FormatInt.f a0 = some r) (hp_ : Go.Proofs.YtdpaopfghggiaaaDoor.Shelf.Pow w) :
  Calls Tryd.prog 12 #[.int .i64 a0] w fun e w' => e = .returned (.string r) ∧ Below w.heap.size w w' := by
 unfold impl_FormatInt.f at h
 replace h := bs h; obtain ⟨t118, B0, h⟩ := h
 obtain rfl := si h
 rotate_left
 all_goals (go_enter Tryd.func12, Tryd.ntmps12; go_wp2_with (first | (go_at_call 52; refine (strconv_Itoa_52.calls _ ?_ _ ?h ?hp).mono ?_; (case h => exact zA); (case hp => exact hp_.on zB); rintro e w1 ⟨rfl, hb⟩; replace hb := aM hb; have HB : Below w.heap.size w w1 := zB)); go_ret; exact zE zB)

/-! ### impl_within: function 71 -/
def impl_within.f (a0 : Int) (a1 : Int) (a2 : Int) : Option (Bool) := if a1 ≤ a0 then (some (decide (a0 ≤ a2))) else (some false)
set_option maxHeartbeats 8000000 in
set_option maxRecDepth 100000 in
theorem impl_within.calls (a0 : Int) (a1 : Int) (a2 : Int) (r : Bool) (w : World) (h : impl_within.f a0 a1 a2 = some r) :
  Calls Tryd.prog 71 #[.int .i64 a0, .int .i64 a1, .int .i64 a2] w fun e w' => e = .returned (.bool r) ∧ Drawn0 w w' := by
 unfold impl_within.f at h
 replace h := ie h; rcases h with ⟨c0, c0a, h⟩ | ⟨c0, c0a, h⟩
 obtain rfl := si h
 rotate_left
 obtain rfl := si h
 rotate_left
 all_goals (go_enter Tryd.func71, Tryd.ntmps71; go_wp2; go_ret; exact zE zD)

/-! ### impl_IsValidRelation: function 53 -/
def impl_IsValidRelation.f (a0_0 : ByteArray) (a0_1 : Int) (a0_2 : Int) : Option (Bool) := if (a0_0.size : Int) = 1 then (if 0 < (a0_0.size : Int) then (if (bt a0_0 0) ≥ 97 then (if (bt a0_0 0) ≤ 122 then ((impl_within.f a0_1 1 3).bind fun t120 => (if t120 = true then ((impl_within.f a0_2 0 a0_1).bind fun t121 => (some t121)) else (some false))) else (some false)) else (some false)) else (none)) else (some false)
set_option maxHeartbeats 8000000 in
set_option maxRecDepth 100000 in
theorem impl_IsValidRelation.calls (a0_0 : ByteArray) (a0_1 : Int) (a0_2 : Int) (r : Bool) (w : World) (h : impl_IsValidRelation.f a0_0 a0_1 a0_2 = some r) :
  Calls Tryd.prog 53 #[.agg #[.string a0_0, .int .i64 a0_1, .int .i64 a0_2]] w fun e w' => e = .returned (.bool r) ∧ Below w.heap.size w w' := by
 have hu28 := Tryd.underlying28
 obtain ⟨W, hW⟩ : ∃ W, w.alloc (.cells #[.string a0_0, .int .i64 a0_1, .int .i64 a0_2] 28) = W := ⟨_, rfl⟩
 have q0 := qa (w := W) (p := ⟨w.heap.size, 0, none⟩) (v := .string a0_0) (by subst hW; go_simp)
 have q1 := qa (w := W) (p := ⟨w.heap.size, 1, none⟩) (v := .int .i64 a0_1) (by subst hW; go_simp)
 have q2 := qa (w := W) (p := ⟨w.heap.size, 2, none⟩) (v := .int .i64 a0_2) (by subst hW; go_simp)
 have HB : Below w.heap.size w W := by subst hW; exact zB
 have HW := Below.refl W.heap.size W
 have hb := aM HB
 unfold impl_IsValidRelation.f at h
 replace h := iq h; rcases h with ⟨c0, ⟨c0a, c0b⟩, h⟩ | ⟨c0, ⟨c0a, c0b⟩, h⟩
 replace h := il h; rcases h with ⟨c1, c1a, h⟩ | ⟨c1, c1a, h⟩
 have cz := c1.out
 have c1x1 : decide (0 < a0_0.size) = true := decide_eq_true (by omega)
 clear cz
 replace h := ih h; rcases h with ⟨c2, c2a, h⟩ | ⟨c2, c2a, h⟩
 replace h := ie h; rcases h with ⟨c3, c3a, h⟩ | ⟨c3, c3a, h⟩
 replace h := bs h; obtain ⟨t120, B4, h⟩ := h
 replace h := ib h; rcases h with ⟨rfl, h⟩ | ⟨rfl, h⟩
 replace h := bs h; obtain ⟨t121, B6, h⟩ := h
 obtain rfl := si h
 have hxb1 : ∀ h : 0 < a0_0.size, ((a0_0[0]'h).toNat : Int) = bt a0_0 0 := bt_at a0_0 0
 have qib1 := eq_true (aD : 0 < (a0_0.size : Int))
 have qb1 : (0 < a0_0.size) = True := eq_true (by have : (0 : Int) < (a0_0.size : Int) := aD; omega)
 have hxb2 : ∀ h : 0 < a0_0.size, ((a0_0[0]'h).toNat : Int) = bt a0_0 0 := bt_at a0_0 0
 have qib2 := eq_true (aD : 0 < (a0_0.size : Int))
 have qb2 : (0 < a0_0.size) = True := eq_true (by have : (0 : Int) < (a0_0.size : Int) := aD; omega)
 rotate_left
 obtain rfl := si h
 have hxb3 : ∀ h : 0 < a0_0.size, ((a0_0[0]'h).toNat : Int) = bt a0_0 0 := bt_at a0_0 0
 have qib3 := eq_true (aD : 0 < (a0_0.size : Int))
 have qb3 : (0 < a0_0.size) = True := eq_true (by have : (0 : Int) < (a0_0.size : Int) := aD; omega)
 have hxb4 : ∀ h : 0 < a0_0.size, ((a0_0[0]'h).toNat : Int) = bt a0_0 0 := bt_at a0_0 0
 have qib4 := eq_true (aD : 0 < (a0_0.size : Int))
 have qb4 : (0 < a0_0.size) = True := eq_true (by have : (0 : Int) < (a0_0.size : Int) := aD; omega)
 rotate_left
 obtain rfl := si h
 have hxb5 : ∀ h : 0 < a0_0.size, ((a0_0[0]'h).toNat : Int) = bt a0_0 0 := bt_at a0_0 0
 have qib5 := eq_true (aD : 0 < (a0_0.size : Int))
 have qb5 : (0 < a0_0.size) = True := eq_true (by have : (0 : Int) < (a0_0.size : Int) := aD; omega)
 have hxb6 : ∀ h : 0 < a0_0.size, ((a0_0[0]'h).toNat : Int) = bt a0_0 0 := bt_at a0_0 0
 have qib6 := eq_true (aD : 0 < (a0_0.size : Int))
 have qb6 : (0 < a0_0.size) = True := eq_true (by have : (0 : Int) < (a0_0.size : Int) := aD; omega)
 rotate_left
 obtain rfl := si h
 have hxb7 : ∀ h : 0 < a0_0.size, ((a0_0[0]'h).toNat : Int) = bt a0_0 0 := bt_at a0_0 0
 have qib7 := eq_true (aD : 0 < (a0_0.size : Int))
 have qb7 : (0 < a0_0.size) = True := eq_true (by have : (0 : Int) < (a0_0.size : Int) := aD; omega)
 rotate_left
 exact absurd h (by simp)
 obtain rfl := si h
 rotate_left
 all_goals (go_enter Tryd.func53, Tryd.ntmps53; go_wp2_with (first | (go_at_call 71; refine (impl_within.calls _ _ _ ?_ _ ?h).mono ?_; (case h => exact zA); rintro e w1 ⟨rfl, hb⟩; replace hb := hb.below; replace hb := aM hb; have HW : Below W.heap.size W w1 := zB; have HB : Below w.heap.size w w1 := zB)); go_ret; exact zE zB)

/-! ### impl_FormatRelation: function 16 -/
def impl_FormatRelation.f (a0_0 : ByteArray) (a0_1 : Int) (a0_2 : Int) : Option (ByteArray) := (impl_IsValidRelation.f a0_0 a0_1 a0_2).bind fun t123 => (if t123 = true then ((impl_FormatInt.f a0_2).bind fun t124 => (if a0_0.size + t124.size ≤ 9223372036854775807 then (if (a0_0 ++ t124).size + 1 ≤ 9223372036854775807 then ((impl_FormatInt.f a0_1).bind fun t125 => (if ((a0_0 ++ t124) ++ (⟨#[47]⟩ : ByteArray)).size + t125.size ≤ 9223372036854775807 then (some (((a0_0 ++ t124) ++ (⟨#[47]⟩ : ByteArray)) ++ t125)) else (none))) else (none)) else (none))) else (some (⟨#[]⟩ : ByteArray)))
set_option maxHeartbeats 8000000 in
set_option maxRecDepth 100000 in
theorem impl_FormatRelation.calls (a0_0 : ByteArray) (a0_1 : Int) (a0_2 : Int) (r : ByteArray) (w : World) (h : impl_FormatRelation.f a0_0 a0_1 a0_2 = some r) (hp_ : Go.Proofs.YtdpaopfghggiaaaDoor.Shelf.Pow w) :
  Calls Tryd.prog 16 #[.agg #[.string a0_0, .int .i64 a0_1, .int .i64 a0_2]] w fun e w' => e = .returned (.string r) ∧ Below w.heap.size w w' := by
 have hu28 := Tryd.underlying28
 obtain ⟨W, hW⟩ : ∃ W, w.alloc (.cells #[.string a0_0, .int .i64 a0_1, .int .i64 a0_2] 28) = W := ⟨_, rfl⟩
 have q0 := qa (w := W) (p := ⟨w.heap.size, 0, none⟩) (v := .string a0_0) (by subst hW; go_simp)
 have q1 := qa (w := W) (p := ⟨w.heap.size, 1, none⟩) (v := .int .i64 a0_1) (by subst hW; go_simp)
 have q2 := qa (w := W) (p := ⟨w.heap.size, 2, none⟩) (v := .int .i64 a0_2) (by subst hW; go_simp)
 have HB : Below w.heap.size w W := by subst hW; exact zB
 have HW := Below.refl W.heap.size W
 have hb := aM HB
 have rg_ := @bcl w
 have rd_ := @bdr w
 have rG_ := @bcl W
 have rD_ := @bdr W
 unfold impl_FormatRelation.f at h
 replace h := bs h; obtain ⟨t123, B0, h⟩ := h
 replace h := ib h; rcases h with ⟨rfl, h⟩ | ⟨rfl, h⟩
 replace h := bs h; obtain ⟨t124, B2, h⟩ := h
 replace h := ieN h; rcases h with ⟨c3, c3a, h⟩ | ⟨c3, c3a, h⟩
 have c3x0 : decide (a0_0.size + t124.size ≤ 9223372036854775807) = true := decide_eq_true (of_eq_true c3a)
 have c3x1 : (9223372036854775807 < a0_0.size + t124.size) = False := eq_false (Nat.not_lt.2 (of_eq_true c3a))
 replace h := ieN h; rcases h with ⟨c4, c4a, h⟩ | ⟨c4, c4a, h⟩
 have c4x0 : decide ((a0_0 ++ t124).size + 1 ≤ 9223372036854775807) = true := decide_eq_true (of_eq_true c4a)
 have c4x1 : (9223372036854775807 < (a0_0 ++ t124).size + 1) = False := eq_false (Nat.not_lt.2 (of_eq_true c4a))
 have c4y := c4a; simp only [ByteArray.size_append] at c4y; have c4y0 := decide_eq_true (of_eq_true c4y); have c4y1 := eq_false (Nat.not_lt.2 (of_eq_true c4y))
 replace h := bs h; obtain ⟨t125, B5, h⟩ := h
 replace h := ieN h; rcases h with ⟨c6, c6a, h⟩ | ⟨c6, c6a, h⟩
 have c6x0 : decide (((a0_0 ++ t124) ++ (⟨#[47]⟩ : ByteArray)).size + t125.size ≤ 9223372036854775807) = true := decide_eq_true (of_eq_true c6a)
 have c6x1 : (9223372036854775807 < ((a0_0 ++ t124) ++ (⟨#[47]⟩ : ByteArray)).size + t125.size) = False := eq_false (Nat.not_lt.2 (of_eq_true c6a))
 have c6y := c6a; simp only [ByteArray.size_append, (show (⟨#[47]⟩ : ByteArray).size = 1 from rfl)] at c6y; have c6y0 := decide_eq_true (of_eq_true c6y); have c6y1 := eq_false (Nat.not_lt.2 (of_eq_true c6y))
 obtain rfl := si h
 rotate_left
 exact absurd h (by simp)
 exact absurd h (by simp)
 exact absurd h (by simp)
 obtain rfl := si h
 rotate_left
 all_goals (go_enter Tryd.func16, Tryd.ntmps16; go_wp2_with (first | (go_at_call 53; refine (impl_IsValidRelation.calls _ _ _ ?_ _ ?h).mono ?_; (case h => exact zA); rintro e w1 ⟨rfl, hb⟩; replace hb := aM hb; have HW : Below W.heap.size W w1 := zB; have HB : Below w.heap.size w w1 := zB)); (repeat ((refine nw (w0 := w) zB ?_; intro W1 HB hb hd; have HW : Below W.heap.size W W1 := zB; (first | (refine Txt.rg (id := 3) [0, 1, 2, 3, 7, 8, 4, 5, 6, 9, 10, 11] (by kernel_rfl) (by kernel_rfl) ?_; simp only [List.map_cons, List.map_nil, List.getD_cons_zero, List.getD_cons_succ])); (repeat (first | (refine Txt.off rfl ?_; simp only [Act.put, List.setIfInBounds_toArray, List.set_cons_zero, List.set_cons_succ]) | (refine Txt.take rfl rfl ?_; intro K hK; go_big_quiet_op; go_big_quiet_on) | (refine Txt.call rfl rfl Tryd.func12 (by kernel_rfl) rfl (impl_FormatInt.calls _ ?_ _ ?h ?hp) rfl ?_; (case h => exact zA); (case hp => exact hp_.on zB); rintro e w1 ⟨rfl, hb⟩; replace hb := aM hb; have HW : Below W.heap.size W w1 := zB; have HB : Below w.heap.size w w1 := zB; refine ⟨_, rfl, zS, ?_⟩; simp only [Act.put, List.setIfInBounds_toArray, List.set_cons_zero, List.set_cons_succ]))); refine Txt.nil ?_); (try go_wp2_with (first | (go_at_call 53; refine (impl_IsValidRelation.calls _ _ _ ?_ _ ?h).mono ?_; (case h => exact zA); rintro e w1 ⟨rfl, hb⟩; replace hb := aM hb; have HW : Below W.heap.size W w1 := zB; have HB : Below w.heap.size w w1 := zB))))); go_ret; exact zE zB)

/-! ### spec_FormatInt: function 11 -/
def spec_FormatInt.l0 : Nat → Int → ByteArray → Bool → Option (ByteArray)
 | 0, _, _, _ => none
 | k + 1, x0, x3, x4 => if x0 = 0 then (if x4 = true then (if 1 + x3.size ≤ 9223372036854775807 then (some ((⟨#[45]⟩ : ByteArray) ++ x3)) else (none)) else (some x3)) else (if (Int.tmod x0 10) < 0 then ((some (([(wrap64 (48 + (wrap64 (-(Int.tmod x0 10))))) % 256] : List Int) : List Int)).bind fun y126 => (if (strOfNums y126).size + x3.size ≤ 9223372036854775807 then (spec_FormatInt.l0 k (wrap64 (Int.tdiv x0 10)) ((strOfNums y126) ++ x3) x4) else (none))) else ((some (([(wrap64 (48 + (Int.tmod x0 10))) % 256] : List Int) : List Int)).bind fun y129 => (if (strOfNums y129).size + x3.size ≤ 9223372036854775807 then (spec_FormatInt.l0 k (wrap64 (Int.tdiv x0 10)) ((strOfNums y129) ++ x3) x4) else (none))))
def spec_FormatInt.f (k : Nat) (a0 : Int) : Option (ByteArray) := if a0 = 0 then (some (⟨#[48]⟩ : ByteArray)) else (spec_FormatInt.l0 k a0 (⟨#[]⟩ : ByteArray) (decide (a0 < 0)))
set_option maxHeartbeats 8000000 in
set_option maxRecDepth 100000 in
theorem spec_FormatInt.calls (k : Nat) (a0 : Int) (r : ByteArray) (w : World) (h : spec_FormatInt.f k a0 = some r) :
  Calls Tryd.prog 11 #[.int .i64 a0] w fun e w' => e = .returned (.string r) ∧ Below w.heap.size w w' := by
 have HB := aM (Below.refl w.heap.size w)
 have H : (if a0 = 0 then (some (⟨#[48]⟩ : ByteArray)) else (spec_FormatInt.l0 k a0 (⟨#[]⟩ : ByteArray) (decide (a0 < 0)))) = some r := h
 clear h
 by_cases c2 : a0 = 0
 ·rw [if_pos c2] at H
  have c2b0 : (a0 == 0) = true := beq_iff_eq.mpr c2
  have c2b1 : (a0 != 0) = false := bne_eq_false_iff_eq.mpr c2
  clear c2
  obtain rfl := Option.some.inj H
  go_enter Tryd.func11, Tryd.ntmps11
  go_wp2
  go_ret
  exact ⟨by first | rfl | (simp [errW_none, errW_some] <;> rfl) | (simp [*, errW_none, errW_some] <;> rfl), by repeat (first | (with_reducible first | exact HB.out | apply below_alloc | apply pw_below_drewN | apply below_drew1) | exact HB.out)⟩
 ·rw [if_neg c2] at H
  have c2b0 : (a0 == 0) = false := beq_eq_false_iff_ne.mpr c2
  have c2b1 : (a0 != 0) = true := bne_iff_ne.mpr c2
  have H' := aM H
  clear H
  go_enter Tryd.func11, Tryd.ntmps11
  go_wp2
  go_loopg [0, 3] k (fun kq v0 v3 w' => ∃ (x0_1 : Int) (x3_1 : ByteArray), v0 = .int .i64 x0_1 ∧ v3 = .string x3_1 ∧ Aside0 (spec_FormatInt.l0 kq x0_1 x3_1 (decide (a0 < 0)) = some r) ∧ Aside0 (kq ≤ k) ∧ Aside0 (Below w.heap.size w w'))
  case atStart => exact ⟨(a0), ((⟨#[]⟩ : ByteArray)), (by first | rfl | (simp; done) | (simp [*]; done)), (by first | rfl | (simp; done) | (simp [*]; done)), H', ⟨Nat.le_refl _⟩, ⟨by repeat (first | (with_reducible first | exact HB.out | apply below_alloc | apply pw_below_drewN | apply below_drew1) | exact HB.out)⟩⟩
  case round =>
   clear H'
   try clear c1
   try clear c2
   try clear c2b0
   try clear c2b1
   try clear p2
   obtain ⟨x0_1, x3_1, rfl, rfl, HA, HK1, HB⟩ := hrel
   cases gk with
   | zero => exact absurd HA.out (by simp [spec_FormatInt.l0])
   | succ k1 =>
    have H := HA.out
    clear HA
    simp only [spec_FormatInt.l0] at H
    by_cases c3 : x0_1 = 0
    ·rw [if_pos c3] at H
     have c3b0 : (x0_1 == 0) = true := beq_iff_eq.mpr c3
     have c3b1 : (x0_1 != 0) = false := bne_eq_false_iff_eq.mpr c3
     clear c3
     by_cases c4 : (decide (a0 < 0)) = true
     ·rw [if_pos c4] at H
      have c4b0 : (decide (a0 < 0)) = true := c4
      clear c4
      by_cases c5 : 1 + x3_1.size ≤ 9223372036854775807
      ·rw [if_pos c5] at H
       have c5b0 := eq_true c5
       have c5b1 : decide (1 + x3_1.size ≤ 9223372036854775807) = true := decide_eq_true c5
       try have c5b2 : (9223372036854775807 < 1 + x3_1.size) = False := eq_false (Nat.not_lt.2 c5)
       obtain rfl := Option.some.inj H
       go_wp2
       all_goals first | (exfalso; have := of_decide_eq_true c4b0; omega) | (go_ret; exact ⟨by first | rfl | (simp [errW_none, errW_some] <;> rfl) | (simp [*, errW_none, errW_some] <;> rfl), by repeat (first | (with_reducible first | exact HB.out | apply below_alloc | apply pw_below_drewN | apply below_drew1) | exact HB.out)⟩)
      ·rw [if_neg c5] at H
       exact absurd H (by simp)
     ·rw [if_neg c4] at H
      have c4b0 : (decide (a0 < 0)) = false := by simpa using c4
      clear c4
      obtain rfl := Option.some.inj H
      go_wp2
      all_goals first | (exfalso; have := of_decide_eq_false c4b0; omega) | (go_ret; exact ⟨by first | rfl | (simp [errW_none, errW_some] <;> rfl) | (simp [*, errW_none, errW_some] <;> rfl), by repeat (first | (with_reducible first | exact HB.out | apply below_alloc | apply pw_below_drewN | apply below_drew1) | exact HB.out)⟩)
    ·rw [if_neg c3] at H
     have c3b0 : (x0_1 == 0) = false := beq_eq_false_iff_ne.mpr c3
     have c3b1 : (x0_1 != 0) = true := bne_iff_ne.mpr c3
     by_cases c6 : (Int.tmod x0_1 10) < 0
     ·rw [if_pos c6] at H
      have c6b0 : decide ((Int.tmod x0_1 10) < 0) = true := decide_eq_true c6
      clear c6
      obtain ⟨y126, hy126⟩ : ∃ y_ : List Int, y_ = (([(wrap64 (48 + (wrap64 (-(Int.tmod x0_1 10))))) % 256] : List Int)) := ⟨_, rfl⟩
      replace H : (if (strOfNums y126).size + x3_1.size ≤ 9223372036854775807 then (spec_FormatInt.l0 k1 (wrap64 (Int.tdiv x0_1 10)) ((strOfNums y126) ++ x3_1) (decide (a0 < 0))) else (none)) = some r := by first | (rw [hy126]; with_reducible exact H) | (have H2_ := (Option.bind_some _ _).symm.trans H; rw [hy126]; with_reducible exact H2_) | (have H2_ := (Option.bind_some _ _).symm.trans H; with_reducible exact H2_) | with_reducible exact H | (rw [hy126]; exact H) | exact H
      have Ny126 := aM hy126
      clear hy126
      by_cases c7 : (strOfNums y126).size + x3_1.size ≤ 9223372036854775807
      ·rw [if_pos c7] at H
       have c7b0 := eq_true c7
       have c7b1 : decide ((strOfNums y126).size + x3_1.size ≤ 9223372036854775807) = true := decide_eq_true c7
       try have c7b2 : (9223372036854775807 < (strOfNums y126).size + x3_1.size) = False := eq_false (Nat.not_lt.2 c7)
       have H' := aM H
       clear H
       go_wp2_with (first | ((with_reducible refine gate_dst (N := 21) rfl ?_); refine Kd.R_lit (Kd.int .u8) _ 5 ?hg (N := 21) ?hd (xs := ([(wrap64 (48 + (wrap64 (-(Int.tmod x0_1 10))))) % 256] : List Int)) (inner := [.int .u8 ((wrap64 (48 + (wrap64 (-(Int.tmod x0_1 10))))) % 256)]) (ok := fun _ => True) (okp := fun _ => True) ?hr ?hp (fun _ hk => hk) trivial (Below.refl _ _) (Nat.le_refl _) (by simp) ?_; (case hd => rfl); (case hg => rfl); (case hr => first | (go_simp; done) | (go_simp; rfl)); (case hp => exact (Reps.one (show Kd.M (Kd.int .u8) _ _ _ ((wrap64 (48 + (wrap64 (-(Int.tmod x0_1 10))))) % 256) [.int .u8 ((wrap64 (48 + (wrap64 (-(Int.tmod x0_1 10))))) % 256)] from rfl) (Reps.none _ _))); intro v127 w8 ho9 hb hg_ hnew_; clear hg_ hnew_; (first | rw [← Ny126.out] at ho9 | (simp only [Int.reduceToNat] at ho9; rw [← Ny126.out] at ho9)); have n0_ := aM (Kd.R_lower ho9 (below_size aB)); have n1_ := aM (below_step aB hb); clear HB; have HO128 := n0_; have HB := n1_; clear n0_ n1_; clear hb ho9; have hcv10 := own_string (P := Tryd.prog) Tryd.underlying35 Tryd.underlying5 Tryd.underlying9 (Kd.own_of_R HO128.out)))
       go_roundg k1
       case measure => have := HK1.out; omega
       case rel => exact ⟨(wrap64 (Int.tdiv x0_1 10)), ((strOfNums y126) ++ x3_1), (by first | rfl | (simp; done) | (simp [*]; done)), (by first | rfl | (simp; done) | (simp [*]; done)), H', ⟨by have := HK1.out; omega⟩, ⟨by repeat (first | (with_reducible first | exact HB.out | apply below_alloc | apply pw_below_drewN | apply below_drew1) | exact HB.out)⟩⟩
      ·rw [if_neg c7] at H
       exact absurd H (by simp)
     ·rw [if_neg c6] at H
      have c6b0 : decide ((Int.tmod x0_1 10) < 0) = false := decide_eq_false c6
      clear c6
      obtain ⟨y129, hy129⟩ : ∃ y_ : List Int, y_ = (([(wrap64 (48 + (Int.tmod x0_1 10))) % 256] : List Int)) := ⟨_, rfl⟩
      replace H : (if (strOfNums y129).size + x3_1.size ≤ 9223372036854775807 then (spec_FormatInt.l0 k1 (wrap64 (Int.tdiv x0_1 10)) ((strOfNums y129) ++ x3_1) (decide (a0 < 0))) else (none)) = some r := by first | (rw [hy129]; with_reducible exact H) | (have H2_ := (Option.bind_some _ _).symm.trans H; rw [hy129]; with_reducible exact H2_) | (have H2_ := (Option.bind_some _ _).symm.trans H; with_reducible exact H2_) | with_reducible exact H | (rw [hy129]; exact H) | exact H
      have Ny129 := aM hy129
      clear hy129
      by_cases c11 : (strOfNums y129).size + x3_1.size ≤ 9223372036854775807
      ·rw [if_pos c11] at H
       have c11b0 := eq_true c11
       have c11b1 : decide ((strOfNums y129).size + x3_1.size ≤ 9223372036854775807) = true := decide_eq_true c11
       try have c11b2 : (9223372036854775807 < (strOfNums y129).size + x3_1.size) = False := eq_false (Nat.not_lt.2 c11)
       have H' := aM H
       clear H
       go_wp2_with (first | ((with_reducible refine gate_dst (N := 21) rfl ?_); refine Kd.R_lit (Kd.int .u8) _ 5 ?hg (N := 21) ?hd (xs := ([(wrap64 (48 + (Int.tmod x0_1 10))) % 256] : List Int)) (inner := [.int .u8 ((wrap64 (48 + (Int.tmod x0_1 10))) % 256)]) (ok := fun _ => True) (okp := fun _ => True) ?hr ?hp (fun _ hk => hk) trivial (Below.refl _ _) (Nat.le_refl _) (by simp) ?_; (case hd => rfl); (case hg => rfl); (case hr => first | (go_simp; done) | (go_simp; rfl)); (case hp => exact (Reps.one (show Kd.M (Kd.int .u8) _ _ _ ((wrap64 (48 + (Int.tmod x0_1 10))) % 256) [.int .u8 ((wrap64 (48 + (Int.tmod x0_1 10))) % 256)] from rfl) (Reps.none _ _))); intro v130 w12 ho13 hb hg_ hnew_; clear hg_ hnew_; (first | rw [← Ny129.out] at ho13 | (simp only [Int.reduceToNat] at ho13; rw [← Ny129.out] at ho13)); have n0_ := aM (Kd.R_lower ho13 (below_size aB)); have n1_ := aM (below_step aB hb); clear HB; have HO131 := n0_; have HB := n1_; clear n0_ n1_; clear hb ho13; have hcv14 := own_string (P := Tryd.prog) Tryd.underlying35 Tryd.underlying5 Tryd.underlying9 (Kd.own_of_R HO131.out)))
       go_roundg k1
       case measure => have := HK1.out; omega
       case rel => exact ⟨(wrap64 (Int.tdiv x0_1 10)), ((strOfNums y129) ++ x3_1), (by first | rfl | (simp; done) | (simp [*]; done)), (by first | rfl | (simp; done) | (simp [*]; done)), H', ⟨by have := HK1.out; omega⟩, ⟨by repeat (first | (with_reducible first | exact HB.out | apply below_alloc | apply pw_below_drewN | apply below_drew1) | exact HB.out)⟩⟩
      ·rw [if_neg c11] at H
       exact absurd H (by simp)

/-! ### spec_l1In: function 61 -/
def spec_l1In.f (a0 : Int) (a1 : Int) (a2 : Int) : Option (Bool) := if a0 ≥ a1 then (some (decide (a0 ≤ a2))) else (some false)
set_option maxHeartbeats 8000000 in
set_option maxRecDepth 100000 in
theorem spec_l1In.calls (a0 : Int) (a1 : Int) (a2 : Int) (r : Bool) (w : World) (h : spec_l1In.f a0 a1 a2 = some r) :
  Calls Tryd.prog 61 #[.int .i64 a0, .int .i64 a1, .int .i64 a2] w fun e w' => e = .returned (.bool r) ∧ Drawn0 w w' := by
 unfold spec_l1In.f at h
 replace h := ih h; rcases h with ⟨c0, c0a, h⟩ | ⟨c0, c0a, h⟩
 obtain rfl := si h
 rotate_left
 obtain rfl := si h
 rotate_left
 all_goals (go_enter Tryd.func61, Tryd.ntmps61; go_wp2; go_ret; exact zE zD)

/-! ### spec_IsValidRelation: function 24 -/
def spec_IsValidRelation.f (a0_0 : ByteArray) (a0_1 : Int) (a0_2 : Int) : Option (Bool) := if (a0_0.size : Int) = 1 then (if 0 < (a0_0.size : Int) then (if (bt a0_0 0) ≥ 97 then (if (bt a0_0 0) ≤ 122 then ((spec_l1In.f a0_1 1 3).bind fun t133 => (if t133 = true then ((spec_l1In.f a0_2 0 a0_1).bind fun t134 => (some t134)) else (some false))) else (some false)) else (some false)) else (none)) else (some false)
set_option maxHeartbeats 8000000 in
set_option maxRecDepth 100000 in
theorem spec_IsValidRelation.calls (a0_0 : ByteArray) (a0_1 : Int) (a0_2 : Int) (r : Bool) (w : World) (h : spec_IsValidRelation.f a0_0 a0_1 a0_2 = some r) :
  Calls Tryd.prog 24 #[.agg #[.string a0_0, .int .i64 a0_1, .int .i64 a0_2]] w fun e w' => e = .returned (.bool r) ∧ Below w.heap.size w w' := by
 have hu28 := Tryd.underlying28
 obtain ⟨W, hW⟩ : ∃ W, w.alloc (.cells #[.string a0_0, .int .i64 a0_1, .int .i64 a0_2] 28) = W := ⟨_, rfl⟩
 have q0 := qa (w := W) (p := ⟨w.heap.size, 0, none⟩) (v := .string a0_0) (by subst hW; go_simp)
 have q1 := qa (w := W) (p := ⟨w.heap.size, 1, none⟩) (v := .int .i64 a0_1) (by subst hW; go_simp)
 have q2 := qa (w := W) (p := ⟨w.heap.size, 2, none⟩) (v := .int .i64 a0_2) (by subst hW; go_simp)
 have HB : Below w.heap.size w W := by subst hW; exact zB
 have HW := Below.refl W.heap.size W
 have hb := aM HB
 unfold spec_IsValidRelation.f at h
 replace h := iq h; rcases h with ⟨c0, ⟨c0a, c0b⟩, h⟩ | ⟨c0, ⟨c0a, c0b⟩, h⟩
 replace h := il h; rcases h with ⟨c1, c1a, h⟩ | ⟨c1, c1a, h⟩
 have cz := c1.out
 have c1x1 : decide (0 < a0_0.size) = true := decide_eq_true (by omega)
 clear cz
 replace h := ih h; rcases h with ⟨c2, c2a, h⟩ | ⟨c2, c2a, h⟩
 replace h := ie h; rcases h with ⟨c3, c3a, h⟩ | ⟨c3, c3a, h⟩
 replace h := bs h; obtain ⟨t133, B4, h⟩ := h
 replace h := ib h; rcases h with ⟨rfl, h⟩ | ⟨rfl, h⟩
 replace h := bs h; obtain ⟨t134, B6, h⟩ := h
 obtain rfl := si h
 have hxb1 : ∀ h : 0 < a0_0.size, ((a0_0[0]'h).toNat : Int) = bt a0_0 0 := bt_at a0_0 0
 have qib1 := eq_true (aD : 0 < (a0_0.size : Int))
 have qb1 : (0 < a0_0.size) = True := eq_true (by have : (0 : Int) < (a0_0.size : Int) := aD; omega)
 have hxb2 : ∀ h : 0 < a0_0.size, ((a0_0[0]'h).toNat : Int) = bt a0_0 0 := bt_at a0_0 0
 have qib2 := eq_true (aD : 0 < (a0_0.size : Int))
 have qb2 : (0 < a0_0.size) = True := eq_true (by have : (0 : Int) < (a0_0.size : Int) := aD; omega)
 rotate_left
 obtain rfl := si h
 have hxb3 : ∀ h : 0 < a0_0.size, ((a0_0[0]'h).toNat : Int) = bt a0_0 0 := bt_at a0_0 0
 have qib3 := eq_true (aD : 0 < (a0_0.size : Int))
 have qb3 : (0 < a0_0.size) = True := eq_true (by have : (0 : Int) < (a0_0.size : Int) := aD; omega)
 have hxb4 : ∀ h : 0 < a0_0.size, ((a0_0[0]'h).toNat : Int) = bt a0_0 0 := bt_at a0_0 0
 have qib4 := eq_true (aD : 0 < (a0_0.size : Int))
 have qb4 : (0 < a0_0.size) = True := eq_true (by have : (0 : Int) < (a0_0.size : Int) := aD; omega)
 rotate_left
 obtain rfl := si h
 have hxb5 : ∀ h : 0 < a0_0.size, ((a0_0[0]'h).toNat : Int) = bt a0_0 0 := bt_at a0_0 0
 have qib5 := eq_true (aD : 0 < (a0_0.size : Int))
 have qb5 : (0 < a0_0.size) = True := eq_true (by have : (0 : Int) < (a0_0.size : Int) := aD; omega)
 have hxb6 : ∀ h : 0 < a0_0.size, ((a0_0[0]'h).toNat : Int) = bt a0_0 0 := bt_at a0_0 0
 have qib6 := eq_true (aD : 0 < (a0_0.size : Int))
 have qb6 : (0 < a0_0.size) = True := eq_true (by have : (0 : Int) < (a0_0.size : Int) := aD; omega)
 rotate_left
 obtain rfl := si h
 have hxb7 : ∀ h : 0 < a0_0.size, ((a0_0[0]'h).toNat : Int) = bt a0_0 0 := bt_at a0_0 0
 have qib7 := eq_true (aD : 0 < (a0_0.size : Int))
 have qb7 : (0 < a0_0.size) = True := eq_true (by have : (0 : Int) < (a0_0.size : Int) := aD; omega)
 rotate_left
 exact absurd h (by simp)
 obtain rfl := si h
 rotate_left
 all_goals (go_enter Tryd.func24, Tryd.ntmps24; go_wp2_with (first | (go_at_call 61; refine (spec_l1In.calls _ _ _ ?_ _ ?h).mono ?_; (case h => exact zA); rintro e w1 ⟨rfl, hb⟩; replace hb := hb.below; replace hb := aM hb; have HW : Below W.heap.size W w1 := zB; have HB : Below w.heap.size w w1 := zB)); go_ret; exact zE zB)

/-! ### spec_FormatRelation: function 14 -/
def spec_FormatRelation.f (k : Nat) (a0_0 : ByteArray) (a0_1 : Int) (a0_2 : Int) : Option (ByteArray) := (spec_IsValidRelation.f a0_0 a0_1 a0_2).bind fun t136 => (if t136 = true then ((spec_FormatInt.f k a0_2).bind fun t137 => (if a0_0.size + t137.size ≤ 9223372036854775807 then (if (a0_0 ++ t137).size + 1 ≤ 9223372036854775807 then ((spec_FormatInt.f k a0_1).bind fun t138 => (if ((a0_0 ++ t137) ++ (⟨#[47]⟩ : ByteArray)).size + t138.size ≤ 9223372036854775807 then (some (((a0_0 ++ t137) ++ (⟨#[47]⟩ : ByteArray)) ++ t138)) else (none))) else (none)) else (none))) else (some (⟨#[]⟩ : ByteArray)))
set_option maxHeartbeats 8000000 in
set_option maxRecDepth 100000 in
theorem spec_FormatRelation.calls (k : Nat) (a0_0 : ByteArray) (a0_1 : Int) (a0_2 : Int) (r : ByteArray) (w : World) (h : spec_FormatRelation.f k a0_0 a0_1 a0_2 = some r) :
  Calls Tryd.prog 14 #[.agg #[.string a0_0, .int .i64 a0_1, .int .i64 a0_2]] w fun e w' => e = .returned (.string r) ∧ Below w.heap.size w w' := by
 have hu28 := Tryd.underlying28
 obtain ⟨W, hW⟩ : ∃ W, w.alloc (.cells #[.string a0_0, .int .i64 a0_1, .int .i64 a0_2] 28) = W := ⟨_, rfl⟩
 have q0 := qa (w := W) (p := ⟨w.heap.size, 0, none⟩) (v := .string a0_0) (by subst hW; go_simp)
 have q1 := qa (w := W) (p := ⟨w.heap.size, 1, none⟩) (v := .int .i64 a0_1) (by subst hW; go_simp)
 have q2 := qa (w := W) (p := ⟨w.heap.size, 2, none⟩) (v := .int .i64 a0_2) (by subst hW; go_simp)
 have HB : Below w.heap.size w W := by subst hW; exact zB
 have HW := Below.refl W.heap.size W
 have hb := aM HB
 have rg_ := @bcl w
 have rd_ := @bdr w
 have rG_ := @bcl W
 have rD_ := @bdr W
 unfold spec_FormatRelation.f at h
 replace h := bs h; obtain ⟨t136, B0, h⟩ := h
 replace h := ib h; rcases h with ⟨rfl, h⟩ | ⟨rfl, h⟩
 replace h := bs h; obtain ⟨t137, B2, h⟩ := h
 replace h := ieN h; rcases h with ⟨c3, c3a, h⟩ | ⟨c3, c3a, h⟩
 have c3x0 : decide (a0_0.size + t137.size ≤ 9223372036854775807) = true := decide_eq_true (of_eq_true c3a)
 have c3x1 : (9223372036854775807 < a0_0.size + t137.size) = False := eq_false (Nat.not_lt.2 (of_eq_true c3a))
 replace h := ieN h; rcases h with ⟨c4, c4a, h⟩ | ⟨c4, c4a, h⟩
 have c4x0 : decide ((a0_0 ++ t137).size + 1 ≤ 9223372036854775807) = true := decide_eq_true (of_eq_true c4a)
 have c4x1 : (9223372036854775807 < (a0_0 ++ t137).size + 1) = False := eq_false (Nat.not_lt.2 (of_eq_true c4a))
 have c4y := c4a; simp only [ByteArray.size_append] at c4y; have c4y0 := decide_eq_true (of_eq_true c4y); have c4y1 := eq_false (Nat.not_lt.2 (of_eq_true c4y))
 replace h := bs h; obtain ⟨t138, B5, h⟩ := h
 replace h := ieN h; rcases h with ⟨c6, c6a, h⟩ | ⟨c6, c6a, h⟩
 have c6x0 : decide (((a0_0 ++ t137) ++ (⟨#[47]⟩ : ByteArray)).size + t138.size ≤ 9223372036854775807) = true := decide_eq_true (of_eq_true c6a)
 have c6x1 : (9223372036854775807 < ((a0_0 ++ t137) ++ (⟨#[47]⟩ : ByteArray)).size + t138.size) = False := eq_false (Nat.not_lt.2 (of_eq_true c6a))
 have c6y := c6a; simp only [ByteArray.size_append, (show (⟨#[47]⟩ : ByteArray).size = 1 from rfl)] at c6y; have c6y0 := decide_eq_true (of_eq_true c6y); have c6y1 := eq_false (Nat.not_lt.2 (of_eq_true c6y))
 obtain rfl := si h
 rotate_left
 exact absurd h (by simp)
 exact absurd h (by simp)
 exact absurd h (by simp)
 obtain rfl := si h
 rotate_left
 all_goals (go_enter Tryd.func14, Tryd.ntmps14; go_wp2_with (first | (go_at_call 24; refine (spec_IsValidRelation.calls _ _ _ ?_ _ ?h).mono ?_; (case h => exact zA); rintro e w1 ⟨rfl, hb⟩; replace hb := aM hb; have HW : Below W.heap.size W w1 := zB; have HB : Below w.heap.size w w1 := zB)); (repeat ((refine nw (w0 := w) zB ?_; intro W1 HB hb hd; have HW : Below W.heap.size W W1 := zB; (first | (refine Txt.rg (id := 3) [0, 1, 2, 3, 7, 8, 4, 5, 6, 9, 10, 11] (by kernel_rfl) (by kernel_rfl) ?_; simp only [List.map_cons, List.map_nil, List.getD_cons_zero, List.getD_cons_succ])); (repeat (first | (refine Txt.off rfl ?_; simp only [Act.put, List.setIfInBounds_toArray, List.set_cons_zero, List.set_cons_succ]) | (refine Txt.take rfl rfl ?_; intro K hK; go_big_quiet_op; go_big_quiet_on) | (refine Txt.call rfl rfl Tryd.func11 (by kernel_rfl) rfl (spec_FormatInt.calls ?_ _ ?_ _ ?h) rfl ?_; (case h => exact zA); rintro e w1 ⟨rfl, hb⟩; replace hb := aM hb; have HW : Below W.heap.size W w1 := zB; have HB : Below w.heap.size w w1 := zB; refine ⟨_, rfl, zS, ?_⟩; simp only [Act.put, List.setIfInBounds_toArray, List.set_cons_zero, List.set_cons_succ]))); refine Txt.nil ?_); (try go_wp2_with (first | (go_at_call 24; refine (spec_IsValidRelation.calls _ _ _ ?_ _ ?h).mono ?_; (case h => exact zA); rintro e w1 ⟨rfl, hb⟩; replace hb := aM hb; have HW : Below W.heap.size W w1 := zB; have HB : Below w.heap.size w w1 := zB))))); go_ret; exact zE zB)

/-! ### spec_ParseRelation: function 17 -/
def spec_ParseRelation.f (k : Nat) (a0 : ByteArray) : Option (ByteArray × Int × Int × Bool) := if (a0.size : Int) = 4 then (if 0 ≤ 1 then (if 1 ≤ (a0.size : Int) then (if 1 < (a0.size : Int) then (if 3 < (a0.size : Int) then ((spec_FormatRelation.f k (a0.extract 0 1) (wrap64 ((wrap64 (bt a0 3)) - 48)) (wrap64 ((wrap64 (bt a0 1)) - 48))).bind fun t141 => (if t141.toList = a0.toList then (some (a0.extract 0 1, wrap64 ((wrap64 (bt a0 3)) - 48), wrap64 ((wrap64 (bt a0 1)) - 48), true)) else (some ((⟨#[]⟩ : ByteArray), 0, 0, false)))) else (none)) else (none)) else (none)) else (none)) else (some ((⟨#[]⟩ : ByteArray), 0, 0, false))
def spec_ParseRelation.T3 : Bool × List (List Nat × List Nat) := (true, [([], []), ([0], [0]), ([], []), ([2], [2]), ([3], [3]), ([4], [4]), ([], []), ([6], [6]), ([7], [7]), ([8], [8]), ([1, 5, 9], [1, 5, 9]), ([], []), ([11, 10, 0, 1, 2, 3, 4, 5, 6, 7, 8, 9, 10, 11], [10, 11])])
def spec_ParseRelation.B3 : List Nat := [0, 1, 0, 4, 12, 28, 0, 64, 192, 448, 1023, 0, 4095]
theorem spec_ParseRelation.tab3 : rtab .any (opsOf Tryd.f17 3) = spec_ParseRelation.T3 := by kernel_rfl
theorem spec_ParseRelation.bits3 : waitsOk spec_ParseRelation.T3.2 spec_ParseRelation.B3 = true := by kernel_rfl
set_option maxHeartbeats 8000000 in
set_option maxRecDepth 100000 in
theorem spec_ParseRelation.calls (k : Nat) (a0 : ByteArray) (r1 : ByteArray) (r2 : Int) (r3 : Int) (r4 : Bool) (w : World) (h : spec_ParseRelation.f k a0 = some (r1, r2, r3, r4)) :
  Calls Tryd.prog 17 #[.string a0] w fun e w' => e = .returned (.tuple #[.agg #[.string r1, .int .i64 r2, .int .i64 r3], .bool r4]) ∧ Below w.heap.size w w' := by
 have hu28 := Tryd.underlying28
 have HB := aM (Below.refl w.heap.size w)
 have H : (if (a0.size : Int) = 4 then (if 0 ≤ 1 then (if 1 ≤ (a0.size : Int) then (if 1 < (a0.size : Int) then (if 3 < (a0.size : Int) then ((spec_FormatRelation.f k (a0.extract 0 1) (wrap64 ((wrap64 (bt a0 3)) - 48)) (wrap64 ((wrap64 (bt a0 1)) - 48))).bind fun t141 => (if t141.toList = a0.toList then (some (a0.extract 0 1, wrap64 ((wrap64 (bt a0 3)) - 48), wrap64 ((wrap64 (bt a0 1)) - 48), true)) else (some ((⟨#[]⟩ : ByteArray), 0, 0, false)))) else (none)) else (none)) else (none)) else (none)) else (some ((⟨#[]⟩ : ByteArray), 0, 0, false))) = some (r1, r2, r3, r4) := h
 clear h
 by_cases c2 : (a0.size : Int) = 4
 ·rw [if_pos c2] at H
  have c2b0 : ((a0.size : Int) == 4) = true := beq_iff_eq.mpr c2
  have c2b1 : ((a0.size : Int) != 4) = false := bne_eq_false_iff_eq.mpr c2
  clear c2
  by_cases c3 : 0 ≤ 1
  ·rw [if_pos c3] at H
   have c3b0 := eq_true c3
   have c3b1 : decide (0 ≤ 1) = true := decide_eq_true c3
   clear c3
   by_cases c4 : 1 ≤ (a0.size : Int)
   ·rw [if_pos c4] at H
    have c4b0 := eq_true c4
    have c4b1 : decide (1 ≤ (a0.size : Int)) = true := decide_eq_true c4
    clear c4
    by_cases c5 : 1 < (a0.size : Int)
    ·rw [if_pos c5] at H
     have c5b0 : decide (1 < (a0.size : Int)) = true := decide_eq_true c5
     have c5b1 : decide (1 < a0.size) = true := decide_eq_true (by omega)
     clear c5
     by_cases c7 : 3 < (a0.size : Int)
     ·rw [if_pos c7] at H
      have c7b0 : decide (3 < (a0.size : Int)) = true := decide_eq_true c7
      have c7b1 : decide (3 < a0.size) = true := decide_eq_true (by omega)
      clear c7
      replace H := Option.bind_eq_some_iff.mp H
      obtain ⟨t141, A90, H⟩ := H
      replace H : (if t141.toList = a0.toList then (some (a0.extract 0 1, wrap64 ((wrap64 (bt a0 3)) - 48), wrap64 ((wrap64 (bt a0 1)) - 48), true)) else (some ((⟨#[]⟩ : ByteArray), 0, 0, false))) = some (r1, r2, r3, r4) := H
      have A9 := aM A90
      clear A90
      by_cases c10 : t141.toList = a0.toList
      ·rw [if_pos c10] at H
       have c10b0 : (t141.toList == a0.toList) = true := beq_iff_eq.mpr c10
       have c10b1 : (t141.toList != a0.toList) = false := bne_eq_false_iff_eq.mpr c10
       clear c10
       simp only [Option.some.injEq, Prod.mk.injEq] at H
       obtain ⟨rfl, rfl, rfl, rfl⟩ := H
       go_enter Tryd.func17, Tryd.ntmps17
       try go_wp2_with (first | ((with_reducible refine gate_dst (N := 2) rfl ?_); refine box_event ?hg (N := 2) ?hd (cs := #[.string (⟨#[]⟩ : ByteArray), .int .i64 0, .int .i64 0]) (t := 28) ?hr ?_; (case hd => rfl); (case hg => rfl); (case hr => first | (go_simp; done) | (go_simp; rfl)); intro gb139 hg w11 hbox hb; have n0_ := aM (below_step aB hb); have n1_ := aM (hbox); have n2_ := aM ((by rw [hg]; exact (below_size aB) : w.heap.size ≤ gb139)); have n3_ := aM ((by rw [hg]; exact (below_size aB) : w.heap.size ≤ gb139)); clear HB; have HB := n0_; have BK139 := n1_; have GW139 := n2_; have GE139 := n3_; clear n0_ n1_ n2_ n3_; clear hb hbox hg))
       have n0_ := aM (blk_drew BK139.out)
       have n1_ := aM (below_drew1 HB.out)
       clear BK139
       clear HB
       have BK139 := n0_
       have HB := n1_
       clear n0_ n1_
       have p6 : 0 ≤ (1 : Int) := (by omega)
       have q6 : 1 < a0.size := (by have : (1 : Int) < (a0.size : Int) := aD; omega)
       have hx6 : ∀ h : 1 < a0.size, ((a0[1]'h).toNat : Int) = bt a0 1 := bt_at a0 1
       clear p6
       have qi6 : (1 < (a0.size : Int)) = True := eq_true (aD)
       replace q6 := eq_true q6
       have p8 : 0 ≤ (3 : Int) := (by omega)
       have q8 : 3 < a0.size := (by have : (3 : Int) < (a0.size : Int) := aD; omega)
       have hx8 : ∀ h : 3 < a0.size, ((a0[3]'h).toNat : Int) = bt a0 3 := bt_at a0 3
       clear p8
       have qi8 : (3 < (a0.size : Int)) = True := eq_true (aD)
       replace q8 := eq_true q8
       refine start_ (n := 13) (S := fun w' => True) (ds := []) #[false, false, false, false, false, false, false, false, false, false, false, false, false] (by kernel_rfl) rfl rfl trivial (fun hHeld => ?_); refine with_tabW spec_ParseRelation.tab3 spec_ParseRelation.bits3 (fun HT_ HW_ => ?_)
       generalize w11.drew = w12 at BK139 HB hHeld ⊢
       refine pure_ (i := 0) (N := some 9) (v := ?_) (a' := ?_) #[true, false, false, false, false, false, false, false, false, false, false, false, false] rfl rfl (any_of HT_.out (by kernel_rfl)) (fun _ _ _ h => h) (Or.inl ⟨by rfl, ?_⟩) ?_ ?_
       rotate_left
       ·exact aI
       rotate_left
       ·exact aP
       refine pure_ (i := 1) (N := some 10) (v := ?_) (a' := ?_) #[true, true, false, false, false, false, false, false, false, false, false, false, false] rfl rfl (any_of HT_.out (by kernel_rfl)) (fun _ _ _ h => h) (Or.inl ⟨by rfl, ?_⟩) ?_ ?_
       rotate_left
       ·exact aI
       rotate_left
       ·exact aP
       refine pure_ (i := 2) (N := some 11) (v := ?_) (a' := ?_) #[true, true, true, false, false, false, false, false, false, false, false, false, false] rfl rfl (any_of HT_.out (by kernel_rfl)) (fun _ _ _ h => h) (Or.inl ⟨by rfl, ?_⟩) ?_ ?_
       rotate_left
       ·exact aI
       rotate_left
       ·exact aP
       refine pure_ (i := 6) (N := some 15) (v := ?_) (a' := ?_) #[true, true, true, false, false, false, true, false, false, false, false, false, false] rfl rfl (any_of HT_.out (by kernel_rfl)) (fun _ _ _ h => h) (Or.inl ⟨by rfl, ?_⟩) ?_ ?_
       rotate_left
       ·exact aI
       rotate_left
       ·exact aP
       refine take_ (i := 3) (N := some 12) (v := ?_) (a' := ?_) #[true, true, true, true, false, false, true, false, false, false, false, false, false] rfl rfl (take_ofW HT_.out HW_.out (by kernel_rfl)) (fun _ _ _ h => h) (Or.inl ⟨by rfl, ?_⟩) hHeld ?_ ?_
       rotate_left
       ·intro w' _
        go_simp
        with_reducible rfl
       rotate_left
       ·exact aP
       refine pure_ (i := 4) (N := some 13) (v := ?_) (a' := ?_) #[true, true, true, true, true, false, true, false, false, false, false, false, false] rfl rfl (any_of HT_.out (by kernel_rfl)) (fun _ _ _ h => h) (Or.inl ⟨by rfl, ?_⟩) ?_ ?_
       rotate_left
       ·exact aI
       rotate_left
       ·exact aP
       refine pure_ (i := 5) (N := some 14) (v := ?_) (a' := ?_) #[true, true, true, true, true, true, true, false, false, false, false, false, false] rfl rfl (any_of HT_.out (by kernel_rfl)) (fun _ _ _ h => h) (Or.inl ⟨by rfl, ?_⟩) ?_ ?_
       rotate_left
       ·exact aI
       rotate_left
       ·exact aP
       refine take_ (i := 7) (N := some 16) (v := ?_) (a' := ?_) #[true, true, true, true, true, true, true, true, false, false, false, false, false] rfl rfl (take_ofW HT_.out HW_.out (by kernel_rfl)) (fun _ _ _ h => h) (Or.inl ⟨by rfl, ?_⟩) hHeld ?_ ?_
       rotate_left
       ·intro w' _
        go_simp
        with_reducible rfl
       rotate_left
       ·exact aP
       refine pure_ (i := 8) (N := some 17) (v := ?_) (a' := ?_) #[true, true, true, true, true, true, true, true, true, false, false, false, false] rfl rfl (any_of HT_.out (by kernel_rfl)) (fun _ _ _ h => h) (Or.inl ⟨by rfl, ?_⟩) ?_ ?_
       rotate_left
       ·exact aI
       rotate_left
       ·exact aP
       refine pure_ (i := 9) (N := some 18) (v := ?_) (a' := ?_) #[true, true, true, true, true, true, true, true, true, true, false, false, false] rfl rfl (any_of HT_.out (by kernel_rfl)) (fun _ _ _ h => h) (Or.inl ⟨by rfl, ?_⟩) ?_ ?_
       rotate_left
       ·exact aI
       rotate_left
       ·exact aP
       refine pure_ (i := 10) (N := some 19) (v := ?_) (a' := ?_) #[true, true, true, true, true, true, true, true, true, true, true, false, false] rfl rfl (any_of HT_.out (by kernel_rfl)) (fun _ _ _ h => h) (Or.inl ⟨by rfl, ?_⟩) ?_ ?_
       rotate_left
       ·exact aI
       rotate_left
       ·exact aP
       refine one_ (i := 11) (N := some 4) #[true, true, true, true, true, true, true, true, true, true, true, true, false] rfl rfl (one_of HT_.out (by kernel_rfl)) (by decide) (fun K hK => ?_)
       refine box_step ?hg (N := 4) ?hd (cs := #[.string (⟨#[]⟩ : ByteArray), .int .i64 0, .int .i64 0]) (t := 28) ?hr ?_; (case hd => rfl); (case hg => rfl); (case hr => first | (go_simp; done) | (go_simp; rfl))
       intro gb140 hg w13 hbox hb
       have n0_ := aM (blk_below (g := gb139) (o := .cells #[.string (⟨#[]⟩ : ByteArray), .int .i64 0, .int .i64 0] 28 (0, 0)) aK hb)
       have n1_ := aM (below_step aG hb)
       have n2_ := aM (hbox)
       have n3_ := aM ((by rw [hg]; exact (below_size aG) : w.heap.size ≤ gb140))
       have n4_ := aM ((by rw [hg]; exact (below_size aG) : w.heap.size ≤ gb140))
       have n5_ := aM ((by rw [hg]; exact Nat.ne_of_lt (blk_lt (g := gb139) (o := .cells #[.string (⟨#[]⟩ : ByteArray), .int .i64 0, .int .i64 0] 28 (0, 0)) aK) : gb139 ≠ gb140))
       have n6_ := aM ((by rw [hg]; exact Nat.ne_of_gt (blk_lt (g := gb139) (o := .cells #[.string (⟨#[]⟩ : ByteArray), .int .i64 0, .int .i64 0] 28 (0, 0)) aK) : gb140 ≠ gb139))
       clear BK139
       clear HB
       have BK139 := n0_
       have HB := n1_
       have BK140 := n2_
       have GW140 := n3_
       have GE140 := n4_
       have NB139_140 := n5_
       have NB140_139 := n6_
       clear n0_ n1_ n2_ n3_ n4_ n5_ n6_
       clear hb hbox hg
       refine hK.out _ _ trivial (fun hHeld => ?_)
       clear hK K
       refine norm_ (a' := ?_) ?_ ?_
       rotate_left
       ·show Act.put _ (some 4) _ = _
        simp only [Act.put, List.setIfInBounds_toArray, List.set_cons_zero, List.set_cons_succ, i64_w, i32_w]
        rfl
       refine one_ (i := 12) (N := none) #[true, true, true, true, true, true, true, true, true, true, true, true, true] rfl rfl (one_of HT_.out (by kernel_rfl)) (by decide) (fun K hK => ?_)
       have hs14 : w13.cell? ⟨gb140, 0, none⟩ = some (.string (⟨#[]⟩ : ByteArray)) := (blk_cell BK140.out 0).trans rfl
       have hfs14 := blk_frozen BK140.out 0
       have hns14_0 := NB139_140.out
       have hms14_0 := NB140_139.out
       have hs15 : w13.cell? ⟨gb140, 1, none⟩ = some (.int .i64 0) := (blk_cell BK140.out 1).trans rfl
       have hfs15 := blk_frozen BK140.out 1
       have hns15_0 := NB139_140.out
       have hms15_0 := NB140_139.out
       have hs16 : w13.cell? ⟨gb140, 2, none⟩ = some (.int .i64 0) := (blk_cell BK140.out 2).trans rfl
       have hfs16 := blk_frozen BK140.out 2
       have hns16_0 := NB139_140.out
       have hms16_0 := NB140_139.out
       refine skip_ (w1 := ?_) (by rfl) rfl ?_ ?_
       rotate_left
       ·go_simp
        rfl
       refine hK.out _ _ trivial (fun hHeld => ?_)
       clear hK K
       refine done_ (done_of HT_.out (by kernel_rfl)) ?_
       have hnb17 := NB140_139.out
       have hnc17 := NB139_140.out
       have hcz18_0 : w13.cell? ⟨gb140, 0, none⟩ = some (.string (⟨#[]⟩ : ByteArray)) := (blk_cell BK140.out 0).trans rfl
       have hcz18_1 : w13.cell? ⟨gb140, 1, none⟩ = some (.int .i64 0) := (blk_cell BK140.out 1).trans rfl
       have hcz18_2 : w13.cell? ⟨gb140, 2, none⟩ = some (.int .i64 0) := (blk_cell BK140.out 2).trans rfl
       have hfz18_0 := blk_frozen BK140.out 0
       have hfz18_1 := blk_frozen BK140.out 1
       have hfz18_2 := blk_frozen BK140.out 2
       try go_wp2_with (first | ((with_reducible refine gate_callee (f := 14) rfl ?_); refine goesL_ (some 21) rfl rfl Tryd.func14 (by kernel_rfl) rfl #[.agg #[.string (a0.extract 0 1), .int .i64 (wrap64 ((wrap64 (bt a0 3)) - 48)), .int .i64 (wrap64 ((wrap64 (bt a0 1)) - 48))]] rfl (by (try simp only [List.map_toArray, List.map_cons, List.map_nil]); first | done | rfl | (simp only [List.length_drop, List.length_take]; rfl)) ?_; (with_reducible refine (spec_FormatRelation.calls k (a0.extract 0 1) (wrap64 ((wrap64 (bt a0 3)) - 48)) (wrap64 ((wrap64 (bt a0 1)) - 48)) t141 _ A9.out).mono ?_); rintro e w19 ⟨rfl, hb⟩; refine ⟨_, rfl, ?_⟩; have n0_ := aM (blk_below (g := gb139) (o := .cells #[.string (⟨#[]⟩ : ByteArray), .int .i64 0, .int .i64 0] 28 (0, 0)) (by (with_reducible repeat (first | refine blk_drewN ?_ _ | refine blk_drew ?_ | refine blk_alloc ?_ _)); refine blk_far ?_ NB139_140.out _; (with_reducible repeat (first | refine blk_drewN ?_ _ | refine blk_drew ?_ | refine blk_alloc ?_ _)); refine blk_far ?_ NB139_140.out _; (with_reducible repeat (first | refine blk_drewN ?_ _ | refine blk_drew ?_ | refine blk_alloc ?_ _)); refine blk_far ?_ NB139_140.out _; (with_reducible repeat (first | refine blk_drewN ?_ _ | refine blk_drew ?_ | refine blk_alloc ?_ _)); exact BK139.out) hb); have n1_ := aM (blk_below (g := gb140) (o := .cells #[.string (a0.extract 0 1), .int .i64 (wrap64 ((wrap64 (bt a0 3)) - 48)), .int .i64 (wrap64 ((wrap64 (bt a0 1)) - 48))] 28 (0, 0)) (by (with_reducible repeat (first | refine blk_drewN ?_ _ | refine blk_drew ?_ | refine blk_alloc ?_ _)); refine blk_put (cs := #[.string (a0.extract 0 1), .int .i64 (wrap64 ((wrap64 (bt a0 3)) - 48)), .int .i64 0]) ?_ 2 _ rfl; (with_reducible repeat (first | refine blk_drewN ?_ _ | refine blk_drew ?_ | refine blk_alloc ?_ _)); refine blk_put (cs := #[.string (a0.extract 0 1), .int .i64 0, .int .i64 0]) ?_ 1 _ rfl; (with_reducible repeat (first | refine blk_drewN ?_ _ | refine blk_drew ?_ | refine blk_alloc ?_ _)); refine blk_put (cs := #[.string (⟨#[]⟩ : ByteArray), .int .i64 0, .int .i64 0]) ?_ 0 _ rfl; (with_reducible repeat (first | refine blk_drewN ?_ _ | refine blk_drew ?_ | refine blk_alloc ?_ _)); exact BK140.out) hb); have n2_ := aM (below_step aG hb); clear BK139; clear BK140; clear HB; have BK139 := n0_; have BK140 := n1_; have HB := n2_; clear n0_ n1_ n2_; (try clear hb); (try clear hb2); (try clear hk); (try clear hi); have hcz20_0 : w19.cell? ⟨gb140, 0, none⟩ = some (.string (a0.extract 0 1)) := (blk_cell BK140.out 0).trans rfl; have hcz20_1 : w19.cell? ⟨gb140, 1, none⟩ = some (.int .i64 (wrap64 ((wrap64 (bt a0 3)) - 48))) := (blk_cell BK140.out 1).trans rfl; have hcz20_2 : w19.cell? ⟨gb140, 2, none⟩ = some (.int .i64 (wrap64 ((wrap64 (bt a0 1)) - 48))) := (blk_cell BK140.out 2).trans rfl; have hfz20_0 := blk_frozen BK140.out 0; have hfz20_1 := blk_frozen BK140.out 1; have hfz20_2 := blk_frozen BK140.out 2; have hcz21_0 : w19.cell? ⟨gb139, 0, none⟩ = some (.string (⟨#[]⟩ : ByteArray)) := (blk_cell BK139.out 0).trans rfl; have hcz21_1 : w19.cell? ⟨gb139, 1, none⟩ = some (.int .i64 0) := (blk_cell BK139.out 1).trans rfl; have hcz21_2 : w19.cell? ⟨gb139, 2, none⟩ = some (.int .i64 0) := (blk_cell BK139.out 2).trans rfl; have hfz21_0 := blk_frozen BK139.out 0; have hfz21_1 := blk_frozen BK139.out 1; have hfz21_2 := blk_frozen BK139.out 2))
       refine bodyPost_ret (results_ct rfl _ _ gb139 28 #[.string (a0.extract 0 1), .int .i64 (wrap64 ((wrap64 (bt a0 3)) - 48)), .int .i64 (wrap64 ((wrap64 (bt a0 1)) - 48))] (0, 0) _ rfl (by (with_reducible repeat (first | refine blk_drewN ?_ _ | refine blk_drew ?_ | refine blk_alloc ?_ _)); refine blk_put (cs := #[.string (a0.extract 0 1), .int .i64 (wrap64 ((wrap64 (bt a0 3)) - 48)), .int .i64 0]) ?_ 2 _ rfl; (with_reducible repeat (first | refine blk_drewN ?_ _ | refine blk_drew ?_ | refine blk_alloc ?_ _)); refine blk_put (cs := #[.string (a0.extract 0 1), .int .i64 0, .int .i64 0]) ?_ 1 _ rfl; (with_reducible repeat (first | refine blk_drewN ?_ _ | refine blk_drew ?_ | refine blk_alloc ?_ _)); refine blk_put (cs := #[.string (⟨#[]⟩ : ByteArray), .int .i64 0, .int .i64 0]) ?_ 0 _ rfl; (with_reducible repeat (first | refine blk_drewN ?_ _ | refine blk_drew ?_ | refine blk_alloc ?_ _)); exact BK139.out) Tryd.underlying28 rfl (by kernel_rfl)) rfl ?_
       exact ⟨by first | rfl | (simp [errW_none, errW_some] <;> rfl) | (simp [*, errW_none, errW_some] <;> rfl), by repeat (first | (with_reducible first | exact HB.out | apply below_alloc | apply pw_below_drewN | apply below_drew1 | refine below_set ?_ GE139.out | refine below_set ?_ GE140.out) | exact HB.out)⟩
      ·rw [if_neg c10] at H
       have c10b0 : (t141.toList == a0.toList) = false := beq_eq_false_iff_ne.mpr c10
       have c10b1 : (t141.toList != a0.toList) = true := bne_iff_ne.mpr c10
       simp only [Option.some.injEq, Prod.mk.injEq] at H
       obtain ⟨rfl, rfl, rfl, rfl⟩ := H
       go_enter Tryd.func17, Tryd.ntmps17
       try go_wp2_with (first | ((with_reducible refine gate_dst (N := 2) rfl ?_); refine box_event ?hg (N := 2) ?hd (cs := #[.string (⟨#[]⟩ : ByteArray), .int .i64 0, .int .i64 0]) (t := 28) ?hr ?_; (case hd => rfl); (case hg => rfl); (case hr => first | (go_simp; done) | (go_simp; rfl)); intro gb139 hg w22 hbox hb; have n0_ := aM (below_step aB hb); have n1_ := aM (hbox); have n2_ := aM ((by rw [hg]; exact (below_size aB) : w.heap.size ≤ gb139)); have n3_ := aM ((by rw [hg]; exact (below_size aB) : w.heap.size ≤ gb139)); clear HB; have HB := n0_; have BK139 := n1_; have GW139 := n2_; have GE139 := n3_; clear n0_ n1_ n2_ n3_; clear hb hbox hg))
       have n0_ := aM (blk_drew BK139.out)
       have n1_ := aM (below_drew1 HB.out)
       clear BK139
       clear HB
       have BK139 := n0_
       have HB := n1_
       clear n0_ n1_
       have p6 : 0 ≤ (1 : Int) := (by omega)
       have q6 : 1 < a0.size := (by have : (1 : Int) < (a0.size : Int) := aD; omega)
       have hx6 : ∀ h : 1 < a0.size, ((a0[1]'h).toNat : Int) = bt a0 1 := bt_at a0 1
       clear p6
       have qi6 : (1 < (a0.size : Int)) = True := eq_true (aD)
       replace q6 := eq_true q6
       have p8 : 0 ≤ (3 : Int) := (by omega)
       have q8 : 3 < a0.size := (by have : (3 : Int) < (a0.size : Int) := aD; omega)
       have hx8 : ∀ h : 3 < a0.size, ((a0[3]'h).toNat : Int) = bt a0 3 := bt_at a0 3
       clear p8
       have qi8 : (3 < (a0.size : Int)) = True := eq_true (aD)
       replace q8 := eq_true q8
       refine start_ (n := 13) (S := fun w' => True) (ds := []) #[false, false, false, false, false, false, false, false, false, false, false, false, false] (by kernel_rfl) rfl rfl trivial (fun hHeld => ?_); refine with_tabW spec_ParseRelation.tab3 spec_ParseRelation.bits3 (fun HT_ HW_ => ?_)
       generalize w22.drew = w23 at BK139 HB hHeld ⊢
       refine pure_ (i := 0) (N := some 9) (v := ?_) (a' := ?_) #[true, false, false, false, false, false, false, false, false, false, false, false, false] rfl rfl (any_of HT_.out (by kernel_rfl)) (fun _ _ _ h => h) (Or.inl ⟨by rfl, ?_⟩) ?_ ?_
       rotate_left
       ·exact aI
       rotate_left
       ·exact aP
       refine pure_ (i := 1) (N := some 10) (v := ?_) (a' := ?_) #[true, true, false, false, false, false, false, false, false, false, false, false, false] rfl rfl (any_of HT_.out (by kernel_rfl)) (fun _ _ _ h => h) (Or.inl ⟨by rfl, ?_⟩) ?_ ?_
       rotate_left
       ·exact aI
       rotate_left
       ·exact aP
       refine pure_ (i := 2) (N := some 11) (v := ?_) (a' := ?_) #[true, true, true, false, false, false, false, false, false, false, false, false, false] rfl rfl (any_of HT_.out (by kernel_rfl)) (fun _ _ _ h => h) (Or.inl ⟨by rfl, ?_⟩) ?_ ?_
       rotate_left
       ·exact aI
       rotate_left
       ·exact aP
       refine pure_ (i := 6) (N := some 15) (v := ?_) (a' := ?_) #[true, true, true, false, false, false, true, false, false, false, false, false, false] rfl rfl (any_of HT_.out (by kernel_rfl)) (fun _ _ _ h => h) (Or.inl ⟨by rfl, ?_⟩) ?_ ?_
       rotate_left
       ·exact aI
       rotate_left
       ·exact aP
       refine take_ (i := 3) (N := some 12) (v := ?_) (a' := ?_) #[true, true, true, true, false, false, true, false, false, false, false, false, false] rfl rfl (take_ofW HT_.out HW_.out (by kernel_rfl)) (fun _ _ _ h => h) (Or.inl ⟨by rfl, ?_⟩) hHeld ?_ ?_
       rotate_left
       ·intro w' _
        go_simp
        with_reducible rfl
       rotate_left
       ·exact aP
       refine pure_ (i := 4) (N := some 13) (v := ?_) (a' := ?_) #[true, true, true, true, true, false, true, false, false, false, false, false, false] rfl rfl (any_of HT_.out (by kernel_rfl)) (fun _ _ _ h => h) (Or.inl ⟨by rfl, ?_⟩) ?_ ?_
       rotate_left
       ·exact aI
       rotate_left
       ·exact aP
       refine pure_ (i := 5) (N := some 14) (v := ?_) (a' := ?_) #[true, true, true, true, true, true, true, false, false, false, false, false, false] rfl rfl (any_of HT_.out (by kernel_rfl)) (fun _ _ _ h => h) (Or.inl ⟨by rfl, ?_⟩) ?_ ?_
       rotate_left
       ·exact aI
       rotate_left
       ·exact aP
       refine take_ (i := 7) (N := some 16) (v := ?_) (a' := ?_) #[true, true, true, true, true, true, true, true, false, false, false, false, false] rfl rfl (take_ofW HT_.out HW_.out (by kernel_rfl)) (fun _ _ _ h => h) (Or.inl ⟨by rfl, ?_⟩) hHeld ?_ ?_
       rotate_left
       ·intro w' _
        go_simp
        with_reducible rfl
       rotate_left
       ·exact aP
       refine pure_ (i := 8) (N := some 17) (v := ?_) (a' := ?_) #[true, true, true, true, true, true, true, true, true, false, false, false, false] rfl rfl (any_of HT_.out (by kernel_rfl)) (fun _ _ _ h => h) (Or.inl ⟨by rfl, ?_⟩) ?_ ?_
       rotate_left
       ·exact aI
       rotate_left
       ·exact aP
       refine pure_ (i := 9) (N := some 18) (v := ?_) (a' := ?_) #[true, true, true, true, true, true, true, true, true, true, false, false, false] rfl rfl (any_of HT_.out (by kernel_rfl)) (fun _ _ _ h => h) (Or.inl ⟨by rfl, ?_⟩) ?_ ?_
       rotate_left
       ·exact aI
       rotate_left
       ·exact aP
       refine pure_ (i := 10) (N := some 19) (v := ?_) (a' := ?_) #[true, true, true, true, true, true, true, true, true, true, true, false, false] rfl rfl (any_of HT_.out (by kernel_rfl)) (fun _ _ _ h => h) (Or.inl ⟨by rfl, ?_⟩) ?_ ?_
       rotate_left
       ·exact aI
       rotate_left
       ·exact aP
       refine one_ (i := 11) (N := some 4) #[true, true, true, true, true, true, true, true, true, true, true, true, false] rfl rfl (one_of HT_.out (by kernel_rfl)) (by decide) (fun K hK => ?_)
       refine box_step ?hg (N := 4) ?hd (cs := #[.string (⟨#[]⟩ : ByteArray), .int .i64 0, .int .i64 0]) (t := 28) ?hr ?_; (case hd => rfl); (case hg => rfl); (case hr => first | (go_simp; done) | (go_simp; rfl))
       intro gb140 hg w24 hbox hb
       have n0_ := aM (blk_below (g := gb139) (o := .cells #[.string (⟨#[]⟩ : ByteArray), .int .i64 0, .int .i64 0] 28 (0, 0)) aK hb)
       have n1_ := aM (below_step aG hb)
       have n2_ := aM (hbox)
       have n3_ := aM ((by rw [hg]; exact (below_size aG) : w.heap.size ≤ gb140))
       have n4_ := aM ((by rw [hg]; exact (below_size aG) : w.heap.size ≤ gb140))
       have n5_ := aM ((by rw [hg]; exact Nat.ne_of_lt (blk_lt (g := gb139) (o := .cells #[.string (⟨#[]⟩ : ByteArray), .int .i64 0, .int .i64 0] 28 (0, 0)) aK) : gb139 ≠ gb140))
       have n6_ := aM ((by rw [hg]; exact Nat.ne_of_gt (blk_lt (g := gb139) (o := .cells #[.string (⟨#[]⟩ : ByteArray), .int .i64 0, .int .i64 0] 28 (0, 0)) aK) : gb140 ≠ gb139))
       clear BK139
       clear HB
       have BK139 := n0_
       have HB := n1_
       have BK140 := n2_
       have GW140 := n3_
       have GE140 := n4_
       have NB139_140 := n5_
       have NB140_139 := n6_
       clear n0_ n1_ n2_ n3_ n4_ n5_ n6_
       clear hb hbox hg
       refine hK.out _ _ trivial (fun hHeld => ?_)
       clear hK K
       refine norm_ (a' := ?_) ?_ ?_
       rotate_left
       ·show Act.put _ (some 4) _ = _
        simp only [Act.put, List.setIfInBounds_toArray, List.set_cons_zero, List.set_cons_succ, i64_w, i32_w]
        rfl
       refine one_ (i := 12) (N := none) #[true, true, true, true, true, true, true, true, true, true, true, true, true] rfl rfl (one_of HT_.out (by kernel_rfl)) (by decide) (fun K hK => ?_)
       have hs25 : w24.cell? ⟨gb140, 0, none⟩ = some (.string (⟨#[]⟩ : ByteArray)) := (blk_cell BK140.out 0).trans rfl
       have hfs25 := blk_frozen BK140.out 0
       have hns25_0 := NB139_140.out
       have hms25_0 := NB140_139.out
       have hs26 : w24.cell? ⟨gb140, 1, none⟩ = some (.int .i64 0) := (blk_cell BK140.out 1).trans rfl
       have hfs26 := blk_frozen BK140.out 1
       have hns26_0 := NB139_140.out
       have hms26_0 := NB140_139.out
       have hs27 : w24.cell? ⟨gb140, 2, none⟩ = some (.int .i64 0) := (blk_cell BK140.out 2).trans rfl
       have hfs27 := blk_frozen BK140.out 2
       have hns27_0 := NB139_140.out
       have hms27_0 := NB140_139.out
       refine skip_ (w1 := ?_) (by rfl) rfl ?_ ?_
       rotate_left
       ·go_simp
        rfl
       refine hK.out _ _ trivial (fun hHeld => ?_)
       clear hK K
       refine done_ (done_of HT_.out (by kernel_rfl)) ?_
       have hnb28 := NB140_139.out
       have hnc28 := NB139_140.out
       have hcz29_0 : w24.cell? ⟨gb140, 0, none⟩ = some (.string (⟨#[]⟩ : ByteArray)) := (blk_cell BK140.out 0).trans rfl
       have hcz29_1 : w24.cell? ⟨gb140, 1, none⟩ = some (.int .i64 0) := (blk_cell BK140.out 1).trans rfl
       have hcz29_2 : w24.cell? ⟨gb140, 2, none⟩ = some (.int .i64 0) := (blk_cell BK140.out 2).trans rfl
       have hfz29_0 := blk_frozen BK140.out 0
       have hfz29_1 := blk_frozen BK140.out 1
       have hfz29_2 := blk_frozen BK140.out 2
       try go_wp2_with (first | ((with_reducible refine gate_callee (f := 14) rfl ?_); refine goesL_ (some 21) rfl rfl Tryd.func14 (by kernel_rfl) rfl #[.agg #[.string (a0.extract 0 1), .int .i64 (wrap64 ((wrap64 (bt a0 3)) - 48)), .int .i64 (wrap64 ((wrap64 (bt a0 1)) - 48))]] rfl (by (try simp only [List.map_toArray, List.map_cons, List.map_nil]); first | done | rfl | (simp only [List.length_drop, List.length_take]; rfl)) ?_; (with_reducible refine (spec_FormatRelation.calls k (a0.extract 0 1) (wrap64 ((wrap64 (bt a0 3)) - 48)) (wrap64 ((wrap64 (bt a0 1)) - 48)) t141 _ A9.out).mono ?_); rintro e w30 ⟨rfl, hb⟩; refine ⟨_, rfl, ?_⟩; have n0_ := aM (blk_below (g := gb139) (o := .cells #[.string (⟨#[]⟩ : ByteArray), .int .i64 0, .int .i64 0] 28 (0, 0)) (by (with_reducible repeat (first | refine blk_drewN ?_ _ | refine blk_drew ?_ | refine blk_alloc ?_ _)); refine blk_far ?_ NB139_140.out _; (with_reducible repeat (first | refine blk_drewN ?_ _ | refine blk_drew ?_ | refine blk_alloc ?_ _)); refine blk_far ?_ NB139_140.out _; (with_reducible repeat (first | refine blk_drewN ?_ _ | refine blk_drew ?_ | refine blk_alloc ?_ _)); refine blk_far ?_ NB139_140.out _; (with_reducible repeat (first | refine blk_drewN ?_ _ | refine blk_drew ?_ | refine blk_alloc ?_ _)); exact BK139.out) hb); have n1_ := aM (blk_below (g := gb140) (o := .cells #[.string (a0.extract 0 1), .int .i64 (wrap64 ((wrap64 (bt a0 3)) - 48)), .int .i64 (wrap64 ((wrap64 (bt a0 1)) - 48))] 28 (0, 0)) (by (with_reducible repeat (first | refine blk_drewN ?_ _ | refine blk_drew ?_ | refine blk_alloc ?_ _)); refine blk_put (cs := #[.string (a0.extract 0 1), .int .i64 (wrap64 ((wrap64 (bt a0 3)) - 48)), .int .i64 0]) ?_ 2 _ rfl; (with_reducible repeat (first | refine blk_drewN ?_ _ | refine blk_drew ?_ | refine blk_alloc ?_ _)); refine blk_put (cs := #[.string (a0.extract 0 1), .int .i64 0, .int .i64 0]) ?_ 1 _ rfl; (with_reducible repeat (first | refine blk_drewN ?_ _ | refine blk_drew ?_ | refine blk_alloc ?_ _)); refine blk_put (cs := #[.string (⟨#[]⟩ : ByteArray), .int .i64 0, .int .i64 0]) ?_ 0 _ rfl; (with_reducible repeat (first | refine blk_drewN ?_ _ | refine blk_drew ?_ | refine blk_alloc ?_ _)); exact BK140.out) hb); have n2_ := aM (below_step aG hb); clear BK139; clear BK140; clear HB; have BK139 := n0_; have BK140 := n1_; have HB := n2_; clear n0_ n1_ n2_; (try clear hb); (try clear hb2); (try clear hk); (try clear hi); have hcz31_0 : w30.cell? ⟨gb139, 0, none⟩ = some (.string (⟨#[]⟩ : ByteArray)) := (blk_cell BK139.out 0).trans rfl; have hcz31_1 : w30.cell? ⟨gb139, 1, none⟩ = some (.int .i64 0) := (blk_cell BK139.out 1).trans rfl; have hcz31_2 : w30.cell? ⟨gb139, 2, none⟩ = some (.int .i64 0) := (blk_cell BK139.out 2).trans rfl; have hfz31_0 := blk_frozen BK139.out 0; have hfz31_1 := blk_frozen BK139.out 1; have hfz31_2 := blk_frozen BK139.out 2))
       refine bodyPost_ret (results_ct rfl _ _ gb139 28 #[.string (⟨#[]⟩ : ByteArray), .int .i64 0, .int .i64 0] (0, 0) _ rfl (by (with_reducible repeat (first | refine blk_drewN ?_ _ | refine blk_drew ?_ | refine blk_alloc ?_ _)); refine blk_put (cs := #[.string (⟨#[]⟩ : ByteArray), .int .i64 0, .int .i64 0]) ?_ 2 _ rfl; (with_reducible repeat (first | refine blk_drewN ?_ _ | refine blk_drew ?_ | refine blk_alloc ?_ _)); refine blk_put (cs := #[.string (⟨#[]⟩ : ByteArray), .int .i64 0, .int .i64 0]) ?_ 1 _ rfl; (with_reducible repeat (first | refine blk_drewN ?_ _ | refine blk_drew ?_ | refine blk_alloc ?_ _)); refine blk_put (cs := #[.string (⟨#[]⟩ : ByteArray), .int .i64 0, .int .i64 0]) ?_ 0 _ rfl; (with_reducible repeat (first | refine blk_drewN ?_ _ | refine blk_drew ?_ | refine blk_alloc ?_ _)); exact BK139.out) Tryd.underlying28 rfl (by kernel_rfl)) rfl ?_
       exact ⟨by first | rfl | (simp [errW_none, errW_some] <;> rfl) | (simp [*, errW_none, errW_some] <;> rfl), by repeat (first | (with_reducible first | exact HB.out | apply below_alloc | apply pw_below_drewN | apply below_drew1 | refine below_set ?_ GE139.out | refine below_set ?_ GE140.out) | exact HB.out)⟩
     ·rw [if_neg c7] at H
      exact absurd H (by simp)
    ·rw [if_neg c5] at H
     exact absurd H (by simp)
   ·rw [if_neg c4] at H
    exact absurd H (by simp)
  ·rw [if_neg c3] at H
   exact absurd H (by simp)
 ·rw [if_neg c2] at H
  have c2b0 : ((a0.size : Int) == 4) = false := beq_eq_false_iff_ne.mpr c2
  have c2b1 : ((a0.size : Int) != 4) = true := bne_iff_ne.mpr c2
  simp only [Option.some.injEq, Prod.mk.injEq] at H
  obtain ⟨rfl, rfl, rfl, rfl⟩ := H
  go_enter Tryd.func17, Tryd.ntmps17
  go_wp2_with (first | ((with_reducible refine gate_dst (N := 2) rfl ?_); refine box_event ?hg (N := 2) ?hd (cs := #[.string (⟨#[]⟩ : ByteArray), .int .i64 0, .int .i64 0]) (t := 28) ?hr ?_; (case hd => rfl); (case hg => rfl); (case hr => first | (go_simp; done) | (go_simp; rfl)); intro gb139 hg w32 hbox hb; have n0_ := aM (below_step aB hb); have n1_ := aM (hbox); have n2_ := aM ((by rw [hg]; exact (below_size aB) : w.heap.size ≤ gb139)); have n3_ := aM ((by rw [hg]; exact (below_size aB) : w.heap.size ≤ gb139)); clear HB; have HB := n0_; have BK139 := n1_; have GW139 := n2_; have GE139 := n3_; clear n0_ n1_ n2_ n3_; clear hb hbox hg; have hcz33_0 : w32.cell? ⟨gb139, 0, none⟩ = some (.string (⟨#[]⟩ : ByteArray)) := (blk_cell BK139.out 0).trans rfl; have hcz33_1 : w32.cell? ⟨gb139, 1, none⟩ = some (.int .i64 0) := (blk_cell BK139.out 1).trans rfl; have hcz33_2 : w32.cell? ⟨gb139, 2, none⟩ = some (.int .i64 0) := (blk_cell BK139.out 2).trans rfl; have hfz33_0 := blk_frozen BK139.out 0; have hfz33_1 := blk_frozen BK139.out 1; have hfz33_2 := blk_frozen BK139.out 2))
  refine bodyPost_ret (results_ct rfl _ _ gb139 28 #[.string (⟨#[]⟩ : ByteArray), .int .i64 0, .int .i64 0] (0, 0) _ rfl (by (with_reducible repeat (first | refine blk_drewN ?_ _ | refine blk_drew ?_ | refine blk_alloc ?_ _)); refine blk_put (cs := #[.string (⟨#[]⟩ : ByteArray), .int .i64 0, .int .i64 0]) ?_ 2 _ rfl; (with_reducible repeat (first | refine blk_drewN ?_ _ | refine blk_drew ?_ | refine blk_alloc ?_ _)); refine blk_put (cs := #[.string (⟨#[]⟩ : ByteArray), .int .i64 0, .int .i64 0]) ?_ 1 _ rfl; (with_reducible repeat (first | refine blk_drewN ?_ _ | refine blk_drew ?_ | refine blk_alloc ?_ _)); refine blk_put (cs := #[.string (⟨#[]⟩ : ByteArray), .int .i64 0, .int .i64 0]) ?_ 0 _ rfl; (with_reducible repeat (first | refine blk_drewN ?_ _ | refine blk_drew ?_ | refine blk_alloc ?_ _)); exact BK139.out) Tryd.underlying28 rfl (by kernel_rfl)) rfl ?_
  exact ⟨by first | rfl | (simp [errW_none, errW_some] <;> rfl) | (simp [*, errW_none, errW_some] <;> rfl), by repeat (first | (with_reducible first | exact HB.out | apply below_alloc | apply pw_below_drewN | apply below_drew1 | refine below_set ?_ GE139.out) | exact HB.out)⟩

end Go.Proofs.YtdpaopfghggiaaaDoor.PFnRelationFormat
