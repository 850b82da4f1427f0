import Derived.Test.YteddnlklfjpgoaaPFnInsertDeletex0
namespace Go.Proofs.Yteddnlklfjpgoaa.PFnInsertDelete
open Go.RowKit Go.Proofs.YteddnlklfjpgoaaW.PrintWords Go.Proofs.YteddnlklfjpgoaaW.PrintLast Go.Proofs.YteddnlklfjpgoaaW.PrintMore
attribute [local go_sem] max2_int min2_int max_two min_two max_three min_three max_four min_four
set_option linter.unusedVariables false
set_option linter.unusedSimpArgs false

/-! ### spec_l1In: function 61 -/
def spec_l1In.f (a0 : Int) (a1 : Int) (a2 : Int) : Option (Bool) := if a0 ≥ a1 then (some (decide (a0 ≤ a2))) else (some false)
set_option maxHeartbeats 8000000 in
set_option maxRecDepth 100000 in
theorem spec_l1In.calls (a0 : Int) (a1 : Int) (a2 : Int) (r : Bool) (w : World) (h : spec_l1In.f a0 a1 a2 = some r) :
  Calls Try.prog 61 #[.int .i64 a0, .int .i64 a1, .int .i64 a2] w fun e w' => e = .returned (.bool r) ∧ Drawn0 w w' := by
 unfold spec_l1In.f at h
 replace h := ih h; rcases h with ⟨c0, c0a, h⟩ | ⟨c0, c0a, h⟩
 obtain rfl := si h
 rotate_left
 obtain rfl := si h
 rotate_left
 all_goals (go_enter Try.func61, Try.ntmps61; go_wp2; go_ret; exact zE zD)

/-! ### impl_within: function 63 -/
def impl_within.f (a0 : Int) (a1 : Int) (a2 : Int) : Option (Bool) := if a1 ≤ a0 then (some (decide (a0 ≤ a2))) else (some false)
set_option maxHeartbeats 8000000 in
set_option maxRecDepth 100000 in
theorem impl_within.calls (a0 : Int) (a1 : Int) (a2 : Int) (r : Bool) (w : World) (h : impl_within.f a0 a1 a2 = some r) :
  Calls Try.prog 63 #[.int .i64 a0, .int .i64 a1, .int .i64 a2] w fun e w' => e = .returned (.bool r) ∧ Drawn0 w w' := by
 unfold impl_within.f at h
 replace h := ie h; rcases h with ⟨c0, c0a, h⟩ | ⟨c0, c0a, h⟩
 obtain rfl := si h
 rotate_left
 obtain rfl := si h
 rotate_left
 all_goals (go_enter Try.func63, Try.ntmps63; go_wp2; go_ret; exact zE zD)

/-! ### impl_IsValidRelation: function 76 -/
def impl_IsValidRelation.f (a0_0 : ByteArray) (a0_1 : Int) (a0_2 : Int) : Option (Bool) := if (a0_0.size : Int) = 1 then (if 0 < (a0_0.size : Int) then (if (bt a0_0 0) ≥ 97 then (if (bt a0_0 0) ≤ 122 then ((impl_within.f a0_1 1 3).bind fun t102 => (if t102 = true then ((impl_within.f a0_2 0 a0_1).bind fun t103 => (some t103)) else (some false))) else (some false)) else (some false)) else (none)) else (some false)
set_option maxHeartbeats 8000000 in
set_option maxRecDepth 100000 in
theorem impl_IsValidRelation.calls (a0_0 : ByteArray) (a0_1 : Int) (a0_2 : Int) (r : Bool) (w : World) (h : impl_IsValidRelation.f a0_0 a0_1 a0_2 = some r) :
  Calls Try.prog 76 #[.agg #[.string a0_0, .int .i64 a0_1, .int .i64 a0_2]] w fun e w' => e = .returned (.bool r) ∧ Below w.heap.size w w' := by
 have hu74 := Try.underlying74
 obtain ⟨W, hW⟩ : ∃ W, w.alloc (.cells #[.string a0_0, .int .i64 a0_1, .int .i64 a0_2] 74) = W := ⟨_, rfl⟩
 have q0 := qa (w := W) (p := ⟨w.heap.size, 0, none⟩) (v := .string a0_0) (by subst hW; go_simp)
 have q1 := qa (w := W) (p := ⟨w.heap.size, 1, none⟩) (v := .int .i64 a0_1) (by subst hW; go_simp)
 have q2 := qa (w := W) (p := ⟨w.heap.size, 2, none⟩) (v := .int .i64 a0_2) (by subst hW; go_simp)
 have HB : Below w.heap.size w W := by subst hW; exact zB
 have HW := Below.refl W.heap.size W
 have hb := aM HB
 unfold impl_IsValidRelation.f at h
 replace h := iq h; rcases h with ⟨c0, ⟨c0a, c0b⟩, h⟩ | ⟨c0, ⟨c0a, c0b⟩, h⟩
 replace h := il h; rcases h with ⟨c1, c1a, h⟩ | ⟨c1, c1a, h⟩
 have cz := c1.out
 have c1x1 : decide (0 < a0_0.size) = true := decide_eq_true (by omega)
 clear cz
 replace h := ih h; rcases h with ⟨c2, c2a, h⟩ | ⟨c2, c2a, h⟩
 replace h := ie h; rcases h with ⟨c3, c3a, h⟩ | ⟨c3, c3a, h⟩
 replace h := bs h; obtain ⟨t102, B4, h⟩ := h
 replace h := ib h; rcases h with ⟨rfl, h⟩ | ⟨rfl, h⟩
 replace h := bs h; obtain ⟨t103, B6, h⟩ := h
 obtain rfl := si h
 have hxb1 : ∀ h : 0 < a0_0.size, ((a0_0[0]'h).toNat : Int) = bt a0_0 0 := bt_at a0_0 0
 have qib1 := eq_true (aD : 0 < (a0_0.size : Int))
 have qb1 : (0 < a0_0.size) = True := eq_true (by have : (0 : Int) < (a0_0.size : Int) := aD; omega)
 have hxb2 : ∀ h : 0 < a0_0.size, ((a0_0[0]'h).toNat : Int) = bt a0_0 0 := bt_at a0_0 0
 have qib2 := eq_true (aD : 0 < (a0_0.size : Int))
 have qb2 : (0 < a0_0.size) = True := eq_true (by have : (0 : Int) < (a0_0.size : Int) := aD; omega)
 rotate_left
 obtain rfl := si h
 have hxb3 : ∀ h : 0 < a0_0.size, ((a0_0[0]'h).toNat : Int) = bt a0_0 0 := bt_at a0_0 0
 have qib3 := eq_true (aD : 0 < (a0_0.size : Int))
 have qb3 : (0 < a0_0.size) = True := eq_true (by have : (0 : Int) < (a0_0.size : Int) := aD; omega)
 have hxb4 : ∀ h : 0 < a0_0.size, ((a0_0[0]'h).toNat : Int) = bt a0_0 0 := bt_at a0_0 0
 have qib4 := eq_true (aD : 0 < (a0_0.size : Int))
 have qb4 : (0 < a0_0.size) = True := eq_true (by have : (0 : Int) < (a0_0.size : Int) := aD; omega)
 rotate_left
 obtain rfl := si h
 have hxb5 : ∀ h : 0 < a0_0.size, ((a0_0[0]'h).toNat : Int) = bt a0_0 0 := bt_at a0_0 0
 have qib5 := eq_true (aD : 0 < (a0_0.size : Int))
 have qb5 : (0 < a0_0.size) = True := eq_true (by have : (0 : Int) < (a0_0.size : Int) := aD; omega)
 have hxb6 : ∀ h : 0 < a0_0.size, ((a0_0[0]'h).toNat : Int) = bt a0_0 0 := bt_at a0_0 0
 have qib6 := eq_true (aD : 0 < (a0_0.size : Int))
 have qb6 : (0 < a0_0.size) = True := eq_true (by have : (0 : Int) < (a0_0.size : Int) := aD; omega)
 rotate_left
 obtain rfl := si h
 have hxb7 : ∀ h : 0 < a0_0.size, ((a0_0[0]'h).toNat : Int) = bt a0_0 0 := bt_at a0_0 0
 have qib7 := eq_true (aD : 0 < (a0_0.size : Int))
 have qb7 : (0 < a0_0.size) = True := eq_true (by have : (0 : Int) < (a0_0.size : Int) := aD; omega)
 rotate_left
 exact absurd h (by simp)
 obtain rfl := si h
 rotate_left
 all_goals (go_enter Try.func76, Try.ntmps76; go_wp2_with (first | (go_at_call 63; refine (impl_within.calls _ _ _ ?_ _ ?h).mono ?_; (case h => exact zA); rintro e w1 ⟨rfl, hb⟩; replace hb := hb.below; replace hb := aM hb; have HW : Below W.heap.size W w1 := zB; have HB : Below w.heap.size w w1 := zB)); go_ret; exact zE zB)

/-! ### spec_IsValidRelation: function 77 -/
def spec_IsValidRelation.f (a0_0 : ByteArray) (a0_1 : Int) (a0_2 : Int) : Option (Bool) := if (a0_0.size : Int) = 1 then (if 0 < (a0_0.size : Int) then (if (bt a0_0 0) ≥ 97 then (if (bt a0_0 0) ≤ 122 then ((spec_l1In.f a0_1 1 3).bind fun t105 => (if t105 = true then ((spec_l1In.f a0_2 0 a0_1).bind fun t106 => (some t106)) else (some false))) else (some false)) else (some false)) else (none)) else (some false)
set_option maxHeartbeats 8000000 in
set_option maxRecDepth 100000 in
theorem spec_IsValidRelation.calls (a0_0 : ByteArray) (a0_1 : Int) (a0_2 : Int) (r : Bool) (w : World) (h : spec_IsValidRelation.f a0_0 a0_1 a0_2 = some r) :
  Calls Try.prog 77 #[.agg #[.string a0_0, .int .i64 a0_1, .int .i64 a0_2]] w fun e w' => e = .returned (.bool r) ∧ Below w.heap.size w w' := by
 have hu74 := Try.underlying74
 obtain ⟨W, hW⟩ : ∃ W, w.alloc (.cells #[.string a0_0, .int .i64 a0_1, .int .i64 a0_2] 74) = W := ⟨_, rfl⟩
 have q0 := qa (w := W) (p := ⟨w.heap.size, 0, none⟩) (v := .string a0_0) (by subst hW; go_simp)
 have q1 := qa (w := W) (p := ⟨w.heap.size, 1, none⟩) (v := .int .i64 a0_1) (by subst hW; go_simp)
 have q2 := qa (w := W) (p := ⟨w.heap.size, 2, none⟩) (v := .int .i64 a0_2) (by subst hW; go_simp)
 have HB : Below w.heap.size w W := by subst hW; exact zB
 have HW := Below.refl W.heap.size W
 have hb := aM HB
 unfold spec_IsValidRelation.f at h
 replace h := iq h; rcases h with ⟨c0, ⟨c0a, c0b⟩, h⟩ | ⟨c0, ⟨c0a, c0b⟩, h⟩
 replace h := il h; rcases h with ⟨c1, c1a, h⟩ | ⟨c1, c1a, h⟩
 have cz := c1.out
 have c1x1 : decide (0 < a0_0.size) = true := decide_eq_true (by omega)
 clear cz
 replace h := ih h; rcases h with ⟨c2, c2a, h⟩ | ⟨c2, c2a, h⟩
 replace h := ie h; rcases h with ⟨c3, c3a, h⟩ | ⟨c3, c3a, h⟩
 replace h := bs h; obtain ⟨t105, B4, h⟩ := h
 replace h := ib h; rcases h with ⟨rfl, h⟩ | ⟨rfl, h⟩
 replace h := bs h; obtain ⟨t106, B6, h⟩ := h
 obtain rfl := si h
 have hxb1 : ∀ h : 0 < a0_0.size, ((a0_0[0]'h).toNat : Int) = bt a0_0 0 := bt_at a0_0 0
 have qib1 := eq_true (aD : 0 < (a0_0.size : Int))
 have qb1 : (0 < a0_0.size) = True := eq_true (by have : (0 : Int) < (a0_0.size : Int) := aD; omega)
 have hxb2 : ∀ h : 0 < a0_0.size, ((a0_0[0]'h).toNat : Int) = bt a0_0 0 := bt_at a0_0 0
 have qib2 := eq_true (aD : 0 < (a0_0.size : Int))
 have qb2 : (0 < a0_0.size) = True := eq_true (by have : (0 : Int) < (a0_0.size : Int) := aD; omega)
 rotate_left
 obtain rfl := si h
 have hxb3 : ∀ h : 0 < a0_0.size, ((a0_0[0]'h).toNat : Int) = bt a0_0 0 := bt_at a0_0 0
 have qib3 := eq_true (aD : 0 < (a0_0.size : Int))
 have qb3 : (0 < a0_0.size) = True := eq_true (by have : (0 : Int) < (a0_0.size : Int) := aD; omega)
 have hxb4 : ∀ h : 0 < a0_0.size, ((a0_0[0]'h).toNat : Int) = bt a0_0 0 := bt_at a0_0 0
 have qib4 := eq_true (aD : 0 < (a0_0.size : Int))
 have qb4 : (0 < a0_0.size) = True := eq_true (by have : (0 : Int) < (a0_0.size : Int) := aD; omega)
 rotate_left
 obtain rfl := si h
 have hxb5 : ∀ h : 0 < a0_0.size, ((a0_0[0]'h).toNat : Int) = bt a0_0 0 := bt_at a0_0 0
 have qib5 := eq_true (aD : 0 < (a0_0.size : Int))
 have qb5 : (0 < a0_0.size) = True := eq_true (by have : (0 : Int) < (a0_0.size : Int) := aD; omega)
 have hxb6 : ∀ h : 0 < a0_0.size, ((a0_0[0]'h).toNat : Int) = bt a0_0 0 := bt_at a0_0 0
 have qib6 := eq_true (aD : 0 < (a0_0.size : Int))
 have qb6 : (0 < a0_0.size) = True := eq_true (by have : (0 : Int) < (a0_0.size : Int) := aD; omega)
 rotate_left
 obtain rfl := si h
 have hxb7 : ∀ h : 0 < a0_0.size, ((a0_0[0]'h).toNat : Int) = bt a0_0 0 := bt_at a0_0 0
 have qib7 := eq_true (aD : 0 < (a0_0.size : Int))
 have qb7 : (0 < a0_0.size) = True := eq_true (by have : (0 : Int) < (a0_0.size : Int) := aD; omega)
 rotate_left
 exact absurd h (by simp)
 obtain rfl := si h
 rotate_left
 all_goals (go_enter Try.func77, Try.ntmps77; go_wp2_with (first | (go_at_call 61; refine (spec_l1In.calls _ _ _ ?_ _ ?h).mono ?_; (case h => exact zA); rintro e w1 ⟨rfl, hb⟩; replace hb := hb.below; replace hb := aM hb; have HW : Below W.heap.size W w1 := zB; have HB : Below w.heap.size w w1 := zB)); go_ret; exact zE zB)

/-! ### spec_AreValidRelations: function 57 -/
/-- x lies between a and b. -/
def inB (x a b : Int) : Bool := decide (a ≤ x ∧ x ≤ b)
theorem inI (x a b : Int) : impl_within.f x a b = some (inB x a b) := by
 unfold impl_within.f inB
 by_cases h : a ≤ x
 ·rw [if_pos h]; simp [h]
 ·rw [if_neg h]; simp [h]
/-- A valid relation. -/
def vRel (r : S74) : Bool := decide ((r.f0.size : Int) = 1 ∧ 97 ≤ bt r.f0 0 ∧ bt r.f0 0 ≤ 122) && inB r.f1 1 3 && inB r.f2 0 r.f1
theorem vRelI (r : S74) : impl_IsValidRelation.f r.f0 r.f1 r.f2 = some (vRel r) := by
 unfold impl_IsValidRelation.f vRel
 simp only [inI]
 by_cases h1 : (r.f0.size : Int) = 1
 ·rw [if_pos h1, if_pos (by omega)]
  by_cases h2 : bt r.f0 0 ≥ 97
  ·rw [if_pos h2]
   by_cases h3 : bt r.f0 0 ≤ 122
   ·rw [if_pos h3]
    have h2' : 97 ≤ bt r.f0 0 := h2
    simp only [Option.bind_some, h1, h2', h3, and_self, decide_true, Bool.true_and]
    cases inB r.f1 1 3 <;> simp
   ·rw [if_neg h3]; simp [h3]
  ·rw [if_neg h2]
   have h2' : ¬ 97 ≤ bt r.f0 0 := h2
   simp [h2']
 ·rw [if_neg h1]; simp [h1]
/-- From place i on each relation is valid and stands behind its forerunner. -/
def vRelsFrom (l : List S74) : Nat → Nat → Bool
 | 0, _ => decide ((l.length : Int) ≤ 4)
 | d + 1, i => vRel (l.getD i z74) && (decide (i = 0) || Op.bytesLess (l.getD (i - 1) z74).f0.toList (l.getD i z74).f0.toList) && vRelsFrom l d (i + 1)
/-- Valid relations. -/
def vRels (l : List S74) : Bool := vRelsFrom l l.length 0

theorem inS (x a b : Int) : spec_l1In.f x a b = some (inB x a b) := by
 unfold spec_l1In.f inB
 by_cases h : a ≤ x
 ·rw [if_pos h]; simp [h]
 ·rw [if_neg h]; simp [h]
theorem vRelS (r : S74) : spec_IsValidRelation.f r.f0 r.f1 r.f2 = some (vRel r) := by
 rw [← vRelI r]
 unfold impl_IsValidRelation.f spec_IsValidRelation.f
 simp only [inS, inI]
def spec_AreValidRelations.f (l0 : List S74) : Option Bool := some (vRels l0)
set_option maxHeartbeats 4000000 in
set_option maxRecDepth 100000 in
theorem spec_AreValidRelations.calls (A0 : Option Addr) (c0 : Nat) (l0 : List S74) (r : Bool) (w : World) (hr0 : Kd.C k74 w A0 l0.length l0) (hc0 : l0.length ≤ c0) (h : spec_AreValidRelations.f l0 = some r) :
  Calls Try.prog 57 #[.slice A0 l0.length c0] w fun e w' => e = .returned (.bool r) ∧ Below w.heap.size w w' := by
 obtain rfl := Option.some.inj h
 have hl : l0.length ≤ 9223372036854775807 := hr0.2.1
 have HR := aM hr0
 clear hr0 h
 go_enter Try.func57, Try.ntmps57
 go_wp2
 go_loopg [3] l0.length (fun gg s3 wr => ∃ i : Nat, i ≤ l0.length ∧ l0.length - i ≤ gg ∧ s3 = .int .i64 i ∧ Aside0 (Below w.heap.size w wr) ∧ Aside0 (vRelsFrom l0 (l0.length - i) i = vRels l0))
 case atStart => exact ⟨0, Nat.zero_le _, by omega, rfl, ⟨Below.refl _ _⟩, ⟨rfl⟩⟩
 case round =>
  obtain ⟨i, hi, hg, rfl, BW, HA⟩ := hrel
  by_cases hlt : i < l0.length
  ·have hltz : (i : Int) < (l0.length : Int) := by omega
   have hi00 : (0 : Int) ≤ (i : Int) := by omega
   obtain ⟨ad, e, h0, h1, h2⟩ := at_T74 (Kd.C_below HR.out BW.out) (i : Int) (by omega) hltz
   rw [Int.toNat_natCast] at h0 h1 h2
   cases e
   have hrd : rd_T74 l0 (i : Int) = l0.getD i z74 := by unfold rd_T74; rw [Int.toNat_natCast]
   rw [hrd] at h0 h1 h2
   clear hrd
   have HX : Aside0 (vRelsFrom l0 (l0.length - i) i = (vRel (l0.getD i z74) && (decide (i = 0) || Op.bytesLess (l0.getD (i - 1) z74).f0.toList (l0.getD i z74).f0.toList) && vRelsFrom l0 (l0.length - (i + 1)) (i + 1))) := ⟨by
    rw [show l0.length - i = (l0.length - (i + 1)) + 1 by omega]; rfl⟩
   generalize l0.getD i z74 = x at h0 h1 h2 HX
   have HC : Aside0 (∀ (W : World) d os, Calls Try.prog 77 #[.agg #[.string x.f0, .int .i64 x.f1, .int .i64 x.f2]] (Go.Sort.grow (redrawn W d) os) fun e w'' => e = .returned (.bool (vRel x)) ∧ ∃ p : Regrown, w'' = Go.Sort.grow (redrawn W p.d) p.os) := ⟨fun W d os => Calls.regrown_of (spec_IsValidRelation.calls x.f0 x.f1 x.f2 (vRel x) _ (vRelS x))⟩
   have f0 := cell_regrown h0
   have f1 := cell_regrown h1
   have f2 := cell_regrown h2
   clear h0 h1 h2
   by_cases hi0 : i = 0 ∨ vRel x = false
   ·have hd0 : vRel x = true → decide (0 < i) = false := fun hx => by
     rcases hi0 with h | h
     ·simp [h]
     ·rw [hx] at h; cases h
    have hX : vRelsFrom l0 (l0.length - i) i = (vRel x && vRelsFrom l0 (l0.length - (i + 1)) (i + 1)) := by
     rw [HX.out]
     rcases hi0 with h | h
     ·simp [h]
     ·simp [h]
    have HX := aM hX
    clear hX hi0
    cases hv : vRel x with
    | false =>
     have HV := aM hv
     clear hv hd0
     go_wp2_with fail
     have hc := HC.out wr
     rw [HV.out] at hc
     have HC := aM hc
     clear hc
     refine wp_region_quiet_below (by kernel_rfl) (by kernel_rfl) ?_
     repeat (go_big_quiet_step (exact HC.out _ _))
     refine wpQuiet_nil ?_
     intro _ hw'
     obtain ⟨⟨dq, osq⟩, hw''⟩ := hw'
     subst hw''
     go_wp2
     go_ret
     exact ⟨by rw [← HA.out, HX.out, HV.out]; rfl, below_then BW.out BW.out.size (below_regrown _ _ _)⟩
    | true =>
     have hd0 := hd0 hv
     have HV := aM hv
     clear hv
     go_wp2_with fail
     have hc := HC.out wr
     rw [HV.out] at hc
     have HC := aM hc
     clear hc
     refine wp_region_quiet_below (by kernel_rfl) (by kernel_rfl) ?_
     repeat (go_big_quiet_step (exact HC.out _ _))
     refine wpQuiet_nil ?_
     intro _ hw'
     obtain ⟨⟨dq, osq⟩, hw''⟩ := hw'
     subst hw''
     go_wp2
     go_roundg (l0.length - (i + 1))
     case measure => omega
     case rel => exact ⟨i + 1, by omega, by omega, by go_num, ⟨below_then BW.out BW.out.size (below_regrown _ _ _)⟩, ⟨by rw [← HA.out, HX.out, HV.out]; rfl⟩⟩
   ·have hi1 : i ≠ 0 := fun h => hi0 (.inl h)
    have hv : vRel x = true := by
     cases h : vRel x with
     | true => rfl
     | false => exact absurd (.inr h) hi0
    clear hi0
    obtain ⟨ad', e', k0, _, _⟩ := at_T74 (Kd.C_below HR.out BW.out) ((i - 1 : Nat) : Int) (by omega) (by omega)
    cases e'
    rw [Int.toNat_natCast] at k0
    have hrd : rd_T74 l0 ((i - 1 : Nat) : Int) = l0.getD (i - 1) z74 := by unfold rd_T74; rw [Int.toNat_natCast]
    rw [hrd] at k0
    clear hrd
    have hX : vRelsFrom l0 (l0.length - i) i = (Op.bytesLess (l0.getD (i - 1) z74).f0.toList x.f0.toList && vRelsFrom l0 (l0.length - (i + 1)) (i + 1)) := by
     rw [HX.out, hv]; simp [hi1]
    have HX := aM hX
    have HV := aM hv
    clear hX hv
    generalize (l0.getD (i - 1) z74).f0 = y at k0 HX
    have f3 := cell_regrown k0
    clear k0
    have e3 : IntKind.i64.wrap ((i : Int) - 1) = ((i - 1 : Nat) : Int) := by rw [IntKind.wrap_i64]; omega
    have hd0 : decide (0 < i) = true := by simp; omega
    have hm0 : (0 : Int) ≤ ((i - 1 : Nat) : Int) := by omega
    have hm1 : ((i - 1 : Nat) : Int) < (l0.length : Int) := by omega
    go_wp2_with fail
    have hc := HC.out wr
    rw [HV.out] at hc
    have HC := aM hc
    clear hc
    cases hb : Op.bytesLess y.toList x.f0.toList with
    | false =>
     refine wp_region_quiet_below (by kernel_rfl) (by kernel_rfl) ?_
     repeat (go_big_quiet_step (exact HC.out _ _))
     refine wpQuiet_nil ?_
     intro _ hw'
     obtain ⟨⟨dq, osq⟩, hw''⟩ := hw'
     subst hw''
     have HB := aM hb
     clear hb
     go_wp2
     go_ret
     exact ⟨by rw [← HA.out, HX.out, HB.out]; rfl, below_then BW.out BW.out.size (below_regrown _ _ _)⟩
    | true =>
     refine wp_region_quiet_below (by kernel_rfl) (by kernel_rfl) ?_
     repeat (go_big_quiet_step (exact HC.out _ _))
     refine wpQuiet_nil ?_
     intro _ hw'
     obtain ⟨⟨dq, osq⟩, hw''⟩ := hw'
     subst hw''
     have HB := aM hb
     clear hb
     go_wp2
     go_roundg (l0.length - (i + 1))
     case measure => omega
     case rel => exact ⟨i + 1, by omega, by omega, by go_num, ⟨below_then BW.out BW.out.size (below_regrown _ _ _)⟩, ⟨by rw [← HA.out, HX.out, HB.out]; rfl⟩⟩
  ·have hd : decide (i < l0.length) = false := decide_eq_false hlt
   have hle : l0.length ≤ i := by omega
   have HX : Aside0 (vRels l0 = decide (l0.length ≤ 4)) := ⟨by rw [← HA.out, show l0.length - i = 0 by omega]; exact decide_eq_decide.2 (by omega)⟩
   clear hlt
   go_wp2
   go_ret
   exact ⟨by rw [HX.out]; first | rfl | (simp; done) | (simp; omega), BW.out⟩


/-! ### spec_IsValidFact: function 47 -/
mutual
def spec_IsValidFact.j0 : Nat → Bool → Int → List Int → Option (Bool)
 | 0, _, _, _ => none
 | k + 1, x29, x108000, x108001 => if x29 = true then (some false) else (spec_IsValidFact.l0 k 0 x108000 x108001)
def spec_IsValidFact.l0 : Nat → Int → Int → List Int → Option (Bool)
 | 0, _, _, _ => none
 | k + 1, x5, x108000, x108001 => if x5 < (x108001.length : Int) then (if 0 ≤ x5 then ((spec_l1In.f (rd x108001 x5) 0 9).bind fun t112 => (if t112 = true then (spec_IsValidFact.l0 k (wrap64 (x5 + 1)) x108000 x108001) else (some false))) else (none)) else (some true)
end
def spec_IsValidFact.f (k : Nat) (l0 : List (S74)) (a1_0 : Int) (l1_1 : List Int) : Option (Bool) := (spec_AreValidRelations.f l0).bind fun t108 => (if t108 = true then ((spec_l1In.f a1_0 0 (wrap64 ((l0.length : Int) - 1))).bind fun t109 => (if t109 = true then (if 0 ≤ a1_0 then (if a1_0 < (l0.length : Int) then (spec_IsValidFact.j0 k ((l1_1.length : Int) != ((rd_T74 l0 a1_0).f1)) a1_0 l1_1) else (none)) else (none)) else (spec_IsValidFact.j0 k true a1_0 l1_1))) else (spec_IsValidFact.j0 k true a1_0 l1_1))
set_option maxHeartbeats 8000000 in
set_option maxRecDepth 100000 in
theorem spec_IsValidFact.calls (k : Nat) (A0 : Option Addr) (c0 : Nat) (l0 : List (S74)) (a1_0 : Int) (A1_1 : Option Addr) (c1_1 : Nat) (l1_1 : List Int) (r : Bool) (w : World) (hr0 : Kd.C k74 w A0 l0.length l0) (hc0 : l0.length ≤ c0) (hr1_1 : Kd.C (Kd.int .i64) w A1_1 l1_1.length l1_1) (hc1_1 : l1_1.length ≤ c1_1) (h : spec_IsValidFact.f k l0 a1_0 l1_1 = some r) :
  Calls Try.prog 47 #[.slice A0 l0.length c0, .agg #[.int .i64 a1_0, .slice A1_1 l1_1.length c1_1]] w fun e w' => e = .returned (.bool r) ∧ Below w.heap.size w w' := by
 have hu45 := Try.underlying45
 obtain ⟨W, hW⟩ : ∃ W, w.alloc (.cells #[.int .i64 a1_0, .slice A1_1 l1_1.length c1_1] 45) = W := ⟨_, rfl⟩
 have q0 := qa (w := W) (p := ⟨w.heap.size, 0, none⟩) (v := .int .i64 a1_0) (by subst hW; go_simp)
 have q1 := qa (w := W) (p := ⟨w.heap.size, 1, none⟩) (v := .slice A1_1 l1_1.length c1_1) (by subst hW; go_simp)
 have HB : Below w.heap.size w W := by subst hW; exact zB
 have HW := Below.refl W.heap.size W
 have hb := aM HB
 have rg_ := @bcl w
 have rd_ := @bdr w
 have rG_ := @bcl W
 have rD_ := @bdr W
 unfold spec_IsValidFact.f at h
 replace h := bs h; obtain ⟨t108, B0, h⟩ := h
 replace h := ib h; rcases h with ⟨rfl, h⟩ | ⟨rfl, h⟩
 replace h := bs h; obtain ⟨t109, B2, h⟩ := h
 replace h := ib h; rcases h with ⟨rfl, h⟩ | ⟨rfl, h⟩
 replace h := ie h; rcases h with ⟨c4, c4a, h⟩ | ⟨c4, c4a, h⟩
 replace h := il h; rcases h with ⟨c5, c5a, h⟩ | ⟨c5, c5a, h⟩
 rcases k with _ | kj6
 exact absurd h (by simp [spec_IsValidFact.j0])
 simp only [spec_IsValidFact.j0] at h
 replace h := ib h; rcases h with ⟨c7, h⟩ | ⟨c7, h⟩
 obtain rfl := si h
 obtain ⟨ad110, e110, hx110_0, hx110_1, hx110_2⟩ := at_T74 hr0 (a1_0 : Int) aD aD
 have p110 := eq_true (aD : 0 ≤ (a1_0 : Int))
 have q110 := eq_true (aD : a1_0 < (l0.length : Int))
 cases e110
 replace hx110_0 := qa hx110_0
 replace hx110_1 := qa hx110_1
 replace hx110_2 := qa hx110_2
 rotate_left
 ·obtain ⟨ad110, e110, hx110_0, hx110_1, hx110_2⟩ := at_T74 hr0 (a1_0 : Int) aD aD
  have p110 := eq_true (aD : 0 ≤ (a1_0 : Int))
  have q110 := eq_true (aD : a1_0 < (l0.length : Int))
  cases e110
  replace hx110_0 := qa hx110_0
  replace hx110_1 := qa hx110_1
  replace hx110_2 := qa hx110_2
  go_enter Try.func47, Try.ntmps47
  go_wp2_with (first | (go_at_call 61; refine (spec_l1In.calls _ _ _ ?_ _ ?h).mono ?_; (case h => exact zA); rintro e w1 ⟨rfl, hb⟩; replace hb := hb.below; replace hb := aM hb; have HW : Below W.heap.size W w1 := zB; have HB : Below w.heap.size w w1 := zB))
  (repeat ((refine nw (w0 := w) zB ?_; intro W1 HB hb hd; have HW : Below W.heap.size W W1 := zB; (first | (refine Txt.rg (id := 1) [0, 1, 2, 3, 4, 5, 6, 7, 8, 9, 10, 11, 12, 13, 14, 15, 16, 17, 18, 19, 20, 21, 22, 23] (by kernel_rfl) (by kernel_rfl) ?_; simp only [List.map_cons, List.map_nil, List.getD_cons_zero, List.getD_cons_succ])); (repeat (first | (refine Txt.off rfl ?_; simp only [Act.put, List.setIfInBounds_toArray, List.set_cons_zero, List.set_cons_succ]) | (refine Txt.take rfl rfl ?_; intro K hK; go_big_quiet_op; go_big_quiet_on) | (refine Txt.call rfl rfl Try.func57 (by kernel_rfl) rfl (spec_AreValidRelations.calls _ _ _ ?_ _ ?_ ?_ ?h) rfl ?_; (case h => exact zA); (iterate 2 (first | exact zC | exact zA)); rintro e w1 ⟨rfl, hb⟩; replace hb := aM hb; have HW : Below W.heap.size W w1 := zB; have HB : Below w.heap.size w w1 := zB; refine ⟨_, rfl, zS, ?_⟩; simp only [Act.put, List.setIfInBounds_toArray, List.set_cons_zero, List.set_cons_succ]) | (refine Txt.call rfl rfl Try.func61 (by kernel_rfl) rfl (spec_l1In.calls _ _ _ ?_ _ ?h) rfl ?_; (case h => exact zA); rintro e w1 ⟨rfl, hb⟩; replace hb := hb.below; replace hb := aM hb; have HW : Below W.heap.size W w1 := zB; have HB : Below w.heap.size w w1 := zB; refine ⟨_, rfl, zS, ?_⟩; simp only [Act.put, List.setIfInBounds_toArray, List.set_cons_zero, List.set_cons_succ]))); refine Txt.nil ?_); (try go_wp2_with (first | (go_at_call 61; refine (spec_l1In.calls _ _ _ ?_ _ ?h).mono ?_; (case h => exact zA); rintro e w1 ⟨rfl, hb⟩; replace hb := hb.below; replace hb := aM hb; have HW : Below W.heap.size W w1 := zB; have HB : Below w.heap.size w w1 := zB)))))
  go_loopg [5] kj6 (fun kq v5 w' => ∃ (x5_8 : Int), v5 = .int .i64 x5_8 ∧ spec_IsValidFact.l0 kq x5_8 a1_0 l1_1 = some r ∧ Below W.heap.size W w')
  case atStart => exact ⟨_, zR, zA, zB⟩
  case round =>
   clear h
   obtain ⟨x5_8, rfl, h, hb⟩ := hrel
   replace hb := aM hb
   have HW : Below W.heap.size W wr := zB
   have HB : Below w.heap.size w wr := zB
   rcases gk with _ | kk8
   exact absurd h (by simp [spec_IsValidFact.l0])
   simp only [spec_IsValidFact.l0] at h
   replace h := il h; rcases h with ⟨c9, c9a, h⟩ | ⟨c9, c9a, h⟩
   replace h := ie h; rcases h with ⟨c10, c10a, h⟩ | ⟨c10, c10a, h⟩
   replace h := bs h; obtain ⟨t112, B11, h⟩ := h
   replace h := ib h; rcases h with ⟨rfl, h⟩ | ⟨rfl, h⟩
   obtain ⟨kf, hkf⟩ : ∃ kf, kf = kk8 := ⟨_, rfl⟩; rw [← hkf] at h
   obtain ⟨ad111, e111, hx111_0⟩ := Kd.at_int hr1_1 (x5_8 : Int) aD aD
   have p111 := eq_true (aD : 0 ≤ (x5_8 : Int))
   have q111 := eq_true (aD : x5_8 < (l1_1.length : Int))
   cases e111
   replace hx111_0 := qa hx111_0
   rotate_left
   obtain rfl := si h
   obtain ⟨ad111, e111, hx111_0⟩ := Kd.at_int hr1_1 (x5_8 : Int) aD aD
   have p111 := eq_true (aD : 0 ≤ (x5_8 : Int))
   have q111 := eq_true (aD : x5_8 < (l1_1.length : Int))
   cases e111
   replace hx111_0 := qa hx111_0
   rotate_left
   exact absurd h (by simp)
   obtain rfl := si h
   rotate_left
   all_goals (go_wp2_with (first | (go_at_call 61; refine (spec_l1In.calls _ _ _ ?_ _ ?h).mono ?_; (case h => exact zA); rintro e w1 ⟨rfl, hb⟩; replace hb := hb.below; replace hb := aM hb; have HW : Below W.heap.size W w1 := zB; have HB : Below w.heap.size w w1 := zB)); (repeat ((refine nw (w0 := w) zB ?_; intro W1 HB hb hd; have HW : Below W.heap.size W W1 := zB; (first | (refine Txt.rg (id := 1) [0, 1, 2, 3, 4, 5, 6, 7, 8, 9, 10, 11, 12, 13, 14, 15, 16, 17, 18, 19, 20, 21, 22, 23] (by kernel_rfl) (by kernel_rfl) ?_; simp only [List.map_cons, List.map_nil, List.getD_cons_zero, List.getD_cons_succ])); (repeat (first | (refine Txt.off rfl ?_; simp only [Act.put, List.setIfInBounds_toArray, List.set_cons_zero, List.set_cons_succ]) | (refine Txt.take rfl rfl ?_; intro K hK; go_big_quiet_op; go_big_quiet_on) | (refine Txt.call rfl rfl Try.func57 (by kernel_rfl) rfl (spec_AreValidRelations.calls _ _ _ ?_ _ ?_ ?_ ?h) rfl ?_; (case h => exact zA); (iterate 2 (first | exact zC | exact zA)); rintro e w1 ⟨rfl, hb⟩; replace hb := aM hb; have HW : Below W.heap.size W w1 := zB; have HB : Below w.heap.size w w1 := zB; refine ⟨_, rfl, zS, ?_⟩; simp only [Act.put, List.setIfInBounds_toArray, List.set_cons_zero, List.set_cons_succ]) | (refine Txt.call rfl rfl Try.func61 (by kernel_rfl) rfl (spec_l1In.calls _ _ _ ?_ _ ?h) rfl ?_; (case h => exact zA); rintro e w1 ⟨rfl, hb⟩; replace hb := hb.below; replace hb := aM hb; have HW : Below W.heap.size W w1 := zB; have HB : Below w.heap.size w w1 := zB; refine ⟨_, rfl, zS, ?_⟩; simp only [Act.put, List.setIfInBounds_toArray, List.set_cons_zero, List.set_cons_succ]))); refine Txt.nil ?_); (try go_wp2_with (first | (go_at_call 61; refine (spec_l1In.calls _ _ _ ?_ _ ?h).mono ?_; (case h => exact zA); rintro e w1 ⟨rfl, hb⟩; replace hb := hb.below; replace hb := aM hb; have HW : Below W.heap.size W w1 := zB; have HB : Below w.heap.size w w1 := zB))))); first | (go_ret; exact zE zB) | (go_roundg kf; (case measure => omega); (case rel => exact ⟨_, zR, zA, zB⟩)))
 exact absurd h (by simp)
 exact absurd h (by simp)
 rcases k with _ | kj13
 exact absurd h (by simp [spec_IsValidFact.j0])
 simp only [spec_IsValidFact.j0] at h
 (first | replace h := itt h | (try simp only [if_true, if_false] at h))
 obtain rfl := si h
 rotate_left
 rcases k with _ | kj14
 exact absurd h (by simp [spec_IsValidFact.j0])
 simp only [spec_IsValidFact.j0] at h
 (first | replace h := itt h | (try simp only [if_true, if_false] at h))
 obtain rfl := si h
 rotate_left
 all_goals (go_enter Try.func47, Try.ntmps47; go_wp2_with (first | (go_at_call 61; refine (spec_l1In.calls _ _ _ ?_ _ ?h).mono ?_; (case h => exact zA); rintro e w1 ⟨rfl, hb⟩; replace hb := hb.below; replace hb := aM hb; have HW : Below W.heap.size W w1 := zB; have HB : Below w.heap.size w w1 := zB)); (repeat ((refine nw (w0 := w) zB ?_; intro W1 HB hb hd; have HW : Below W.heap.size W W1 := zB; (first | (refine Txt.rg (id := 1) [0, 1, 2, 3, 4, 5, 6, 7, 8, 9, 10, 11, 12, 13, 14, 15, 16, 17, 18, 19, 20, 21, 22, 23] (by kernel_rfl) (by kernel_rfl) ?_; simp only [List.map_cons, List.map_nil, List.getD_cons_zero, List.getD_cons_succ])); (repeat (first | (refine Txt.off rfl ?_; simp only [Act.put, List.setIfInBounds_toArray, List.set_cons_zero, List.set_cons_succ]) | (refine Txt.take rfl rfl ?_; intro K hK; go_big_quiet_op; go_big_quiet_on) | (refine Txt.call rfl rfl Try.func57 (by kernel_rfl) rfl (spec_AreValidRelations.calls _ _ _ ?_ _ ?_ ?_ ?h) rfl ?_; (case h => exact zA); (iterate 2 (first | exact zC | exact zA)); rintro e w1 ⟨rfl, hb⟩; replace hb := aM hb; have HW : Below W.heap.size W w1 := zB; have HB : Below w.heap.size w w1 := zB; refine ⟨_, rfl, zS, ?_⟩; simp only [Act.put, List.setIfInBounds_toArray, List.set_cons_zero, List.set_cons_succ]) | (refine Txt.call rfl rfl Try.func61 (by kernel_rfl) rfl (spec_l1In.calls _ _ _ ?_ _ ?h) rfl ?_; (case h => exact zA); rintro e w1 ⟨rfl, hb⟩; replace hb := hb.below; replace hb := aM hb; have HW : Below W.heap.size W w1 := zB; have HB : Below w.heap.size w w1 := zB; refine ⟨_, rfl, zS, ?_⟩; simp only [Act.put, List.setIfInBounds_toArray, List.set_cons_zero, List.set_cons_succ]))); refine Txt.nil ?_); (try go_wp2_with (first | (go_at_call 61; refine (spec_l1In.calls _ _ _ ?_ _ ?h).mono ?_; (case h => exact zA); rintro e w1 ⟨rfl, hb⟩; replace hb := hb.below; replace hb := aM hb; have HW : Below W.heap.size W w1 := zB; have HB : Below w.heap.size w w1 := zB))))); go_ret; exact zE zB)

/-! ### spec_l3Ints: function 67 -/
mutual
def spec_l3Ints.l0 : Nat → List Int → List Int → Int → Option (Int)
 | 0, _, _, _ => none
 | k + 1, x0, x1, x5 => if x5 < (x0.length : Int) then (spec_l3Ints.j1 k x0 x1 x5 (decide (x5 < (x1.length : Int)))) else (spec_l3Ints.j1 k x0 x1 x5 false)
def spec_l3Ints.j1 : Nat → List Int → List Int → Int → Bool → Option (Int)
 | 0, _, _, _, _ => none
 | k + 1, x0, x1, x5, x15 => if x15 = true then (if 0 ≤ x5 then (if x5 < (x0.length : Int) then (if x5 < (x1.length : Int) then (if (rd x0 x5) < (rd x1 x5) then (some (-1)) else (if (rd x0 x5) > (rd x1 x5) then (some 1) else (spec_l3Ints.l0 k x0 x1 (wrap64 (x5 + 1))))) else (none)) else (none)) else (none)) else (if (x0.length : Int) < (x1.length : Int) then (some (-1)) else (if (x0.length : Int) > (x1.length : Int) then (some 1) else (some 0)))
end
def spec_l3Ints.f (k : Nat) (l0 : List Int) (l1 : List Int) : Option (Int) := spec_l3Ints.l0 k l0 l1 0
set_option maxHeartbeats 8000000 in
set_option maxRecDepth 100000 in
theorem spec_l3Ints.calls (k : Nat) (A0 : Option Addr) (c0 : Nat) (l0 : List Int) (A1 : Option Addr) (c1 : Nat) (l1 : List Int) (r : Int) (w : World) (hr0 : Kd.C (Kd.int .i64) w A0 l0.length l0) (hc0 : l0.length ≤ c0) (hr1 : Kd.C (Kd.int .i64) w A1 l1.length l1) (hc1 : l1.length ≤ c1) (h : spec_l3Ints.f k l0 l1 = some r) :
  Calls Try.prog 67 #[.slice A0 l0.length c0, .slice A1 l1.length c1] w fun e w' => e = .returned (.int .i64 r) ∧ Drawn0 w w' := by
 have rg_ := @bcl w
 have rd_ := @bdr w
 unfold spec_l3Ints.f at h
 ·go_enter Try.func67, Try.ntmps67
  go_wp2
  (repeat ((refine nw (w0 := w) zB ?_; intro W1 HB hb hd; (first | (refine Txt.rg (id := 4) [0, 1, 2, 3, 4, 5, 6, 7, 8] (by kernel_rfl) (by kernel_rfl) ?_; simp only [List.map_cons, List.map_nil, List.getD_cons_zero, List.getD_cons_succ]) | (refine Txt.rg (id := 6) [0, 1, 2, 3, 4, 5, 6, 7, 8] (by kernel_rfl) (by kernel_rfl) ?_; simp only [List.map_cons, List.map_nil, List.getD_cons_zero, List.getD_cons_succ])); (repeat (first | (refine Txt.off rfl ?_; simp only [Act.put, List.setIfInBounds_toArray, List.set_cons_zero, List.set_cons_succ]) | (refine Txt.take rfl rfl ?_; intro K hK; go_big_quiet_op; go_big_quiet_on))); refine Txt.nil ?_); (try go_wp2)))
  go_loopg [5] k (fun kq v5 w' => ∃ (x5_0 : Int), v5 = .int .i64 x5_0 ∧ spec_l3Ints.l0 kq l0 l1 x5_0 = some r ∧ Drawn0 w w')
  case atStart => exact ⟨_, zR, zA, zD⟩
  case round =>
   clear h
   obtain ⟨x5_0, rfl, h, hb⟩ := hrel
   have hd := hb
   replace hb := hb.below
   replace hb := aM hb
   have HB : Below w.heap.size w wr := zB
   rcases gk with _ | kk0
   exact absurd h (by simp [spec_l3Ints.l0])
   simp only [spec_l3Ints.l0] at h
   replace h := il h; rcases h with ⟨c1, c1a, h⟩ | ⟨c1, c1a, h⟩
   rcases kk0 with _ | kj2
   exact absurd h (by simp [spec_l3Ints.j1])
   simp only [spec_l3Ints.j1] at h
   replace h := ib h; rcases h with ⟨c3, h⟩ | ⟨c3, h⟩
   replace h := ie h; rcases h with ⟨c4, c4a, h⟩ | ⟨c4, c4a, h⟩
   replace h := il h; rcases h with ⟨c5, c5a, h⟩ | ⟨c5, c5a, h⟩
   replace h := il h; rcases h with ⟨c6, c6a, h⟩ | ⟨c6, c6a, h⟩
   replace h := il h; rcases h with ⟨c7, c7a, h⟩ | ⟨c7, c7a, h⟩
   obtain rfl := si h
   obtain ⟨ad113, e113, hx113_0⟩ := Kd.at_int hr0 (x5_0 : Int) aD aD
   have p113 := eq_true (aD : 0 ≤ (x5_0 : Int))
   have q113 := eq_true (aD : x5_0 < (l0.length : Int))
   cases e113
   replace hx113_0 := qa hx113_0
   obtain ⟨ad114, e114, hx114_0⟩ := Kd.at_int hr1 (x5_0 : Int) aD aD
   have p114 := eq_true (aD : 0 ≤ (x5_0 : Int))
   have q114 := eq_true (aD : x5_0 < (l1.length : Int))
   cases e114
   replace hx114_0 := qa hx114_0
   rotate_left
   replace h := ig h; rcases h with ⟨c8, c8a, h⟩ | ⟨c8, c8a, h⟩
   obtain rfl := si h
   obtain ⟨ad113, e113, hx113_0⟩ := Kd.at_int hr0 (x5_0 : Int) aD aD
   have p113 := eq_true (aD : 0 ≤ (x5_0 : Int))
   have q113 := eq_true (aD : x5_0 < (l0.length : Int))
   cases e113
   replace hx113_0 := qa hx113_0
   obtain ⟨ad114, e114, hx114_0⟩ := Kd.at_int hr1 (x5_0 : Int) aD aD
   have p114 := eq_true (aD : 0 ≤ (x5_0 : Int))
   have q114 := eq_true (aD : x5_0 < (l1.length : Int))
   cases e114
   replace hx114_0 := qa hx114_0
   obtain ⟨ad115, e115, hx115_0⟩ := Kd.at_int hr0 (x5_0 : Int) aD aD
   have p115 := eq_true (aD : 0 ≤ (x5_0 : Int))
   have q115 := eq_true (aD : x5_0 < (l0.length : Int))
   cases e115
   replace hx115_0 := qa hx115_0
   obtain ⟨ad116, e116, hx116_0⟩ := Kd.at_int hr1 (x5_0 : Int) aD aD
   have p116 := eq_true (aD : 0 ≤ (x5_0 : Int))
   have q116 := eq_true (aD : x5_0 < (l1.length : Int))
   cases e116
   replace hx116_0 := qa hx116_0
   rotate_left
   obtain ⟨kf, hkf⟩ : ∃ kf, kf = kj2 := ⟨_, rfl⟩; rw [← hkf] at h
   obtain ⟨ad113, e113, hx113_0⟩ := Kd.at_int hr0 (x5_0 : Int) aD aD
   have p113 := eq_true (aD : 0 ≤ (x5_0 : Int))
   have q113 := eq_true (aD : x5_0 < (l0.length : Int))
   cases e113
   replace hx113_0 := qa hx113_0
   obtain ⟨ad114, e114, hx114_0⟩ := Kd.at_int hr1 (x5_0 : Int) aD aD
   have p114 := eq_true (aD : 0 ≤ (x5_0 : Int))
   have q114 := eq_true (aD : x5_0 < (l1.length : Int))
   cases e114
   replace hx114_0 := qa hx114_0
   obtain ⟨ad115, e115, hx115_0⟩ := Kd.at_int hr0 (x5_0 : Int) aD aD
   have p115 := eq_true (aD : 0 ≤ (x5_0 : Int))
   have q115 := eq_true (aD : x5_0 < (l0.length : Int))
   cases e115
   replace hx115_0 := qa hx115_0
   obtain ⟨ad116, e116, hx116_0⟩ := Kd.at_int hr1 (x5_0 : Int) aD aD
   have p116 := eq_true (aD : 0 ≤ (x5_0 : Int))
   have q116 := eq_true (aD : x5_0 < (l1.length : Int))
   cases e116
   replace hx116_0 := qa hx116_0
   rotate_left
   exact absurd h (by simp)
   exact absurd h (by simp)
   exact absurd h (by simp)
   replace h := il h; rcases h with ⟨c9, c9a, h⟩ | ⟨c9, c9a, h⟩
   have cz := c9.out
   have c9x1 : decide (l0.length < l1.length) = true := decide_eq_true (Int.ofNat_lt.mp cz)
   clear cz
   obtain rfl := si h
   rotate_left
   have cz := c9.out
   have c9x1 : decide (l0.length < l1.length) = false := decide_eq_false (fun h => cz (Int.ofNat_lt.mpr h))
   clear cz
   replace h := ig h; rcases h with ⟨c10, c10a, h⟩ | ⟨c10, c10a, h⟩
   have cz := c10.out
   have c10x1 : decide (l1.length < l0.length) = true := decide_eq_true (Int.ofNat_lt.mp cz)
   clear cz
   obtain rfl := si h
   rotate_left
   have cz := c10.out
   have c10x1 : decide (l1.length < l0.length) = false := decide_eq_false (fun h => cz (Int.ofNat_lt.mpr h))
   clear cz
   obtain rfl := si h
   rotate_left
   rcases kk0 with _ | kj11
   exact absurd h (by simp [spec_l3Ints.j1])
   simp only [spec_l3Ints.j1] at h
   (try replace h := iff_ h)
   replace h := il h; rcases h with ⟨c12, c12a, h⟩ | ⟨c12, c12a, h⟩
   have cz := c12.out
   have c12x1 : decide (l0.length < l1.length) = true := decide_eq_true (Int.ofNat_lt.mp cz)
   clear cz
   obtain rfl := si h
   rotate_left
   have cz := c12.out
   have c12x1 : decide (l0.length < l1.length) = false := decide_eq_false (fun h => cz (Int.ofNat_lt.mpr h))
   clear cz
   replace h := ig h; rcases h with ⟨c13, c13a, h⟩ | ⟨c13, c13a, h⟩
   have cz := c13.out
   have c13x1 : decide (l1.length < l0.length) = true := decide_eq_true (Int.ofNat_lt.mp cz)
   clear cz
   obtain rfl := si h
   rotate_left
   have cz := c13.out
   have c13x1 : decide (l1.length < l0.length) = false := decide_eq_false (fun h => cz (Int.ofNat_lt.mpr h))
   clear cz
   obtain rfl := si h
   rotate_left
   all_goals (go_wp2; (repeat ((refine nw (w0 := w) zB ?_; intro W1 HB hb hd; (first | (refine Txt.rg (id := 4) [0, 1, 2, 3, 4, 5, 6, 7, 8] (by kernel_rfl) (by kernel_rfl) ?_; simp only [List.map_cons, List.map_nil, List.getD_cons_zero, List.getD_cons_succ]) | (refine Txt.rg (id := 6) [0, 1, 2, 3, 4, 5, 6, 7, 8] (by kernel_rfl) (by kernel_rfl) ?_; simp only [List.map_cons, List.map_nil, List.getD_cons_zero, List.getD_cons_succ])); (repeat (first | (refine Txt.off rfl ?_; simp only [Act.put, List.setIfInBounds_toArray, List.set_cons_zero, List.set_cons_succ]) | (refine Txt.take rfl rfl ?_; intro K hK; go_big_quiet_op; go_big_quiet_on))); refine Txt.nil ?_); (try go_wp2))); first | (go_ret; exact zE zD) | (go_roundg kf; (case measure => omega); (case rel => exact ⟨_, zR, zA, zD⟩)))

end Go.Proofs.Yteddnlklfjpgoaa.PFnInsertDelete
