-- Laid by a program of this claim: what the functions come to, some of them proved by hand.
import Derived.Test.YteddnlklfjpgoaaPFnExactSelectFactsx0
namespace Go.Proofs.Yteddnlklfjpgoaa.PFnExactSelectFacts
open Go.RowKit Go.Proofs.YteddnlklfjpgoaaW.PrintWords Go.Proofs.YteddnlklfjpgoaaW.PrintLast Go.Proofs.YteddnlklfjpgoaaW.PrintMore
attribute [local go_sem] max2_int min2_int max_two min_two max_three min_three max_four min_four   -- for this text's walks alone
set_option linter.unusedVariables false
set_option linter.unusedSimpArgs false

/-! ### laws_szRelation: function 60 -/
def laws_szRelation.f (a0_0 : ByteArray) (a0_1 : Int) (a0_2 : Int) (a1 : Int) : Option (Int) := if (wrap64 (a1 - (a0_0.size : Int))) < 0 then (some (-1)) else (some (wrap64 (a1 - (a0_0.size : Int))))
set_option maxHeartbeats 8000000 in
set_option maxRecDepth 100000 in
theorem laws_szRelation.calls (a0_0 : ByteArray) (a0_1 : Int) (a0_2 : Int) (a1 : Int) (r : Int) (w : World) (h : laws_szRelation.f a0_0 a0_1 a0_2 a1 = some r) :
  Calls Try.prog 60 #[.agg #[.string a0_0, .int .i64 a0_1, .int .i64 a0_2], .int .i64 a1] w fun e w' => e = .returned (.int .i64 r) ∧ Below w.heap.size w w' := by
 have hu78 := Try.underlying78
 obtain ⟨W, hW⟩ : ∃ W, w.alloc (.cells #[.string a0_0, .int .i64 a0_1, .int .i64 a0_2] 78) = W := ⟨_, rfl⟩
 have q0 := qa (w := W) (p := ⟨w.heap.size, 0, none⟩) (v := .string a0_0) (by subst hW; go_simp)
 have q1 := qa (w := W) (p := ⟨w.heap.size, 1, none⟩) (v := .int .i64 a0_1) (by subst hW; go_simp)
 have q2 := qa (w := W) (p := ⟨w.heap.size, 2, none⟩) (v := .int .i64 a0_2) (by subst hW; go_simp)
 have HB : Below w.heap.size w W := by subst hW; exact zB
 have HW := Below.refl W.heap.size W
 have hb := aM HB
 unfold laws_szRelation.f at h
 replace h := il h; rcases h with ⟨c0, c0a, h⟩ | ⟨c0, c0a, h⟩
 obtain rfl := si h
 rotate_left
 obtain rfl := si h
 rotate_left
 all_goals (go_enter Try.func60, Try.ntmps60; go_wp2; go_ret; exact zE zB)

/-! ### laws_szRelationS: function 32 -/
def laws_szRelationS.l0 : Nat → List (S78) → Int → Int → Option (Int)
 | 0, _, _, _ => none
 | k + 1, x0, x1, x5 => if x5 < (x0.length : Int) then (if 0 ≤ x5 then ((laws_szRelation.f ((rd_T78 x0 x5).f0) ((rd_T78 x0 x5).f1) ((rd_T78 x0 x5).f2) x1).bind fun t103 => (if t103 < 0 then (some (-1)) else (laws_szRelationS.l0 k x0 t103 (wrap64 (x5 + 1))))) else (none)) else (some x1)
def laws_szRelationS.f (k : Nat) (l0 : List (S78)) (a1 : Int) : Option (Int) := if (wrap64 (a1 - (l0.length : Int))) < 0 then (some (-1)) else (laws_szRelationS.l0 k l0 (wrap64 (a1 - (l0.length : Int))) 0)
set_option maxHeartbeats 8000000 in
set_option maxRecDepth 100000 in
theorem laws_szRelationS.calls (k : Nat) (A0 : Option Addr) (c0 : Nat) (l0 : List (S78)) (a1 : Int) (r : Int) (w : World) (hr0 : Kd.C k78 w A0 l0.length l0) (hc0 : l0.length ≤ c0) (h : laws_szRelationS.f k l0 a1 = some r) :
  Calls Try.prog 32 #[.slice A0 l0.length c0, .int .i64 a1] w fun e w' => e = .returned (.int .i64 r) ∧ Below w.heap.size w w' := by
 have hu78 := Try.underlying78
 unfold laws_szRelationS.f at h
 replace h := il h; rcases h with ⟨c0, c0a, h⟩ | ⟨c0, c0a, h⟩
 obtain rfl := si h
 rotate_left
 ·go_enter Try.func32, Try.ntmps32
  go_wp2_with (first | (go_at_call 60; refine (laws_szRelation.calls _ _ _ _ ?_ _ ?h).mono ?_; (case h => exact zA); rintro e w1 ⟨rfl, hb⟩; replace hb := aM hb; have HB : Below w.heap.size w w1 := zB))
  go_loopg [1, 5] k (fun kq v1 v5 w' => ∃ (x1_1 : Int) (x5_1 : Int), v1 = .int .i64 x1_1 ∧ v5 = .int .i64 x5_1 ∧ laws_szRelationS.l0 kq l0 x1_1 x5_1 = some r ∧ Below w.heap.size w w')
  case atStart => exact ⟨_, _, zR, zR, zA, zB⟩
  case round =>
   clear h
   obtain ⟨x1_1, x5_1, rfl, rfl, h, hb⟩ := hrel
   replace hb := aM hb
   have HB : Below w.heap.size w wr := zB
   rcases gk with _ | kk1
   exact absurd h (by simp [laws_szRelationS.l0])
   simp only [laws_szRelationS.l0] at h
   replace h := il h; rcases h with ⟨c2, c2a, h⟩ | ⟨c2, c2a, h⟩
   replace h := ie h; rcases h with ⟨c3, c3a, h⟩ | ⟨c3, c3a, h⟩
   replace h := bs h; obtain ⟨t103, B4, h⟩ := h
   replace h := il h; rcases h with ⟨c5, c5a, h⟩ | ⟨c5, c5a, h⟩
   obtain rfl := si h
   obtain ⟨ad102, e102, hx102_0, hx102_1, hx102_2⟩ := at_T78 hr0 (x5_1 : Int) aD aD
   have p102 := eq_true (aD : 0 ≤ (x5_1 : Int))
   have q102 := eq_true (aD : x5_1 < (l0.length : Int))
   cases e102
   replace hx102_0 := qa hx102_0
   replace hx102_1 := qa hx102_1
   replace hx102_2 := qa hx102_2
   rotate_left
   obtain ⟨kf, hkf⟩ : ∃ kf, kf = kk1 := ⟨_, rfl⟩; rw [← hkf] at h
   obtain ⟨ad102, e102, hx102_0, hx102_1, hx102_2⟩ := at_T78 hr0 (x5_1 : Int) aD aD
   have p102 := eq_true (aD : 0 ≤ (x5_1 : Int))
   have q102 := eq_true (aD : x5_1 < (l0.length : Int))
   cases e102
   replace hx102_0 := qa hx102_0
   replace hx102_1 := qa hx102_1
   replace hx102_2 := qa hx102_2
   rotate_left
   exact absurd h (by simp)
   obtain rfl := si h
   rotate_left
   all_goals (go_wp2_with (first | (go_at_call 60; refine (laws_szRelation.calls _ _ _ _ ?_ _ ?h).mono ?_; (case h => exact zA); rintro e w1 ⟨rfl, hb⟩; replace hb := aM hb; have HB : Below w.heap.size w w1 := zB)); first | (go_ret; exact zE zB) | (go_roundg kf; (case measure => omega); (case rel => exact ⟨_, _, zR, zR, zA, zB⟩)))
 all_goals (go_enter Try.func32, Try.ntmps32; go_wp2_with (first | (go_at_call 60; refine (laws_szRelation.calls _ _ _ _ ?_ _ ?h).mono ?_; (case h => exact zA); rintro e w1 ⟨rfl, hb⟩; replace hb := aM hb; have HB : Below w.heap.size w w1 := zB)); go_ret; exact zE zB)

/-! ### laws_szIntS: function 45 -/
def laws_szIntS.f (l0 : List Int) (a1 : Int) : Option (Int) := if (wrap64 (a1 - (l0.length : Int))) < 0 then (some (-1)) else (some (wrap64 (a1 - (l0.length : Int))))
set_option maxHeartbeats 8000000 in
set_option maxRecDepth 100000 in
theorem laws_szIntS.calls (A0 : Option Addr) (c0 : Nat) (l0 : List Int) (a1 : Int) (r : Int) (w : World) (hr0 : Kd.C (Kd.int .i64) w A0 l0.length l0) (hc0 : l0.length ≤ c0) (h : laws_szIntS.f l0 a1 = some r) :
  Calls Try.prog 45 #[.slice A0 l0.length c0, .int .i64 a1] w fun e w' => e = .returned (.int .i64 r) ∧ Drawn0 w w' := by
 unfold laws_szIntS.f at h
 replace h := il h; rcases h with ⟨c0, c0a, h⟩ | ⟨c0, c0a, h⟩
 obtain rfl := si h
 rotate_left
 obtain rfl := si h
 rotate_left
 all_goals (go_enter Try.func45, Try.ntmps45; go_wp2; go_ret; exact zE zD)

/-! ### laws_szFact: function 17 -/
def laws_szFact.f (a0_0 : Int) (l0_1 : List Int) (a1 : Int) : Option (Int) := (laws_szIntS.f l0_1 a1).bind fun t105 => (if t105 < 0 then (some (-1)) else (some t105))
set_option maxHeartbeats 8000000 in
set_option maxRecDepth 100000 in
theorem laws_szFact.calls (a0_0 : Int) (A0_1 : Option Addr) (c0_1 : Nat) (l0_1 : List Int) (a1 : Int) (r : Int) (w : World) (hr0_1 : Kd.C (Kd.int .i64) w A0_1 l0_1.length l0_1) (hc0_1 : l0_1.length ≤ c0_1) (h : laws_szFact.f a0_0 l0_1 a1 = some r) :
  Calls Try.prog 17 #[.agg #[.int .i64 a0_0, .slice A0_1 l0_1.length c0_1], .int .i64 a1] w fun e w' => e = .returned (.int .i64 r) ∧ Below w.heap.size w w' := by
 have hu42 := Try.underlying42
 obtain ⟨W, hW⟩ : ∃ W, w.alloc (.cells #[.int .i64 a0_0, .slice A0_1 l0_1.length c0_1] 42) = W := ⟨_, rfl⟩
 have q0 := qa (w := W) (p := ⟨w.heap.size, 0, none⟩) (v := .int .i64 a0_0) (by subst hW; go_simp)
 have q1 := qa (w := W) (p := ⟨w.heap.size, 1, none⟩) (v := .slice A0_1 l0_1.length c0_1) (by subst hW; go_simp)
 have HB : Below w.heap.size w W := by subst hW; exact zB
 have HW := Below.refl W.heap.size W
 have hb := aM HB
 unfold laws_szFact.f at h
 replace h := bs h; obtain ⟨t105, B0, h⟩ := h
 replace h := il h; rcases h with ⟨c1, c1a, h⟩ | ⟨c1, c1a, h⟩
 obtain rfl := si h
 rotate_left
 obtain rfl := si h
 rotate_left
 all_goals (go_enter Try.func17, Try.ntmps17; go_wp2_with (first | (go_at_call 45; refine (laws_szIntS.calls _ _ _ _ ?_ _ ?_ ?_ ?h).mono ?_; (case h => exact zA); (iterate 2 (first | exact zC | exact zA)); rintro e w1 ⟨rfl, hb⟩; replace hb := hb.below; replace hb := aM hb; have HW : Below W.heap.size W w1 := zB; have HB : Below w.heap.size w w1 := zB)); go_ret; exact zE zB)

/-! ### laws_szFactS: function 33 -/
def laws_szFactS.l0 : Nat → List (S42) → Int → Int → Option (Int)
 | 0, _, _, _ => none
 | k + 1, x0, x1, x5 => if x5 < (x0.length : Int) then (if 0 ≤ x5 then ((laws_szFact.f ((rd_T42 x0 x5).f0) ((rd_T42 x0 x5).f1) x1).bind fun t107 => (if t107 < 0 then (some (-1)) else (laws_szFactS.l0 k x0 t107 (wrap64 (x5 + 1))))) else (none)) else (some x1)
def laws_szFactS.f (k : Nat) (l0 : List (S42)) (a1 : Int) : Option (Int) := if (wrap64 (a1 - (l0.length : Int))) < 0 then (some (-1)) else (laws_szFactS.l0 k l0 (wrap64 (a1 - (l0.length : Int))) 0)
set_option maxHeartbeats 8000000 in
set_option maxRecDepth 100000 in
theorem laws_szFactS.calls (k : Nat) (A0 : Option Addr) (c0 : Nat) (l0 : List (S42)) (a1 : Int) (r : Int) (w : World) (hr0 : Kd.C k42 w A0 l0.length l0) (hc0 : l0.length ≤ c0) (h : laws_szFactS.f k l0 a1 = some r) :
  Calls Try.prog 33 #[.slice A0 l0.length c0, .int .i64 a1] w fun e w' => e = .returned (.int .i64 r) ∧ Below w.heap.size w w' := by
 have hu42 := Try.underlying42
 unfold laws_szFactS.f at h
 replace h := il h; rcases h with ⟨c0, c0a, h⟩ | ⟨c0, c0a, h⟩
 obtain rfl := si h
 rotate_left
 ·go_enter Try.func33, Try.ntmps33
  go_wp2_with (first | (go_at_call 17; refine (laws_szFact.calls _ _ _ _ _ ?_ _ ?_ ?_ ?h).mono ?_; (case h => exact zA); (iterate 2 (first | exact zC | exact zA)); rintro e w1 ⟨rfl, hb⟩; replace hb := aM hb; have HB : Below w.heap.size w w1 := zB))
  go_loopg [1, 5] k (fun kq v1 v5 w' => ∃ (x1_1 : Int) (x5_1 : Int), v1 = .int .i64 x1_1 ∧ v5 = .int .i64 x5_1 ∧ laws_szFactS.l0 kq l0 x1_1 x5_1 = some r ∧ Below w.heap.size w w')
  case atStart => exact ⟨_, _, zR, zR, zA, zB⟩
  case round =>
   clear h
   obtain ⟨x1_1, x5_1, rfl, rfl, h, hb⟩ := hrel
   replace hb := aM hb
   have HB : Below w.heap.size w wr := zB
   rcases gk with _ | kk1
   exact absurd h (by simp [laws_szFactS.l0])
   simp only [laws_szFactS.l0] at h
   replace h := il h; rcases h with ⟨c2, c2a, h⟩ | ⟨c2, c2a, h⟩
   replace h := ie h; rcases h with ⟨c3, c3a, h⟩ | ⟨c3, c3a, h⟩
   replace h := bs h; obtain ⟨t107, B4, h⟩ := h
   replace h := il h; rcases h with ⟨c5, c5a, h⟩ | ⟨c5, c5a, h⟩
   obtain rfl := si h
   obtain ⟨ad106, A106_1, c106_1, e106, hx106_0, hx106_1, hl106_1, hi106_1⟩ := at_T42 hr0 (x5_1 : Int) aD aD
   have p106 := eq_true (aD : 0 ≤ (x5_1 : Int))
   have q106 := eq_true (aD : x5_1 < (l0.length : Int))
   cases e106
   replace hx106_0 := qa hx106_0
   replace hx106_1 := qa hx106_1
   rotate_left
   obtain ⟨kf, hkf⟩ : ∃ kf, kf = kk1 := ⟨_, rfl⟩; rw [← hkf] at h
   obtain ⟨ad106, A106_1, c106_1, e106, hx106_0, hx106_1, hl106_1, hi106_1⟩ := at_T42 hr0 (x5_1 : Int) aD aD
   have p106 := eq_true (aD : 0 ≤ (x5_1 : Int))
   have q106 := eq_true (aD : x5_1 < (l0.length : Int))
   cases e106
   replace hx106_0 := qa hx106_0
   replace hx106_1 := qa hx106_1
   rotate_left
   exact absurd h (by simp)
   obtain rfl := si h
   rotate_left
   all_goals (go_wp2_with (first | (go_at_call 17; refine (laws_szFact.calls _ _ _ _ _ ?_ _ ?_ ?_ ?h).mono ?_; (case h => exact zA); (iterate 2 (first | exact zC | exact zA)); rintro e w1 ⟨rfl, hb⟩; replace hb := aM hb; have HB : Below w.heap.size w w1 := zB)); first | (go_ret; exact zE zB) | (go_roundg kf; (case measure => omega); (case rel => exact ⟨_, _, zR, zR, zA, zB⟩)))
 all_goals (go_enter Try.func33, Try.ntmps33; go_wp2_with (first | (go_at_call 17; refine (laws_szFact.calls _ _ _ _ _ ?_ _ ?_ ?_ ?h).mono ?_; (case h => exact zA); (iterate 2 (first | exact zC | exact zA)); rintro e w1 ⟨rfl, hb⟩; replace hb := aM hb; have HB : Below w.heap.size w w1 := zB)); go_ret; exact zE zB)

/-! ### laws_szDatabase: function 7 -/
def laws_szDatabase.f (k : Nat) (l0_0 : List (S78)) (l0_1 : List (S42)) (a1 : Int) : Option (Int) := (laws_szRelationS.f k l0_0 a1).bind fun t109 => (if t109 < 0 then (some (-1)) else ((laws_szFactS.f k l0_1 t109).bind fun t110 => (if t110 < 0 then (some (-1)) else (some t110))))
set_option maxHeartbeats 8000000 in
set_option maxRecDepth 100000 in
theorem laws_szDatabase.calls (k : Nat) (A0_0 : Option Addr) (c0_0 : Nat) (l0_0 : List (S78)) (A0_1 : Option Addr) (c0_1 : Nat) (l0_1 : List (S42)) (a1 : Int) (r : Int) (w : World) (hr0_0 : Kd.C k78 w A0_0 l0_0.length l0_0) (hc0_0 : l0_0.length ≤ c0_0) (hr0_1 : Kd.C k42 w A0_1 l0_1.length l0_1) (hc0_1 : l0_1.length ≤ c0_1) (h : laws_szDatabase.f k l0_0 l0_1 a1 = some r) :
  Calls Try.prog 7 #[.agg #[.slice A0_0 l0_0.length c0_0, .slice A0_1 l0_1.length c0_1], .int .i64 a1] w fun e w' => e = .returned (.int .i64 r) ∧ Below w.heap.size w w' := by
 have hu25 := Try.underlying25
 obtain ⟨W, hW⟩ : ∃ W, w.alloc (.cells #[.slice A0_0 l0_0.length c0_0, .slice A0_1 l0_1.length c0_1] 25) = W := ⟨_, rfl⟩
 have q0 := qa (w := W) (p := ⟨w.heap.size, 0, none⟩) (v := .slice A0_0 l0_0.length c0_0) (by subst hW; go_simp)
 have q1 := qa (w := W) (p := ⟨w.heap.size, 1, none⟩) (v := .slice A0_1 l0_1.length c0_1) (by subst hW; go_simp)
 have HB : Below w.heap.size w W := by subst hW; exact zB
 have HW := Below.refl W.heap.size W
 have hb := aM HB
 unfold laws_szDatabase.f at h
 replace h := bs h; obtain ⟨t109, B0, h⟩ := h
 replace h := il h; rcases h with ⟨c1, c1a, h⟩ | ⟨c1, c1a, h⟩
 obtain rfl := si h
 rotate_left
 replace h := bs h; obtain ⟨t110, B2, h⟩ := h
 replace h := il h; rcases h with ⟨c3, c3a, h⟩ | ⟨c3, c3a, h⟩
 obtain rfl := si h
 rotate_left
 obtain rfl := si h
 rotate_left
 all_goals (go_enter Try.func7, Try.ntmps7; go_wp2_with (first | (go_at_call 32; refine (laws_szRelationS.calls ?_ _ _ _ _ ?_ _ ?_ ?_ ?h).mono ?_; (case h => exact zA); (iterate 2 (first | exact zC | exact zA)); rintro e w1 ⟨rfl, hb⟩; replace hb := aM hb; have HW : Below W.heap.size W w1 := zB; have HB : Below w.heap.size w w1 := zB) | (go_at_call 33; refine (laws_szFactS.calls ?_ _ _ _ _ ?_ _ ?_ ?_ ?h).mono ?_; (case h => exact zA); (iterate 2 (first | exact zC | exact zA)); rintro e w1 ⟨rfl, hb⟩; replace hb := aM hb; have HW : Below W.heap.size W w1 := zB; have HB : Below w.heap.size w w1 := zB)); go_ret; exact zE zB)

/-! ### spec_l1In: function 61 -/
def spec_l1In.f (a0 : Int) (a1 : Int) (a2 : Int) : Option (Bool) := if a0 ≥ a1 then (some (decide (a0 ≤ a2))) else (some false)
set_option maxHeartbeats 8000000 in
set_option maxRecDepth 100000 in
theorem spec_l1In.calls (a0 : Int) (a1 : Int) (a2 : Int) (r : Bool) (w : World) (h : spec_l1In.f a0 a1 a2 = some r) :
  Calls Try.prog 61 #[.int .i64 a0, .int .i64 a1, .int .i64 a2] w fun e w' => e = .returned (.bool r) ∧ Drawn0 w w' := by
 unfold spec_l1In.f at h
 replace h := ih h; rcases h with ⟨c0, c0a, h⟩ | ⟨c0, c0a, h⟩
 obtain rfl := si h
 rotate_left
 obtain rfl := si h
 rotate_left
 all_goals (go_enter Try.func61, Try.ntmps61; go_wp2; go_ret; exact zE zD)

/-! ### impl_within: function 63 -/
def impl_within.f (a0 : Int) (a1 : Int) (a2 : Int) : Option (Bool) := if a1 ≤ a0 then (some (decide (a0 ≤ a2))) else (some false)
set_option maxHeartbeats 8000000 in
set_option maxRecDepth 100000 in
theorem impl_within.calls (a0 : Int) (a1 : Int) (a2 : Int) (r : Bool) (w : World) (h : impl_within.f a0 a1 a2 = some r) :
  Calls Try.prog 63 #[.int .i64 a0, .int .i64 a1, .int .i64 a2] w fun e w' => e = .returned (.bool r) ∧ Drawn0 w w' := by
 unfold impl_within.f at h
 replace h := ie h; rcases h with ⟨c0, c0a, h⟩ | ⟨c0, c0a, h⟩
 obtain rfl := si h
 rotate_left
 obtain rfl := si h
 rotate_left
 all_goals (go_enter Try.func63, Try.ntmps63; go_wp2; go_ret; exact zE zD)

/-! ### impl_IsValidRelation: function 76 -/
def impl_IsValidRelation.f (a0_0 : ByteArray) (a0_1 : Int) (a0_2 : Int) : Option (Bool) := if (a0_0.size : Int) = 1 then (if 0 < (a0_0.size : Int) then (if (bt a0_0 0) ≥ 97 then (if (bt a0_0 0) ≤ 122 then ((impl_within.f a0_1 1 3).bind fun t112 => (if t112 = true then ((impl_within.f a0_2 0 a0_1).bind fun t113 => (some t113)) else (some false))) else (some false)) else (some false)) else (none)) else (some false)
set_option maxHeartbeats 8000000 in
set_option maxRecDepth 100000 in
theorem impl_IsValidRelation.calls (a0_0 : ByteArray) (a0_1 : Int) (a0_2 : Int) (r : Bool) (w : World) (h : impl_IsValidRelation.f a0_0 a0_1 a0_2 = some r) :
  Calls Try.prog 76 #[.agg #[.string a0_0, .int .i64 a0_1, .int .i64 a0_2]] w fun e w' => e = .returned (.bool r) ∧ Below w.heap.size w w' := by
 have hu74 := Try.underlying74
 obtain ⟨W, hW⟩ : ∃ W, w.alloc (.cells #[.string a0_0, .int .i64 a0_1, .int .i64 a0_2] 74) = W := ⟨_, rfl⟩
 have q0 := qa (w := W) (p := ⟨w.heap.size, 0, none⟩) (v := .string a0_0) (by subst hW; go_simp)
 have q1 := qa (w := W) (p := ⟨w.heap.size, 1, none⟩) (v := .int .i64 a0_1) (by subst hW; go_simp)
 have q2 := qa (w := W) (p := ⟨w.heap.size, 2, none⟩) (v := .int .i64 a0_2) (by subst hW; go_simp)
 have HB : Below w.heap.size w W := by subst hW; exact zB
 have HW := Below.refl W.heap.size W
 have hb := aM HB
 unfold impl_IsValidRelation.f at h
 replace h := iq h; rcases h with ⟨c0, ⟨c0a, c0b⟩, h⟩ | ⟨c0, ⟨c0a, c0b⟩, h⟩
 replace h := il h; rcases h with ⟨c1, c1a, h⟩ | ⟨c1, c1a, h⟩
 have cz := c1.out
 have c1x1 : decide (0 < a0_0.size) = true := decide_eq_true (by omega)
 clear cz
 replace h := ih h; rcases h with ⟨c2, c2a, h⟩ | ⟨c2, c2a, h⟩
 replace h := ie h; rcases h with ⟨c3, c3a, h⟩ | ⟨c3, c3a, h⟩
 replace h := bs h; obtain ⟨t112, B4, h⟩ := h
 replace h := ib h; rcases h with ⟨rfl, h⟩ | ⟨rfl, h⟩
 replace h := bs h; obtain ⟨t113, B6, h⟩ := h
 obtain rfl := si h
 have hxb1 : ∀ h : 0 < a0_0.size, ((a0_0[0]'h).toNat : Int) = bt a0_0 0 := bt_at a0_0 0
 have qib1 := eq_true (aD : 0 < (a0_0.size : Int))
 have qb1 : (0 < a0_0.size) = True := eq_true (by have : (0 : Int) < (a0_0.size : Int) := aD; omega)
 have hxb2 : ∀ h : 0 < a0_0.size, ((a0_0[0]'h).toNat : Int) = bt a0_0 0 := bt_at a0_0 0
 have qib2 := eq_true (aD : 0 < (a0_0.size : Int))
 have qb2 : (0 < a0_0.size) = True := eq_true (by have : (0 : Int) < (a0_0.size : Int) := aD; omega)
 rotate_left
 obtain rfl := si h
 have hxb3 : ∀ h : 0 < a0_0.size, ((a0_0[0]'h).toNat : Int) = bt a0_0 0 := bt_at a0_0 0
 have qib3 := eq_true (aD : 0 < (a0_0.size : Int))
 have qb3 : (0 < a0_0.size) = True := eq_true (by have : (0 : Int) < (a0_0.size : Int) := aD; omega)
 have hxb4 : ∀ h : 0 < a0_0.size, ((a0_0[0]'h).toNat : Int) = bt a0_0 0 := bt_at a0_0 0
 have qib4 := eq_true (aD : 0 < (a0_0.size : Int))
 have qb4 : (0 < a0_0.size) = True := eq_true (by have : (0 : Int) < (a0_0.size : Int) := aD; omega)
 rotate_left
 obtain rfl := si h
 have hxb5 : ∀ h : 0 < a0_0.size, ((a0_0[0]'h).toNat : Int) = bt a0_0 0 := bt_at a0_0 0
 have qib5 := eq_true (aD : 0 < (a0_0.size : Int))
 have qb5 : (0 < a0_0.size) = True := eq_true (by have : (0 : Int) < (a0_0.size : Int) := aD; omega)
 have hxb6 : ∀ h : 0 < a0_0.size, ((a0_0[0]'h).toNat : Int) = bt a0_0 0 := bt_at a0_0 0
 have qib6 := eq_true (aD : 0 < (a0_0.size : Int))
 have qb6 : (0 < a0_0.size) = True := eq_true (by have : (0 : Int) < (a0_0.size : Int) := aD; omega)
 rotate_left
 obtain rfl := si h
 have hxb7 : ∀ h : 0 < a0_0.size, ((a0_0[0]'h).toNat : Int) = bt a0_0 0 := bt_at a0_0 0
 have qib7 := eq_true (aD : 0 < (a0_0.size : Int))
 have qb7 : (0 < a0_0.size) = True := eq_true (by have : (0 : Int) < (a0_0.size : Int) := aD; omega)
 rotate_left
 exact absurd h (by simp)
 obtain rfl := si h
 rotate_left
 all_goals (go_enter Try.func76, Try.ntmps76; go_wp2_with (first | (go_at_call 63; refine (impl_within.calls _ _ _ ?_ _ ?h).mono ?_; (case h => exact zA); rintro e w1 ⟨rfl, hb⟩; replace hb := hb.below; replace hb := aM hb; have HW : Below W.heap.size W w1 := zB; have HB : Below w.heap.size w w1 := zB)); go_ret; exact zE zB)

/-! ### spec_IsValidRelation: function 77 -/
def spec_IsValidRelation.f (a0_0 : ByteArray) (a0_1 : Int) (a0_2 : Int) : Option (Bool) := if (a0_0.size : Int) = 1 then (if 0 < (a0_0.size : Int) then (if (bt a0_0 0) ≥ 97 then (if (bt a0_0 0) ≤ 122 then ((spec_l1In.f a0_1 1 3).bind fun t115 => (if t115 = true then ((spec_l1In.f a0_2 0 a0_1).bind fun t116 => (some t116)) else (some false))) else (some false)) else (some false)) else (none)) else (some false)
set_option maxHeartbeats 8000000 in
set_option maxRecDepth 100000 in
theorem spec_IsValidRelation.calls (a0_0 : ByteArray) (a0_1 : Int) (a0_2 : Int) (r : Bool) (w : World) (h : spec_IsValidRelation.f a0_0 a0_1 a0_2 = some r) :
  Calls Try.prog 77 #[.agg #[.string a0_0, .int .i64 a0_1, .int .i64 a0_2]] w fun e w' => e = .returned (.bool r) ∧ Below w.heap.size w w' := by
 have hu74 := Try.underlying74
 obtain ⟨W, hW⟩ : ∃ W, w.alloc (.cells #[.string a0_0, .int .i64 a0_1, .int .i64 a0_2] 74) = W := ⟨_, rfl⟩
 have q0 := qa (w := W) (p := ⟨w.heap.size, 0, none⟩) (v := .string a0_0) (by subst hW; go_simp)
 have q1 := qa (w := W) (p := ⟨w.heap.size, 1, none⟩) (v := .int .i64 a0_1) (by subst hW; go_simp)
 have q2 := qa (w := W) (p := ⟨w.heap.size, 2, none⟩) (v := .int .i64 a0_2) (by subst hW; go_simp)
 have HB : Below w.heap.size w W := by subst hW; exact zB
 have HW := Below.refl W.heap.size W
 have hb := aM HB
 unfold spec_IsValidRelation.f at h
 replace h := iq h; rcases h with ⟨c0, ⟨c0a, c0b⟩, h⟩ | ⟨c0, ⟨c0a, c0b⟩, h⟩
 replace h := il h; rcases h with ⟨c1, c1a, h⟩ | ⟨c1, c1a, h⟩
 have cz := c1.out
 have c1x1 : decide (0 < a0_0.size) = true := decide_eq_true (by omega)
 clear cz
 replace h := ih h; rcases h with ⟨c2, c2a, h⟩ | ⟨c2, c2a, h⟩
 replace h := ie h; rcases h with ⟨c3, c3a, h⟩ | ⟨c3, c3a, h⟩
 replace h := bs h; obtain ⟨t115, B4, h⟩ := h
 replace h := ib h; rcases h with ⟨rfl, h⟩ | ⟨rfl, h⟩
 replace h := bs h; obtain ⟨t116, B6, h⟩ := h
 obtain rfl := si h
 have hxb1 : ∀ h : 0 < a0_0.size, ((a0_0[0]'h).toNat : Int) = bt a0_0 0 := bt_at a0_0 0
 have qib1 := eq_true (aD : 0 < (a0_0.size : Int))
 have qb1 : (0 < a0_0.size) = True := eq_true (by have : (0 : Int) < (a0_0.size : Int) := aD; omega)
 have hxb2 : ∀ h : 0 < a0_0.size, ((a0_0[0]'h).toNat : Int) = bt a0_0 0 := bt_at a0_0 0
 have qib2 := eq_true (aD : 0 < (a0_0.size : Int))
 have qb2 : (0 < a0_0.size) = True := eq_true (by have : (0 : Int) < (a0_0.size : Int) := aD; omega)
 rotate_left
 obtain rfl := si h
 have hxb3 : ∀ h : 0 < a0_0.size, ((a0_0[0]'h).toNat : Int) = bt a0_0 0 := bt_at a0_0 0
 have qib3 := eq_true (aD : 0 < (a0_0.size : Int))
 have qb3 : (0 < a0_0.size) = True := eq_true (by have : (0 : Int) < (a0_0.size : Int) := aD; omega)
 have hxb4 : ∀ h : 0 < a0_0.size, ((a0_0[0]'h).toNat : Int) = bt a0_0 0 := bt_at a0_0 0
 have qib4 := eq_true (aD : 0 < (a0_0.size : Int))
 have qb4 : (0 < a0_0.size) = True := eq_true (by have : (0 : Int) < (a0_0.size : Int) := aD; omega)
 rotate_left
 obtain rfl := si h
 have hxb5 : ∀ h : 0 < a0_0.size, ((a0_0[0]'h).toNat : Int) = bt a0_0 0 := bt_at a0_0 0
 have qib5 := eq_true (aD : 0 < (a0_0.size : Int))
 have qb5 : (0 < a0_0.size) = True := eq_true (by have : (0 : Int) < (a0_0.size : Int) := aD; omega)
 have hxb6 : ∀ h : 0 < a0_0.size, ((a0_0[0]'h).toNat : Int) = bt a0_0 0 := bt_at a0_0 0
 have qib6 := eq_true (aD : 0 < (a0_0.size : Int))
 have qb6 : (0 < a0_0.size) = True := eq_true (by have : (0 : Int) < (a0_0.size : Int) := aD; omega)
 rotate_left
 obtain rfl := si h
 have hxb7 : ∀ h : 0 < a0_0.size, ((a0_0[0]'h).toNat : Int) = bt a0_0 0 := bt_at a0_0 0
 have qib7 := eq_true (aD : 0 < (a0_0.size : Int))
 have qb7 : (0 < a0_0.size) = True := eq_true (by have : (0 : Int) < (a0_0.size : Int) := aD; omega)
 rotate_left
 exact absurd h (by simp)
 obtain rfl := si h
 rotate_left
 all_goals (go_enter Try.func77, Try.ntmps77; go_wp2_with (first | (go_at_call 61; refine (spec_l1In.calls _ _ _ ?_ _ ?h).mono ?_; (case h => exact zA); rintro e w1 ⟨rfl, hb⟩; replace hb := hb.below; replace hb := aM hb; have HW : Below W.heap.size W w1 := zB; have HB : Below w.heap.size w w1 := zB)); go_ret; exact zE zB)

/-! ### spec_AreValidRelations: function 57 -/
/-- x lies between a and b. -/
def inB (x a b : Int) : Bool := decide (a ≤ x ∧ x ≤ b)
theorem inI (x a b : Int) : impl_within.f x a b = some (inB x a b) := by
 unfold impl_within.f inB
 by_cases h : a ≤ x
 ·rw [if_pos h]; simp [h]
 ·rw [if_neg h]; simp [h]
/-- A valid relation. -/
def vRel (r : S74) : Bool := decide ((r.f0.size : Int) = 1 ∧ 97 ≤ bt r.f0 0 ∧ bt r.f0 0 ≤ 122) && inB r.f1 1 3 && inB r.f2 0 r.f1
theorem vRelI (r : S74) : impl_IsValidRelation.f r.f0 r.f1 r.f2 = some (vRel r) := by
 unfold impl_IsValidRelation.f vRel
 simp only [inI]
 by_cases h1 : (r.f0.size : Int) = 1
 ·rw [if_pos h1, if_pos (by omega)]
  by_cases h2 : bt r.f0 0 ≥ 97
  ·rw [if_pos h2]
   by_cases h3 : bt r.f0 0 ≤ 122
   ·rw [if_pos h3]
    have h2' : 97 ≤ bt r.f0 0 := h2
    simp only [Option.bind_some, h1, h2', h3, and_self, decide_true, Bool.true_and]
    cases inB r.f1 1 3 <;> simp
   ·rw [if_neg h3]; simp [h3]
  ·rw [if_neg h2]
   have h2' : ¬ 97 ≤ bt r.f0 0 := h2
   simp [h2']
 ·rw [if_neg h1]; simp [h1]
/-- From place i on each relation is valid and stands behind its forerunner. -/
def vRelsFrom (l : List S74) : Nat → Nat → Bool
 | 0, _ => decide ((l.length : Int) ≤ 4)
 | d + 1, i => vRel (l.getD i z74) && (decide (i = 0) || Op.bytesLess (l.getD (i - 1) z74).f0.toList (l.getD i z74).f0.toList) && vRelsFrom l d (i + 1)
/-- Valid relations. -/
def vRels (l : List S74) : Bool := vRelsFrom l l.length 0

theorem inS (x a b : Int) : spec_l1In.f x a b = some (inB x a b) := by
 unfold spec_l1In.f inB
 by_cases h : a ≤ x
 ·rw [if_pos h]; simp [h]
 ·rw [if_neg h]; simp [h]
theorem vRelS (r : S74) : spec_IsValidRelation.f r.f0 r.f1 r.f2 = some (vRel r) := by
 rw [← vRelI r]
 unfold impl_IsValidRelation.f spec_IsValidRelation.f
 simp only [inS, inI]
def spec_AreValidRelations.f (l0 : List S74) : Option Bool := some (vRels l0)
set_option maxHeartbeats 4000000 in
set_option maxRecDepth 100000 in
theorem spec_AreValidRelations.calls (A0 : Option Addr) (c0 : Nat) (l0 : List S74) (r : Bool) (w : World) (hr0 : Kd.C k74 w A0 l0.length l0) (hc0 : l0.length ≤ c0) (h : spec_AreValidRelations.f l0 = some r) :
  Calls Try.prog 57 #[.slice A0 l0.length c0] w fun e w' => e = .returned (.bool r) ∧ Below w.heap.size w w' := by
 obtain rfl := Option.some.inj h
 have hl : l0.length ≤ 9223372036854775807 := hr0.2.1
 have HR := aM hr0
 clear hr0 h
 go_enter Try.func57, Try.ntmps57
 go_wp2
 go_loopg [3] l0.length (fun gg s3 wr => ∃ i : Nat, i ≤ l0.length ∧ l0.length - i ≤ gg ∧ s3 = .int .i64 i ∧ Aside0 (Below w.heap.size w wr) ∧ Aside0 (vRelsFrom l0 (l0.length - i) i = vRels l0))
 case atStart => exact ⟨0, Nat.zero_le _, by omega, rfl, ⟨Below.refl _ _⟩, ⟨rfl⟩⟩
 case round =>
  obtain ⟨i, hi, hg, rfl, BW, HA⟩ := hrel
  by_cases hlt : i < l0.length
  ·have hltz : (i : Int) < (l0.length : Int) := by omega
   have hi00 : (0 : Int) ≤ (i : Int) := by omega
   obtain ⟨ad, e, h0, h1, h2⟩ := at_T74 (Kd.C_below HR.out BW.out) (i : Int) (by omega) hltz
   rw [Int.toNat_natCast] at h0 h1 h2
   cases e
   have hrd : rd_T74 l0 (i : Int) = l0.getD i z74 := by unfold rd_T74; rw [Int.toNat_natCast]
   rw [hrd] at h0 h1 h2
   clear hrd
   have HX : Aside0 (vRelsFrom l0 (l0.length - i) i = (vRel (l0.getD i z74) && (decide (i = 0) || Op.bytesLess (l0.getD (i - 1) z74).f0.toList (l0.getD i z74).f0.toList) && vRelsFrom l0 (l0.length - (i + 1)) (i + 1))) := ⟨by
    rw [show l0.length - i = (l0.length - (i + 1)) + 1 by omega]; rfl⟩
   generalize l0.getD i z74 = x at h0 h1 h2 HX
   have HC : Aside0 (∀ (W : World) d os, Calls Try.prog 77 #[.agg #[.string x.f0, .int .i64 x.f1, .int .i64 x.f2]] (Go.Sort.grow (redrawn W d) os) fun e w'' => e = .returned (.bool (vRel x)) ∧ ∃ p : Regrown, w'' = Go.Sort.grow (redrawn W p.d) p.os) := ⟨fun W d os => Calls.regrown_of (spec_IsValidRelation.calls x.f0 x.f1 x.f2 (vRel x) _ (vRelS x))⟩
   have f0 := cell_regrown h0
   have f1 := cell_regrown h1
   have f2 := cell_regrown h2
   clear h0 h1 h2
   by_cases hi0 : i = 0 ∨ vRel x = false
   ·have hd0 : vRel x = true → decide (0 < i) = false := fun hx => by
     rcases hi0 with h | h
     ·simp [h]
     ·rw [hx] at h; cases h
    have hX : vRelsFrom l0 (l0.length - i) i = (vRel x && vRelsFrom l0 (l0.length - (i + 1)) (i + 1)) := by
     rw [HX.out]
     rcases hi0 with h | h
     ·simp [h]
     ·simp [h]
    have HX := aM hX
    clear hX hi0
    cases hv : vRel x with
    | false =>
     have HV := aM hv
     clear hv hd0
     go_wp2_with fail
     have hc := HC.out wr
     rw [HV.out] at hc
     have HC := aM hc
     clear hc
     refine wp_region_quiet_below (by kernel_rfl) (by kernel_rfl) ?_
     repeat (go_big_quiet_step (exact HC.out _ _))
     refine wpQuiet_nil ?_
     intro _ hw'
     obtain ⟨⟨dq, osq⟩, hw''⟩ := hw'
     subst hw''
     go_wp2
     go_ret
     exact ⟨by rw [← HA.out, HX.out, HV.out]; rfl, below_then BW.out BW.out.size (below_regrown _ _ _)⟩
    | true =>
     have hd0 := hd0 hv
     have HV := aM hv
     clear hv
     go_wp2_with fail
     have hc := HC.out wr
     rw [HV.out] at hc
     have HC := aM hc
     clear hc
     refine wp_region_quiet_below (by kernel_rfl) (by kernel_rfl) ?_
     repeat (go_big_quiet_step (exact HC.out _ _))
     refine wpQuiet_nil ?_
     intro _ hw'
     obtain ⟨⟨dq, osq⟩, hw''⟩ := hw'
     subst hw''
     go_wp2
     go_roundg (l0.length - (i + 1))
     case measure => omega
     case rel => exact ⟨i + 1, by omega, by omega, by go_num, ⟨below_then BW.out BW.out.size (below_regrown _ _ _)⟩, ⟨by rw [← HA.out, HX.out, HV.out]; rfl⟩⟩
   ·have hi1 : i ≠ 0 := fun h => hi0 (.inl h)
    have hv : vRel x = true := by
     cases h : vRel x with
     | true => rfl
     | false => exact absurd (.inr h) hi0
    clear hi0
    obtain ⟨ad', e', k0, _, _⟩ := at_T74 (Kd.C_below HR.out BW.out) ((i - 1 : Nat) : Int) (by omega) (by omega)
    cases e'
    rw [Int.toNat_natCast] at k0
    have hrd : rd_T74 l0 ((i - 1 : Nat) : Int) = l0.getD (i - 1) z74 := by unfold rd_T74; rw [Int.toNat_natCast]
    rw [hrd] at k0
    clear hrd
    have hX : vRelsFrom l0 (l0.length - i) i = (Op.bytesLess (l0.getD (i - 1) z74).f0.toList x.f0.toList && vRelsFrom l0 (l0.length - (i + 1)) (i + 1)) := by
     rw [HX.out, hv]; simp [hi1]
    have HX := aM hX
    have HV := aM hv
    clear hX hv
    generalize (l0.getD (i - 1) z74).f0 = y at k0 HX
    have f3 := cell_regrown k0
    clear k0
    have e3 : IntKind.i64.wrap ((i : Int) - 1) = ((i - 1 : Nat) : Int) := by rw [IntKind.wrap_i64]; omega
    have hd0 : decide (0 < i) = true := by simp; omega
    have hm0 : (0 : Int) ≤ ((i - 1 : Nat) : Int) := by omega
    have hm1 : ((i - 1 : Nat) : Int) < (l0.length : Int) := by omega
    go_wp2_with fail
    have hc := HC.out wr
    rw [HV.out] at hc
    have HC := aM hc
    clear hc
    cases hb : Op.bytesLess y.toList x.f0.toList with
    | false =>
     refine wp_region_quiet_below (by kernel_rfl) (by kernel_rfl) ?_
     repeat (go_big_quiet_step (exact HC.out _ _))
     refine wpQuiet_nil ?_
     intro _ hw'
     obtain ⟨⟨dq, osq⟩, hw''⟩ := hw'
     subst hw''
     have HB := aM hb
     clear hb
     go_wp2
     go_ret
     exact ⟨by rw [← HA.out, HX.out, HB.out]; rfl, below_then BW.out BW.out.size (below_regrown _ _ _)⟩
    | true =>
     refine wp_region_quiet_below (by kernel_rfl) (by kernel_rfl) ?_
     repeat (go_big_quiet_step (exact HC.out _ _))
     refine wpQuiet_nil ?_
     intro _ hw'
     obtain ⟨⟨dq, osq⟩, hw''⟩ := hw'
     subst hw''
     have HB := aM hb
     clear hb
     go_wp2
     go_roundg (l0.length - (i + 1))
     case measure => omega
     case rel => exact ⟨i + 1, by omega, by omega, by go_num, ⟨below_then BW.out BW.out.size (below_regrown _ _ _)⟩, ⟨by rw [← HA.out, HX.out, HB.out]; rfl⟩⟩
  ·have hd : decide (i < l0.length) = false := decide_eq_false hlt
   have hle : l0.length ≤ i := by omega
   have HX : Aside0 (vRels l0 = decide (l0.length ≤ 4)) := ⟨by rw [← HA.out, show l0.length - i = 0 by omega]; exact decide_eq_decide.2 (by omega)⟩
   clear hlt
   go_wp2
   go_ret
   exact ⟨by rw [HX.out]; first | rfl | (simp; done) | (simp; omega), BW.out⟩


end Go.Proofs.Yteddnlklfjpgoaa.PFnExactSelectFacts
