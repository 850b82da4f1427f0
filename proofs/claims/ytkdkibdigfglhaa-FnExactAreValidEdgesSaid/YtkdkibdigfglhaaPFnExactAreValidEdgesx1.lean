-- Laid by a program of this claim: what the functions come to, some of them proved by hand.
import Derived.Test.YtkdkibdigfglhaaPFnExactAreValidEdgesx0
namespace Go.Proofs.Ytkdkibdigfglhaa.PFnExactAreValidEdges
open Go.RowKit Go.Proofs.YtkdkibdigfglhaaW.PrintWords Go.Proofs.YtkdkibdigfglhaaW.PrintLast Go.Proofs.YtkdkibdigfglhaaW.PrintMore
attribute [local go_sem] max2_int min2_int max_two min_two max_three min_three max_four min_four   -- for this text's walks alone
set_option linter.unusedVariables false
set_option linter.unusedSimpArgs false

/-! ### laws_szConflictEdgeS: function 31 -/
def laws_szConflictEdgeS.f (l0 : List (S72)) (a1 : Int) : Option (Int) := if (wrap64 (a1 - (l0.length : Int))) < 0 then (some (-1)) else (some (wrap64 (a1 - (l0.length : Int))))
set_option maxHeartbeats 8000000 in
set_option maxRecDepth 100000 in
theorem laws_szConflictEdgeS.calls (A0 : Option Addr) (c0 : Nat) (l0 : List (S72)) (a1 : Int) (r : Int) (w : World) (hr0 : Kd.C k72 w A0 l0.length l0) (hc0 : l0.length ≤ c0) (h : laws_szConflictEdgeS.f l0 a1 = some r) :
  Calls Try.prog 31 #[.slice A0 l0.length c0, .int .i64 a1] w fun e w' => e = .returned (.int .i64 r) ∧ Drawn0 w w' := by
 unfold laws_szConflictEdgeS.f at h
 replace h := il h; rcases h with ⟨c0, c0a, h⟩ | ⟨c0, c0a, h⟩
 obtain rfl := si h
 rotate_left
 obtain rfl := si h
 rotate_left
 all_goals (go_enter Try.func31, Try.ntmps31; go_wp2; go_ret; exact zE zD)

/-! ### spec_l1In: function 48 -/
def spec_l1In.f (a0 : Int) (a1 : Int) (a2 : Int) : Option (Bool) := if a0 ≥ a1 then (some (decide (a0 ≤ a2))) else (some false)
set_option maxHeartbeats 8000000 in
set_option maxRecDepth 100000 in
theorem spec_l1In.calls (a0 : Int) (a1 : Int) (a2 : Int) (r : Bool) (w : World) (h : spec_l1In.f a0 a1 a2 = some r) :
  Calls Try.prog 48 #[.int .i64 a0, .int .i64 a1, .int .i64 a2] w fun e w' => e = .returned (.bool r) ∧ Drawn0 w w' := by
 unfold spec_l1In.f at h
 replace h := ih h; rcases h with ⟨c0, c0a, h⟩ | ⟨c0, c0a, h⟩
 obtain rfl := si h
 rotate_left
 obtain rfl := si h
 rotate_left
 all_goals (go_enter Try.func48, Try.ntmps48; go_wp2; go_ret; exact zE zD)

/-! ### spec_AreValidEdges: function 32 -/
def spec_AreValidEdges.l0 : Nat → Int → List (S70) → Int → Option (Bool)
 | 0, _, _, _ => none
 | k + 1, x0, x1, x5 => if x5 < (x1.length : Int) then (if 0 ≤ x5 then ((spec_l1In.f ((rd_T70 x1 x5).f0) 0 (wrap64 (((rd_T70 x1 x5).f1) - 1))).bind fun t104 => (if t104 = true then ((spec_l1In.f ((rd_T70 x1 x5).f1) 0 (wrap64 (x0 - 1))).bind fun t106 => (if t106 = true then (if x5 > 0 then (if 0 ≤ (wrap64 (x5 - 1)) then (if (wrap64 (x5 - 1)) < (x1.length : Int) then (if ((rd_T70 x1 x5).f0) < ((rd_T70 x1 (wrap64 (x5 - 1))).f0) then (some false) else (if ((rd_T70 x1 x5).f0) = ((rd_T70 x1 (wrap64 (x5 - 1))).f0) then (if ((rd_T70 x1 x5).f1) ≤ ((rd_T70 x1 (wrap64 (x5 - 1))).f1) then (some false) else (spec_AreValidEdges.l0 k x0 x1 (wrap64 (x5 + 1)))) else (spec_AreValidEdges.l0 k x0 x1 (wrap64 (x5 + 1))))) else (none)) else (none)) else (spec_AreValidEdges.l0 k x0 x1 (wrap64 (x5 + 1)))) else (some false))) else (some false))) else (none)) else ((spec_l1In.f x0 0 14).bind fun t101 => (some t101))
def spec_AreValidEdges.f (k : Nat) (a0 : Int) (l1 : List (S70)) : Option (Bool) := spec_AreValidEdges.l0 k a0 l1 0
set_option maxHeartbeats 8000000 in
set_option maxRecDepth 100000 in
theorem spec_AreValidEdges.calls (k : Nat) (a0 : Int) (A1 : Option Addr) (c1 : Nat) (l1 : List (S70)) (r : Bool) (w : World) (hr1 : Kd.C k70 w A1 l1.length l1) (hc1 : l1.length ≤ c1) (h : spec_AreValidEdges.f k a0 l1 = some r) :
  Calls Try.prog 32 #[.int .i64 a0, .slice A1 l1.length c1] w fun e w' => e = .returned (.bool r) ∧ Below w.heap.size w w' := by
 have rg_ := @bcl w
 have rd_ := @bdr w
 unfold spec_AreValidEdges.f at h
 ·go_enter Try.func32, Try.ntmps32
  go_wp2_with (first | (go_at_call 48; refine (spec_l1In.calls _ _ _ ?_ _ ?h).mono ?_; (case h => exact zA); rintro e w1 ⟨rfl, hb⟩; replace hb := hb.below; replace hb := aM hb; have HB : Below w.heap.size w w1 := zB))
  (repeat ((refine nw (w0 := w) zB ?_; intro W1 HB hb hd; (first | (refine Txt.rg (id := 4) [0, 1, 2, 3, 4, 5, 6, 7, 8, 9, 10, 11, 12, 13, 14, 15, 16, 17, 18, 19, 20, 21, 22, 23, 24, 25, 26, 27, 28, 29, 30, 31, 32, 33, 34, 35, 36, 37, 38, 39, 40, 41, 42, 43, 44, 45, 46, 47, 48, 49, 50, 51, 52, 53, 54, 55, 56, 57, 58, 59, 60, 61, 62, 63, 64, 65, 66, 67, 68, 69] (by kernel_rfl) (by kernel_rfl) ?_; simp only [List.map_cons, List.map_nil, List.getD_cons_zero, List.getD_cons_succ])); (repeat (first | (refine Txt.off rfl ?_; simp only [Act.put, List.setIfInBounds_toArray, List.set_cons_zero, List.set_cons_succ]) | (refine Txt.take rfl rfl ?_; intro K hK; go_big_quiet_op; go_big_quiet_on) | (refine Txt.call rfl rfl Try.func48 (by kernel_rfl) rfl (spec_l1In.calls _ _ _ ?_ _ ?h) rfl ?_; (case h => exact zA); rintro e w1 ⟨rfl, hb⟩; replace hb := hb.below; replace hb := aM hb; have HB : Below w.heap.size w w1 := zB; refine ⟨_, rfl, zS, ?_⟩; simp only [Act.put, List.setIfInBounds_toArray, List.set_cons_zero, List.set_cons_succ]))); refine Txt.nil ?_); (try go_wp2_with (first | (go_at_call 48; refine (spec_l1In.calls _ _ _ ?_ _ ?h).mono ?_; (case h => exact zA); rintro e w1 ⟨rfl, hb⟩; replace hb := hb.below; replace hb := aM hb; have HB : Below w.heap.size w w1 := zB)))))
  go_loopg [5] k (fun kq v5 w' => ∃ (x5_0 : Int), v5 = .int .i64 x5_0 ∧ spec_AreValidEdges.l0 kq a0 l1 x5_0 = some r ∧ Below w.heap.size w w')
  case atStart => exact ⟨_, zR, zA, zB⟩
  case round =>
   clear h
   obtain ⟨x5_0, rfl, h, hb⟩ := hrel
   replace hb := aM hb
   have HB : Below w.heap.size w wr := zB
   rcases gk with _ | kk0
   exact absurd h (by simp [spec_AreValidEdges.l0])
   simp only [spec_AreValidEdges.l0] at h
   replace h := il h; rcases h with ⟨c1, c1a, h⟩ | ⟨c1, c1a, h⟩
   replace h := ie h; rcases h with ⟨c2, c2a, h⟩ | ⟨c2, c2a, h⟩
   replace h := bs h; obtain ⟨t104, B3, h⟩ := h
   replace h := ib h; rcases h with ⟨rfl, h⟩ | ⟨rfl, h⟩
   replace h := bs h; obtain ⟨t106, B5, h⟩ := h
   replace h := ib h; rcases h with ⟨rfl, h⟩ | ⟨rfl, h⟩
   replace h := ig h; rcases h with ⟨c7, c7a, h⟩ | ⟨c7, c7a, h⟩
   replace h := ie h; rcases h with ⟨c8, c8a, h⟩ | ⟨c8, c8a, h⟩
   replace h := il h; rcases h with ⟨c9, c9a, h⟩ | ⟨c9, c9a, h⟩
   replace h := il h; rcases h with ⟨c10, c10a, h⟩ | ⟨c10, c10a, h⟩
   obtain rfl := si h
   obtain ⟨ad102, e102, hx102_0, hx102_1⟩ := at_T70 hr1 (x5_0 : Int) aD aD
   have p102 := eq_true (aD : 0 ≤ (x5_0 : Int))
   have q102 := eq_true (aD : x5_0 < (l1.length : Int))
   cases e102
   replace hx102_0 := qa hx102_0
   replace hx102_1 := qa hx102_1
   obtain ⟨ad103, e103, hx103_0, hx103_1⟩ := at_T70 hr1 (x5_0 : Int) aD aD
   have p103 := eq_true (aD : 0 ≤ (x5_0 : Int))
   have q103 := eq_true (aD : x5_0 < (l1.length : Int))
   cases e103
   replace hx103_0 := qa hx103_0
   replace hx103_1 := qa hx103_1
   obtain ⟨ad105, e105, hx105_0, hx105_1⟩ := at_T70 hr1 (x5_0 : Int) aD aD
   have p105 := eq_true (aD : 0 ≤ (x5_0 : Int))
   have q105 := eq_true (aD : x5_0 < (l1.length : Int))
   cases e105
   replace hx105_0 := qa hx105_0
   replace hx105_1 := qa hx105_1
   obtain ⟨ad107, e107, hx107_0, hx107_1⟩ := at_T70 hr1 (x5_0 : Int) aD aD
   have p107 := eq_true (aD : 0 ≤ (x5_0 : Int))
   have q107 := eq_true (aD : x5_0 < (l1.length : Int))
   cases e107
   replace hx107_0 := qa hx107_0
   replace hx107_1 := qa hx107_1
   obtain ⟨ad108, e108, hx108_0, hx108_1⟩ := at_T70 hr1 ((wrap64 (x5_0 - 1)) : Int) aD aD
   have p108 := eq_true (aD : 0 ≤ ((wrap64 (x5_0 - 1)) : Int))
   have q108 := eq_true (aD : (wrap64 (x5_0 - 1)) < (l1.length : Int))
   cases e108
   replace hx108_0 := qa hx108_0
   replace hx108_1 := qa hx108_1
   rotate_left
   replace h := iq h; rcases h with ⟨c11, ⟨c11a, c11b⟩, h⟩ | ⟨c11, ⟨c11a, c11b⟩, h⟩
   replace h := ie h; rcases h with ⟨c12, c12a, h⟩ | ⟨c12, c12a, h⟩
   obtain rfl := si h
   obtain ⟨ad102, e102, hx102_0, hx102_1⟩ := at_T70 hr1 (x5_0 : Int) aD aD
   have p102 := eq_true (aD : 0 ≤ (x5_0 : Int))
   have q102 := eq_true (aD : x5_0 < (l1.length : Int))
   cases e102
   replace hx102_0 := qa hx102_0
   replace hx102_1 := qa hx102_1
   obtain ⟨ad103, e103, hx103_0, hx103_1⟩ := at_T70 hr1 (x5_0 : Int) aD aD
   have p103 := eq_true (aD : 0 ≤ (x5_0 : Int))
   have q103 := eq_true (aD : x5_0 < (l1.length : Int))
   cases e103
   replace hx103_0 := qa hx103_0
   replace hx103_1 := qa hx103_1
   obtain ⟨ad105, e105, hx105_0, hx105_1⟩ := at_T70 hr1 (x5_0 : Int) aD aD
   have p105 := eq_true (aD : 0 ≤ (x5_0 : Int))
   have q105 := eq_true (aD : x5_0 < (l1.length : Int))
   cases e105
   replace hx105_0 := qa hx105_0
   replace hx105_1 := qa hx105_1
   obtain ⟨ad107, e107, hx107_0, hx107_1⟩ := at_T70 hr1 (x5_0 : Int) aD aD
   have p107 := eq_true (aD : 0 ≤ (x5_0 : Int))
   have q107 := eq_true (aD : x5_0 < (l1.length : Int))
   cases e107
   replace hx107_0 := qa hx107_0
   replace hx107_1 := qa hx107_1
   obtain ⟨ad108, e108, hx108_0, hx108_1⟩ := at_T70 hr1 ((wrap64 (x5_0 - 1)) : Int) aD aD
   have p108 := eq_true (aD : 0 ≤ ((wrap64 (x5_0 - 1)) : Int))
   have q108 := eq_true (aD : (wrap64 (x5_0 - 1)) < (l1.length : Int))
   cases e108
   replace hx108_0 := qa hx108_0
   replace hx108_1 := qa hx108_1
   obtain ⟨ad109, e109, hx109_0, hx109_1⟩ := at_T70 hr1 (x5_0 : Int) aD aD
   have p109 := eq_true (aD : 0 ≤ (x5_0 : Int))
   have q109 := eq_true (aD : x5_0 < (l1.length : Int))
   cases e109
   replace hx109_0 := qa hx109_0
   replace hx109_1 := qa hx109_1
   obtain ⟨ad110, e110, hx110_0, hx110_1⟩ := at_T70 hr1 ((wrap64 (x5_0 - 1)) : Int) aD aD
   have p110 := eq_true (aD : 0 ≤ ((wrap64 (x5_0 - 1)) : Int))
   have q110 := eq_true (aD : (wrap64 (x5_0 - 1)) < (l1.length : Int))
   cases e110
   replace hx110_0 := qa hx110_0
   replace hx110_1 := qa hx110_1
   obtain ⟨ad111, e111, hx111_0, hx111_1⟩ := at_T70 hr1 (x5_0 : Int) aD aD
   have p111 := eq_true (aD : 0 ≤ (x5_0 : Int))
   have q111 := eq_true (aD : x5_0 < (l1.length : Int))
   cases e111
   replace hx111_0 := qa hx111_0
   replace hx111_1 := qa hx111_1
   obtain ⟨ad112, e112, hx112_0, hx112_1⟩ := at_T70 hr1 ((wrap64 (x5_0 - 1)) : Int) aD aD
   have p112 := eq_true (aD : 0 ≤ ((wrap64 (x5_0 - 1)) : Int))
   have q112 := eq_true (aD : (wrap64 (x5_0 - 1)) < (l1.length : Int))
   cases e112
   replace hx112_0 := qa hx112_0
   replace hx112_1 := qa hx112_1
   rotate_left
   obtain ⟨kf, hkf⟩ : ∃ kf, kf = kk0 := ⟨_, rfl⟩; rw [← hkf] at h
   obtain ⟨ad102, e102, hx102_0, hx102_1⟩ := at_T70 hr1 (x5_0 : Int) aD aD
   have p102 := eq_true (aD : 0 ≤ (x5_0 : Int))
   have q102 := eq_true (aD : x5_0 < (l1.length : Int))
   cases e102
   replace hx102_0 := qa hx102_0
   replace hx102_1 := qa hx102_1
   obtain ⟨ad103, e103, hx103_0, hx103_1⟩ := at_T70 hr1 (x5_0 : Int) aD aD
   have p103 := eq_true (aD : 0 ≤ (x5_0 : Int))
   have q103 := eq_true (aD : x5_0 < (l1.length : Int))
   cases e103
   replace hx103_0 := qa hx103_0
   replace hx103_1 := qa hx103_1
   obtain ⟨ad105, e105, hx105_0, hx105_1⟩ := at_T70 hr1 (x5_0 : Int) aD aD
   have p105 := eq_true (aD : 0 ≤ (x5_0 : Int))
   have q105 := eq_true (aD : x5_0 < (l1.length : Int))
   cases e105
   replace hx105_0 := qa hx105_0
   replace hx105_1 := qa hx105_1
   obtain ⟨ad107, e107, hx107_0, hx107_1⟩ := at_T70 hr1 (x5_0 : Int) aD aD
   have p107 := eq_true (aD : 0 ≤ (x5_0 : Int))
   have q107 := eq_true (aD : x5_0 < (l1.length : Int))
   cases e107
   replace hx107_0 := qa hx107_0
   replace hx107_1 := qa hx107_1
   obtain ⟨ad108, e108, hx108_0, hx108_1⟩ := at_T70 hr1 ((wrap64 (x5_0 - 1)) : Int) aD aD
   have p108 := eq_true (aD : 0 ≤ ((wrap64 (x5_0 - 1)) : Int))
   have q108 := eq_true (aD : (wrap64 (x5_0 - 1)) < (l1.length : Int))
   cases e108
   replace hx108_0 := qa hx108_0
   replace hx108_1 := qa hx108_1
   obtain ⟨ad109, e109, hx109_0, hx109_1⟩ := at_T70 hr1 (x5_0 : Int) aD aD
   have p109 := eq_true (aD : 0 ≤ (x5_0 : Int))
   have q109 := eq_true (aD : x5_0 < (l1.length : Int))
   cases e109
   replace hx109_0 := qa hx109_0
   replace hx109_1 := qa hx109_1
   obtain ⟨ad110, e110, hx110_0, hx110_1⟩ := at_T70 hr1 ((wrap64 (x5_0 - 1)) : Int) aD aD
   have p110 := eq_true (aD : 0 ≤ ((wrap64 (x5_0 - 1)) : Int))
   have q110 := eq_true (aD : (wrap64 (x5_0 - 1)) < (l1.length : Int))
   cases e110
   replace hx110_0 := qa hx110_0
   replace hx110_1 := qa hx110_1
   obtain ⟨ad111, e111, hx111_0, hx111_1⟩ := at_T70 hr1 (x5_0 : Int) aD aD
   have p111 := eq_true (aD : 0 ≤ (x5_0 : Int))
   have q111 := eq_true (aD : x5_0 < (l1.length : Int))
   cases e111
   replace hx111_0 := qa hx111_0
   replace hx111_1 := qa hx111_1
   obtain ⟨ad112, e112, hx112_0, hx112_1⟩ := at_T70 hr1 ((wrap64 (x5_0 - 1)) : Int) aD aD
   have p112 := eq_true (aD : 0 ≤ ((wrap64 (x5_0 - 1)) : Int))
   have q112 := eq_true (aD : (wrap64 (x5_0 - 1)) < (l1.length : Int))
   cases e112
   replace hx112_0 := qa hx112_0
   replace hx112_1 := qa hx112_1
   rotate_left
   obtain ⟨kf, hkf⟩ : ∃ kf, kf = kk0 := ⟨_, rfl⟩; rw [← hkf] at h
   obtain ⟨ad102, e102, hx102_0, hx102_1⟩ := at_T70 hr1 (x5_0 : Int) aD aD
   have p102 := eq_true (aD : 0 ≤ (x5_0 : Int))
   have q102 := eq_true (aD : x5_0 < (l1.length : Int))
   cases e102
   replace hx102_0 := qa hx102_0
   replace hx102_1 := qa hx102_1
   obtain ⟨ad103, e103, hx103_0, hx103_1⟩ := at_T70 hr1 (x5_0 : Int) aD aD
   have p103 := eq_true (aD : 0 ≤ (x5_0 : Int))
   have q103 := eq_true (aD : x5_0 < (l1.length : Int))
   cases e103
   replace hx103_0 := qa hx103_0
   replace hx103_1 := qa hx103_1
   obtain ⟨ad105, e105, hx105_0, hx105_1⟩ := at_T70 hr1 (x5_0 : Int) aD aD
   have p105 := eq_true (aD : 0 ≤ (x5_0 : Int))
   have q105 := eq_true (aD : x5_0 < (l1.length : Int))
   cases e105
   replace hx105_0 := qa hx105_0
   replace hx105_1 := qa hx105_1
   obtain ⟨ad107, e107, hx107_0, hx107_1⟩ := at_T70 hr1 (x5_0 : Int) aD aD
   have p107 := eq_true (aD : 0 ≤ (x5_0 : Int))
   have q107 := eq_true (aD : x5_0 < (l1.length : Int))
   cases e107
   replace hx107_0 := qa hx107_0
   replace hx107_1 := qa hx107_1
   obtain ⟨ad108, e108, hx108_0, hx108_1⟩ := at_T70 hr1 ((wrap64 (x5_0 - 1)) : Int) aD aD
   have p108 := eq_true (aD : 0 ≤ ((wrap64 (x5_0 - 1)) : Int))
   have q108 := eq_true (aD : (wrap64 (x5_0 - 1)) < (l1.length : Int))
   cases e108
   replace hx108_0 := qa hx108_0
   replace hx108_1 := qa hx108_1
   obtain ⟨ad109, e109, hx109_0, hx109_1⟩ := at_T70 hr1 (x5_0 : Int) aD aD
   have p109 := eq_true (aD : 0 ≤ (x5_0 : Int))
   have q109 := eq_true (aD : x5_0 < (l1.length : Int))
   cases e109
   replace hx109_0 := qa hx109_0
   replace hx109_1 := qa hx109_1
   obtain ⟨ad110, e110, hx110_0, hx110_1⟩ := at_T70 hr1 ((wrap64 (x5_0 - 1)) : Int) aD aD
   have p110 := eq_true (aD : 0 ≤ ((wrap64 (x5_0 - 1)) : Int))
   have q110 := eq_true (aD : (wrap64 (x5_0 - 1)) < (l1.length : Int))
   cases e110
   replace hx110_0 := qa hx110_0
   replace hx110_1 := qa hx110_1
   rotate_left
   exact absurd h (by simp)
   exact absurd h (by simp)
   obtain ⟨kf, hkf⟩ : ∃ kf, kf = kk0 := ⟨_, rfl⟩; rw [← hkf] at h
   obtain ⟨ad102, e102, hx102_0, hx102_1⟩ := at_T70 hr1 (x5_0 : Int) aD aD
   have p102 := eq_true (aD : 0 ≤ (x5_0 : Int))
   have q102 := eq_true (aD : x5_0 < (l1.length : Int))
   cases e102
   replace hx102_0 := qa hx102_0
   replace hx102_1 := qa hx102_1
   obtain ⟨ad103, e103, hx103_0, hx103_1⟩ := at_T70 hr1 (x5_0 : Int) aD aD
   have p103 := eq_true (aD : 0 ≤ (x5_0 : Int))
   have q103 := eq_true (aD : x5_0 < (l1.length : Int))
   cases e103
   replace hx103_0 := qa hx103_0
   replace hx103_1 := qa hx103_1
   obtain ⟨ad105, e105, hx105_0, hx105_1⟩ := at_T70 hr1 (x5_0 : Int) aD aD
   have p105 := eq_true (aD : 0 ≤ (x5_0 : Int))
   have q105 := eq_true (aD : x5_0 < (l1.length : Int))
   cases e105
   replace hx105_0 := qa hx105_0
   replace hx105_1 := qa hx105_1
   rotate_left
   obtain rfl := si h
   obtain ⟨ad102, e102, hx102_0, hx102_1⟩ := at_T70 hr1 (x5_0 : Int) aD aD
   have p102 := eq_true (aD : 0 ≤ (x5_0 : Int))
   have q102 := eq_true (aD : x5_0 < (l1.length : Int))
   cases e102
   replace hx102_0 := qa hx102_0
   replace hx102_1 := qa hx102_1
   obtain ⟨ad103, e103, hx103_0, hx103_1⟩ := at_T70 hr1 (x5_0 : Int) aD aD
   have p103 := eq_true (aD : 0 ≤ (x5_0 : Int))
   have q103 := eq_true (aD : x5_0 < (l1.length : Int))
   cases e103
   replace hx103_0 := qa hx103_0
   replace hx103_1 := qa hx103_1
   obtain ⟨ad105, e105, hx105_0, hx105_1⟩ := at_T70 hr1 (x5_0 : Int) aD aD
   have p105 := eq_true (aD : 0 ≤ (x5_0 : Int))
   have q105 := eq_true (aD : x5_0 < (l1.length : Int))
   cases e105
   replace hx105_0 := qa hx105_0
   replace hx105_1 := qa hx105_1
   rotate_left
   obtain rfl := si h
   obtain ⟨ad102, e102, hx102_0, hx102_1⟩ := at_T70 hr1 (x5_0 : Int) aD aD
   have p102 := eq_true (aD : 0 ≤ (x5_0 : Int))
   have q102 := eq_true (aD : x5_0 < (l1.length : Int))
   cases e102
   replace hx102_0 := qa hx102_0
   replace hx102_1 := qa hx102_1
   obtain ⟨ad103, e103, hx103_0, hx103_1⟩ := at_T70 hr1 (x5_0 : Int) aD aD
   have p103 := eq_true (aD : 0 ≤ (x5_0 : Int))
   have q103 := eq_true (aD : x5_0 < (l1.length : Int))
   cases e103
   replace hx103_0 := qa hx103_0
   replace hx103_1 := qa hx103_1
   rotate_left
   exact absurd h (by simp)
   replace h := bs h; obtain ⟨t101, B13, h⟩ := h
   obtain rfl := si h
   rotate_left
   all_goals (go_wp2_with (first | (go_at_call 48; refine (spec_l1In.calls _ _ _ ?_ _ ?h).mono ?_; (case h => exact zA); rintro e w1 ⟨rfl, hb⟩; replace hb := hb.below; replace hb := aM hb; have HB : Below w.heap.size w w1 := zB)); (repeat ((refine nw (w0 := w) zB ?_; intro W1 HB hb hd; (first | (refine Txt.rg (id := 4) [0, 1, 2, 3, 4, 5, 6, 7, 8, 9, 10, 11, 12, 13, 14, 15, 16, 17, 18, 19, 20, 21, 22, 23, 24, 25, 26, 27, 28, 29, 30, 31, 32, 33, 34, 35, 36, 37, 38, 39, 40, 41, 42, 43, 44, 45, 46, 47, 48, 49, 50, 51, 52, 53, 54, 55, 56, 57, 58, 59, 60, 61, 62, 63, 64, 65, 66, 67, 68, 69] (by kernel_rfl) (by kernel_rfl) ?_; simp only [List.map_cons, List.map_nil, List.getD_cons_zero, List.getD_cons_succ])); (repeat (first | (refine Txt.off rfl ?_; simp only [Act.put, List.setIfInBounds_toArray, List.set_cons_zero, List.set_cons_succ]) | (refine Txt.take rfl rfl ?_; intro K hK; go_big_quiet_op; go_big_quiet_on) | (refine Txt.call rfl rfl Try.func48 (by kernel_rfl) rfl (spec_l1In.calls _ _ _ ?_ _ ?h) rfl ?_; (case h => exact zA); rintro e w1 ⟨rfl, hb⟩; replace hb := hb.below; replace hb := aM hb; have HB : Below w.heap.size w w1 := zB; refine ⟨_, rfl, zS, ?_⟩; simp only [Act.put, List.setIfInBounds_toArray, List.set_cons_zero, List.set_cons_succ]))); refine Txt.nil ?_); (try go_wp2_with (first | (go_at_call 48; refine (spec_l1In.calls _ _ _ ?_ _ ?h).mono ?_; (case h => exact zA); rintro e w1 ⟨rfl, hb⟩; replace hb := hb.below; replace hb := aM hb; have HB : Below w.heap.size w w1 := zB))))); first | (go_ret; exact zE zB) | (go_roundg kf; (case measure => omega); (case rel => exact ⟨_, zR, zA, zB⟩)))

/-! ### laws_toConflictEdge: function 52 -/
def laws_toConflictEdge.f (a0_0 : Int) (a0_1 : Int) : Option (Int × Int) := some (a0_0, a0_1)
set_option maxHeartbeats 8000000 in
set_option maxRecDepth 100000 in
theorem laws_toConflictEdge.calls (a0_0 : Int) (a0_1 : Int) (r1 : Int) (r2 : Int) (w : World) (h : laws_toConflictEdge.f a0_0 a0_1 = some (r1, r2)) :
  Calls Try.prog 52 #[.agg #[.int .i64 a0_0, .int .i64 a0_1]] w fun e w' => e = .returned (.agg #[.int .i64 r1, .int .i64 r2]) ∧ Below w.heap.size w w' := by
 have hu72 := Try.underlying72
 have hu70 := Try.underlying70
 have HB := aM (Below.refl w.heap.size w)
 have H : (some (a0_0, a0_1)) = some (r1, r2) := h
 clear h
 simp only [Option.some.injEq, Prod.mk.injEq] at H
 obtain ⟨rfl, rfl⟩ := H
 go_enter Try.func52, Try.ntmps52
 go_wp2_with (first | ((with_reducible refine gate_dst (N := 1) rfl ?_); refine box_event ?hg (N := 1) ?hd (cs := #[.int .i64 a0_0, .int .i64 a0_1]) (t := 72) ?hr ?_; (case hd => rfl); (case hg => rfl); (case hr => first | (go_simp; done) | (go_simp; rfl)); intro gb113 hg w2 hbox hb; have n0_ := aM (below_step aB hb); have n1_ := aM (hbox); have n2_ := aM ((by rw [hg]; exact (below_size aB) : w.heap.size ≤ gb113)); have n3_ := aM ((by rw [hg]; exact (below_size aB) : w.heap.size ≤ gb113)); clear HB; have HB := n0_; have BK113 := n1_; have GW113 := n2_; have GE113 := n3_; clear n0_ n1_ n2_ n3_; clear hb hbox hg) | ((with_reducible refine gate_dst (N := 2) rfl ?_); refine box_event ?hg (N := 2) ?hd (cs := #[.int .i64 0, .int .i64 0]) (t := 70) ?hr ?_; (case hd => rfl); (case hg => rfl); (case hr => first | (go_simp; done) | (go_simp; rfl)); intro gb114 hg w3 hbox hb; have n0_ := aM (blk_below (g := gb113) (o := .cells #[.int .i64 a0_0, .int .i64 a0_1] 72 (0, 0)) aK hb); have n1_ := aM (below_step aG hb); have n2_ := aM (hbox); have n3_ := aM ((by rw [hg]; exact (below_size aG) : w.heap.size ≤ gb114)); have n4_ := aM ((by rw [hg]; exact (below_size aG) : w.heap.size ≤ gb114)); have n5_ := aM ((by rw [hg]; exact Nat.ne_of_lt (blk_lt (g := gb113) (o := .cells #[.int .i64 a0_0, .int .i64 a0_1] 72 (0, 0)) aK) : gb113 ≠ gb114)); have n6_ := aM ((by rw [hg]; exact Nat.ne_of_gt (blk_lt (g := gb113) (o := .cells #[.int .i64 a0_0, .int .i64 a0_1] 72 (0, 0)) aK) : gb114 ≠ gb113)); clear BK113; clear HB; have BK113 := n0_; have HB := n1_; have BK114 := n2_; have GW114 := n3_; have GE114 := n4_; have NB113_114 := n5_; have NB114_113 := n6_; clear n0_ n1_ n2_ n3_ n4_ n5_ n6_; clear hb hbox hg) | ((with_reducible refine gate_dst (N := 3) rfl ?_); refine box_event ?hg (N := 3) ?hd (cs := #[.int .i64 0, .int .i64 0]) (t := 70) ?hr ?_; (case hd => rfl); (case hg => rfl); (case hr => first | (go_simp; done) | (go_simp; rfl)); intro gb115 hg w4 hbox hb; have n0_ := aM (blk_below (g := gb113) (o := .cells #[.int .i64 a0_0, .int .i64 a0_1] 72 (0, 0)) aK hb); have n1_ := aM (blk_below (g := gb114) (o := .cells #[.int .i64 0, .int .i64 0] 70 (0, 0)) aK hb); have n2_ := aM (below_step aG hb); have n3_ := aM (hbox); have n4_ := aM ((by rw [hg]; exact (below_size aG) : w.heap.size ≤ gb115)); have n5_ := aM ((by rw [hg]; exact (below_size aG) : w.heap.size ≤ gb115)); have n6_ := aM ((by rw [hg]; exact Nat.ne_of_lt (blk_lt (g := gb113) (o := .cells #[.int .i64 a0_0, .int .i64 a0_1] 72 (0, 0)) aK) : gb113 ≠ gb115)); have n7_ := aM ((by rw [hg]; exact Nat.ne_of_gt (blk_lt (g := gb113) (o := .cells #[.int .i64 a0_0, .int .i64 a0_1] 72 (0, 0)) aK) : gb115 ≠ gb113)); have n8_ := aM ((by rw [hg]; exact Nat.ne_of_lt (blk_lt (g := gb114) (o := .cells #[.int .i64 0, .int .i64 0] 70 (0, 0)) aK) : gb114 ≠ gb115)); have n9_ := aM ((by rw [hg]; exact Nat.ne_of_gt (blk_lt (g := gb114) (o := .cells #[.int .i64 0, .int .i64 0] 70 (0, 0)) aK) : gb115 ≠ gb114)); clear BK113; clear BK114; clear HB; have BK113 := n0_; have BK114 := n1_; have HB := n2_; have BK115 := n3_; have GW115 := n4_; have GE115 := n5_; have NB113_115 := n6_; have NB115_113 := n7_; have NB114_115 := n8_; have NB115_114 := n9_; clear n0_ n1_ n2_ n3_ n4_ n5_ n6_ n7_ n8_ n9_; clear hb hbox hg; have hnb5 := NB113_114.out; have hnc5 := NB114_113.out; have hnb6 := NB113_115.out; have hnc6 := NB115_113.out; have hcz7_0 : w4.cell? ⟨gb113, 0, none⟩ = some (.int .i64 a0_0) := (blk_cell BK113.out 0).trans rfl; have hcz7_1 : w4.cell? ⟨gb113, 1, none⟩ = some (.int .i64 a0_1) := (blk_cell BK113.out 1).trans rfl; have hfz7_0 := blk_frozen BK113.out 0; have hfz7_1 := blk_frozen BK113.out 1; have hnb8 := NB115_114.out; have hnc8 := NB114_115.out; have hcz9_0 : w4.cell? ⟨gb115, 0, none⟩ = some (.int .i64 0) := (blk_cell BK115.out 0).trans rfl; have hcz9_1 : w4.cell? ⟨gb115, 1, none⟩ = some (.int .i64 0) := (blk_cell BK115.out 1).trans rfl; have hfz9_0 := blk_frozen BK115.out 0; have hfz9_1 := blk_frozen BK115.out 1; have hcz10_0 : w4.cell? ⟨gb114, 0, none⟩ = some (.int .i64 0) := (blk_cell BK114.out 0).trans rfl; have hcz10_1 : w4.cell? ⟨gb114, 1, none⟩ = some (.int .i64 0) := (blk_cell BK114.out 1).trans rfl; have hfz10_0 := blk_frozen BK114.out 0; have hfz10_1 := blk_frozen BK114.out 1))
 refine bodyPost_ret (results_cell_row rfl _ _ gb114 70 #[.int .i64 a0_0, .int .i64 a0_1] (0, 0) _ rfl (by (with_reducible repeat (first | refine blk_drewN ?_ _ | refine blk_drew ?_ | refine blk_alloc ?_ _)); refine blk_put (cs := #[.int .i64 a0_0, .int .i64 0]) ?_ 1 _ rfl; (with_reducible repeat (first | refine blk_drewN ?_ _ | refine blk_drew ?_ | refine blk_alloc ?_ _)); refine blk_put (cs := #[.int .i64 0, .int .i64 0]) ?_ 0 _ rfl; (with_reducible repeat (first | refine blk_drewN ?_ _ | refine blk_drew ?_ | refine blk_alloc ?_ _)); refine blk_far ?_ NB114_115.out _; (with_reducible repeat (first | refine blk_drewN ?_ _ | refine blk_drew ?_ | refine blk_alloc ?_ _)); refine blk_far ?_ NB114_115.out _; (with_reducible repeat (first | refine blk_drewN ?_ _ | refine blk_drew ?_ | refine blk_alloc ?_ _)); exact BK114.out) Try.underlying70 rfl (by kernel_rfl)) rfl ?_
 exact ⟨by first | rfl | (simp [errW_none, errW_some] <;> rfl) | (simp [*, errW_none, errW_some] <;> rfl), by repeat (first | (with_reducible first | exact HB.out | apply below_alloc | apply pw_below_drewN | apply below_drew1 | refine below_set ?_ GE113.out | refine below_set ?_ GE114.out | refine below_set ?_ GE115.out) | exact HB.out)⟩

/-! ### laws_toConflictEdgeS: function 33 -/
def laws_toConflictEdgeS.l0 : Nat → List (S72) → List (S70) → Int → Option ((List (S70)))
 | 0, _, _, _ => none
 | k + 1, x0, x3, x4 => if x4 < (x0.length : Int) then (if 0 ≤ x4 then ((laws_toConflictEdge.f ((rd_T72 x0 x4).f0) ((rd_T72 x0 x4).f1)).bind fun bt120 => (if x4 < (x3.length : Int) then (laws_toConflictEdgeS.l0 k x0 (x3.set (x4 : Int).toNat (⟨bt120.1, bt120.2⟩ : S70)) (wrap64 (x4 + 1))) else (none))) else (none)) else (some x3)
def laws_toConflictEdgeS.f (k : Nat) (l0 : List (S72)) : Option ((List (S70))) := if 0 ≤ (l0.length : Int) then (if ((l0.length : Int) : Int).toNat ≤ 17592186044416 then (laws_toConflictEdgeS.l0 k l0 (List.replicate ((l0.length : Int) : Int).toNat z70) 0) else (none)) else (none)
set_option maxHeartbeats 8000000 in
set_option maxRecDepth 100000 in
theorem laws_toConflictEdgeS.calls (k : Nat) (A0 : Option Addr) (c0 : Nat) (l0 : List (S72)) (r : List (S70)) (w : World) (hr0 : Kd.C k72 w A0 l0.length l0) (hc0 : l0.length ≤ c0) (h : laws_toConflictEdgeS.f k l0 = some r) :
  Calls Try.prog 33 #[.slice A0 l0.length c0] w fun e w' => ∃ v0_ : Value, e = .returned (v0_) ∧ Kd.R k70 70 w' w.heap.size (fun _ => True) v0_ r ∧ Below w.heap.size w w' := by
 have hu72 := Try.underlying72
 have hu70 := Try.underlying70
 have HR0 := aM hr0
 have HC0 := aM hc0
 clear hr0 hc0
 have HB := aM (Below.refl w.heap.size w)
 have H : (if 0 ≤ (l0.length : Int) then (if ((l0.length : Int) : Int).toNat ≤ 17592186044416 then (laws_toConflictEdgeS.l0 k l0 (List.replicate ((l0.length : Int) : Int).toNat z70) 0) else (none)) else (none)) = some r := h
 clear h
 by_cases c2 : 0 ≤ (l0.length : Int)
 ·rw [if_pos c2] at H
  have c2b0 := eq_true c2
  have c2b1 : decide (0 ≤ (l0.length : Int)) = true := decide_eq_true c2
  clear c2
  by_cases c3 : ((l0.length : Int) : Int).toNat ≤ 17592186044416
  ·rw [if_pos c3] at H
   have c3b0 := eq_true c3
   have c3b1 : decide (((l0.length : Int) : Int).toNat ≤ 17592186044416) = true := decide_eq_true c3
   clear c3
   obtain ⟨y116, hy116⟩ : ∃ y_ : List (S70), y_ = (List.replicate ((l0.length : Int) : Int).toNat z70) := ⟨_, rfl⟩
   replace H : (laws_toConflictEdgeS.l0 k l0 y116 0) = some r := by first | (rw [hy116]; with_reducible exact H) | (have H2_ := (Option.bind_some _ _).symm.trans H; rw [hy116]; with_reducible exact H2_) | (have H2_ := (Option.bind_some _ _).symm.trans H; with_reducible exact H2_) | with_reducible exact H | (rw [hy116]; exact H) | exact H
   have Ny116 := aM hy116
   clear hy116
   have H' := aM H
   clear H
   go_enter Try.func33, Try.ntmps33
   go_wp2_with (first | ((with_reducible refine gate_dst (N := 7) rfl ?_); refine Kd.R_make k70 _ 70 rfl (N := 7) rfl 46 _ _ rfl (l0.length : Int) rfl rfl Try.underlying46 (.agg #[(.int .i64 0), (.int .i64 0)]) 16 info70 rfl (by decide) (by omega) z70 (ok := fun _ => True) (okp := fun _ => True) (k70_mkM _ _ _ z70 ) (fun _ hk => hk) trivial (aD) (Nat.le_trans (Nat.mul_le_mul_right _ (aD : (l0.length : Int).toNat ≤ 17592186044416)) (by omega)) (Below.refl _ _) (Nat.le_refl _) ?_; intro v117 w4 ho5 hb hg_ hnew_; clear hg_ hnew_; (first | rw [← Ny116.out] at ho5 | (simp only [Int.reduceToNat] at ho5; rw [← Ny116.out] at ho5)); have n0_ := aM (Kd.R_lower ho5 (below_size aB)); have n1_ := aM (below_step aB hb); clear HB; have HO118 := n0_; have HB := n1_; clear n0_ n1_; clear hb ho5))
   go_loopg [4] k (fun kq v4 w' => ∃ (x3_1 : List (S70)) (x4_1 : Int), v4 = .int .i64 x4_1 ∧ Aside0 (laws_toConflictEdgeS.l0 kq l0 x3_1 x4_1 = some r) ∧ Aside0 (kq ≤ k) ∧ Aside0 (Kd.R k70 70 w' w.heap.size (fun _ => True) v117 x3_1) ∧ Aside0 (Below w.heap.size w w'))
   case atStart => exact ⟨(y116), (0), (by first | rfl | (simp; done) | (simp [*]; done)), H', ⟨Nat.le_refl _⟩, ⟨aR HO118⟩, ⟨by repeat (first | (with_reducible first | exact HB.out | apply below_alloc | apply pw_below_drewN | apply below_drew1) | exact HB.out)⟩⟩
   case round =>
    clear H'
    try clear c2
    try clear c2b0
    try clear c2b1
    try clear p2
    try clear c3
    try clear c3b0
    try clear c3b1
    obtain ⟨x3_1, x4_1, rfl, HA, HK1, HO_3, HB⟩ := hrel
    cases gk with
    | zero => exact absurd HA.out (by simp [laws_toConflictEdgeS.l0])
    | succ k1 =>
     have H := HA.out
     clear HA
     simp only [laws_toConflictEdgeS.l0] at H
     by_cases c6 : x4_1 < (l0.length : Int)
     ·rw [if_pos c6] at H
      have c6b0 : decide (x4_1 < (l0.length : Int)) = true := decide_eq_true c6
      clear c6
      by_cases c7 : 0 ≤ x4_1
      ·rw [if_pos c7] at H
       have c7b0 : decide (0 ≤ x4_1) = true := decide_eq_true c7
       clear c7
       replace H := Option.bind_eq_some_iff.mp H
       obtain ⟨⟨t120, t121⟩, A80, H⟩ := H
       replace H : (if x4_1 < (x3_1.length : Int) then (laws_toConflictEdgeS.l0 k1 l0 (x3_1.set (x4_1 : Int).toNat (⟨t120, t121⟩ : S70)) (wrap64 (x4_1 + 1))) else (none)) = some r := H
       have A8 := aM A80
       clear A80
       by_cases c9 : x4_1 < (x3_1.length : Int)
       ·rw [if_pos c9] at H
        have c9b0 : decide (x4_1 < (x3_1.length : Int)) = true := decide_eq_true c9
        clear c9
        obtain ⟨y122, hy122⟩ : ∃ y_ : List (S70), y_ = (x3_1.set (x4_1 : Int).toNat (⟨t120, t121⟩ : S70)) := ⟨_, rfl⟩
        replace H : (laws_toConflictEdgeS.l0 k1 l0 y122 (wrap64 (x4_1 + 1))) = some r := by first | (rw [hy122]; with_reducible exact H) | (have H2_ := (Option.bind_some _ _).symm.trans H; rw [hy122]; with_reducible exact H2_) | (have H2_ := (Option.bind_some _ _).symm.trans H; with_reducible exact H2_) | with_reducible exact H | (rw [hy122]; exact H) | exact H
        have Ny122 := aM hy122
        clear hy122
        have H' := aM H
        clear H
        have p119 : 0 ≤ (x4_1 : Int) := aD
        have q119 : x4_1 < (l0.length : Int) := aD
        obtain ⟨ad119, e119, hx119_0, hx119_1⟩ := at_T72 HR0.out x4_1 p119 q119
        cases e119
        replace hx119_0 := (HB.out.cell (World.block_lt_of_cell? w _ hx119_0)).trans hx119_0
        replace hx119_1 := (HB.out.cell (World.block_lt_of_cell? w _ hx119_1)).trans hx119_1
        replace p119 := eq_true p119
        replace q119 := eq_true q119
        go_wp2_with (first | ((with_reducible refine gate_callee (f := 52) rfl ?_); refine goesL_ (some 20) rfl rfl Try.func52 (by kernel_rfl) rfl #[.agg #[.int .i64 ((rd_T72 l0 x4_1).f0), .int .i64 ((rd_T72 l0 x4_1).f1)]] rfl (by (try simp only [List.map_toArray, List.map_cons, List.map_nil]); first | done | rfl | (simp only [List.length_drop, List.length_take]; rfl)) ?_; (with_reducible refine (laws_toConflictEdge.calls ((rd_T72 l0 x4_1).f0) ((rd_T72 l0 x4_1).f1) t120 t121 _ A8.out).mono ?_); rintro e w11 ⟨rfl, hb⟩; refine ⟨_, rfl, ?_⟩; have n0_ := aM (Kd.R_below (aR HO_3) hb); have n1_ := aM (below_step aB hb); clear HO_3; clear HB; have HO_3 := n0_; have HB := n1_; clear n0_ n1_; (try clear hb); (try clear hb2); (try clear hk); (try clear hi); have p10 : 0 ≤ (x4_1 : Int) := aD; have q10 : (x4_1 : Int) < ((x3_1.length : Int) : Int) := aD; obtain ⟨go10, co10, eo10, gb10, gl10, cl10, HG10⟩ := Kd.R_form HO_3.out (by omega); (first | cases eo10 | (injection eo10 with ea_ en_ ec_; (first | subst ea_ | (injection ea_ with ea_; subst ea_)); subst ec_; clear en_)); have GB10 := aM gb10; have GG10 := aM HG10; clear gb10 gl10 HG10; obtain ⟨ce10, hcl10, hM10, hcc10, hfr10⟩ := Kd.R_elem HO_3.out z70 (x4_1 : Int) p10 q10; obtain rfl := k70_openM hM10; have hx10_0 : w11.cell? ⟨go10, (x4_1 : Int).toNat * 2, none⟩ = some (.int .i64 ((rd_T70 x3_1 x4_1).f0)) := hcc10 0 _ rfl; have hx10_1 : w11.cell? ⟨go10, (x4_1 : Int).toNat * 2 + 1, none⟩ = some (.int .i64 ((rd_T70 x3_1 x4_1).f1)) := hcc10 1 _ rfl; have hf10_0 : w11.frozen? ⟨go10, (x4_1 : Int).toNat * 2, none⟩ = false := hfr10 0; have hf10_1 : w11.frozen? ⟨go10, (x4_1 : Int).toNat * 2 + 1, none⟩ = false := hfr10 1; clear hcl10 hcc10 hfr10 hM10; replace p10 := eq_true p10; replace q10 := eq_true q10; have HX12 := aM (show Kd.R k70 70 w11 w.heap.size (fun _ => True) (.slice (some ⟨go10, 0, none⟩) x3_1.length co10) x3_1 from (aR HO_3)); obtain ⟨ce12, hcl12, hM12, hcc12, hfr12⟩ := Kd.R_elem HX12.out z70 (x4_1 : Int) (aD) (by have h_ : (x4_1 : Int) < ((x3_1.length : Int) : Int) := aD; first | exact h_ | (have e_ := (Kd.R_reads' HO_3.out).1; omega) | simpa using h_); obtain rfl := k70_openM hM12; have HP12 := Kd.R_seg HX12.out (x4_1 : Int) (aD) (by have h_ : (x4_1 : Int) < ((x3_1.length : Int) : Int) := aD; first | exact h_ | (have e_ := (Kd.R_reads' HO_3.out).1; omega) | simpa using h_) (seg := [.int .i64 t120, .int .i64 t121]) (j := 0) hcl12 hcc12 (show 2 ≤ 2 from by decide) (x' := (⟨t120, t121⟩ : S70)) (k70_mkM _ _ _ (⟨t120, t121⟩ : S70) ) (fun _ hk => hk); have hx12_0 := hcc12 0 _ rfl; (try simp only [show (k70).sz = 2 from rfl, Nat.mul_one, Nat.add_zero] at hx12_0); have hf12_0 := hfr12 0; (try simp only [show (k70).sz = 2 from rfl, Nat.mul_one, Nat.add_zero] at hf12_0); have hx12_1 := hcc12 1 _ rfl; (try simp only [show (k70).sz = 2 from rfl, Nat.mul_one, Nat.add_zero] at hx12_1); have hf12_1 := hfr12 1; (try simp only [show (k70).sz = 2 from rfl, Nat.mul_one, Nat.add_zero] at hf12_1); clear hcl12 hcc12 hfr12 hM12) | ((with_reducible refine gate_store (t := 70) (p := 21) rfl ?_); refine store_event (t := 70) (p := 21) (v := ?vo_w13) (w1 := ((w11.setCell ⟨go10, (x4_1 : Int).toNat * 2, none⟩ (.int .i64 t120)).setCell ⟨go10, (x4_1 : Int).toNat * 2 + 1, none⟩ (.int .i64 t121))) ?hg ?ho ?hn ?hr ?_; (case ho => rfl); (case hg => rfl); (case hn => rfl); (case hr => first | (go_simp; done) | (go_simp; rfl) | (obtain ⟨A_, c_, e_⟩ := Kd.R_slice HO_3.out; subst e_; first | (go_simp; done) | (go_simp; rfl))); intro w13 hw; have hg : w11.grownBy w13 (some go10) := (by rw [hw]; exact HP12.2); have hp_ : Kd.R k70 70 w13 w.heap.size (fun _ => True) (.slice (some ⟨go10, 0, none⟩) x3_1.length co10) y122 := (by rw [hw, Ny122.out]; exact HP12.1); clear HP12; have n0_ := aM (hp_); have n1_ := aM ((by rw [hw]; exact below_set (below_set (HB.out) GB10.out) GB10.out : Below w.heap.size w w13)); clear HO_3; clear HB; have HO_3 := n0_; have HB := n1_; clear n0_ n1_; clear hg hw hp_))
        go_roundg k1
        case measure => have := HK1.out; omega
        case rel => exact ⟨(y122), (wrap64 (x4_1 + 1)), (by first | rfl | (simp; done) | (simp [*]; done)), H', ⟨by have := HK1.out; omega⟩, ⟨aR HO_3⟩, ⟨by repeat (first | (with_reducible first | exact HB.out | apply below_alloc | apply pw_below_drewN | apply below_drew1) | exact HB.out)⟩⟩
       ·rw [if_neg c9] at H
        exact absurd H (by simp)
      ·rw [if_neg c7] at H
       exact absurd H (by simp)
     ·rw [if_neg c6] at H
      have c6b0 : decide (x4_1 < (l0.length : Int)) = false := decide_eq_false c6
      clear c6
      obtain rfl := Option.some.inj H
      go_wp2
      go_ret
      exact ⟨_, by first | rfl | (simp [errW_none, errW_some] <;> rfl) | (simp [*, errW_none, errW_some] <;> rfl), aR HO_3, by repeat (first | (with_reducible first | exact HB.out | apply below_alloc | apply pw_below_drewN | apply below_drew1) | exact HB.out)⟩
  ·rw [if_neg c3] at H
   exact absurd H (by simp)
 ·rw [if_neg c2] at H
  exact absurd H (by simp)

/-! ### impl_within: function 49 -/
def impl_within.f (a0 : Int) (a1 : Int) (a2 : Int) : Option (Bool) := if a1 ≤ a0 then (some (decide (a0 ≤ a2))) else (some false)
set_option maxHeartbeats 8000000 in
set_option maxRecDepth 100000 in
theorem impl_within.calls (a0 : Int) (a1 : Int) (a2 : Int) (r : Bool) (w : World) (h : impl_within.f a0 a1 a2 = some r) :
  Calls Try.prog 49 #[.int .i64 a0, .int .i64 a1, .int .i64 a2] w fun e w' => e = .returned (.bool r) ∧ Drawn0 w w' := by
 unfold impl_within.f at h
 replace h := ie h; rcases h with ⟨c0, c0a, h⟩ | ⟨c0, c0a, h⟩
 obtain rfl := si h
 rotate_left
 obtain rfl := si h
 rotate_left
 all_goals (go_enter Try.func49, Try.ntmps49; go_wp2; go_ret; exact zE zD)

/-! ### impl_AreValidEdges: function 34 -/
def impl_AreValidEdges.l0 : Nat → Int → List (S70) → List (S70) → Int → Int → Option (Bool)
 | 0, _, _, _, _, _ => none
 | k + 1, x0, x1, x10, x11, x12 => if x12 < x11 then (if 0 ≤ x12 then (if x12 < (x10.length : Int) then (if ((rd_T70 x10 x12).f0) < 0 then (some false) else (if ((rd_T70 x10 x12).f0) ≥ ((rd_T70 x10 x12).f1) then (some false) else (if ((rd_T70 x10 x12).f1) ≥ x0 then (some false) else (if x12 > 0 then (if 0 ≤ (wrap64 (x12 - 1)) then (if (wrap64 (x12 - 1)) < (x1.length : Int) then (if ((rd_T70 x1 (wrap64 (x12 - 1))).f0) > ((rd_T70 x10 x12).f0) then (some false) else (if ((rd_T70 x1 (wrap64 (x12 - 1))).f0) = ((rd_T70 x10 x12).f0) then (if ((rd_T70 x1 (wrap64 (x12 - 1))).f1) ≥ ((rd_T70 x10 x12).f1) then (some false) else (impl_AreValidEdges.l0 k x0 x1 x10 x11 (wrap64 (x12 + 1)))) else (impl_AreValidEdges.l0 k x0 x1 x10 x11 (wrap64 (x12 + 1))))) else (none)) else (none)) else (impl_AreValidEdges.l0 k x0 x1 x10 x11 (wrap64 (x12 + 1))))))) else (none)) else (none)) else (some true)
def impl_AreValidEdges.f (k : Nat) (a0 : Int) (l1 : List (S70)) : Option (Bool) := (impl_within.f a0 0 14).bind fun t123 => (if t123 = true then (impl_AreValidEdges.l0 k a0 l1 l1 (l1.length : Int) 0) else (some false))
set_option maxHeartbeats 8000000 in
set_option maxRecDepth 100000 in
theorem impl_AreValidEdges.calls (k : Nat) (a0 : Int) (A1 : Option Addr) (c1 : Nat) (l1 : List (S70)) (r : Bool) (w : World) (hr1 : Kd.C k70 w A1 l1.length l1) (hc1 : l1.length ≤ c1) (h : impl_AreValidEdges.f k a0 l1 = some r) :
  Calls Try.prog 34 #[.int .i64 a0, .slice A1 l1.length c1] w fun e w' => e = .returned (.bool r) ∧ Below w.heap.size w w' := by
 have hu70 := Try.underlying70
 have HR1 := aM hr1
 have HC1 := aM hc1
 clear hr1 hc1
 have HB := aM (Below.refl w.heap.size w)
 have H : ((impl_within.f a0 0 14).bind fun t123 => (if t123 = true then (impl_AreValidEdges.l0 k a0 l1 l1 (l1.length : Int) 0) else (some false))) = some r := h
 clear h
 replace H := Option.bind_eq_some_iff.mp H
 obtain ⟨t123, A30, H⟩ := H
 replace H : (if t123 = true then (impl_AreValidEdges.l0 k a0 l1 l1 (l1.length : Int) 0) else (some false)) = some r := H
 have A3 := aM A30
 clear A30
 by_cases c4 : t123 = true
 ·subst c4
  have H1 : (impl_AreValidEdges.l0 k a0 l1 l1 (l1.length : Int) 0) = some r := by rw [if_pos rfl] at H; exact H
  clear H
  have H := H1
  clear H1
  have H' := aM H
  clear H
  go_enter Try.func34, Try.ntmps34
  go_wp2_with (first | (go_at_call 49; (with_reducible refine (impl_within.calls a0 0 14 true _ A3.out).mono ?_); rintro e w' ⟨rfl, ⟨nd, rfl⟩⟩; (try first | exact ⟨rfl, _, World.drewN_drewN _ _ _⟩ | exact ⟨rfl, _, Eq.trans (World.drewN_drewN _ _ _) (congrArg (World.drewN _) (Nat.add_assoc _ _ _))⟩)))
  repeat (go_quiet (first | (go_at_call 49; (with_reducible refine (impl_within.calls a0 0 14 true _ A3.out).mono ?_); rintro e w' ⟨rfl, ⟨nd, rfl⟩⟩; (try first | exact ⟨rfl, _, World.drewN_drewN _ _ _⟩ | exact ⟨rfl, _, Eq.trans (World.drewN_drewN _ _ _) (congrArg (World.drewN _) (Nat.add_assoc _ _ _))⟩))); try go_wp2_with (first | (go_at_call 49; (with_reducible refine (impl_within.calls a0 0 14 true _ A3.out).mono ?_); rintro e w' ⟨rfl, ⟨nd, rfl⟩⟩; (try first | exact ⟨rfl, _, World.drewN_drewN _ _ _⟩ | exact ⟨rfl, _, Eq.trans (World.drewN_drewN _ _ _) (congrArg (World.drewN _) (Nat.add_assoc _ _ _))⟩))))
  go_loopg [12] k (fun kq v12 w' => ∃ (x12_1 : Int), v12 = .int .i64 x12_1 ∧ Aside0 (impl_AreValidEdges.l0 kq a0 l1 l1 (l1.length : Int) x12_1 = some r) ∧ Aside0 (kq ≤ k) ∧ Aside0 (Below w.heap.size w w'))
  case atStart => exact ⟨(0), (by first | rfl | (simp; done) | (simp [*]; done)), H', ⟨Nat.le_refl _⟩, ⟨by repeat (first | (with_reducible first | exact HB.out | apply below_alloc | apply pw_below_drewN | apply below_drew1) | exact HB.out)⟩⟩
  case round =>
   clear H'
   try clear c1
   try clear p2
   try clear c3
   try clear c4
   obtain ⟨x12_1, rfl, HA, HK1, HB⟩ := hrel
   cases gk with
   | zero => exact absurd HA.out (by simp [impl_AreValidEdges.l0])
   | succ k1 =>
    have H := HA.out
    clear HA
    simp only [impl_AreValidEdges.l0] at H
    by_cases c5 : x12_1 < (l1.length : Int)
    ·rw [if_pos c5] at H
     have c5b0 : decide (x12_1 < (l1.length : Int)) = true := decide_eq_true c5
     clear c5
     by_cases c6 : 0 ≤ x12_1
     ·rw [if_pos c6] at H
      have c6b0 : decide (0 ≤ x12_1) = true := decide_eq_true c6
      clear c6
      by_cases c7 : x12_1 < (l1.length : Int)
      ·rw [if_pos c7] at H
       have c7b0 : decide (x12_1 < (l1.length : Int)) = true := decide_eq_true c7
       clear c7
       by_cases c8 : ((rd_T70 l1 x12_1).f0) < 0
       ·rw [if_pos c8] at H
        have c8b0 : decide (((rd_T70 l1 x12_1).f0) < 0) = true := decide_eq_true c8
        clear c8
        obtain rfl := Option.some.inj H
        have p124 : 0 ≤ (x12_1 : Int) := aD
        have q124 : x12_1 < (l1.length : Int) := aD
        obtain ⟨ad124, e124, hx124_0, hx124_1⟩ := at_T70 HR1.out x12_1 p124 q124
        cases e124
        replace hx124_0 := (HB.out.cell (World.block_lt_of_cell? w _ hx124_0)).trans hx124_0
        replace hx124_1 := (HB.out.cell (World.block_lt_of_cell? w _ hx124_1)).trans hx124_1
        replace p124 := eq_true p124
        replace q124 := eq_true q124
        go_wp2_with (first | ((with_reducible refine gate_dst (N := 6) rfl ?_); refine box_event ?hg (N := 6) ?hd (cs := #[.int .i64 0, .int .i64 0]) (t := 70) ?hr ?_; (case hd => rfl); (case hg => rfl); (case hr => first | (go_simp; done) | (go_simp; rfl)); intro gb125 hg w9 hbox hb; have n0_ := aM (below_step aB hb); have n1_ := aM (hbox); have n2_ := aM ((by rw [hg]; exact (below_size aB) : w.heap.size ≤ gb125)); have n3_ := aM ((by rw [hg]; exact (below_size aB) : w.heap.size ≤ gb125)); clear HB; have HB := n0_; have BK125 := n1_; have GW125 := n2_; have GE125 := n3_; clear n0_ n1_ n2_ n3_; clear hb hbox hg; have hcz10_0 : w9.cell? ⟨gb125, 0, none⟩ = some (.int .i64 0) := (blk_cell BK125.out 0).trans rfl; have hcz10_1 : w9.cell? ⟨gb125, 1, none⟩ = some (.int .i64 0) := (blk_cell BK125.out 1).trans rfl; have hfz10_0 := blk_frozen BK125.out 0; have hfz10_1 := blk_frozen BK125.out 1))
        repeat (go_quiet (first | ((with_reducible refine gate_dst (N := 6) rfl ?_); refine box_event ?hg (N := 6) ?hd (cs := #[.int .i64 0, .int .i64 0]) (t := 70) ?hr ?_; (case hd => rfl); (case hg => rfl); (case hr => first | (go_simp; done) | (go_simp; rfl)); intro gb125 hg w9 hbox hb; have n0_ := aM (below_step aB hb); have n1_ := aM (hbox); have n2_ := aM ((by rw [hg]; exact (below_size aB) : w.heap.size ≤ gb125)); have n3_ := aM ((by rw [hg]; exact (below_size aB) : w.heap.size ≤ gb125)); clear HB; have HB := n0_; have BK125 := n1_; have GW125 := n2_; have GE125 := n3_; clear n0_ n1_ n2_ n3_; clear hb hbox hg; have hcz10_0 : w9.cell? ⟨gb125, 0, none⟩ = some (.int .i64 0) := (blk_cell BK125.out 0).trans rfl; have hcz10_1 : w9.cell? ⟨gb125, 1, none⟩ = some (.int .i64 0) := (blk_cell BK125.out 1).trans rfl; have hfz10_0 := blk_frozen BK125.out 0; have hfz10_1 := blk_frozen BK125.out 1)); try go_wp2_with (first | ((with_reducible refine gate_dst (N := 6) rfl ?_); refine box_event ?hg (N := 6) ?hd (cs := #[.int .i64 0, .int .i64 0]) (t := 70) ?hr ?_; (case hd => rfl); (case hg => rfl); (case hr => first | (go_simp; done) | (go_simp; rfl)); intro gb125 hg w9 hbox hb; have n0_ := aM (below_step aB hb); have n1_ := aM (hbox); have n2_ := aM ((by rw [hg]; exact (below_size aB) : w.heap.size ≤ gb125)); have n3_ := aM ((by rw [hg]; exact (below_size aB) : w.heap.size ≤ gb125)); clear HB; have HB := n0_; have BK125 := n1_; have GW125 := n2_; have GE125 := n3_; clear n0_ n1_ n2_ n3_; clear hb hbox hg; have hcz10_0 : w9.cell? ⟨gb125, 0, none⟩ = some (.int .i64 0) := (blk_cell BK125.out 0).trans rfl; have hcz10_1 : w9.cell? ⟨gb125, 1, none⟩ = some (.int .i64 0) := (blk_cell BK125.out 1).trans rfl; have hfz10_0 := blk_frozen BK125.out 0; have hfz10_1 := blk_frozen BK125.out 1)))
        go_ret
        exact ⟨by first | rfl | (simp [errW_none, errW_some] <;> rfl) | (simp [*, errW_none, errW_some] <;> rfl), by repeat (first | (with_reducible first | exact HB.out | apply below_alloc | apply pw_below_drewN | apply below_drew1 | refine below_set ?_ GE125.out) | exact HB.out)⟩
       ·rw [if_neg c8] at H
        have c8b0 : decide (((rd_T70 l1 x12_1).f0) < 0) = false := decide_eq_false c8
        clear c8
        by_cases c11 : ((rd_T70 l1 x12_1).f0) ≥ ((rd_T70 l1 x12_1).f1)
        ·rw [if_pos c11] at H
         have c11b0 : decide (((rd_T70 l1 x12_1).f1) ≤ ((rd_T70 l1 x12_1).f0)) = true := decide_eq_true c11
         clear c11
         obtain rfl := Option.some.inj H
         have p124 : 0 ≤ (x12_1 : Int) := aD
         have q124 : x12_1 < (l1.length : Int) := aD
         obtain ⟨ad124, e124, hx124_0, hx124_1⟩ := at_T70 HR1.out x12_1 p124 q124
         cases e124
         replace hx124_0 := (HB.out.cell (World.block_lt_of_cell? w _ hx124_0)).trans hx124_0
         replace hx124_1 := (HB.out.cell (World.block_lt_of_cell? w _ hx124_1)).trans hx124_1
         replace p124 := eq_true p124
         replace q124 := eq_true q124
         go_wp2_with (first | ((with_reducible refine gate_dst (N := 6) rfl ?_); refine box_event ?hg (N := 6) ?hd (cs := #[.int .i64 0, .int .i64 0]) (t := 70) ?hr ?_; (case hd => rfl); (case hg => rfl); (case hr => first | (go_simp; done) | (go_simp; rfl)); intro gb125 hg w12 hbox hb; have n0_ := aM (below_step aB hb); have n1_ := aM (hbox); have n2_ := aM ((by rw [hg]; exact (below_size aB) : w.heap.size ≤ gb125)); have n3_ := aM ((by rw [hg]; exact (below_size aB) : w.heap.size ≤ gb125)); clear HB; have HB := n0_; have BK125 := n1_; have GW125 := n2_; have GE125 := n3_; clear n0_ n1_ n2_ n3_; clear hb hbox hg; have hcz13_0 : w12.cell? ⟨gb125, 0, none⟩ = some (.int .i64 0) := (blk_cell BK125.out 0).trans rfl; have hcz13_1 : w12.cell? ⟨gb125, 1, none⟩ = some (.int .i64 0) := (blk_cell BK125.out 1).trans rfl; have hfz13_0 := blk_frozen BK125.out 0; have hfz13_1 := blk_frozen BK125.out 1))
         repeat (go_quiet (first | ((with_reducible refine gate_dst (N := 6) rfl ?_); refine box_event ?hg (N := 6) ?hd (cs := #[.int .i64 0, .int .i64 0]) (t := 70) ?hr ?_; (case hd => rfl); (case hg => rfl); (case hr => first | (go_simp; done) | (go_simp; rfl)); intro gb125 hg w12 hbox hb; have n0_ := aM (below_step aB hb); have n1_ := aM (hbox); have n2_ := aM ((by rw [hg]; exact (below_size aB) : w.heap.size ≤ gb125)); have n3_ := aM ((by rw [hg]; exact (below_size aB) : w.heap.size ≤ gb125)); clear HB; have HB := n0_; have BK125 := n1_; have GW125 := n2_; have GE125 := n3_; clear n0_ n1_ n2_ n3_; clear hb hbox hg; have hcz13_0 : w12.cell? ⟨gb125, 0, none⟩ = some (.int .i64 0) := (blk_cell BK125.out 0).trans rfl; have hcz13_1 : w12.cell? ⟨gb125, 1, none⟩ = some (.int .i64 0) := (blk_cell BK125.out 1).trans rfl; have hfz13_0 := blk_frozen BK125.out 0; have hfz13_1 := blk_frozen BK125.out 1)); try go_wp2_with (first | ((with_reducible refine gate_dst (N := 6) rfl ?_); refine box_event ?hg (N := 6) ?hd (cs := #[.int .i64 0, .int .i64 0]) (t := 70) ?hr ?_; (case hd => rfl); (case hg => rfl); (case hr => first | (go_simp; done) | (go_simp; rfl)); intro gb125 hg w12 hbox hb; have n0_ := aM (below_step aB hb); have n1_ := aM (hbox); have n2_ := aM ((by rw [hg]; exact (below_size aB) : w.heap.size ≤ gb125)); have n3_ := aM ((by rw [hg]; exact (below_size aB) : w.heap.size ≤ gb125)); clear HB; have HB := n0_; have BK125 := n1_; have GW125 := n2_; have GE125 := n3_; clear n0_ n1_ n2_ n3_; clear hb hbox hg; have hcz13_0 : w12.cell? ⟨gb125, 0, none⟩ = some (.int .i64 0) := (blk_cell BK125.out 0).trans rfl; have hcz13_1 : w12.cell? ⟨gb125, 1, none⟩ = some (.int .i64 0) := (blk_cell BK125.out 1).trans rfl; have hfz13_0 := blk_frozen BK125.out 0; have hfz13_1 := blk_frozen BK125.out 1)))
         go_ret
         exact ⟨by first | rfl | (simp [errW_none, errW_some] <;> rfl) | (simp [*, errW_none, errW_some] <;> rfl), by repeat (first | (with_reducible first | exact HB.out | apply below_alloc | apply pw_below_drewN | apply below_drew1 | refine below_set ?_ GE125.out) | exact HB.out)⟩
        ·rw [if_neg c11] at H
         have c11b0 : decide (((rd_T70 l1 x12_1).f1) ≤ ((rd_T70 l1 x12_1).f0)) = false := decide_eq_false c11
         clear c11
         by_cases c14 : ((rd_T70 l1 x12_1).f1) ≥ a0
         ·rw [if_pos c14] at H
          have c14b0 : decide (a0 ≤ ((rd_T70 l1 x12_1).f1)) = true := decide_eq_true c14
          clear c14
          obtain rfl := Option.some.inj H
          have p124 : 0 ≤ (x12_1 : Int) := aD
          have q124 : x12_1 < (l1.length : Int) := aD
          obtain ⟨ad124, e124, hx124_0, hx124_1⟩ := at_T70 HR1.out x12_1 p124 q124
          cases e124
          replace hx124_0 := (HB.out.cell (World.block_lt_of_cell? w _ hx124_0)).trans hx124_0
          replace hx124_1 := (HB.out.cell (World.block_lt_of_cell? w _ hx124_1)).trans hx124_1
          replace p124 := eq_true p124
          replace q124 := eq_true q124
          go_wp2_with (first | ((with_reducible refine gate_dst (N := 6) rfl ?_); refine box_event ?hg (N := 6) ?hd (cs := #[.int .i64 0, .int .i64 0]) (t := 70) ?hr ?_; (case hd => rfl); (case hg => rfl); (case hr => first | (go_simp; done) | (go_simp; rfl)); intro gb125 hg w15 hbox hb; have n0_ := aM (below_step aB hb); have n1_ := aM (hbox); have n2_ := aM ((by rw [hg]; exact (below_size aB) : w.heap.size ≤ gb125)); have n3_ := aM ((by rw [hg]; exact (below_size aB) : w.heap.size ≤ gb125)); clear HB; have HB := n0_; have BK125 := n1_; have GW125 := n2_; have GE125 := n3_; clear n0_ n1_ n2_ n3_; clear hb hbox hg; have hcz16_0 : w15.cell? ⟨gb125, 0, none⟩ = some (.int .i64 0) := (blk_cell BK125.out 0).trans rfl; have hcz16_1 : w15.cell? ⟨gb125, 1, none⟩ = some (.int .i64 0) := (blk_cell BK125.out 1).trans rfl; have hfz16_0 := blk_frozen BK125.out 0; have hfz16_1 := blk_frozen BK125.out 1))
          repeat (go_quiet (first | ((with_reducible refine gate_dst (N := 6) rfl ?_); refine box_event ?hg (N := 6) ?hd (cs := #[.int .i64 0, .int .i64 0]) (t := 70) ?hr ?_; (case hd => rfl); (case hg => rfl); (case hr => first | (go_simp; done) | (go_simp; rfl)); intro gb125 hg w15 hbox hb; have n0_ := aM (below_step aB hb); have n1_ := aM (hbox); have n2_ := aM ((by rw [hg]; exact (below_size aB) : w.heap.size ≤ gb125)); have n3_ := aM ((by rw [hg]; exact (below_size aB) : w.heap.size ≤ gb125)); clear HB; have HB := n0_; have BK125 := n1_; have GW125 := n2_; have GE125 := n3_; clear n0_ n1_ n2_ n3_; clear hb hbox hg; have hcz16_0 : w15.cell? ⟨gb125, 0, none⟩ = some (.int .i64 0) := (blk_cell BK125.out 0).trans rfl; have hcz16_1 : w15.cell? ⟨gb125, 1, none⟩ = some (.int .i64 0) := (blk_cell BK125.out 1).trans rfl; have hfz16_0 := blk_frozen BK125.out 0; have hfz16_1 := blk_frozen BK125.out 1)); try go_wp2_with (first | ((with_reducible refine gate_dst (N := 6) rfl ?_); refine box_event ?hg (N := 6) ?hd (cs := #[.int .i64 0, .int .i64 0]) (t := 70) ?hr ?_; (case hd => rfl); (case hg => rfl); (case hr => first | (go_simp; done) | (go_simp; rfl)); intro gb125 hg w15 hbox hb; have n0_ := aM (below_step aB hb); have n1_ := aM (hbox); have n2_ := aM ((by rw [hg]; exact (below_size aB) : w.heap.size ≤ gb125)); have n3_ := aM ((by rw [hg]; exact (below_size aB) : w.heap.size ≤ gb125)); clear HB; have HB := n0_; have BK125 := n1_; have GW125 := n2_; have GE125 := n3_; clear n0_ n1_ n2_ n3_; clear hb hbox hg; have hcz16_0 : w15.cell? ⟨gb125, 0, none⟩ = some (.int .i64 0) := (blk_cell BK125.out 0).trans rfl; have hcz16_1 : w15.cell? ⟨gb125, 1, none⟩ = some (.int .i64 0) := (blk_cell BK125.out 1).trans rfl; have hfz16_0 := blk_frozen BK125.out 0; have hfz16_1 := blk_frozen BK125.out 1)))
          go_ret
          exact ⟨by first | rfl | (simp [errW_none, errW_some] <;> rfl) | (simp [*, errW_none, errW_some] <;> rfl), by repeat (first | (with_reducible first | exact HB.out | apply below_alloc | apply pw_below_drewN | apply below_drew1 | refine below_set ?_ GE125.out) | exact HB.out)⟩
         ·rw [if_neg c14] at H
          have c14b0 : decide (a0 ≤ ((rd_T70 l1 x12_1).f1)) = false := decide_eq_false c14
          clear c14
          by_cases c17 : x12_1 > 0
          ·rw [if_pos c17] at H
           have c17b0 : decide (0 < x12_1) = true := decide_eq_true c17
           clear c17
           obtain ⟨ji18, hji18⟩ : ∃ j_ : Int, (wrap64 (x12_1 - 1)) = j_ := ⟨_, rfl⟩
           replace H : (if 0 ≤ (ji18) then (if (ji18) < (l1.length : Int) then (if ((rd_T70 l1 (ji18)).f0) > ((rd_T70 l1 x12_1).f0) then (some false) else (if ((rd_T70 l1 (ji18)).f0) = ((rd_T70 l1 x12_1).f0) then (if ((rd_T70 l1 (ji18)).f1) ≥ ((rd_T70 l1 x12_1).f1) then (some false) else (impl_AreValidEdges.l0 k1 a0 l1 l1 (l1.length : Int) (wrap64 (x12_1 + 1)))) else (impl_AreValidEdges.l0 k1 a0 l1 l1 (l1.length : Int) (wrap64 (x12_1 + 1))))) else (none)) else (none)) = some r := by first | (rw [hji18] at H; exact H) | (simp only [hji18] at H ⊢; exact H)
           have hji18w : (IntKind.i64.wrap (x12_1 - 1)) = ji18 := (i64_w _).trans hji18
           by_cases c19 : 0 ≤ (ji18)
           ·rw [if_pos c19] at H
            have c19b0 : decide (0 ≤ (ji18)) = true := decide_eq_true c19
            clear c19
            by_cases c20 : (ji18) < (l1.length : Int)
            ·rw [if_pos c20] at H
             have c20b0 : decide ((ji18) < (l1.length : Int)) = true := decide_eq_true c20
             clear c20
             by_cases c21 : ((rd_T70 l1 (ji18)).f0) > ((rd_T70 l1 x12_1).f0)
             ·rw [if_pos c21] at H
              have c21b0 : decide (((rd_T70 l1 x12_1).f0) < ((rd_T70 l1 (ji18)).f0)) = true := decide_eq_true c21
              clear c21
              obtain rfl := Option.some.inj H
              have p124 : 0 ≤ (x12_1 : Int) := aD
              have q124 : x12_1 < (l1.length : Int) := aD
              obtain ⟨ad124, e124, hx124_0, hx124_1⟩ := at_T70 HR1.out x12_1 p124 q124
              cases e124
              replace hx124_0 := (HB.out.cell (World.block_lt_of_cell? w _ hx124_0)).trans hx124_0
              replace hx124_1 := (HB.out.cell (World.block_lt_of_cell? w _ hx124_1)).trans hx124_1
              replace p124 := eq_true p124
              replace q124 := eq_true q124
              go_wp2_with (first | ((with_reducible refine gate_dst (N := 6) rfl ?_); refine box_event ?hg (N := 6) ?hd (cs := #[.int .i64 0, .int .i64 0]) (t := 70) ?hr ?_; (case hd => rfl); (case hg => rfl); (case hr => first | (go_simp; done) | (go_simp; rfl)); intro gb125 hg w22 hbox hb; have n0_ := aM (below_step aB hb); have n1_ := aM (hbox); have n2_ := aM ((by rw [hg]; exact (below_size aB) : w.heap.size ≤ gb125)); have n3_ := aM ((by rw [hg]; exact (below_size aB) : w.heap.size ≤ gb125)); clear HB; have HB := n0_; have BK125 := n1_; have GW125 := n2_; have GE125 := n3_; clear n0_ n1_ n2_ n3_; clear hb hbox hg; have hcz23_0 : w22.cell? ⟨gb125, 0, none⟩ = some (.int .i64 0) := (blk_cell BK125.out 0).trans rfl; have hcz23_1 : w22.cell? ⟨gb125, 1, none⟩ = some (.int .i64 0) := (blk_cell BK125.out 1).trans rfl; have hfz23_0 := blk_frozen BK125.out 0; have hfz23_1 := blk_frozen BK125.out 1; have p126 : 0 ≤ ((ji18) : Int) := aD; have q126 : (ji18) < (l1.length : Int) := aD; obtain ⟨ad126, e126, hx126_0, hx126_1⟩ := at_T70 HR1.out (ji18) p126 q126; obtain rfl : ad124 = ad126 := (by injection e126); have hn126_0 : ad124.block ≠ gb125 := Nat.ne_of_lt (Nat.lt_of_lt_of_le (by have := World.block_lt_of_cell? _ _ hx126_0; first | rwa [add_block] at this | exact this) GW125.out); have hn126_1 : ad124.block ≠ gb125 := Nat.ne_of_lt (Nat.lt_of_lt_of_le (by have := World.block_lt_of_cell? _ _ hx126_0; first | rwa [add_block] at this | exact this) GW125.out); replace hx126_0 := (HB.out.cell (World.block_lt_of_cell? w _ hx126_0)).trans hx126_0; replace hx126_1 := (HB.out.cell (World.block_lt_of_cell? w _ hx126_1)).trans hx126_1; replace hx126_0 := (cell_far (p := ⟨gb125, 0, none⟩) (by first | (rw [add_block]; exact hn126_0) | (show (Addr.add _ _).block ≠ _; rw [add_block]; exact hn126_0) | exact hn126_0) (.int .i64 ((rd_T70 l1 x12_1).f0))).trans hx126_0; replace hx126_1 := (cell_far (p := ⟨gb125, 0, none⟩) (by first | (rw [add_block]; exact hn126_0) | (show (Addr.add _ _).block ≠ _; rw [add_block]; exact hn126_0) | exact hn126_0) (.int .i64 ((rd_T70 l1 x12_1).f0))).trans hx126_1; replace hx126_0 := (cell_far (p := ⟨gb125, 1, none⟩) (by first | (rw [add_block]; exact hn126_1) | (show (Addr.add _ _).block ≠ _; rw [add_block]; exact hn126_1) | exact hn126_1) (.int .i64 ((rd_T70 l1 x12_1).f1))).trans hx126_0; replace hx126_1 := (cell_far (p := ⟨gb125, 1, none⟩) (by first | (rw [add_block]; exact hn126_1) | (show (Addr.add _ _).block ≠ _; rw [add_block]; exact hn126_1) | exact hn126_1) (.int .i64 ((rd_T70 l1 x12_1).f1))).trans hx126_1; (try have hy126_0 := fun (n_ : Nat) => (show ((((w22.drewN n_).setCell ⟨gb125, 0, none⟩ (.int .i64 ((rd_T70 l1 x12_1).f0))).setCell ⟨gb125, 1, none⟩ (.int .i64 ((rd_T70 l1 x12_1).f1)))).cell? _ = some _ from hx126_0)); (try have hy126_1 := fun (n_ : Nat) => (show ((((w22.drewN n_).setCell ⟨gb125, 0, none⟩ (.int .i64 ((rd_T70 l1 x12_1).f0))).setCell ⟨gb125, 1, none⟩ (.int .i64 ((rd_T70 l1 x12_1).f1)))).cell? _ = some _ from hx126_1)); clear hn126_0; clear hn126_1; replace p126 := eq_true p126; replace q126 := eq_true q126))
              repeat (go_quiet (first | ((with_reducible refine gate_dst (N := 6) rfl ?_); refine box_event ?hg (N := 6) ?hd (cs := #[.int .i64 0, .int .i64 0]) (t := 70) ?hr ?_; (case hd => rfl); (case hg => rfl); (case hr => first | (go_simp; done) | (go_simp; rfl)); intro gb125 hg w22 hbox hb; have n0_ := aM (below_step aB hb); have n1_ := aM (hbox); have n2_ := aM ((by rw [hg]; exact (below_size aB) : w.heap.size ≤ gb125)); have n3_ := aM ((by rw [hg]; exact (below_size aB) : w.heap.size ≤ gb125)); clear HB; have HB := n0_; have BK125 := n1_; have GW125 := n2_; have GE125 := n3_; clear n0_ n1_ n2_ n3_; clear hb hbox hg; have hcz23_0 : w22.cell? ⟨gb125, 0, none⟩ = some (.int .i64 0) := (blk_cell BK125.out 0).trans rfl; have hcz23_1 : w22.cell? ⟨gb125, 1, none⟩ = some (.int .i64 0) := (blk_cell BK125.out 1).trans rfl; have hfz23_0 := blk_frozen BK125.out 0; have hfz23_1 := blk_frozen BK125.out 1; have p126 : 0 ≤ ((ji18) : Int) := aD; have q126 : (ji18) < (l1.length : Int) := aD; obtain ⟨ad126, e126, hx126_0, hx126_1⟩ := at_T70 HR1.out (ji18) p126 q126; obtain rfl : ad124 = ad126 := (by injection e126); have hn126_0 : ad124.block ≠ gb125 := Nat.ne_of_lt (Nat.lt_of_lt_of_le (by have := World.block_lt_of_cell? _ _ hx126_0; first | rwa [add_block] at this | exact this) GW125.out); have hn126_1 : ad124.block ≠ gb125 := Nat.ne_of_lt (Nat.lt_of_lt_of_le (by have := World.block_lt_of_cell? _ _ hx126_0; first | rwa [add_block] at this | exact this) GW125.out); replace hx126_0 := (HB.out.cell (World.block_lt_of_cell? w _ hx126_0)).trans hx126_0; replace hx126_1 := (HB.out.cell (World.block_lt_of_cell? w _ hx126_1)).trans hx126_1; replace hx126_0 := (cell_far (p := ⟨gb125, 0, none⟩) (by first | (rw [add_block]; exact hn126_0) | (show (Addr.add _ _).block ≠ _; rw [add_block]; exact hn126_0) | exact hn126_0) (.int .i64 ((rd_T70 l1 x12_1).f0))).trans hx126_0; replace hx126_1 := (cell_far (p := ⟨gb125, 0, none⟩) (by first | (rw [add_block]; exact hn126_0) | (show (Addr.add _ _).block ≠ _; rw [add_block]; exact hn126_0) | exact hn126_0) (.int .i64 ((rd_T70 l1 x12_1).f0))).trans hx126_1; replace hx126_0 := (cell_far (p := ⟨gb125, 1, none⟩) (by first | (rw [add_block]; exact hn126_1) | (show (Addr.add _ _).block ≠ _; rw [add_block]; exact hn126_1) | exact hn126_1) (.int .i64 ((rd_T70 l1 x12_1).f1))).trans hx126_0; replace hx126_1 := (cell_far (p := ⟨gb125, 1, none⟩) (by first | (rw [add_block]; exact hn126_1) | (show (Addr.add _ _).block ≠ _; rw [add_block]; exact hn126_1) | exact hn126_1) (.int .i64 ((rd_T70 l1 x12_1).f1))).trans hx126_1; (try have hy126_0 := fun (n_ : Nat) => (show ((((w22.drewN n_).setCell ⟨gb125, 0, none⟩ (.int .i64 ((rd_T70 l1 x12_1).f0))).setCell ⟨gb125, 1, none⟩ (.int .i64 ((rd_T70 l1 x12_1).f1)))).cell? _ = some _ from hx126_0)); (try have hy126_1 := fun (n_ : Nat) => (show ((((w22.drewN n_).setCell ⟨gb125, 0, none⟩ (.int .i64 ((rd_T70 l1 x12_1).f0))).setCell ⟨gb125, 1, none⟩ (.int .i64 ((rd_T70 l1 x12_1).f1)))).cell? _ = some _ from hx126_1)); clear hn126_0; clear hn126_1; replace p126 := eq_true p126; replace q126 := eq_true q126)); try go_wp2_with (first | ((with_reducible refine gate_dst (N := 6) rfl ?_); refine box_event ?hg (N := 6) ?hd (cs := #[.int .i64 0, .int .i64 0]) (t := 70) ?hr ?_; (case hd => rfl); (case hg => rfl); (case hr => first | (go_simp; done) | (go_simp; rfl)); intro gb125 hg w22 hbox hb; have n0_ := aM (below_step aB hb); have n1_ := aM (hbox); have n2_ := aM ((by rw [hg]; exact (below_size aB) : w.heap.size ≤ gb125)); have n3_ := aM ((by rw [hg]; exact (below_size aB) : w.heap.size ≤ gb125)); clear HB; have HB := n0_; have BK125 := n1_; have GW125 := n2_; have GE125 := n3_; clear n0_ n1_ n2_ n3_; clear hb hbox hg; have hcz23_0 : w22.cell? ⟨gb125, 0, none⟩ = some (.int .i64 0) := (blk_cell BK125.out 0).trans rfl; have hcz23_1 : w22.cell? ⟨gb125, 1, none⟩ = some (.int .i64 0) := (blk_cell BK125.out 1).trans rfl; have hfz23_0 := blk_frozen BK125.out 0; have hfz23_1 := blk_frozen BK125.out 1; have p126 : 0 ≤ ((ji18) : Int) := aD; have q126 : (ji18) < (l1.length : Int) := aD; obtain ⟨ad126, e126, hx126_0, hx126_1⟩ := at_T70 HR1.out (ji18) p126 q126; obtain rfl : ad124 = ad126 := (by injection e126); have hn126_0 : ad124.block ≠ gb125 := Nat.ne_of_lt (Nat.lt_of_lt_of_le (by have := World.block_lt_of_cell? _ _ hx126_0; first | rwa [add_block] at this | exact this) GW125.out); have hn126_1 : ad124.block ≠ gb125 := Nat.ne_of_lt (Nat.lt_of_lt_of_le (by have := World.block_lt_of_cell? _ _ hx126_0; first | rwa [add_block] at this | exact this) GW125.out); replace hx126_0 := (HB.out.cell (World.block_lt_of_cell? w _ hx126_0)).trans hx126_0; replace hx126_1 := (HB.out.cell (World.block_lt_of_cell? w _ hx126_1)).trans hx126_1; replace hx126_0 := (cell_far (p := ⟨gb125, 0, none⟩) (by first | (rw [add_block]; exact hn126_0) | (show (Addr.add _ _).block ≠ _; rw [add_block]; exact hn126_0) | exact hn126_0) (.int .i64 ((rd_T70 l1 x12_1).f0))).trans hx126_0; replace hx126_1 := (cell_far (p := ⟨gb125, 0, none⟩) (by first | (rw [add_block]; exact hn126_0) | (show (Addr.add _ _).block ≠ _; rw [add_block]; exact hn126_0) | exact hn126_0) (.int .i64 ((rd_T70 l1 x12_1).f0))).trans hx126_1; replace hx126_0 := (cell_far (p := ⟨gb125, 1, none⟩) (by first | (rw [add_block]; exact hn126_1) | (show (Addr.add _ _).block ≠ _; rw [add_block]; exact hn126_1) | exact hn126_1) (.int .i64 ((rd_T70 l1 x12_1).f1))).trans hx126_0; replace hx126_1 := (cell_far (p := ⟨gb125, 1, none⟩) (by first | (rw [add_block]; exact hn126_1) | (show (Addr.add _ _).block ≠ _; rw [add_block]; exact hn126_1) | exact hn126_1) (.int .i64 ((rd_T70 l1 x12_1).f1))).trans hx126_1; (try have hy126_0 := fun (n_ : Nat) => (show ((((w22.drewN n_).setCell ⟨gb125, 0, none⟩ (.int .i64 ((rd_T70 l1 x12_1).f0))).setCell ⟨gb125, 1, none⟩ (.int .i64 ((rd_T70 l1 x12_1).f1)))).cell? _ = some _ from hx126_0)); (try have hy126_1 := fun (n_ : Nat) => (show ((((w22.drewN n_).setCell ⟨gb125, 0, none⟩ (.int .i64 ((rd_T70 l1 x12_1).f0))).setCell ⟨gb125, 1, none⟩ (.int .i64 ((rd_T70 l1 x12_1).f1)))).cell? _ = some _ from hx126_1)); clear hn126_0; clear hn126_1; replace p126 := eq_true p126; replace q126 := eq_true q126)))
              go_ret
              exact ⟨by first | rfl | (simp [errW_none, errW_some] <;> rfl) | (simp only [← hji18]; first | rfl | (simp [errW_none, errW_some] <;> rfl)) | (simp [*, errW_none, errW_some] <;> rfl), by repeat (first | (with_reducible first | exact HB.out | apply below_alloc | apply pw_below_drewN | apply below_drew1 | refine below_set ?_ GE125.out) | exact HB.out)⟩
             ·rw [if_neg c21] at H
              have c21b0 : decide (((rd_T70 l1 x12_1).f0) < ((rd_T70 l1 (ji18)).f0)) = false := decide_eq_false c21
              clear c21
              by_cases c24 : ((rd_T70 l1 (ji18)).f0) = ((rd_T70 l1 x12_1).f0)
              ·rw [if_pos c24] at H
               have c24b0 : (((rd_T70 l1 (ji18)).f0) == ((rd_T70 l1 x12_1).f0)) = true := beq_iff_eq.mpr c24
               have c24b1 : (((rd_T70 l1 (ji18)).f0) != ((rd_T70 l1 x12_1).f0)) = false := bne_eq_false_iff_eq.mpr c24
               clear c24
               by_cases c25 : ((rd_T70 l1 (ji18)).f1) ≥ ((rd_T70 l1 x12_1).f1)
               ·rw [if_pos c25] at H
                have c25b0 : decide (((rd_T70 l1 x12_1).f1) ≤ ((rd_T70 l1 (ji18)).f1)) = true := decide_eq_true c25
                clear c25
                obtain rfl := Option.some.inj H
                have p124 : 0 ≤ (x12_1 : Int) := aD
                have q124 : x12_1 < (l1.length : Int) := aD
                obtain ⟨ad124, e124, hx124_0, hx124_1⟩ := at_T70 HR1.out x12_1 p124 q124
                cases e124
                replace hx124_0 := (HB.out.cell (World.block_lt_of_cell? w _ hx124_0)).trans hx124_0
                replace hx124_1 := (HB.out.cell (World.block_lt_of_cell? w _ hx124_1)).trans hx124_1
                replace p124 := eq_true p124
                replace q124 := eq_true q124
                go_wp2_with (first | ((with_reducible refine gate_dst (N := 6) rfl ?_); refine box_event ?hg (N := 6) ?hd (cs := #[.int .i64 0, .int .i64 0]) (t := 70) ?hr ?_; (case hd => rfl); (case hg => rfl); (case hr => first | (go_simp; done) | (go_simp; rfl)); intro gb125 hg w26 hbox hb; have n0_ := aM (below_step aB hb); have n1_ := aM (hbox); have n2_ := aM ((by rw [hg]; exact (below_size aB) : w.heap.size ≤ gb125)); have n3_ := aM ((by rw [hg]; exact (below_size aB) : w.heap.size ≤ gb125)); clear HB; have HB := n0_; have BK125 := n1_; have GW125 := n2_; have GE125 := n3_; clear n0_ n1_ n2_ n3_; clear hb hbox hg; have hcz27_0 : w26.cell? ⟨gb125, 0, none⟩ = some (.int .i64 0) := (blk_cell BK125.out 0).trans rfl; have hcz27_1 : w26.cell? ⟨gb125, 1, none⟩ = some (.int .i64 0) := (blk_cell BK125.out 1).trans rfl; have hfz27_0 := blk_frozen BK125.out 0; have hfz27_1 := blk_frozen BK125.out 1; have p126 : 0 ≤ ((ji18) : Int) := aD; have q126 : (ji18) < (l1.length : Int) := aD; obtain ⟨ad126, e126, hx126_0, hx126_1⟩ := at_T70 HR1.out (ji18) p126 q126; obtain rfl : ad124 = ad126 := (by injection e126); have hn126_0 : ad124.block ≠ gb125 := Nat.ne_of_lt (Nat.lt_of_lt_of_le (by have := World.block_lt_of_cell? _ _ hx126_0; first | rwa [add_block] at this | exact this) GW125.out); have hn126_1 : ad124.block ≠ gb125 := Nat.ne_of_lt (Nat.lt_of_lt_of_le (by have := World.block_lt_of_cell? _ _ hx126_0; first | rwa [add_block] at this | exact this) GW125.out); replace hx126_0 := (HB.out.cell (World.block_lt_of_cell? w _ hx126_0)).trans hx126_0; replace hx126_1 := (HB.out.cell (World.block_lt_of_cell? w _ hx126_1)).trans hx126_1; replace hx126_0 := (cell_far (p := ⟨gb125, 0, none⟩) (by first | (rw [add_block]; exact hn126_0) | (show (Addr.add _ _).block ≠ _; rw [add_block]; exact hn126_0) | exact hn126_0) (.int .i64 ((rd_T70 l1 x12_1).f0))).trans hx126_0; replace hx126_1 := (cell_far (p := ⟨gb125, 0, none⟩) (by first | (rw [add_block]; exact hn126_0) | (show (Addr.add _ _).block ≠ _; rw [add_block]; exact hn126_0) | exact hn126_0) (.int .i64 ((rd_T70 l1 x12_1).f0))).trans hx126_1; replace hx126_0 := (cell_far (p := ⟨gb125, 1, none⟩) (by first | (rw [add_block]; exact hn126_1) | (show (Addr.add _ _).block ≠ _; rw [add_block]; exact hn126_1) | exact hn126_1) (.int .i64 ((rd_T70 l1 x12_1).f1))).trans hx126_0; replace hx126_1 := (cell_far (p := ⟨gb125, 1, none⟩) (by first | (rw [add_block]; exact hn126_1) | (show (Addr.add _ _).block ≠ _; rw [add_block]; exact hn126_1) | exact hn126_1) (.int .i64 ((rd_T70 l1 x12_1).f1))).trans hx126_1; (try have hy126_0 := fun (n_ : Nat) => (show ((((w26.drewN n_).setCell ⟨gb125, 0, none⟩ (.int .i64 ((rd_T70 l1 x12_1).f0))).setCell ⟨gb125, 1, none⟩ (.int .i64 ((rd_T70 l1 x12_1).f1)))).cell? _ = some _ from hx126_0)); (try have hy126_1 := fun (n_ : Nat) => (show ((((w26.drewN n_).setCell ⟨gb125, 0, none⟩ (.int .i64 ((rd_T70 l1 x12_1).f0))).setCell ⟨gb125, 1, none⟩ (.int .i64 ((rd_T70 l1 x12_1).f1)))).cell? _ = some _ from hx126_1)); clear hn126_0; clear hn126_1; replace p126 := eq_true p126; replace q126 := eq_true q126; have p127 : 0 ≤ ((ji18) : Int) := aD; have q127 : (ji18) < (l1.length : Int) := aD; obtain ⟨ad127, e127, hx127_0, hx127_1⟩ := at_T70 HR1.out (ji18) p127 q127; obtain rfl : ad124 = ad127 := (by injection e127); have hn127_0 : ad124.block ≠ gb125 := Nat.ne_of_lt (Nat.lt_of_lt_of_le (by have := World.block_lt_of_cell? _ _ hx127_0; first | rwa [add_block] at this | exact this) GW125.out); have hn127_1 : ad124.block ≠ gb125 := Nat.ne_of_lt (Nat.lt_of_lt_of_le (by have := World.block_lt_of_cell? _ _ hx127_0; first | rwa [add_block] at this | exact this) GW125.out); replace hx127_0 := (HB.out.cell (World.block_lt_of_cell? w _ hx127_0)).trans hx127_0; replace hx127_1 := (HB.out.cell (World.block_lt_of_cell? w _ hx127_1)).trans hx127_1; replace hx127_0 := (cell_far (p := ⟨gb125, 0, none⟩) (by first | (rw [add_block]; exact hn127_0) | (show (Addr.add _ _).block ≠ _; rw [add_block]; exact hn127_0) | exact hn127_0) (.int .i64 ((rd_T70 l1 x12_1).f0))).trans hx127_0; replace hx127_1 := (cell_far (p := ⟨gb125, 0, none⟩) (by first | (rw [add_block]; exact hn127_0) | (show (Addr.add _ _).block ≠ _; rw [add_block]; exact hn127_0) | exact hn127_0) (.int .i64 ((rd_T70 l1 x12_1).f0))).trans hx127_1; replace hx127_0 := (cell_far (p := ⟨gb125, 1, none⟩) (by first | (rw [add_block]; exact hn127_1) | (show (Addr.add _ _).block ≠ _; rw [add_block]; exact hn127_1) | exact hn127_1) (.int .i64 ((rd_T70 l1 x12_1).f1))).trans hx127_0; replace hx127_1 := (cell_far (p := ⟨gb125, 1, none⟩) (by first | (rw [add_block]; exact hn127_1) | (show (Addr.add _ _).block ≠ _; rw [add_block]; exact hn127_1) | exact hn127_1) (.int .i64 ((rd_T70 l1 x12_1).f1))).trans hx127_1; (try have hy127_0 := fun (n_ : Nat) => (show ((((w26.drewN n_).setCell ⟨gb125, 0, none⟩ (.int .i64 ((rd_T70 l1 x12_1).f0))).setCell ⟨gb125, 1, none⟩ (.int .i64 ((rd_T70 l1 x12_1).f1)))).cell? _ = some _ from hx127_0)); (try have hy127_1 := fun (n_ : Nat) => (show ((((w26.drewN n_).setCell ⟨gb125, 0, none⟩ (.int .i64 ((rd_T70 l1 x12_1).f0))).setCell ⟨gb125, 1, none⟩ (.int .i64 ((rd_T70 l1 x12_1).f1)))).cell? _ = some _ from hx127_1)); clear hn127_0; clear hn127_1; replace p127 := eq_true p127; replace q127 := eq_true q127; have p128 : 0 ≤ ((ji18) : Int) := aD; have q128 : (ji18) < (l1.length : Int) := aD; obtain ⟨ad128, e128, hx128_0, hx128_1⟩ := at_T70 HR1.out (ji18) p128 q128; obtain rfl : ad124 = ad128 := (by injection e128); have hn128_0 : ad124.block ≠ gb125 := Nat.ne_of_lt (Nat.lt_of_lt_of_le (by have := World.block_lt_of_cell? _ _ hx128_0; first | rwa [add_block] at this | exact this) GW125.out); have hn128_1 : ad124.block ≠ gb125 := Nat.ne_of_lt (Nat.lt_of_lt_of_le (by have := World.block_lt_of_cell? _ _ hx128_0; first | rwa [add_block] at this | exact this) GW125.out); replace hx128_0 := (HB.out.cell (World.block_lt_of_cell? w _ hx128_0)).trans hx128_0; replace hx128_1 := (HB.out.cell (World.block_lt_of_cell? w _ hx128_1)).trans hx128_1; replace hx128_0 := (cell_far (p := ⟨gb125, 0, none⟩) (by first | (rw [add_block]; exact hn128_0) | (show (Addr.add _ _).block ≠ _; rw [add_block]; exact hn128_0) | exact hn128_0) (.int .i64 ((rd_T70 l1 x12_1).f0))).trans hx128_0; replace hx128_1 := (cell_far (p := ⟨gb125, 0, none⟩) (by first | (rw [add_block]; exact hn128_0) | (show (Addr.add _ _).block ≠ _; rw [add_block]; exact hn128_0) | exact hn128_0) (.int .i64 ((rd_T70 l1 x12_1).f0))).trans hx128_1; replace hx128_0 := (cell_far (p := ⟨gb125, 1, none⟩) (by first | (rw [add_block]; exact hn128_1) | (show (Addr.add _ _).block ≠ _; rw [add_block]; exact hn128_1) | exact hn128_1) (.int .i64 ((rd_T70 l1 x12_1).f1))).trans hx128_0; replace hx128_1 := (cell_far (p := ⟨gb125, 1, none⟩) (by first | (rw [add_block]; exact hn128_1) | (show (Addr.add _ _).block ≠ _; rw [add_block]; exact hn128_1) | exact hn128_1) (.int .i64 ((rd_T70 l1 x12_1).f1))).trans hx128_1; (try have hy128_0 := fun (n_ : Nat) => (show ((((w26.drewN n_).setCell ⟨gb125, 0, none⟩ (.int .i64 ((rd_T70 l1 x12_1).f0))).setCell ⟨gb125, 1, none⟩ (.int .i64 ((rd_T70 l1 x12_1).f1)))).cell? _ = some _ from hx128_0)); (try have hy128_1 := fun (n_ : Nat) => (show ((((w26.drewN n_).setCell ⟨gb125, 0, none⟩ (.int .i64 ((rd_T70 l1 x12_1).f0))).setCell ⟨gb125, 1, none⟩ (.int .i64 ((rd_T70 l1 x12_1).f1)))).cell? _ = some _ from hx128_1)); clear hn128_0; clear hn128_1; replace p128 := eq_true p128; replace q128 := eq_true q128))
                repeat (go_quiet (first | ((with_reducible refine gate_dst (N := 6) rfl ?_); refine box_event ?hg (N := 6) ?hd (cs := #[.int .i64 0, .int .i64 0]) (t := 70) ?hr ?_; (case hd => rfl); (case hg => rfl); (case hr => first | (go_simp; done) | (go_simp; rfl)); intro gb125 hg w26 hbox hb; have n0_ := aM (below_step aB hb); have n1_ := aM (hbox); have n2_ := aM ((by rw [hg]; exact (below_size aB) : w.heap.size ≤ gb125)); have n3_ := aM ((by rw [hg]; exact (below_size aB) : w.heap.size ≤ gb125)); clear HB; have HB := n0_; have BK125 := n1_; have GW125 := n2_; have GE125 := n3_; clear n0_ n1_ n2_ n3_; clear hb hbox hg; have hcz27_0 : w26.cell? ⟨gb125, 0, none⟩ = some (.int .i64 0) := (blk_cell BK125.out 0).trans rfl; have hcz27_1 : w26.cell? ⟨gb125, 1, none⟩ = some (.int .i64 0) := (blk_cell BK125.out 1).trans rfl; have hfz27_0 := blk_frozen BK125.out 0; have hfz27_1 := blk_frozen BK125.out 1; have p126 : 0 ≤ ((ji18) : Int) := aD; have q126 : (ji18) < (l1.length : Int) := aD; obtain ⟨ad126, e126, hx126_0, hx126_1⟩ := at_T70 HR1.out (ji18) p126 q126; obtain rfl : ad124 = ad126 := (by injection e126); have hn126_0 : ad124.block ≠ gb125 := Nat.ne_of_lt (Nat.lt_of_lt_of_le (by have := World.block_lt_of_cell? _ _ hx126_0; first | rwa [add_block] at this | exact this) GW125.out); have hn126_1 : ad124.block ≠ gb125 := Nat.ne_of_lt (Nat.lt_of_lt_of_le (by have := World.block_lt_of_cell? _ _ hx126_0; first | rwa [add_block] at this | exact this) GW125.out); replace hx126_0 := (HB.out.cell (World.block_lt_of_cell? w _ hx126_0)).trans hx126_0; replace hx126_1 := (HB.out.cell (World.block_lt_of_cell? w _ hx126_1)).trans hx126_1; replace hx126_0 := (cell_far (p := ⟨gb125, 0, none⟩) (by first | (rw [add_block]; exact hn126_0) | (show (Addr.add _ _).block ≠ _; rw [add_block]; exact hn126_0) | exact hn126_0) (.int .i64 ((rd_T70 l1 x12_1).f0))).trans hx126_0; replace hx126_1 := (cell_far (p := ⟨gb125, 0, none⟩) (by first | (rw [add_block]; exact hn126_0) | (show (Addr.add _ _).block ≠ _; rw [add_block]; exact hn126_0) | exact hn126_0) (.int .i64 ((rd_T70 l1 x12_1).f0))).trans hx126_1; replace hx126_0 := (cell_far (p := ⟨gb125, 1, none⟩) (by first | (rw [add_block]; exact hn126_1) | (show (Addr.add _ _).block ≠ _; rw [add_block]; exact hn126_1) | exact hn126_1) (.int .i64 ((rd_T70 l1 x12_1).f1))).trans hx126_0; replace hx126_1 := (cell_far (p := ⟨gb125, 1, none⟩) (by first | (rw [add_block]; exact hn126_1) | (show (Addr.add _ _).block ≠ _; rw [add_block]; exact hn126_1) | exact hn126_1) (.int .i64 ((rd_T70 l1 x12_1).f1))).trans hx126_1; (try have hy126_0 := fun (n_ : Nat) => (show ((((w26.drewN n_).setCell ⟨gb125, 0, none⟩ (.int .i64 ((rd_T70 l1 x12_1).f0))).setCell ⟨gb125, 1, none⟩ (.int .i64 ((rd_T70 l1 x12_1).f1)))).cell? _ = some _ from hx126_0)); (try have hy126_1 := fun (n_ : Nat) => (show ((((w26.drewN n_).setCell ⟨gb125, 0, none⟩ (.int .i64 ((rd_T70 l1 x12_1).f0))).setCell ⟨gb125, 1, none⟩ (.int .i64 ((rd_T70 l1 x12_1).f1)))).cell? _ = some _ from hx126_1)); clear hn126_0; clear hn126_1; replace p126 := eq_true p126; replace q126 := eq_true q126; have p127 : 0 ≤ ((ji18) : Int) := aD; have q127 : (ji18) < (l1.length : Int) := aD; obtain ⟨ad127, e127, hx127_0, hx127_1⟩ := at_T70 HR1.out (ji18) p127 q127; obtain rfl : ad124 = ad127 := (by injection e127); have hn127_0 : ad124.block ≠ gb125 := Nat.ne_of_lt (Nat.lt_of_lt_of_le (by have := World.block_lt_of_cell? _ _ hx127_0; first | rwa [add_block] at this | exact this) GW125.out); have hn127_1 : ad124.block ≠ gb125 := Nat.ne_of_lt (Nat.lt_of_lt_of_le (by have := World.block_lt_of_cell? _ _ hx127_0; first | rwa [add_block] at this | exact this) GW125.out); replace hx127_0 := (HB.out.cell (World.block_lt_of_cell? w _ hx127_0)).trans hx127_0; replace hx127_1 := (HB.out.cell (World.block_lt_of_cell? w _ hx127_1)).trans hx127_1; replace hx127_0 := (cell_far (p := ⟨gb125, 0, none⟩) (by first | (rw [add_block]; exact hn127_0) | (show (Addr.add _ _).block ≠ _; rw [add_block]; exact hn127_0) | exact hn127_0) (.int .i64 ((rd_T70 l1 x12_1).f0))).trans hx127_0; replace hx127_1 := (cell_far (p := ⟨gb125, 0, none⟩) (by first | (rw [add_block]; exact hn127_0) | (show (Addr.add _ _).block ≠ _; rw [add_block]; exact hn127_0) | exact hn127_0) (.int .i64 ((rd_T70 l1 x12_1).f0))).trans hx127_1; replace hx127_0 := (cell_far (p := ⟨gb125, 1, none⟩) (by first | (rw [add_block]; exact hn127_1) | (show (Addr.add _ _).block ≠ _; rw [add_block]; exact hn127_1) | exact hn127_1) (.int .i64 ((rd_T70 l1 x12_1).f1))).trans hx127_0; replace hx127_1 := (cell_far (p := ⟨gb125, 1, none⟩) (by first | (rw [add_block]; exact hn127_1) | (show (Addr.add _ _).block ≠ _; rw [add_block]; exact hn127_1) | exact hn127_1) (.int .i64 ((rd_T70 l1 x12_1).f1))).trans hx127_1; (try have hy127_0 := fun (n_ : Nat) => (show ((((w26.drewN n_).setCell ⟨gb125, 0, none⟩ (.int .i64 ((rd_T70 l1 x12_1).f0))).setCell ⟨gb125, 1, none⟩ (.int .i64 ((rd_T70 l1 x12_1).f1)))).cell? _ = some _ from hx127_0)); (try have hy127_1 := fun (n_ : Nat) => (show ((((w26.drewN n_).setCell ⟨gb125, 0, none⟩ (.int .i64 ((rd_T70 l1 x12_1).f0))).setCell ⟨gb125, 1, none⟩ (.int .i64 ((rd_T70 l1 x12_1).f1)))).cell? _ = some _ from hx127_1)); clear hn127_0; clear hn127_1; replace p127 := eq_true p127; replace q127 := eq_true q127; have p128 : 0 ≤ ((ji18) : Int) := aD; have q128 : (ji18) < (l1.length : Int) := aD; obtain ⟨ad128, e128, hx128_0, hx128_1⟩ := at_T70 HR1.out (ji18) p128 q128; obtain rfl : ad124 = ad128 := (by injection e128); have hn128_0 : ad124.block ≠ gb125 := Nat.ne_of_lt (Nat.lt_of_lt_of_le (by have := World.block_lt_of_cell? _ _ hx128_0; first | rwa [add_block] at this | exact this) GW125.out); have hn128_1 : ad124.block ≠ gb125 := Nat.ne_of_lt (Nat.lt_of_lt_of_le (by have := World.block_lt_of_cell? _ _ hx128_0; first | rwa [add_block] at this | exact this) GW125.out); replace hx128_0 := (HB.out.cell (World.block_lt_of_cell? w _ hx128_0)).trans hx128_0; replace hx128_1 := (HB.out.cell (World.block_lt_of_cell? w _ hx128_1)).trans hx128_1; replace hx128_0 := (cell_far (p := ⟨gb125, 0, none⟩) (by first | (rw [add_block]; exact hn128_0) | (show (Addr.add _ _).block ≠ _; rw [add_block]; exact hn128_0) | exact hn128_0) (.int .i64 ((rd_T70 l1 x12_1).f0))).trans hx128_0; replace hx128_1 := (cell_far (p := ⟨gb125, 0, none⟩) (by first | (rw [add_block]; exact hn128_0) | (show (Addr.add _ _).block ≠ _; rw [add_block]; exact hn128_0) | exact hn128_0) (.int .i64 ((rd_T70 l1 x12_1).f0))).trans hx128_1; replace hx128_0 := (cell_far (p := ⟨gb125, 1, none⟩) (by first | (rw [add_block]; exact hn128_1) | (show (Addr.add _ _).block ≠ _; rw [add_block]; exact hn128_1) | exact hn128_1) (.int .i64 ((rd_T70 l1 x12_1).f1))).trans hx128_0; replace hx128_1 := (cell_far (p := ⟨gb125, 1, none⟩) (by first | (rw [add_block]; exact hn128_1) | (show (Addr.add _ _).block ≠ _; rw [add_block]; exact hn128_1) | exact hn128_1) (.int .i64 ((rd_T70 l1 x12_1).f1))).trans hx128_1; (try have hy128_0 := fun (n_ : Nat) => (show ((((w26.drewN n_).setCell ⟨gb125, 0, none⟩ (.int .i64 ((rd_T70 l1 x12_1).f0))).setCell ⟨gb125, 1, none⟩ (.int .i64 ((rd_T70 l1 x12_1).f1)))).cell? _ = some _ from hx128_0)); (try have hy128_1 := fun (n_ : Nat) => (show ((((w26.drewN n_).setCell ⟨gb125, 0, none⟩ (.int .i64 ((rd_T70 l1 x12_1).f0))).setCell ⟨gb125, 1, none⟩ (.int .i64 ((rd_T70 l1 x12_1).f1)))).cell? _ = some _ from hx128_1)); clear hn128_0; clear hn128_1; replace p128 := eq_true p128; replace q128 := eq_true q128)); try go_wp2_with (first | ((with_reducible refine gate_dst (N := 6) rfl ?_); refine box_event ?hg (N := 6) ?hd (cs := #[.int .i64 0, .int .i64 0]) (t := 70) ?hr ?_; (case hd => rfl); (case hg => rfl); (case hr => first | (go_simp; done) | (go_simp; rfl)); intro gb125 hg w26 hbox hb; have n0_ := aM (below_step aB hb); have n1_ := aM (hbox); have n2_ := aM ((by rw [hg]; exact (below_size aB) : w.heap.size ≤ gb125)); have n3_ := aM ((by rw [hg]; exact (below_size aB) : w.heap.size ≤ gb125)); clear HB; have HB := n0_; have BK125 := n1_; have GW125 := n2_; have GE125 := n3_; clear n0_ n1_ n2_ n3_; clear hb hbox hg; have hcz27_0 : w26.cell? ⟨gb125, 0, none⟩ = some (.int .i64 0) := (blk_cell BK125.out 0).trans rfl; have hcz27_1 : w26.cell? ⟨gb125, 1, none⟩ = some (.int .i64 0) := (blk_cell BK125.out 1).trans rfl; have hfz27_0 := blk_frozen BK125.out 0; have hfz27_1 := blk_frozen BK125.out 1; have p126 : 0 ≤ ((ji18) : Int) := aD; have q126 : (ji18) < (l1.length : Int) := aD; obtain ⟨ad126, e126, hx126_0, hx126_1⟩ := at_T70 HR1.out (ji18) p126 q126; obtain rfl : ad124 = ad126 := (by injection e126); have hn126_0 : ad124.block ≠ gb125 := Nat.ne_of_lt (Nat.lt_of_lt_of_le (by have := World.block_lt_of_cell? _ _ hx126_0; first | rwa [add_block] at this | exact this) GW125.out); have hn126_1 : ad124.block ≠ gb125 := Nat.ne_of_lt (Nat.lt_of_lt_of_le (by have := World.block_lt_of_cell? _ _ hx126_0; first | rwa [add_block] at this | exact this) GW125.out); replace hx126_0 := (HB.out.cell (World.block_lt_of_cell? w _ hx126_0)).trans hx126_0; replace hx126_1 := (HB.out.cell (World.block_lt_of_cell? w _ hx126_1)).trans hx126_1; replace hx126_0 := (cell_far (p := ⟨gb125, 0, none⟩) (by first | (rw [add_block]; exact hn126_0) | (show (Addr.add _ _).block ≠ _; rw [add_block]; exact hn126_0) | exact hn126_0) (.int .i64 ((rd_T70 l1 x12_1).f0))).trans hx126_0; replace hx126_1 := (cell_far (p := ⟨gb125, 0, none⟩) (by first | (rw [add_block]; exact hn126_0) | (show (Addr.add _ _).block ≠ _; rw [add_block]; exact hn126_0) | exact hn126_0) (.int .i64 ((rd_T70 l1 x12_1).f0))).trans hx126_1; replace hx126_0 := (cell_far (p := ⟨gb125, 1, none⟩) (by first | (rw [add_block]; exact hn126_1) | (show (Addr.add _ _).block ≠ _; rw [add_block]; exact hn126_1) | exact hn126_1) (.int .i64 ((rd_T70 l1 x12_1).f1))).trans hx126_0; replace hx126_1 := (cell_far (p := ⟨gb125, 1, none⟩) (by first | (rw [add_block]; exact hn126_1) | (show (Addr.add _ _).block ≠ _; rw [add_block]; exact hn126_1) | exact hn126_1) (.int .i64 ((rd_T70 l1 x12_1).f1))).trans hx126_1; (try have hy126_0 := fun (n_ : Nat) => (show ((((w26.drewN n_).setCell ⟨gb125, 0, none⟩ (.int .i64 ((rd_T70 l1 x12_1).f0))).setCell ⟨gb125, 1, none⟩ (.int .i64 ((rd_T70 l1 x12_1).f1)))).cell? _ = some _ from hx126_0)); (try have hy126_1 := fun (n_ : Nat) => (show ((((w26.drewN n_).setCell ⟨gb125, 0, none⟩ (.int .i64 ((rd_T70 l1 x12_1).f0))).setCell ⟨gb125, 1, none⟩ (.int .i64 ((rd_T70 l1 x12_1).f1)))).cell? _ = some _ from hx126_1)); clear hn126_0; clear hn126_1; replace p126 := eq_true p126; replace q126 := eq_true q126; have p127 : 0 ≤ ((ji18) : Int) := aD; have q127 : (ji18) < (l1.length : Int) := aD; obtain ⟨ad127, e127, hx127_0, hx127_1⟩ := at_T70 HR1.out (ji18) p127 q127; obtain rfl : ad124 = ad127 := (by injection e127); have hn127_0 : ad124.block ≠ gb125 := Nat.ne_of_lt (Nat.lt_of_lt_of_le (by have := World.block_lt_of_cell? _ _ hx127_0; first | rwa [add_block] at this | exact this) GW125.out); have hn127_1 : ad124.block ≠ gb125 := Nat.ne_of_lt (Nat.lt_of_lt_of_le (by have := World.block_lt_of_cell? _ _ hx127_0; first | rwa [add_block] at this | exact this) GW125.out); replace hx127_0 := (HB.out.cell (World.block_lt_of_cell? w _ hx127_0)).trans hx127_0; replace hx127_1 := (HB.out.cell (World.block_lt_of_cell? w _ hx127_1)).trans hx127_1; replace hx127_0 := (cell_far (p := ⟨gb125, 0, none⟩) (by first | (rw [add_block]; exact hn127_0) | (show (Addr.add _ _).block ≠ _; rw [add_block]; exact hn127_0) | exact hn127_0) (.int .i64 ((rd_T70 l1 x12_1).f0))).trans hx127_0; replace hx127_1 := (cell_far (p := ⟨gb125, 0, none⟩) (by first | (rw [add_block]; exact hn127_0) | (show (Addr.add _ _).block ≠ _; rw [add_block]; exact hn127_0) | exact hn127_0) (.int .i64 ((rd_T70 l1 x12_1).f0))).trans hx127_1; replace hx127_0 := (cell_far (p := ⟨gb125, 1, none⟩) (by first | (rw [add_block]; exact hn127_1) | (show (Addr.add _ _).block ≠ _; rw [add_block]; exact hn127_1) | exact hn127_1) (.int .i64 ((rd_T70 l1 x12_1).f1))).trans hx127_0; replace hx127_1 := (cell_far (p := ⟨gb125, 1, none⟩) (by first | (rw [add_block]; exact hn127_1) | (show (Addr.add _ _).block ≠ _; rw [add_block]; exact hn127_1) | exact hn127_1) (.int .i64 ((rd_T70 l1 x12_1).f1))).trans hx127_1; (try have hy127_0 := fun (n_ : Nat) => (show ((((w26.drewN n_).setCell ⟨gb125, 0, none⟩ (.int .i64 ((rd_T70 l1 x12_1).f0))).setCell ⟨gb125, 1, none⟩ (.int .i64 ((rd_T70 l1 x12_1).f1)))).cell? _ = some _ from hx127_0)); (try have hy127_1 := fun (n_ : Nat) => (show ((((w26.drewN n_).setCell ⟨gb125, 0, none⟩ (.int .i64 ((rd_T70 l1 x12_1).f0))).setCell ⟨gb125, 1, none⟩ (.int .i64 ((rd_T70 l1 x12_1).f1)))).cell? _ = some _ from hx127_1)); clear hn127_0; clear hn127_1; replace p127 := eq_true p127; replace q127 := eq_true q127; have p128 : 0 ≤ ((ji18) : Int) := aD; have q128 : (ji18) < (l1.length : Int) := aD; obtain ⟨ad128, e128, hx128_0, hx128_1⟩ := at_T70 HR1.out (ji18) p128 q128; obtain rfl : ad124 = ad128 := (by injection e128); have hn128_0 : ad124.block ≠ gb125 := Nat.ne_of_lt (Nat.lt_of_lt_of_le (by have := World.block_lt_of_cell? _ _ hx128_0; first | rwa [add_block] at this | exact this) GW125.out); have hn128_1 : ad124.block ≠ gb125 := Nat.ne_of_lt (Nat.lt_of_lt_of_le (by have := World.block_lt_of_cell? _ _ hx128_0; first | rwa [add_block] at this | exact this) GW125.out); replace hx128_0 := (HB.out.cell (World.block_lt_of_cell? w _ hx128_0)).trans hx128_0; replace hx128_1 := (HB.out.cell (World.block_lt_of_cell? w _ hx128_1)).trans hx128_1; replace hx128_0 := (cell_far (p := ⟨gb125, 0, none⟩) (by first | (rw [add_block]; exact hn128_0) | (show (Addr.add _ _).block ≠ _; rw [add_block]; exact hn128_0) | exact hn128_0) (.int .i64 ((rd_T70 l1 x12_1).f0))).trans hx128_0; replace hx128_1 := (cell_far (p := ⟨gb125, 0, none⟩) (by first | (rw [add_block]; exact hn128_0) | (show (Addr.add _ _).block ≠ _; rw [add_block]; exact hn128_0) | exact hn128_0) (.int .i64 ((rd_T70 l1 x12_1).f0))).trans hx128_1; replace hx128_0 := (cell_far (p := ⟨gb125, 1, none⟩) (by first | (rw [add_block]; exact hn128_1) | (show (Addr.add _ _).block ≠ _; rw [add_block]; exact hn128_1) | exact hn128_1) (.int .i64 ((rd_T70 l1 x12_1).f1))).trans hx128_0; replace hx128_1 := (cell_far (p := ⟨gb125, 1, none⟩) (by first | (rw [add_block]; exact hn128_1) | (show (Addr.add _ _).block ≠ _; rw [add_block]; exact hn128_1) | exact hn128_1) (.int .i64 ((rd_T70 l1 x12_1).f1))).trans hx128_1; (try have hy128_0 := fun (n_ : Nat) => (show ((((w26.drewN n_).setCell ⟨gb125, 0, none⟩ (.int .i64 ((rd_T70 l1 x12_1).f0))).setCell ⟨gb125, 1, none⟩ (.int .i64 ((rd_T70 l1 x12_1).f1)))).cell? _ = some _ from hx128_0)); (try have hy128_1 := fun (n_ : Nat) => (show ((((w26.drewN n_).setCell ⟨gb125, 0, none⟩ (.int .i64 ((rd_T70 l1 x12_1).f0))).setCell ⟨gb125, 1, none⟩ (.int .i64 ((rd_T70 l1 x12_1).f1)))).cell? _ = some _ from hx128_1)); clear hn128_0; clear hn128_1; replace p128 := eq_true p128; replace q128 := eq_true q128)))
                go_ret
                exact ⟨by first | rfl | (simp [errW_none, errW_some] <;> rfl) | (simp only [← hji18]; first | rfl | (simp [errW_none, errW_some] <;> rfl)) | (simp [*, errW_none, errW_some] <;> rfl), by repeat (first | (with_reducible first | exact HB.out | apply below_alloc | apply pw_below_drewN | apply below_drew1 | refine below_set ?_ GE125.out) | exact HB.out)⟩
               ·rw [if_neg c25] at H
                have c25b0 : decide (((rd_T70 l1 x12_1).f1) ≤ ((rd_T70 l1 (ji18)).f1)) = false := decide_eq_false c25
                clear c25
                have H' := aM H
                clear H
                have p124 : 0 ≤ (x12_1 : Int) := aD
                have q124 : x12_1 < (l1.length : Int) := aD
                obtain ⟨ad124, e124, hx124_0, hx124_1⟩ := at_T70 HR1.out x12_1 p124 q124
                cases e124
                replace hx124_0 := (HB.out.cell (World.block_lt_of_cell? w _ hx124_0)).trans hx124_0
                replace hx124_1 := (HB.out.cell (World.block_lt_of_cell? w _ hx124_1)).trans hx124_1
                replace p124 := eq_true p124
                replace q124 := eq_true q124
                go_wp2_with (first | ((with_reducible refine gate_dst (N := 6) rfl ?_); refine box_event ?hg (N := 6) ?hd (cs := #[.int .i64 0, .int .i64 0]) (t := 70) ?hr ?_; (case hd => rfl); (case hg => rfl); (case hr => first | (go_simp; done) | (go_simp; rfl)); intro gb125 hg w28 hbox hb; have n0_ := aM (below_step aB hb); have n1_ := aM (hbox); have n2_ := aM ((by rw [hg]; exact (below_size aB) : w.heap.size ≤ gb125)); have n3_ := aM ((by rw [hg]; exact (below_size aB) : w.heap.size ≤ gb125)); clear HB; have HB := n0_; have BK125 := n1_; have GW125 := n2_; have GE125 := n3_; clear n0_ n1_ n2_ n3_; clear hb hbox hg; have hcz29_0 : w28.cell? ⟨gb125, 0, none⟩ = some (.int .i64 0) := (blk_cell BK125.out 0).trans rfl; have hcz29_1 : w28.cell? ⟨gb125, 1, none⟩ = some (.int .i64 0) := (blk_cell BK125.out 1).trans rfl; have hfz29_0 := blk_frozen BK125.out 0; have hfz29_1 := blk_frozen BK125.out 1; have p126 : 0 ≤ ((ji18) : Int) := aD; have q126 : (ji18) < (l1.length : Int) := aD; obtain ⟨ad126, e126, hx126_0, hx126_1⟩ := at_T70 HR1.out (ji18) p126 q126; obtain rfl : ad124 = ad126 := (by injection e126); have hn126_0 : ad124.block ≠ gb125 := Nat.ne_of_lt (Nat.lt_of_lt_of_le (by have := World.block_lt_of_cell? _ _ hx126_0; first | rwa [add_block] at this | exact this) GW125.out); have hn126_1 : ad124.block ≠ gb125 := Nat.ne_of_lt (Nat.lt_of_lt_of_le (by have := World.block_lt_of_cell? _ _ hx126_0; first | rwa [add_block] at this | exact this) GW125.out); replace hx126_0 := (HB.out.cell (World.block_lt_of_cell? w _ hx126_0)).trans hx126_0; replace hx126_1 := (HB.out.cell (World.block_lt_of_cell? w _ hx126_1)).trans hx126_1; replace hx126_0 := (cell_far (p := ⟨gb125, 0, none⟩) (by first | (rw [add_block]; exact hn126_0) | (show (Addr.add _ _).block ≠ _; rw [add_block]; exact hn126_0) | exact hn126_0) (.int .i64 ((rd_T70 l1 x12_1).f0))).trans hx126_0; replace hx126_1 := (cell_far (p := ⟨gb125, 0, none⟩) (by first | (rw [add_block]; exact hn126_0) | (show (Addr.add _ _).block ≠ _; rw [add_block]; exact hn126_0) | exact hn126_0) (.int .i64 ((rd_T70 l1 x12_1).f0))).trans hx126_1; replace hx126_0 := (cell_far (p := ⟨gb125, 1, none⟩) (by first | (rw [add_block]; exact hn126_1) | (show (Addr.add _ _).block ≠ _; rw [add_block]; exact hn126_1) | exact hn126_1) (.int .i64 ((rd_T70 l1 x12_1).f1))).trans hx126_0; replace hx126_1 := (cell_far (p := ⟨gb125, 1, none⟩) (by first | (rw [add_block]; exact hn126_1) | (show (Addr.add _ _).block ≠ _; rw [add_block]; exact hn126_1) | exact hn126_1) (.int .i64 ((rd_T70 l1 x12_1).f1))).trans hx126_1; (try have hy126_0 := fun (n_ : Nat) => (show ((((w28.drewN n_).setCell ⟨gb125, 0, none⟩ (.int .i64 ((rd_T70 l1 x12_1).f0))).setCell ⟨gb125, 1, none⟩ (.int .i64 ((rd_T70 l1 x12_1).f1)))).cell? _ = some _ from hx126_0)); (try have hy126_1 := fun (n_ : Nat) => (show ((((w28.drewN n_).setCell ⟨gb125, 0, none⟩ (.int .i64 ((rd_T70 l1 x12_1).f0))).setCell ⟨gb125, 1, none⟩ (.int .i64 ((rd_T70 l1 x12_1).f1)))).cell? _ = some _ from hx126_1)); clear hn126_0; clear hn126_1; replace p126 := eq_true p126; replace q126 := eq_true q126; have p127 : 0 ≤ ((ji18) : Int) := aD; have q127 : (ji18) < (l1.length : Int) := aD; obtain ⟨ad127, e127, hx127_0, hx127_1⟩ := at_T70 HR1.out (ji18) p127 q127; obtain rfl : ad124 = ad127 := (by injection e127); have hn127_0 : ad124.block ≠ gb125 := Nat.ne_of_lt (Nat.lt_of_lt_of_le (by have := World.block_lt_of_cell? _ _ hx127_0; first | rwa [add_block] at this | exact this) GW125.out); have hn127_1 : ad124.block ≠ gb125 := Nat.ne_of_lt (Nat.lt_of_lt_of_le (by have := World.block_lt_of_cell? _ _ hx127_0; first | rwa [add_block] at this | exact this) GW125.out); replace hx127_0 := (HB.out.cell (World.block_lt_of_cell? w _ hx127_0)).trans hx127_0; replace hx127_1 := (HB.out.cell (World.block_lt_of_cell? w _ hx127_1)).trans hx127_1; replace hx127_0 := (cell_far (p := ⟨gb125, 0, none⟩) (by first | (rw [add_block]; exact hn127_0) | (show (Addr.add _ _).block ≠ _; rw [add_block]; exact hn127_0) | exact hn127_0) (.int .i64 ((rd_T70 l1 x12_1).f0))).trans hx127_0; replace hx127_1 := (cell_far (p := ⟨gb125, 0, none⟩) (by first | (rw [add_block]; exact hn127_0) | (show (Addr.add _ _).block ≠ _; rw [add_block]; exact hn127_0) | exact hn127_0) (.int .i64 ((rd_T70 l1 x12_1).f0))).trans hx127_1; replace hx127_0 := (cell_far (p := ⟨gb125, 1, none⟩) (by first | (rw [add_block]; exact hn127_1) | (show (Addr.add _ _).block ≠ _; rw [add_block]; exact hn127_1) | exact hn127_1) (.int .i64 ((rd_T70 l1 x12_1).f1))).trans hx127_0; replace hx127_1 := (cell_far (p := ⟨gb125, 1, none⟩) (by first | (rw [add_block]; exact hn127_1) | (show (Addr.add _ _).block ≠ _; rw [add_block]; exact hn127_1) | exact hn127_1) (.int .i64 ((rd_T70 l1 x12_1).f1))).trans hx127_1; (try have hy127_0 := fun (n_ : Nat) => (show ((((w28.drewN n_).setCell ⟨gb125, 0, none⟩ (.int .i64 ((rd_T70 l1 x12_1).f0))).setCell ⟨gb125, 1, none⟩ (.int .i64 ((rd_T70 l1 x12_1).f1)))).cell? _ = some _ from hx127_0)); (try have hy127_1 := fun (n_ : Nat) => (show ((((w28.drewN n_).setCell ⟨gb125, 0, none⟩ (.int .i64 ((rd_T70 l1 x12_1).f0))).setCell ⟨gb125, 1, none⟩ (.int .i64 ((rd_T70 l1 x12_1).f1)))).cell? _ = some _ from hx127_1)); clear hn127_0; clear hn127_1; replace p127 := eq_true p127; replace q127 := eq_true q127; have p128 : 0 ≤ ((ji18) : Int) := aD; have q128 : (ji18) < (l1.length : Int) := aD; obtain ⟨ad128, e128, hx128_0, hx128_1⟩ := at_T70 HR1.out (ji18) p128 q128; obtain rfl : ad124 = ad128 := (by injection e128); have hn128_0 : ad124.block ≠ gb125 := Nat.ne_of_lt (Nat.lt_of_lt_of_le (by have := World.block_lt_of_cell? _ _ hx128_0; first | rwa [add_block] at this | exact this) GW125.out); have hn128_1 : ad124.block ≠ gb125 := Nat.ne_of_lt (Nat.lt_of_lt_of_le (by have := World.block_lt_of_cell? _ _ hx128_0; first | rwa [add_block] at this | exact this) GW125.out); replace hx128_0 := (HB.out.cell (World.block_lt_of_cell? w _ hx128_0)).trans hx128_0; replace hx128_1 := (HB.out.cell (World.block_lt_of_cell? w _ hx128_1)).trans hx128_1; replace hx128_0 := (cell_far (p := ⟨gb125, 0, none⟩) (by first | (rw [add_block]; exact hn128_0) | (show (Addr.add _ _).block ≠ _; rw [add_block]; exact hn128_0) | exact hn128_0) (.int .i64 ((rd_T70 l1 x12_1).f0))).trans hx128_0; replace hx128_1 := (cell_far (p := ⟨gb125, 0, none⟩) (by first | (rw [add_block]; exact hn128_0) | (show (Addr.add _ _).block ≠ _; rw [add_block]; exact hn128_0) | exact hn128_0) (.int .i64 ((rd_T70 l1 x12_1).f0))).trans hx128_1; replace hx128_0 := (cell_far (p := ⟨gb125, 1, none⟩) (by first | (rw [add_block]; exact hn128_1) | (show (Addr.add _ _).block ≠ _; rw [add_block]; exact hn128_1) | exact hn128_1) (.int .i64 ((rd_T70 l1 x12_1).f1))).trans hx128_0; replace hx128_1 := (cell_far (p := ⟨gb125, 1, none⟩) (by first | (rw [add_block]; exact hn128_1) | (show (Addr.add _ _).block ≠ _; rw [add_block]; exact hn128_1) | exact hn128_1) (.int .i64 ((rd_T70 l1 x12_1).f1))).trans hx128_1; (try have hy128_0 := fun (n_ : Nat) => (show ((((w28.drewN n_).setCell ⟨gb125, 0, none⟩ (.int .i64 ((rd_T70 l1 x12_1).f0))).setCell ⟨gb125, 1, none⟩ (.int .i64 ((rd_T70 l1 x12_1).f1)))).cell? _ = some _ from hx128_0)); (try have hy128_1 := fun (n_ : Nat) => (show ((((w28.drewN n_).setCell ⟨gb125, 0, none⟩ (.int .i64 ((rd_T70 l1 x12_1).f0))).setCell ⟨gb125, 1, none⟩ (.int .i64 ((rd_T70 l1 x12_1).f1)))).cell? _ = some _ from hx128_1)); clear hn128_0; clear hn128_1; replace p128 := eq_true p128; replace q128 := eq_true q128))
                repeat (go_quiet (first | ((with_reducible refine gate_dst (N := 6) rfl ?_); refine box_event ?hg (N := 6) ?hd (cs := #[.int .i64 0, .int .i64 0]) (t := 70) ?hr ?_; (case hd => rfl); (case hg => rfl); (case hr => first | (go_simp; done) | (go_simp; rfl)); intro gb125 hg w28 hbox hb; have n0_ := aM (below_step aB hb); have n1_ := aM (hbox); have n2_ := aM ((by rw [hg]; exact (below_size aB) : w.heap.size ≤ gb125)); have n3_ := aM ((by rw [hg]; exact (below_size aB) : w.heap.size ≤ gb125)); clear HB; have HB := n0_; have BK125 := n1_; have GW125 := n2_; have GE125 := n3_; clear n0_ n1_ n2_ n3_; clear hb hbox hg; have hcz29_0 : w28.cell? ⟨gb125, 0, none⟩ = some (.int .i64 0) := (blk_cell BK125.out 0).trans rfl; have hcz29_1 : w28.cell? ⟨gb125, 1, none⟩ = some (.int .i64 0) := (blk_cell BK125.out 1).trans rfl; have hfz29_0 := blk_frozen BK125.out 0; have hfz29_1 := blk_frozen BK125.out 1; have p126 : 0 ≤ ((ji18) : Int) := aD; have q126 : (ji18) < (l1.length : Int) := aD; obtain ⟨ad126, e126, hx126_0, hx126_1⟩ := at_T70 HR1.out (ji18) p126 q126; obtain rfl : ad124 = ad126 := (by injection e126); have hn126_0 : ad124.block ≠ gb125 := Nat.ne_of_lt (Nat.lt_of_lt_of_le (by have := World.block_lt_of_cell? _ _ hx126_0; first | rwa [add_block] at this | exact this) GW125.out); have hn126_1 : ad124.block ≠ gb125 := Nat.ne_of_lt (Nat.lt_of_lt_of_le (by have := World.block_lt_of_cell? _ _ hx126_0; first | rwa [add_block] at this | exact this) GW125.out); replace hx126_0 := (HB.out.cell (World.block_lt_of_cell? w _ hx126_0)).trans hx126_0; replace hx126_1 := (HB.out.cell (World.block_lt_of_cell? w _ hx126_1)).trans hx126_1; replace hx126_0 := (cell_far (p := ⟨gb125, 0, none⟩) (by first | (rw [add_block]; exact hn126_0) | (show (Addr.add _ _).block ≠ _; rw [add_block]; exact hn126_0) | exact hn126_0) (.int .i64 ((rd_T70 l1 x12_1).f0))).trans hx126_0; replace hx126_1 := (cell_far (p := ⟨gb125, 0, none⟩) (by first | (rw [add_block]; exact hn126_0) | (show (Addr.add _ _).block ≠ _; rw [add_block]; exact hn126_0) | exact hn126_0) (.int .i64 ((rd_T70 l1 x12_1).f0))).trans hx126_1; replace hx126_0 := (cell_far (p := ⟨gb125, 1, none⟩) (by first | (rw [add_block]; exact hn126_1) | (show (Addr.add _ _).block ≠ _; rw [add_block]; exact hn126_1) | exact hn126_1) (.int .i64 ((rd_T70 l1 x12_1).f1))).trans hx126_0; replace hx126_1 := (cell_far (p := ⟨gb125, 1, none⟩) (by first | (rw [add_block]; exact hn126_1) | (show (Addr.add _ _).block ≠ _; rw [add_block]; exact hn126_1) | exact hn126_1) (.int .i64 ((rd_T70 l1 x12_1).f1))).trans hx126_1; (try have hy126_0 := fun (n_ : Nat) => (show ((((w28.drewN n_).setCell ⟨gb125, 0, none⟩ (.int .i64 ((rd_T70 l1 x12_1).f0))).setCell ⟨gb125, 1, none⟩ (.int .i64 ((rd_T70 l1 x12_1).f1)))).cell? _ = some _ from hx126_0)); (try have hy126_1 := fun (n_ : Nat) => (show ((((w28.drewN n_).setCell ⟨gb125, 0, none⟩ (.int .i64 ((rd_T70 l1 x12_1).f0))).setCell ⟨gb125, 1, none⟩ (.int .i64 ((rd_T70 l1 x12_1).f1)))).cell? _ = some _ from hx126_1)); clear hn126_0; clear hn126_1; replace p126 := eq_true p126; replace q126 := eq_true q126; have p127 : 0 ≤ ((ji18) : Int) := aD; have q127 : (ji18) < (l1.length : Int) := aD; obtain ⟨ad127, e127, hx127_0, hx127_1⟩ := at_T70 HR1.out (ji18) p127 q127; obtain rfl : ad124 = ad127 := (by injection e127); have hn127_0 : ad124.block ≠ gb125 := Nat.ne_of_lt (Nat.lt_of_lt_of_le (by have := World.block_lt_of_cell? _ _ hx127_0; first | rwa [add_block] at this | exact this) GW125.out); have hn127_1 : ad124.block ≠ gb125 := Nat.ne_of_lt (Nat.lt_of_lt_of_le (by have := World.block_lt_of_cell? _ _ hx127_0; first | rwa [add_block] at this | exact this) GW125.out); replace hx127_0 := (HB.out.cell (World.block_lt_of_cell? w _ hx127_0)).trans hx127_0; replace hx127_1 := (HB.out.cell (World.block_lt_of_cell? w _ hx127_1)).trans hx127_1; replace hx127_0 := (cell_far (p := ⟨gb125, 0, none⟩) (by first | (rw [add_block]; exact hn127_0) | (show (Addr.add _ _).block ≠ _; rw [add_block]; exact hn127_0) | exact hn127_0) (.int .i64 ((rd_T70 l1 x12_1).f0))).trans hx127_0; replace hx127_1 := (cell_far (p := ⟨gb125, 0, none⟩) (by first | (rw [add_block]; exact hn127_0) | (show (Addr.add _ _).block ≠ _; rw [add_block]; exact hn127_0) | exact hn127_0) (.int .i64 ((rd_T70 l1 x12_1).f0))).trans hx127_1; replace hx127_0 := (cell_far (p := ⟨gb125, 1, none⟩) (by first | (rw [add_block]; exact hn127_1) | (show (Addr.add _ _).block ≠ _; rw [add_block]; exact hn127_1) | exact hn127_1) (.int .i64 ((rd_T70 l1 x12_1).f1))).trans hx127_0; replace hx127_1 := (cell_far (p := ⟨gb125, 1, none⟩) (by first | (rw [add_block]; exact hn127_1) | (show (Addr.add _ _).block ≠ _; rw [add_block]; exact hn127_1) | exact hn127_1) (.int .i64 ((rd_T70 l1 x12_1).f1))).trans hx127_1; (try have hy127_0 := fun (n_ : Nat) => (show ((((w28.drewN n_).setCell ⟨gb125, 0, none⟩ (.int .i64 ((rd_T70 l1 x12_1).f0))).setCell ⟨gb125, 1, none⟩ (.int .i64 ((rd_T70 l1 x12_1).f1)))).cell? _ = some _ from hx127_0)); (try have hy127_1 := fun (n_ : Nat) => (show ((((w28.drewN n_).setCell ⟨gb125, 0, none⟩ (.int .i64 ((rd_T70 l1 x12_1).f0))).setCell ⟨gb125, 1, none⟩ (.int .i64 ((rd_T70 l1 x12_1).f1)))).cell? _ = some _ from hx127_1)); clear hn127_0; clear hn127_1; replace p127 := eq_true p127; replace q127 := eq_true q127; have p128 : 0 ≤ ((ji18) : Int) := aD; have q128 : (ji18) < (l1.length : Int) := aD; obtain ⟨ad128, e128, hx128_0, hx128_1⟩ := at_T70 HR1.out (ji18) p128 q128; obtain rfl : ad124 = ad128 := (by injection e128); have hn128_0 : ad124.block ≠ gb125 := Nat.ne_of_lt (Nat.lt_of_lt_of_le (by have := World.block_lt_of_cell? _ _ hx128_0; first | rwa [add_block] at this | exact this) GW125.out); have hn128_1 : ad124.block ≠ gb125 := Nat.ne_of_lt (Nat.lt_of_lt_of_le (by have := World.block_lt_of_cell? _ _ hx128_0; first | rwa [add_block] at this | exact this) GW125.out); replace hx128_0 := (HB.out.cell (World.block_lt_of_cell? w _ hx128_0)).trans hx128_0; replace hx128_1 := (HB.out.cell (World.block_lt_of_cell? w _ hx128_1)).trans hx128_1; replace hx128_0 := (cell_far (p := ⟨gb125, 0, none⟩) (by first | (rw [add_block]; exact hn128_0) | (show (Addr.add _ _).block ≠ _; rw [add_block]; exact hn128_0) | exact hn128_0) (.int .i64 ((rd_T70 l1 x12_1).f0))).trans hx128_0; replace hx128_1 := (cell_far (p := ⟨gb125, 0, none⟩) (by first | (rw [add_block]; exact hn128_0) | (show (Addr.add _ _).block ≠ _; rw [add_block]; exact hn128_0) | exact hn128_0) (.int .i64 ((rd_T70 l1 x12_1).f0))).trans hx128_1; replace hx128_0 := (cell_far (p := ⟨gb125, 1, none⟩) (by first | (rw [add_block]; exact hn128_1) | (show (Addr.add _ _).block ≠ _; rw [add_block]; exact hn128_1) | exact hn128_1) (.int .i64 ((rd_T70 l1 x12_1).f1))).trans hx128_0; replace hx128_1 := (cell_far (p := ⟨gb125, 1, none⟩) (by first | (rw [add_block]; exact hn128_1) | (show (Addr.add _ _).block ≠ _; rw [add_block]; exact hn128_1) | exact hn128_1) (.int .i64 ((rd_T70 l1 x12_1).f1))).trans hx128_1; (try have hy128_0 := fun (n_ : Nat) => (show ((((w28.drewN n_).setCell ⟨gb125, 0, none⟩ (.int .i64 ((rd_T70 l1 x12_1).f0))).setCell ⟨gb125, 1, none⟩ (.int .i64 ((rd_T70 l1 x12_1).f1)))).cell? _ = some _ from hx128_0)); (try have hy128_1 := fun (n_ : Nat) => (show ((((w28.drewN n_).setCell ⟨gb125, 0, none⟩ (.int .i64 ((rd_T70 l1 x12_1).f0))).setCell ⟨gb125, 1, none⟩ (.int .i64 ((rd_T70 l1 x12_1).f1)))).cell? _ = some _ from hx128_1)); clear hn128_0; clear hn128_1; replace p128 := eq_true p128; replace q128 := eq_true q128)); try go_wp2_with (first | ((with_reducible refine gate_dst (N := 6) rfl ?_); refine box_event ?hg (N := 6) ?hd (cs := #[.int .i64 0, .int .i64 0]) (t := 70) ?hr ?_; (case hd => rfl); (case hg => rfl); (case hr => first | (go_simp; done) | (go_simp; rfl)); intro gb125 hg w28 hbox hb; have n0_ := aM (below_step aB hb); have n1_ := aM (hbox); have n2_ := aM ((by rw [hg]; exact (below_size aB) : w.heap.size ≤ gb125)); have n3_ := aM ((by rw [hg]; exact (below_size aB) : w.heap.size ≤ gb125)); clear HB; have HB := n0_; have BK125 := n1_; have GW125 := n2_; have GE125 := n3_; clear n0_ n1_ n2_ n3_; clear hb hbox hg; have hcz29_0 : w28.cell? ⟨gb125, 0, none⟩ = some (.int .i64 0) := (blk_cell BK125.out 0).trans rfl; have hcz29_1 : w28.cell? ⟨gb125, 1, none⟩ = some (.int .i64 0) := (blk_cell BK125.out 1).trans rfl; have hfz29_0 := blk_frozen BK125.out 0; have hfz29_1 := blk_frozen BK125.out 1; have p126 : 0 ≤ ((ji18) : Int) := aD; have q126 : (ji18) < (l1.length : Int) := aD; obtain ⟨ad126, e126, hx126_0, hx126_1⟩ := at_T70 HR1.out (ji18) p126 q126; obtain rfl : ad124 = ad126 := (by injection e126); have hn126_0 : ad124.block ≠ gb125 := Nat.ne_of_lt (Nat.lt_of_lt_of_le (by have := World.block_lt_of_cell? _ _ hx126_0; first | rwa [add_block] at this | exact this) GW125.out); have hn126_1 : ad124.block ≠ gb125 := Nat.ne_of_lt (Nat.lt_of_lt_of_le (by have := World.block_lt_of_cell? _ _ hx126_0; first | rwa [add_block] at this | exact this) GW125.out); replace hx126_0 := (HB.out.cell (World.block_lt_of_cell? w _ hx126_0)).trans hx126_0; replace hx126_1 := (HB.out.cell (World.block_lt_of_cell? w _ hx126_1)).trans hx126_1; replace hx126_0 := (cell_far (p := ⟨gb125, 0, none⟩) (by first | (rw [add_block]; exact hn126_0) | (show (Addr.add _ _).block ≠ _; rw [add_block]; exact hn126_0) | exact hn126_0) (.int .i64 ((rd_T70 l1 x12_1).f0))).trans hx126_0; replace hx126_1 := (cell_far (p := ⟨gb125, 0, none⟩) (by first | (rw [add_block]; exact hn126_0) | (show (Addr.add _ _).block ≠ _; rw [add_block]; exact hn126_0) | exact hn126_0) (.int .i64 ((rd_T70 l1 x12_1).f0))).trans hx126_1; replace hx126_0 := (cell_far (p := ⟨gb125, 1, none⟩) (by first | (rw [add_block]; exact hn126_1) | (show (Addr.add _ _).block ≠ _; rw [add_block]; exact hn126_1) | exact hn126_1) (.int .i64 ((rd_T70 l1 x12_1).f1))).trans hx126_0; replace hx126_1 := (cell_far (p := ⟨gb125, 1, none⟩) (by first | (rw [add_block]; exact hn126_1) | (show (Addr.add _ _).block ≠ _; rw [add_block]; exact hn126_1) | exact hn126_1) (.int .i64 ((rd_T70 l1 x12_1).f1))).trans hx126_1; (try have hy126_0 := fun (n_ : Nat) => (show ((((w28.drewN n_).setCell ⟨gb125, 0, none⟩ (.int .i64 ((rd_T70 l1 x12_1).f0))).setCell ⟨gb125, 1, none⟩ (.int .i64 ((rd_T70 l1 x12_1).f1)))).cell? _ = some _ from hx126_0)); (try have hy126_1 := fun (n_ : Nat) => (show ((((w28.drewN n_).setCell ⟨gb125, 0, none⟩ (.int .i64 ((rd_T70 l1 x12_1).f0))).setCell ⟨gb125, 1, none⟩ (.int .i64 ((rd_T70 l1 x12_1).f1)))).cell? _ = some _ from hx126_1)); clear hn126_0; clear hn126_1; replace p126 := eq_true p126; replace q126 := eq_true q126; have p127 : 0 ≤ ((ji18) : Int) := aD; have q127 : (ji18) < (l1.length : Int) := aD; obtain ⟨ad127, e127, hx127_0, hx127_1⟩ := at_T70 HR1.out (ji18) p127 q127; obtain rfl : ad124 = ad127 := (by injection e127); have hn127_0 : ad124.block ≠ gb125 := Nat.ne_of_lt (Nat.lt_of_lt_of_le (by have := World.block_lt_of_cell? _ _ hx127_0; first | rwa [add_block] at this | exact this) GW125.out); have hn127_1 : ad124.block ≠ gb125 := Nat.ne_of_lt (Nat.lt_of_lt_of_le (by have := World.block_lt_of_cell? _ _ hx127_0; first | rwa [add_block] at this | exact this) GW125.out); replace hx127_0 := (HB.out.cell (World.block_lt_of_cell? w _ hx127_0)).trans hx127_0; replace hx127_1 := (HB.out.cell (World.block_lt_of_cell? w _ hx127_1)).trans hx127_1; replace hx127_0 := (cell_far (p := ⟨gb125, 0, none⟩) (by first | (rw [add_block]; exact hn127_0) | (show (Addr.add _ _).block ≠ _; rw [add_block]; exact hn127_0) | exact hn127_0) (.int .i64 ((rd_T70 l1 x12_1).f0))).trans hx127_0; replace hx127_1 := (cell_far (p := ⟨gb125, 0, none⟩) (by first | (rw [add_block]; exact hn127_0) | (show (Addr.add _ _).block ≠ _; rw [add_block]; exact hn127_0) | exact hn127_0) (.int .i64 ((rd_T70 l1 x12_1).f0))).trans hx127_1; replace hx127_0 := (cell_far (p := ⟨gb125, 1, none⟩) (by first | (rw [add_block]; exact hn127_1) | (show (Addr.add _ _).block ≠ _; rw [add_block]; exact hn127_1) | exact hn127_1) (.int .i64 ((rd_T70 l1 x12_1).f1))).trans hx127_0; replace hx127_1 := (cell_far (p := ⟨gb125, 1, none⟩) (by first | (rw [add_block]; exact hn127_1) | (show (Addr.add _ _).block ≠ _; rw [add_block]; exact hn127_1) | exact hn127_1) (.int .i64 ((rd_T70 l1 x12_1).f1))).trans hx127_1; (try have hy127_0 := fun (n_ : Nat) => (show ((((w28.drewN n_).setCell ⟨gb125, 0, none⟩ (.int .i64 ((rd_T70 l1 x12_1).f0))).setCell ⟨gb125, 1, none⟩ (.int .i64 ((rd_T70 l1 x12_1).f1)))).cell? _ = some _ from hx127_0)); (try have hy127_1 := fun (n_ : Nat) => (show ((((w28.drewN n_).setCell ⟨gb125, 0, none⟩ (.int .i64 ((rd_T70 l1 x12_1).f0))).setCell ⟨gb125, 1, none⟩ (.int .i64 ((rd_T70 l1 x12_1).f1)))).cell? _ = some _ from hx127_1)); clear hn127_0; clear hn127_1; replace p127 := eq_true p127; replace q127 := eq_true q127; have p128 : 0 ≤ ((ji18) : Int) := aD; have q128 : (ji18) < (l1.length : Int) := aD; obtain ⟨ad128, e128, hx128_0, hx128_1⟩ := at_T70 HR1.out (ji18) p128 q128; obtain rfl : ad124 = ad128 := (by injection e128); have hn128_0 : ad124.block ≠ gb125 := Nat.ne_of_lt (Nat.lt_of_lt_of_le (by have := World.block_lt_of_cell? _ _ hx128_0; first | rwa [add_block] at this | exact this) GW125.out); have hn128_1 : ad124.block ≠ gb125 := Nat.ne_of_lt (Nat.lt_of_lt_of_le (by have := World.block_lt_of_cell? _ _ hx128_0; first | rwa [add_block] at this | exact this) GW125.out); replace hx128_0 := (HB.out.cell (World.block_lt_of_cell? w _ hx128_0)).trans hx128_0; replace hx128_1 := (HB.out.cell (World.block_lt_of_cell? w _ hx128_1)).trans hx128_1; replace hx128_0 := (cell_far (p := ⟨gb125, 0, none⟩) (by first | (rw [add_block]; exact hn128_0) | (show (Addr.add _ _).block ≠ _; rw [add_block]; exact hn128_0) | exact hn128_0) (.int .i64 ((rd_T70 l1 x12_1).f0))).trans hx128_0; replace hx128_1 := (cell_far (p := ⟨gb125, 0, none⟩) (by first | (rw [add_block]; exact hn128_0) | (show (Addr.add _ _).block ≠ _; rw [add_block]; exact hn128_0) | exact hn128_0) (.int .i64 ((rd_T70 l1 x12_1).f0))).trans hx128_1; replace hx128_0 := (cell_far (p := ⟨gb125, 1, none⟩) (by first | (rw [add_block]; exact hn128_1) | (show (Addr.add _ _).block ≠ _; rw [add_block]; exact hn128_1) | exact hn128_1) (.int .i64 ((rd_T70 l1 x12_1).f1))).trans hx128_0; replace hx128_1 := (cell_far (p := ⟨gb125, 1, none⟩) (by first | (rw [add_block]; exact hn128_1) | (show (Addr.add _ _).block ≠ _; rw [add_block]; exact hn128_1) | exact hn128_1) (.int .i64 ((rd_T70 l1 x12_1).f1))).trans hx128_1; (try have hy128_0 := fun (n_ : Nat) => (show ((((w28.drewN n_).setCell ⟨gb125, 0, none⟩ (.int .i64 ((rd_T70 l1 x12_1).f0))).setCell ⟨gb125, 1, none⟩ (.int .i64 ((rd_T70 l1 x12_1).f1)))).cell? _ = some _ from hx128_0)); (try have hy128_1 := fun (n_ : Nat) => (show ((((w28.drewN n_).setCell ⟨gb125, 0, none⟩ (.int .i64 ((rd_T70 l1 x12_1).f0))).setCell ⟨gb125, 1, none⟩ (.int .i64 ((rd_T70 l1 x12_1).f1)))).cell? _ = some _ from hx128_1)); clear hn128_0; clear hn128_1; replace p128 := eq_true p128; replace q128 := eq_true q128)))
                go_roundg k1
                case measure => have := HK1.out; omega
                case rel => exact ⟨(wrap64 (x12_1 + 1)), (by first | rfl | (simp; done) | (simp [*]; done)), H', ⟨by have := HK1.out; omega⟩, ⟨by repeat (first | (with_reducible first | exact HB.out | apply below_alloc | apply pw_below_drewN | apply below_drew1 | refine below_set ?_ GE125.out) | exact HB.out)⟩⟩
              ·rw [if_neg c24] at H
               have c24b0 : (((rd_T70 l1 (ji18)).f0) == ((rd_T70 l1 x12_1).f0)) = false := beq_eq_false_iff_ne.mpr c24
               have c24b1 : (((rd_T70 l1 (ji18)).f0) != ((rd_T70 l1 x12_1).f0)) = true := bne_iff_ne.mpr c24
               have H' := aM H
               clear H
               have p124 : 0 ≤ (x12_1 : Int) := aD
               have q124 : x12_1 < (l1.length : Int) := aD
               obtain ⟨ad124, e124, hx124_0, hx124_1⟩ := at_T70 HR1.out x12_1 p124 q124
               cases e124
               replace hx124_0 := (HB.out.cell (World.block_lt_of_cell? w _ hx124_0)).trans hx124_0
               replace hx124_1 := (HB.out.cell (World.block_lt_of_cell? w _ hx124_1)).trans hx124_1
               replace p124 := eq_true p124
               replace q124 := eq_true q124
               go_wp2_with (first | ((with_reducible refine gate_dst (N := 6) rfl ?_); refine box_event ?hg (N := 6) ?hd (cs := #[.int .i64 0, .int .i64 0]) (t := 70) ?hr ?_; (case hd => rfl); (case hg => rfl); (case hr => first | (go_simp; done) | (go_simp; rfl)); intro gb125 hg w30 hbox hb; have n0_ := aM (below_step aB hb); have n1_ := aM (hbox); have n2_ := aM ((by rw [hg]; exact (below_size aB) : w.heap.size ≤ gb125)); have n3_ := aM ((by rw [hg]; exact (below_size aB) : w.heap.size ≤ gb125)); clear HB; have HB := n0_; have BK125 := n1_; have GW125 := n2_; have GE125 := n3_; clear n0_ n1_ n2_ n3_; clear hb hbox hg; have hcz31_0 : w30.cell? ⟨gb125, 0, none⟩ = some (.int .i64 0) := (blk_cell BK125.out 0).trans rfl; have hcz31_1 : w30.cell? ⟨gb125, 1, none⟩ = some (.int .i64 0) := (blk_cell BK125.out 1).trans rfl; have hfz31_0 := blk_frozen BK125.out 0; have hfz31_1 := blk_frozen BK125.out 1; have p126 : 0 ≤ ((ji18) : Int) := aD; have q126 : (ji18) < (l1.length : Int) := aD; obtain ⟨ad126, e126, hx126_0, hx126_1⟩ := at_T70 HR1.out (ji18) p126 q126; obtain rfl : ad124 = ad126 := (by injection e126); have hn126_0 : ad124.block ≠ gb125 := Nat.ne_of_lt (Nat.lt_of_lt_of_le (by have := World.block_lt_of_cell? _ _ hx126_0; first | rwa [add_block] at this | exact this) GW125.out); have hn126_1 : ad124.block ≠ gb125 := Nat.ne_of_lt (Nat.lt_of_lt_of_le (by have := World.block_lt_of_cell? _ _ hx126_0; first | rwa [add_block] at this | exact this) GW125.out); replace hx126_0 := (HB.out.cell (World.block_lt_of_cell? w _ hx126_0)).trans hx126_0; replace hx126_1 := (HB.out.cell (World.block_lt_of_cell? w _ hx126_1)).trans hx126_1; replace hx126_0 := (cell_far (p := ⟨gb125, 0, none⟩) (by first | (rw [add_block]; exact hn126_0) | (show (Addr.add _ _).block ≠ _; rw [add_block]; exact hn126_0) | exact hn126_0) (.int .i64 ((rd_T70 l1 x12_1).f0))).trans hx126_0; replace hx126_1 := (cell_far (p := ⟨gb125, 0, none⟩) (by first | (rw [add_block]; exact hn126_0) | (show (Addr.add _ _).block ≠ _; rw [add_block]; exact hn126_0) | exact hn126_0) (.int .i64 ((rd_T70 l1 x12_1).f0))).trans hx126_1; replace hx126_0 := (cell_far (p := ⟨gb125, 1, none⟩) (by first | (rw [add_block]; exact hn126_1) | (show (Addr.add _ _).block ≠ _; rw [add_block]; exact hn126_1) | exact hn126_1) (.int .i64 ((rd_T70 l1 x12_1).f1))).trans hx126_0; replace hx126_1 := (cell_far (p := ⟨gb125, 1, none⟩) (by first | (rw [add_block]; exact hn126_1) | (show (Addr.add _ _).block ≠ _; rw [add_block]; exact hn126_1) | exact hn126_1) (.int .i64 ((rd_T70 l1 x12_1).f1))).trans hx126_1; (try have hy126_0 := fun (n_ : Nat) => (show ((((w30.drewN n_).setCell ⟨gb125, 0, none⟩ (.int .i64 ((rd_T70 l1 x12_1).f0))).setCell ⟨gb125, 1, none⟩ (.int .i64 ((rd_T70 l1 x12_1).f1)))).cell? _ = some _ from hx126_0)); (try have hy126_1 := fun (n_ : Nat) => (show ((((w30.drewN n_).setCell ⟨gb125, 0, none⟩ (.int .i64 ((rd_T70 l1 x12_1).f0))).setCell ⟨gb125, 1, none⟩ (.int .i64 ((rd_T70 l1 x12_1).f1)))).cell? _ = some _ from hx126_1)); clear hn126_0; clear hn126_1; replace p126 := eq_true p126; replace q126 := eq_true q126; have p127 : 0 ≤ ((ji18) : Int) := aD; have q127 : (ji18) < (l1.length : Int) := aD; obtain ⟨ad127, e127, hx127_0, hx127_1⟩ := at_T70 HR1.out (ji18) p127 q127; obtain rfl : ad124 = ad127 := (by injection e127); have hn127_0 : ad124.block ≠ gb125 := Nat.ne_of_lt (Nat.lt_of_lt_of_le (by have := World.block_lt_of_cell? _ _ hx127_0; first | rwa [add_block] at this | exact this) GW125.out); have hn127_1 : ad124.block ≠ gb125 := Nat.ne_of_lt (Nat.lt_of_lt_of_le (by have := World.block_lt_of_cell? _ _ hx127_0; first | rwa [add_block] at this | exact this) GW125.out); replace hx127_0 := (HB.out.cell (World.block_lt_of_cell? w _ hx127_0)).trans hx127_0; replace hx127_1 := (HB.out.cell (World.block_lt_of_cell? w _ hx127_1)).trans hx127_1; replace hx127_0 := (cell_far (p := ⟨gb125, 0, none⟩) (by first | (rw [add_block]; exact hn127_0) | (show (Addr.add _ _).block ≠ _; rw [add_block]; exact hn127_0) | exact hn127_0) (.int .i64 ((rd_T70 l1 x12_1).f0))).trans hx127_0; replace hx127_1 := (cell_far (p := ⟨gb125, 0, none⟩) (by first | (rw [add_block]; exact hn127_0) | (show (Addr.add _ _).block ≠ _; rw [add_block]; exact hn127_0) | exact hn127_0) (.int .i64 ((rd_T70 l1 x12_1).f0))).trans hx127_1; replace hx127_0 := (cell_far (p := ⟨gb125, 1, none⟩) (by first | (rw [add_block]; exact hn127_1) | (show (Addr.add _ _).block ≠ _; rw [add_block]; exact hn127_1) | exact hn127_1) (.int .i64 ((rd_T70 l1 x12_1).f1))).trans hx127_0; replace hx127_1 := (cell_far (p := ⟨gb125, 1, none⟩) (by first | (rw [add_block]; exact hn127_1) | (show (Addr.add _ _).block ≠ _; rw [add_block]; exact hn127_1) | exact hn127_1) (.int .i64 ((rd_T70 l1 x12_1).f1))).trans hx127_1; (try have hy127_0 := fun (n_ : Nat) => (show ((((w30.drewN n_).setCell ⟨gb125, 0, none⟩ (.int .i64 ((rd_T70 l1 x12_1).f0))).setCell ⟨gb125, 1, none⟩ (.int .i64 ((rd_T70 l1 x12_1).f1)))).cell? _ = some _ from hx127_0)); (try have hy127_1 := fun (n_ : Nat) => (show ((((w30.drewN n_).setCell ⟨gb125, 0, none⟩ (.int .i64 ((rd_T70 l1 x12_1).f0))).setCell ⟨gb125, 1, none⟩ (.int .i64 ((rd_T70 l1 x12_1).f1)))).cell? _ = some _ from hx127_1)); clear hn127_0; clear hn127_1; replace p127 := eq_true p127; replace q127 := eq_true q127))
               repeat (go_quiet (first | ((with_reducible refine gate_dst (N := 6) rfl ?_); refine box_event ?hg (N := 6) ?hd (cs := #[.int .i64 0, .int .i64 0]) (t := 70) ?hr ?_; (case hd => rfl); (case hg => rfl); (case hr => first | (go_simp; done) | (go_simp; rfl)); intro gb125 hg w30 hbox hb; have n0_ := aM (below_step aB hb); have n1_ := aM (hbox); have n2_ := aM ((by rw [hg]; exact (below_size aB) : w.heap.size ≤ gb125)); have n3_ := aM ((by rw [hg]; exact (below_size aB) : w.heap.size ≤ gb125)); clear HB; have HB := n0_; have BK125 := n1_; have GW125 := n2_; have GE125 := n3_; clear n0_ n1_ n2_ n3_; clear hb hbox hg; have hcz31_0 : w30.cell? ⟨gb125, 0, none⟩ = some (.int .i64 0) := (blk_cell BK125.out 0).trans rfl; have hcz31_1 : w30.cell? ⟨gb125, 1, none⟩ = some (.int .i64 0) := (blk_cell BK125.out 1).trans rfl; have hfz31_0 := blk_frozen BK125.out 0; have hfz31_1 := blk_frozen BK125.out 1; have p126 : 0 ≤ ((ji18) : Int) := aD; have q126 : (ji18) < (l1.length : Int) := aD; obtain ⟨ad126, e126, hx126_0, hx126_1⟩ := at_T70 HR1.out (ji18) p126 q126; obtain rfl : ad124 = ad126 := (by injection e126); have hn126_0 : ad124.block ≠ gb125 := Nat.ne_of_lt (Nat.lt_of_lt_of_le (by have := World.block_lt_of_cell? _ _ hx126_0; first | rwa [add_block] at this | exact this) GW125.out); have hn126_1 : ad124.block ≠ gb125 := Nat.ne_of_lt (Nat.lt_of_lt_of_le (by have := World.block_lt_of_cell? _ _ hx126_0; first | rwa [add_block] at this | exact this) GW125.out); replace hx126_0 := (HB.out.cell (World.block_lt_of_cell? w _ hx126_0)).trans hx126_0; replace hx126_1 := (HB.out.cell (World.block_lt_of_cell? w _ hx126_1)).trans hx126_1; replace hx126_0 := (cell_far (p := ⟨gb125, 0, none⟩) (by first | (rw [add_block]; exact hn126_0) | (show (Addr.add _ _).block ≠ _; rw [add_block]; exact hn126_0) | exact hn126_0) (.int .i64 ((rd_T70 l1 x12_1).f0))).trans hx126_0; replace hx126_1 := (cell_far (p := ⟨gb125, 0, none⟩) (by first | (rw [add_block]; exact hn126_0) | (show (Addr.add _ _).block ≠ _; rw [add_block]; exact hn126_0) | exact hn126_0) (.int .i64 ((rd_T70 l1 x12_1).f0))).trans hx126_1; replace hx126_0 := (cell_far (p := ⟨gb125, 1, none⟩) (by first | (rw [add_block]; exact hn126_1) | (show (Addr.add _ _).block ≠ _; rw [add_block]; exact hn126_1) | exact hn126_1) (.int .i64 ((rd_T70 l1 x12_1).f1))).trans hx126_0; replace hx126_1 := (cell_far (p := ⟨gb125, 1, none⟩) (by first | (rw [add_block]; exact hn126_1) | (show (Addr.add _ _).block ≠ _; rw [add_block]; exact hn126_1) | exact hn126_1) (.int .i64 ((rd_T70 l1 x12_1).f1))).trans hx126_1; (try have hy126_0 := fun (n_ : Nat) => (show ((((w30.drewN n_).setCell ⟨gb125, 0, none⟩ (.int .i64 ((rd_T70 l1 x12_1).f0))).setCell ⟨gb125, 1, none⟩ (.int .i64 ((rd_T70 l1 x12_1).f1)))).cell? _ = some _ from hx126_0)); (try have hy126_1 := fun (n_ : Nat) => (show ((((w30.drewN n_).setCell ⟨gb125, 0, none⟩ (.int .i64 ((rd_T70 l1 x12_1).f0))).setCell ⟨gb125, 1, none⟩ (.int .i64 ((rd_T70 l1 x12_1).f1)))).cell? _ = some _ from hx126_1)); clear hn126_0; clear hn126_1; replace p126 := eq_true p126; replace q126 := eq_true q126; have p127 : 0 ≤ ((ji18) : Int) := aD; have q127 : (ji18) < (l1.length : Int) := aD; obtain ⟨ad127, e127, hx127_0, hx127_1⟩ := at_T70 HR1.out (ji18) p127 q127; obtain rfl : ad124 = ad127 := (by injection e127); have hn127_0 : ad124.block ≠ gb125 := Nat.ne_of_lt (Nat.lt_of_lt_of_le (by have := World.block_lt_of_cell? _ _ hx127_0; first | rwa [add_block] at this | exact this) GW125.out); have hn127_1 : ad124.block ≠ gb125 := Nat.ne_of_lt (Nat.lt_of_lt_of_le (by have := World.block_lt_of_cell? _ _ hx127_0; first | rwa [add_block] at this | exact this) GW125.out); replace hx127_0 := (HB.out.cell (World.block_lt_of_cell? w _ hx127_0)).trans hx127_0; replace hx127_1 := (HB.out.cell (World.block_lt_of_cell? w _ hx127_1)).trans hx127_1; replace hx127_0 := (cell_far (p := ⟨gb125, 0, none⟩) (by first | (rw [add_block]; exact hn127_0) | (show (Addr.add _ _).block ≠ _; rw [add_block]; exact hn127_0) | exact hn127_0) (.int .i64 ((rd_T70 l1 x12_1).f0))).trans hx127_0; replace hx127_1 := (cell_far (p := ⟨gb125, 0, none⟩) (by first | (rw [add_block]; exact hn127_0) | (show (Addr.add _ _).block ≠ _; rw [add_block]; exact hn127_0) | exact hn127_0) (.int .i64 ((rd_T70 l1 x12_1).f0))).trans hx127_1; replace hx127_0 := (cell_far (p := ⟨gb125, 1, none⟩) (by first | (rw [add_block]; exact hn127_1) | (show (Addr.add _ _).block ≠ _; rw [add_block]; exact hn127_1) | exact hn127_1) (.int .i64 ((rd_T70 l1 x12_1).f1))).trans hx127_0; replace hx127_1 := (cell_far (p := ⟨gb125, 1, none⟩) (by first | (rw [add_block]; exact hn127_1) | (show (Addr.add _ _).block ≠ _; rw [add_block]; exact hn127_1) | exact hn127_1) (.int .i64 ((rd_T70 l1 x12_1).f1))).trans hx127_1; (try have hy127_0 := fun (n_ : Nat) => (show ((((w30.drewN n_).setCell ⟨gb125, 0, none⟩ (.int .i64 ((rd_T70 l1 x12_1).f0))).setCell ⟨gb125, 1, none⟩ (.int .i64 ((rd_T70 l1 x12_1).f1)))).cell? _ = some _ from hx127_0)); (try have hy127_1 := fun (n_ : Nat) => (show ((((w30.drewN n_).setCell ⟨gb125, 0, none⟩ (.int .i64 ((rd_T70 l1 x12_1).f0))).setCell ⟨gb125, 1, none⟩ (.int .i64 ((rd_T70 l1 x12_1).f1)))).cell? _ = some _ from hx127_1)); clear hn127_0; clear hn127_1; replace p127 := eq_true p127; replace q127 := eq_true q127)); try go_wp2_with (first | ((with_reducible refine gate_dst (N := 6) rfl ?_); refine box_event ?hg (N := 6) ?hd (cs := #[.int .i64 0, .int .i64 0]) (t := 70) ?hr ?_; (case hd => rfl); (case hg => rfl); (case hr => first | (go_simp; done) | (go_simp; rfl)); intro gb125 hg w30 hbox hb; have n0_ := aM (below_step aB hb); have n1_ := aM (hbox); have n2_ := aM ((by rw [hg]; exact (below_size aB) : w.heap.size ≤ gb125)); have n3_ := aM ((by rw [hg]; exact (below_size aB) : w.heap.size ≤ gb125)); clear HB; have HB := n0_; have BK125 := n1_; have GW125 := n2_; have GE125 := n3_; clear n0_ n1_ n2_ n3_; clear hb hbox hg; have hcz31_0 : w30.cell? ⟨gb125, 0, none⟩ = some (.int .i64 0) := (blk_cell BK125.out 0).trans rfl; have hcz31_1 : w30.cell? ⟨gb125, 1, none⟩ = some (.int .i64 0) := (blk_cell BK125.out 1).trans rfl; have hfz31_0 := blk_frozen BK125.out 0; have hfz31_1 := blk_frozen BK125.out 1; have p126 : 0 ≤ ((ji18) : Int) := aD; have q126 : (ji18) < (l1.length : Int) := aD; obtain ⟨ad126, e126, hx126_0, hx126_1⟩ := at_T70 HR1.out (ji18) p126 q126; obtain rfl : ad124 = ad126 := (by injection e126); have hn126_0 : ad124.block ≠ gb125 := Nat.ne_of_lt (Nat.lt_of_lt_of_le (by have := World.block_lt_of_cell? _ _ hx126_0; first | rwa [add_block] at this | exact this) GW125.out); have hn126_1 : ad124.block ≠ gb125 := Nat.ne_of_lt (Nat.lt_of_lt_of_le (by have := World.block_lt_of_cell? _ _ hx126_0; first | rwa [add_block] at this | exact this) GW125.out); replace hx126_0 := (HB.out.cell (World.block_lt_of_cell? w _ hx126_0)).trans hx126_0; replace hx126_1 := (HB.out.cell (World.block_lt_of_cell? w _ hx126_1)).trans hx126_1; replace hx126_0 := (cell_far (p := ⟨gb125, 0, none⟩) (by first | (rw [add_block]; exact hn126_0) | (show (Addr.add _ _).block ≠ _; rw [add_block]; exact hn126_0) | exact hn126_0) (.int .i64 ((rd_T70 l1 x12_1).f0))).trans hx126_0; replace hx126_1 := (cell_far (p := ⟨gb125, 0, none⟩) (by first | (rw [add_block]; exact hn126_0) | (show (Addr.add _ _).block ≠ _; rw [add_block]; exact hn126_0) | exact hn126_0) (.int .i64 ((rd_T70 l1 x12_1).f0))).trans hx126_1; replace hx126_0 := (cell_far (p := ⟨gb125, 1, none⟩) (by first | (rw [add_block]; exact hn126_1) | (show (Addr.add _ _).block ≠ _; rw [add_block]; exact hn126_1) | exact hn126_1) (.int .i64 ((rd_T70 l1 x12_1).f1))).trans hx126_0; replace hx126_1 := (cell_far (p := ⟨gb125, 1, none⟩) (by first | (rw [add_block]; exact hn126_1) | (show (Addr.add _ _).block ≠ _; rw [add_block]; exact hn126_1) | exact hn126_1) (.int .i64 ((rd_T70 l1 x12_1).f1))).trans hx126_1; (try have hy126_0 := fun (n_ : Nat) => (show ((((w30.drewN n_).setCell ⟨gb125, 0, none⟩ (.int .i64 ((rd_T70 l1 x12_1).f0))).setCell ⟨gb125, 1, none⟩ (.int .i64 ((rd_T70 l1 x12_1).f1)))).cell? _ = some _ from hx126_0)); (try have hy126_1 := fun (n_ : Nat) => (show ((((w30.drewN n_).setCell ⟨gb125, 0, none⟩ (.int .i64 ((rd_T70 l1 x12_1).f0))).setCell ⟨gb125, 1, none⟩ (.int .i64 ((rd_T70 l1 x12_1).f1)))).cell? _ = some _ from hx126_1)); clear hn126_0; clear hn126_1; replace p126 := eq_true p126; replace q126 := eq_true q126; have p127 : 0 ≤ ((ji18) : Int) := aD; have q127 : (ji18) < (l1.length : Int) := aD; obtain ⟨ad127, e127, hx127_0, hx127_1⟩ := at_T70 HR1.out (ji18) p127 q127; obtain rfl : ad124 = ad127 := (by injection e127); have hn127_0 : ad124.block ≠ gb125 := Nat.ne_of_lt (Nat.lt_of_lt_of_le (by have := World.block_lt_of_cell? _ _ hx127_0; first | rwa [add_block] at this | exact this) GW125.out); have hn127_1 : ad124.block ≠ gb125 := Nat.ne_of_lt (Nat.lt_of_lt_of_le (by have := World.block_lt_of_cell? _ _ hx127_0; first | rwa [add_block] at this | exact this) GW125.out); replace hx127_0 := (HB.out.cell (World.block_lt_of_cell? w _ hx127_0)).trans hx127_0; replace hx127_1 := (HB.out.cell (World.block_lt_of_cell? w _ hx127_1)).trans hx127_1; replace hx127_0 := (cell_far (p := ⟨gb125, 0, none⟩) (by first | (rw [add_block]; exact hn127_0) | (show (Addr.add _ _).block ≠ _; rw [add_block]; exact hn127_0) | exact hn127_0) (.int .i64 ((rd_T70 l1 x12_1).f0))).trans hx127_0; replace hx127_1 := (cell_far (p := ⟨gb125, 0, none⟩) (by first | (rw [add_block]; exact hn127_0) | (show (Addr.add _ _).block ≠ _; rw [add_block]; exact hn127_0) | exact hn127_0) (.int .i64 ((rd_T70 l1 x12_1).f0))).trans hx127_1; replace hx127_0 := (cell_far (p := ⟨gb125, 1, none⟩) (by first | (rw [add_block]; exact hn127_1) | (show (Addr.add _ _).block ≠ _; rw [add_block]; exact hn127_1) | exact hn127_1) (.int .i64 ((rd_T70 l1 x12_1).f1))).trans hx127_0; replace hx127_1 := (cell_far (p := ⟨gb125, 1, none⟩) (by first | (rw [add_block]; exact hn127_1) | (show (Addr.add _ _).block ≠ _; rw [add_block]; exact hn127_1) | exact hn127_1) (.int .i64 ((rd_T70 l1 x12_1).f1))).trans hx127_1; (try have hy127_0 := fun (n_ : Nat) => (show ((((w30.drewN n_).setCell ⟨gb125, 0, none⟩ (.int .i64 ((rd_T70 l1 x12_1).f0))).setCell ⟨gb125, 1, none⟩ (.int .i64 ((rd_T70 l1 x12_1).f1)))).cell? _ = some _ from hx127_0)); (try have hy127_1 := fun (n_ : Nat) => (show ((((w30.drewN n_).setCell ⟨gb125, 0, none⟩ (.int .i64 ((rd_T70 l1 x12_1).f0))).setCell ⟨gb125, 1, none⟩ (.int .i64 ((rd_T70 l1 x12_1).f1)))).cell? _ = some _ from hx127_1)); clear hn127_0; clear hn127_1; replace p127 := eq_true p127; replace q127 := eq_true q127)))
               go_roundg k1
               case measure => have := HK1.out; omega
               case rel => exact ⟨(wrap64 (x12_1 + 1)), (by first | rfl | (simp; done) | (simp [*]; done)), H', ⟨by have := HK1.out; omega⟩, ⟨by repeat (first | (with_reducible first | exact HB.out | apply below_alloc | apply pw_below_drewN | apply below_drew1 | refine below_set ?_ GE125.out) | exact HB.out)⟩⟩
            ·rw [if_neg c20] at H
             exact absurd H (by simp)
           ·rw [if_neg c19] at H
            exact absurd H (by simp)
          ·rw [if_neg c17] at H
           have c17b0 : decide (0 < x12_1) = false := decide_eq_false c17
           clear c17
           have H' := aM H
           clear H
           have p124 : 0 ≤ (x12_1 : Int) := aD
           have q124 : x12_1 < (l1.length : Int) := aD
           obtain ⟨ad124, e124, hx124_0, hx124_1⟩ := at_T70 HR1.out x12_1 p124 q124
           cases e124
           replace hx124_0 := (HB.out.cell (World.block_lt_of_cell? w _ hx124_0)).trans hx124_0
           replace hx124_1 := (HB.out.cell (World.block_lt_of_cell? w _ hx124_1)).trans hx124_1
           replace p124 := eq_true p124
           replace q124 := eq_true q124
           go_wp2_with (first | ((with_reducible refine gate_dst (N := 6) rfl ?_); refine box_event ?hg (N := 6) ?hd (cs := #[.int .i64 0, .int .i64 0]) (t := 70) ?hr ?_; (case hd => rfl); (case hg => rfl); (case hr => first | (go_simp; done) | (go_simp; rfl)); intro gb125 hg w32 hbox hb; have n0_ := aM (below_step aB hb); have n1_ := aM (hbox); have n2_ := aM ((by rw [hg]; exact (below_size aB) : w.heap.size ≤ gb125)); have n3_ := aM ((by rw [hg]; exact (below_size aB) : w.heap.size ≤ gb125)); clear HB; have HB := n0_; have BK125 := n1_; have GW125 := n2_; have GE125 := n3_; clear n0_ n1_ n2_ n3_; clear hb hbox hg; have hcz33_0 : w32.cell? ⟨gb125, 0, none⟩ = some (.int .i64 0) := (blk_cell BK125.out 0).trans rfl; have hcz33_1 : w32.cell? ⟨gb125, 1, none⟩ = some (.int .i64 0) := (blk_cell BK125.out 1).trans rfl; have hfz33_0 := blk_frozen BK125.out 0; have hfz33_1 := blk_frozen BK125.out 1))
           repeat (go_quiet (first | ((with_reducible refine gate_dst (N := 6) rfl ?_); refine box_event ?hg (N := 6) ?hd (cs := #[.int .i64 0, .int .i64 0]) (t := 70) ?hr ?_; (case hd => rfl); (case hg => rfl); (case hr => first | (go_simp; done) | (go_simp; rfl)); intro gb125 hg w32 hbox hb; have n0_ := aM (below_step aB hb); have n1_ := aM (hbox); have n2_ := aM ((by rw [hg]; exact (below_size aB) : w.heap.size ≤ gb125)); have n3_ := aM ((by rw [hg]; exact (below_size aB) : w.heap.size ≤ gb125)); clear HB; have HB := n0_; have BK125 := n1_; have GW125 := n2_; have GE125 := n3_; clear n0_ n1_ n2_ n3_; clear hb hbox hg; have hcz33_0 : w32.cell? ⟨gb125, 0, none⟩ = some (.int .i64 0) := (blk_cell BK125.out 0).trans rfl; have hcz33_1 : w32.cell? ⟨gb125, 1, none⟩ = some (.int .i64 0) := (blk_cell BK125.out 1).trans rfl; have hfz33_0 := blk_frozen BK125.out 0; have hfz33_1 := blk_frozen BK125.out 1)); try go_wp2_with (first | ((with_reducible refine gate_dst (N := 6) rfl ?_); refine box_event ?hg (N := 6) ?hd (cs := #[.int .i64 0, .int .i64 0]) (t := 70) ?hr ?_; (case hd => rfl); (case hg => rfl); (case hr => first | (go_simp; done) | (go_simp; rfl)); intro gb125 hg w32 hbox hb; have n0_ := aM (below_step aB hb); have n1_ := aM (hbox); have n2_ := aM ((by rw [hg]; exact (below_size aB) : w.heap.size ≤ gb125)); have n3_ := aM ((by rw [hg]; exact (below_size aB) : w.heap.size ≤ gb125)); clear HB; have HB := n0_; have BK125 := n1_; have GW125 := n2_; have GE125 := n3_; clear n0_ n1_ n2_ n3_; clear hb hbox hg; have hcz33_0 : w32.cell? ⟨gb125, 0, none⟩ = some (.int .i64 0) := (blk_cell BK125.out 0).trans rfl; have hcz33_1 : w32.cell? ⟨gb125, 1, none⟩ = some (.int .i64 0) := (blk_cell BK125.out 1).trans rfl; have hfz33_0 := blk_frozen BK125.out 0; have hfz33_1 := blk_frozen BK125.out 1)))
           go_roundg k1
           case measure => have := HK1.out; omega
           case rel => exact ⟨(wrap64 (x12_1 + 1)), (by first | rfl | (simp; done) | (simp [*]; done)), H', ⟨by have := HK1.out; omega⟩, ⟨by repeat (first | (with_reducible first | exact HB.out | apply below_alloc | apply pw_below_drewN | apply below_drew1 | refine below_set ?_ GE125.out) | exact HB.out)⟩⟩
      ·rw [if_neg c7] at H
       exact absurd H (by simp)
     ·rw [if_neg c6] at H
      exact absurd H (by simp)
    ·rw [if_neg c5] at H
     have c5b0 : decide (x12_1 < (l1.length : Int)) = false := decide_eq_false c5
     clear c5
     obtain rfl := Option.some.inj H
     go_wp2
     repeat (go_quiet (fail); try go_wp2)
     go_ret
     exact ⟨by first | rfl | (simp [errW_none, errW_some] <;> rfl) | (simp [*, errW_none, errW_some] <;> rfl), by repeat (first | (with_reducible first | exact HB.out | apply below_alloc | apply pw_below_drewN | apply below_drew1) | exact HB.out)⟩
 ·replace c4 := Bool.eq_false_iff.mpr c4
  subst c4
  have H1 : (some false) = some r := by rw [if_neg (show ¬ (false = true) by decide)] at H; exact H
  clear H
  have H := H1
  clear H1
  obtain rfl := Option.some.inj H
  go_enter Try.func34, Try.ntmps34
  go_wp2_with (first | (go_at_call 49; (with_reducible refine (impl_within.calls a0 0 14 false _ A3.out).mono ?_); rintro e w' ⟨rfl, ⟨nd, rfl⟩⟩; (try first | exact ⟨rfl, _, World.drewN_drewN _ _ _⟩ | exact ⟨rfl, _, Eq.trans (World.drewN_drewN _ _ _) (congrArg (World.drewN _) (Nat.add_assoc _ _ _))⟩)))
  repeat (go_quiet (first | (go_at_call 49; (with_reducible refine (impl_within.calls a0 0 14 false _ A3.out).mono ?_); rintro e w' ⟨rfl, ⟨nd, rfl⟩⟩; (try first | exact ⟨rfl, _, World.drewN_drewN _ _ _⟩ | exact ⟨rfl, _, Eq.trans (World.drewN_drewN _ _ _) (congrArg (World.drewN _) (Nat.add_assoc _ _ _))⟩))); try go_wp2_with (first | (go_at_call 49; (with_reducible refine (impl_within.calls a0 0 14 false _ A3.out).mono ?_); rintro e w' ⟨rfl, ⟨nd, rfl⟩⟩; (try first | exact ⟨rfl, _, World.drewN_drewN _ _ _⟩ | exact ⟨rfl, _, Eq.trans (World.drewN_drewN _ _ _) (congrArg (World.drewN _) (Nat.add_assoc _ _ _))⟩))))
  go_ret
  exact ⟨by first | rfl | (simp [errW_none, errW_some] <;> rfl) | (simp [*, errW_none, errW_some] <;> rfl), by repeat (first | (with_reducible first | exact HB.out | apply below_alloc | apply pw_below_drewN | apply below_drew1) | exact HB.out)⟩

/-! ### laws_eqConflictEdge: function 53 -/
def laws_eqConflictEdge.f (a0_0 : Int) (a0_1 : Int) (a1_0 : Int) (a1_1 : Int) : Option (Bool) := if a0_0 = a1_0 then (if a0_1 = a1_1 then (some true) else (some false)) else (some false)
set_option maxHeartbeats 8000000 in
set_option maxRecDepth 100000 in
theorem laws_eqConflictEdge.calls (a0_0 : Int) (a0_1 : Int) (a1_0 : Int) (a1_1 : Int) (r : Bool) (w : World) (h : laws_eqConflictEdge.f a0_0 a0_1 a1_0 a1_1 = some r) :
  Calls Try.prog 53 #[.agg #[.int .i64 a0_0, .int .i64 a0_1], .agg #[.int .i64 a1_0, .int .i64 a1_1]] w fun e w' => e = .returned (.bool r) ∧ Below w.heap.size w w' := by
 have hu70 := Try.underlying70
 obtain ⟨W, hW⟩ : ∃ W, (w.alloc (.cells #[.int .i64 a0_0, .int .i64 a0_1] 70)).alloc (.cells #[.int .i64 a1_0, .int .i64 a1_1] 70) = W := ⟨_, rfl⟩
 have q0 := qa (w := W) (p := ⟨w.heap.size, 0, none⟩) (v := .int .i64 a0_0) (by subst hW; go_simp)
 have q1 := qa (w := W) (p := ⟨w.heap.size, 1, none⟩) (v := .int .i64 a0_1) (by subst hW; go_simp)
 have q2 := qa (w := W) (p := ⟨w.heap.size + 1, 0, none⟩) (v := .int .i64 a1_0) (by subst hW; go_simp)
 have q3 := qa (w := W) (p := ⟨w.heap.size + 1, 1, none⟩) (v := .int .i64 a1_1) (by subst hW; go_simp)
 have HB : Below w.heap.size w W := by subst hW; exact zB
 have HW := Below.refl W.heap.size W
 have hb := aM HB
 unfold laws_eqConflictEdge.f at h
 replace h := iq h; rcases h with ⟨c0, ⟨c0a, c0b⟩, h⟩ | ⟨c0, ⟨c0a, c0b⟩, h⟩
 replace h := iq h; rcases h with ⟨c1, ⟨c1a, c1b⟩, h⟩ | ⟨c1, ⟨c1a, c1b⟩, h⟩
 obtain rfl := si h
 rotate_left
 obtain rfl := si h
 rotate_left
 obtain rfl := si h
 rotate_left
 all_goals (go_enter Try.func53, Try.ntmps53; go_wp2; go_ret; exact zE zB)

/-! ### laws_eqConflictEdgeS: function 35 -/
def laws_eqConflictEdgeS.l0 : Nat → List (S70) → List (S70) → Int → Option (Bool)
 | 0, _, _, _ => none
 | k + 1, x0, x1, x5 => if x5 < (x0.length : Int) then (if 0 ≤ x5 then (if x5 < (x1.length : Int) then ((laws_eqConflictEdge.f ((rd_T70 x0 x5).f0) ((rd_T70 x0 x5).f1) ((rd_T70 x1 x5).f0) ((rd_T70 x1 x5).f1)).bind fun t133 => (if t133 = true then (laws_eqConflictEdgeS.l0 k x0 x1 (wrap64 (x5 + 1))) else (some false))) else (none)) else (none)) else (some true)
def laws_eqConflictEdgeS.f (k : Nat) (l0 : List (S70)) (l1 : List (S70)) : Option (Bool) := if (l0.length : Int) = (l1.length : Int) then (laws_eqConflictEdgeS.l0 k l0 l1 0) else (some false)
set_option maxHeartbeats 8000000 in
set_option maxRecDepth 100000 in
theorem laws_eqConflictEdgeS.calls (k : Nat) (A0 : Option Addr) (c0 : Nat) (l0 : List (S70)) (A1 : Option Addr) (c1 : Nat) (l1 : List (S70)) (r : Bool) (w : World) (hr0 : Kd.C k70 w A0 l0.length l0) (hc0 : l0.length ≤ c0) (hr1 : Kd.C k70 w A1 l1.length l1) (hc1 : l1.length ≤ c1) (h : laws_eqConflictEdgeS.f k l0 l1 = some r) :
  Calls Try.prog 35 #[.slice A0 l0.length c0, .slice A1 l1.length c1] w fun e w' => e = .returned (.bool r) ∧ Below w.heap.size w w' := by
 have hu70 := Try.underlying70
 have rg_ := @bcl w
 have rd_ := @bdr w
 unfold laws_eqConflictEdgeS.f at h
 replace h := iq h; rcases h with ⟨c0, ⟨c0a, c0b⟩, h⟩ | ⟨c0, ⟨c0a, c0b⟩, h⟩
 have cz := c0.out
 have c0x1 : (l0.length == l1.length) = true := by first | simpa using cz | (simp at cz ⊢; omega)
 clear cz
 ·go_enter Try.func35, Try.ntmps35
  go_wp2
  (repeat ((refine nw (w0 := w) zB ?_; intro W1 HB hb hd; (first | (refine Txt.rg (id := 6) [0, 1, 2, 3, 4, 5, 6, 7, 8, 9] (by kernel_rfl) (by kernel_rfl) ?_; simp only [List.map_cons, List.map_nil, List.getD_cons_zero, List.getD_cons_succ])); (repeat (first | (refine Txt.off rfl ?_; simp only [Act.put, List.setIfInBounds_toArray, List.set_cons_zero, List.set_cons_succ]) | (refine Txt.take rfl rfl ?_; intro K hK; go_big_quiet_op; go_big_quiet_on) | (refine Txt.call rfl rfl Try.func53 (by kernel_rfl) rfl (laws_eqConflictEdge.calls _ _ _ _ ?_ _ ?h) rfl ?_; (case h => exact zA); rintro e w1 ⟨rfl, hb⟩; replace hb := aM hb; have HB : Below w.heap.size w w1 := zB; refine ⟨_, rfl, zS, ?_⟩; simp only [Act.put, List.setIfInBounds_toArray, List.set_cons_zero, List.set_cons_succ]))); refine Txt.nil ?_); (try go_wp2)))
  go_loopg [5] k (fun kq v5 w' => ∃ (x5_1 : Int), v5 = .int .i64 x5_1 ∧ laws_eqConflictEdgeS.l0 kq l0 l1 x5_1 = some r ∧ Below w.heap.size w w')
  case atStart => exact ⟨_, zR, zA, zB⟩
  case round =>
   clear h
   obtain ⟨x5_1, rfl, h, hb⟩ := hrel
   replace hb := aM hb
   have HB : Below w.heap.size w wr := zB
   rcases gk with _ | kk1
   exact absurd h (by simp [laws_eqConflictEdgeS.l0])
   simp only [laws_eqConflictEdgeS.l0] at h
   replace h := il h; rcases h with ⟨c2, c2a, h⟩ | ⟨c2, c2a, h⟩
   replace h := ie h; rcases h with ⟨c3, c3a, h⟩ | ⟨c3, c3a, h⟩
   replace h := il h; rcases h with ⟨c4, c4a, h⟩ | ⟨c4, c4a, h⟩
   replace h := bs h; obtain ⟨t133, B5, h⟩ := h
   replace h := ib h; rcases h with ⟨rfl, h⟩ | ⟨rfl, h⟩
   obtain ⟨kf, hkf⟩ : ∃ kf, kf = kk1 := ⟨_, rfl⟩; rw [← hkf] at h
   obtain ⟨ad131, e131, hx131_0, hx131_1⟩ := at_T70 hr0 (x5_1 : Int) aD aD
   have p131 := eq_true (aD : 0 ≤ (x5_1 : Int))
   have q131 := eq_true (aD : x5_1 < (l0.length : Int))
   cases e131
   replace hx131_0 := qa hx131_0
   replace hx131_1 := qa hx131_1
   obtain ⟨ad132, e132, hx132_0, hx132_1⟩ := at_T70 hr1 (x5_1 : Int) aD aD
   have p132 := eq_true (aD : 0 ≤ (x5_1 : Int))
   have q132 := eq_true (aD : x5_1 < (l1.length : Int))
   cases e132
   replace hx132_0 := qa hx132_0
   replace hx132_1 := qa hx132_1
   rotate_left
   obtain rfl := si h
   obtain ⟨ad131, e131, hx131_0, hx131_1⟩ := at_T70 hr0 (x5_1 : Int) aD aD
   have p131 := eq_true (aD : 0 ≤ (x5_1 : Int))
   have q131 := eq_true (aD : x5_1 < (l0.length : Int))
   cases e131
   replace hx131_0 := qa hx131_0
   replace hx131_1 := qa hx131_1
   obtain ⟨ad132, e132, hx132_0, hx132_1⟩ := at_T70 hr1 (x5_1 : Int) aD aD
   have p132 := eq_true (aD : 0 ≤ (x5_1 : Int))
   have q132 := eq_true (aD : x5_1 < (l1.length : Int))
   cases e132
   replace hx132_0 := qa hx132_0
   replace hx132_1 := qa hx132_1
   rotate_left
   exact absurd h (by simp)
   exact absurd h (by simp)
   obtain rfl := si h
   rotate_left
   all_goals (go_wp2; (repeat ((refine nw (w0 := w) zB ?_; intro W1 HB hb hd; (first | (refine Txt.rg (id := 6) [0, 1, 2, 3, 4, 5, 6, 7, 8, 9] (by kernel_rfl) (by kernel_rfl) ?_; simp only [List.map_cons, List.map_nil, List.getD_cons_zero, List.getD_cons_succ])); (repeat (first | (refine Txt.off rfl ?_; simp only [Act.put, List.setIfInBounds_toArray, List.set_cons_zero, List.set_cons_succ]) | (refine Txt.take rfl rfl ?_; intro K hK; go_big_quiet_op; go_big_quiet_on) | (refine Txt.call rfl rfl Try.func53 (by kernel_rfl) rfl (laws_eqConflictEdge.calls _ _ _ _ ?_ _ ?h) rfl ?_; (case h => exact zA); rintro e w1 ⟨rfl, hb⟩; replace hb := aM hb; have HB : Below w.heap.size w w1 := zB; refine ⟨_, rfl, zS, ?_⟩; simp only [Act.put, List.setIfInBounds_toArray, List.set_cons_zero, List.set_cons_succ]))); refine Txt.nil ?_); (try go_wp2))); first | (go_ret; exact zE zB) | (go_roundg kf; (case measure => omega); (case rel => exact ⟨_, zR, zA, zB⟩)))
 have cz := c0.out
 have c0x1 : (l0.length == l1.length) = false := by first | simpa using cz | (simp at cz ⊢; omega)
 clear cz
 obtain rfl := si h
 rotate_left
 all_goals (go_enter Try.func35, Try.ntmps35; go_wp2; (repeat ((refine nw (w0 := w) zB ?_; intro W1 HB hb hd; (first | (refine Txt.rg (id := 6) [0, 1, 2, 3, 4, 5, 6, 7, 8, 9] (by kernel_rfl) (by kernel_rfl) ?_; simp only [List.map_cons, List.map_nil, List.getD_cons_zero, List.getD_cons_succ])); (repeat (first | (refine Txt.off rfl ?_; simp only [Act.put, List.setIfInBounds_toArray, List.set_cons_zero, List.set_cons_succ]) | (refine Txt.take rfl rfl ?_; intro K hK; go_big_quiet_op; go_big_quiet_on) | (refine Txt.call rfl rfl Try.func53 (by kernel_rfl) rfl (laws_eqConflictEdge.calls _ _ _ _ ?_ _ ?h) rfl ?_; (case h => exact zA); rintro e w1 ⟨rfl, hb⟩; replace hb := aM hb; have HB : Below w.heap.size w w1 := zB; refine ⟨_, rfl, zS, ?_⟩; simp only [Act.put, List.setIfInBounds_toArray, List.set_cons_zero, List.set_cons_succ]))); refine Txt.nil ?_); (try go_wp2))); go_ret; exact zE zB)

/-! ### laws_FnExactAreValidEdges: function 11 -/
def laws_FnExactAreValidEdges.f (k : Nat) (a0 : Int) (l1 : List (S72)) : Option (Bool) := (laws_szConflictEdgeS.f l1 1048576).bind fun t134 => (if t134 < 0 then (some true) else ((laws_toConflictEdgeS.f k l1).bind fun t135 => ((spec_AreValidEdges.f k a0 t135).bind fun t138 => ((laws_toConflictEdgeS.f k l1).bind fun t139 => ((impl_AreValidEdges.f k a0 t139).bind fun t142 => (if (t142 != t138) = true then (some false) else ((laws_toConflictEdgeS.f k l1).bind fun t143 => ((laws_eqConflictEdgeS.f k t139 t143).bind fun t146 => (if t146 = true then (some true) else (some false))))))))))
set_option maxHeartbeats 8000000 in
set_option maxRecDepth 100000 in
theorem laws_FnExactAreValidEdges.calls (k : Nat) (a0 : Int) (A1 : Option Addr) (c1 : Nat) (l1 : List (S72)) (r : Bool) (w : World) (hr1 : Kd.C k72 w A1 l1.length l1) (hc1 : l1.length ≤ c1) (h : laws_FnExactAreValidEdges.f k a0 l1 = some r) (hr_ : r = true) :
  Calls Try.prog 11 #[.int .i64 a0, .slice A1 l1.length c1] w fun e w' => e = .returned (.bool r) ∧ Below w.heap.size w w' := by
 have HRT_ := aM hr_
 clear hr_
 unfold laws_FnExactAreValidEdges.f at h
 replace h := bs h; obtain ⟨t134, B0, h⟩ := h
 replace h := il h; rcases h with ⟨c1, c1a, h⟩ | ⟨c1, c1a, h⟩
 obtain rfl := si h
 rotate_left
 replace h := bs h; obtain ⟨t135, B2, h⟩ := h
 replace h := bs h; obtain ⟨t138, B3, h⟩ := h
 replace h := bs h; obtain ⟨t139, B4, h⟩ := h
 have eq_ := Option.some.inj (B2.symm.trans B4)
 subst eq_
 replace h := bs h; obtain ⟨t142, B5, h⟩ := h
 replace h := ib h; rcases h with ⟨c6, h⟩ | ⟨c6, h⟩
 have c6x0 : (!t142 == t138) = true := c6
 obtain rfl := si h
 rotate_left
 have c6x0 : (!t142 == t138) = false := c6
 replace h := bs h; obtain ⟨t143, B7, h⟩ := h
 have eq_ := Option.some.inj (B2.symm.trans B7)
 subst eq_
 replace h := bs h; obtain ⟨t146, B8, h⟩ := h
 replace h := ib h; rcases h with ⟨rfl, h⟩ | ⟨rfl, h⟩
 obtain rfl := si h
 rotate_left
 obtain rfl := si h
 rotate_left
 all_goals (go_enter Try.func11, Try.ntmps11; go_wp2_with (first | (go_at_call 31; refine (laws_szConflictEdgeS.calls _ _ _ _ ?_ _ ?_ ?_ ?h).mono ?_; (case h => exact zA); (iterate 2 (first | exact zC | exact zA)); rintro e w1 ⟨rfl, hb⟩; replace hb := hb.below; replace hb := aM hb; have HB : Below w.heap.size w w1 := zB) | (go_at_call 33; refine (laws_toConflictEdgeS.calls ?_ _ _ _ ?_ _ ?_ ?_ ?h).mono ?_; (case h => exact zA); (iterate 2 (first | exact zC | exact zA)); rintro e w1 ⟨v0, rfl, ho0, hb⟩; obtain ⟨A0, c0, rfl, hc0, hC0⟩ := Kd.R_reads ho0; replace hb := aM hb; have HB : Below w.heap.size w w1 := zB) | (go_at_call 32; refine (spec_AreValidEdges.calls ?_ _ _ _ _ ?_ _ ?_ ?_ ?h).mono ?_; (case h => exact zA); (iterate 2 (first | exact zC | exact zA)); rintro e w1 ⟨rfl, hb⟩; replace hb := aM hb; have HB : Below w.heap.size w w1 := zB) | (go_at_call 34; refine (impl_AreValidEdges.calls ?_ _ _ _ _ ?_ _ ?_ ?_ ?h).mono ?_; (case h => exact zA); (iterate 2 (first | exact zC | exact zA)); rintro e w1 ⟨rfl, hb⟩; replace hb := aM hb; have HB : Below w.heap.size w w1 := zB) | (go_at_call 35; refine (laws_eqConflictEdgeS.calls ?_ _ _ _ _ _ _ ?_ _ ?_ ?_ ?_ ?_ ?h).mono ?_; (case h => exact zA); (iterate 4 (first | exact zC | exact zA)); rintro e w1 ⟨rfl, hb⟩; replace hb := aM hb; have HB : Below w.heap.size w w1 := zB)); go_ret; exact zE zB)

end Go.Proofs.Ytkdkibdigfglhaa.PFnExactAreValidEdges
