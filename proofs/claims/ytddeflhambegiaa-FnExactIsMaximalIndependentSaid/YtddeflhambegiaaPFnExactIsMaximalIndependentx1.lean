-- Laid by a program of this claim: what the functions come to, some of them proved by hand.
import Derived.Test.YtddeflhambegiaaPFnExactIsMaximalIndependentx0
namespace Go.Proofs.Ytddeflhambegiaa.PFnExactIsMaximalIndependent
open Go.RowKit Go.Proofs.YtddeflhambegiaaW.PrintWords Go.Proofs.YtddeflhambegiaaW.PrintLast Go.Proofs.YtddeflhambegiaaW.PrintMore
attribute [local go_sem] max2_int min2_int max_two min_two max_three min_three max_four min_four   -- for this text's walks alone
set_option linter.unusedVariables false
set_option linter.unusedSimpArgs false

/-! ### laws_szConflictEdgeS: function 25 -/
def laws_szConflictEdgeS.f (l0 : List (S91)) (a1 : Int) : Option (Int) := if (wrap64 (a1 - (l0.length : Int))) < 0 then (some (-1)) else (some (wrap64 (a1 - (l0.length : Int))))
set_option maxHeartbeats 8000000 in
set_option maxRecDepth 100000 in
theorem laws_szConflictEdgeS.calls (A0 : Option Addr) (c0 : Nat) (l0 : List (S91)) (a1 : Int) (r : Int) (w : World) (hr0 : Kd.C k91 w A0 l0.length l0) (hc0 : l0.length ≤ c0) (h : laws_szConflictEdgeS.f l0 a1 = some r) :
  Calls Try.prog 25 #[.slice A0 l0.length c0, .int .i64 a1] w fun e w' => e = .returned (.int .i64 r) ∧ Drawn0 w w' := by
 unfold laws_szConflictEdgeS.f at h
 replace h := il h; rcases h with ⟨c0, c0a, h⟩ | ⟨c0, c0a, h⟩
 obtain rfl := si h
 rotate_left
 obtain rfl := si h
 rotate_left
 all_goals (go_enter Try.func25, Try.ntmps25; go_wp2; go_ret; exact zE zD)

/-! ### spec_l1In: function 67 -/
def spec_l1In.f (a0 : Int) (a1 : Int) (a2 : Int) : Option (Bool) := if a0 ≥ a1 then (some (decide (a0 ≤ a2))) else (some false)
set_option maxHeartbeats 8000000 in
set_option maxRecDepth 100000 in
theorem spec_l1In.calls (a0 : Int) (a1 : Int) (a2 : Int) (r : Bool) (w : World) (h : spec_l1In.f a0 a1 a2 = some r) :
  Calls Try.prog 67 #[.int .i64 a0, .int .i64 a1, .int .i64 a2] w fun e w' => e = .returned (.bool r) ∧ Drawn0 w w' := by
 unfold spec_l1In.f at h
 replace h := ih h; rcases h with ⟨c0, c0a, h⟩ | ⟨c0, c0a, h⟩
 obtain rfl := si h
 rotate_left
 obtain rfl := si h
 rotate_left
 all_goals (go_enter Try.func67, Try.ntmps67; go_wp2; go_ret; exact zE zD)

/-! ### spec_AreValidEdges: function 72 -/
def spec_AreValidEdges.l0 : Nat → Int → List (S89) → Int → Option (Bool)
 | 0, _, _, _ => none
 | k + 1, x0, x1, x5 => if x5 < (x1.length : Int) then (if 0 ≤ x5 then ((spec_l1In.f ((rd_T89 x1 x5).f0) 0 (wrap64 (((rd_T89 x1 x5).f1) - 1))).bind fun t104 => (if t104 = true then ((spec_l1In.f ((rd_T89 x1 x5).f1) 0 (wrap64 (x0 - 1))).bind fun t106 => (if t106 = true then (if x5 > 0 then (if 0 ≤ (wrap64 (x5 - 1)) then (if (wrap64 (x5 - 1)) < (x1.length : Int) then (if ((rd_T89 x1 x5).f0) < ((rd_T89 x1 (wrap64 (x5 - 1))).f0) then (some false) else (if ((rd_T89 x1 x5).f0) = ((rd_T89 x1 (wrap64 (x5 - 1))).f0) then (if ((rd_T89 x1 x5).f1) ≤ ((rd_T89 x1 (wrap64 (x5 - 1))).f1) then (some false) else (spec_AreValidEdges.l0 k x0 x1 (wrap64 (x5 + 1)))) else (spec_AreValidEdges.l0 k x0 x1 (wrap64 (x5 + 1))))) else (none)) else (none)) else (spec_AreValidEdges.l0 k x0 x1 (wrap64 (x5 + 1)))) else (some false))) else (some false))) else (none)) else ((spec_l1In.f x0 0 14).bind fun t101 => (some t101))
def spec_AreValidEdges.f (k : Nat) (a0 : Int) (l1 : List (S89)) : Option (Bool) := spec_AreValidEdges.l0 k a0 l1 0
set_option maxHeartbeats 8000000 in
set_option maxRecDepth 100000 in
theorem spec_AreValidEdges.calls (k : Nat) (a0 : Int) (A1 : Option Addr) (c1 : Nat) (l1 : List (S89)) (r : Bool) (w : World) (hr1 : Kd.C k89 w A1 l1.length l1) (hc1 : l1.length ≤ c1) (h : spec_AreValidEdges.f k a0 l1 = some r) :
  Calls Try.prog 72 #[.int .i64 a0, .slice A1 l1.length c1] w fun e w' => e = .returned (.bool r) ∧ Below w.heap.size w w' := by
 have rg_ := @bcl w
 have rd_ := @bdr w
 unfold spec_AreValidEdges.f at h
 ·go_enter Try.func72, Try.ntmps72
  go_wp2_with (first | (go_at_call 67; refine (spec_l1In.calls _ _ _ ?_ _ ?h).mono ?_; (case h => exact zA); rintro e w1 ⟨rfl, hb⟩; replace hb := hb.below; replace hb := aM hb; have HB : Below w.heap.size w w1 := zB))
  (repeat ((refine nw (w0 := w) zB ?_; intro W1 HB hb hd; (first | (refine Txt.rg (id := 4) [0, 1, 2, 3, 4, 5, 6, 7, 8, 9, 10, 11, 12, 13, 14, 15, 16, 17, 18, 19, 20, 21, 22, 23, 24, 25, 26, 27, 28, 29, 30, 31, 32, 33, 34, 35, 36, 37, 38, 39, 40, 41, 42, 43, 44, 45, 46, 47, 48, 49, 50, 51, 52, 53, 54, 55, 56, 57, 58, 59, 60, 61, 62, 63, 64, 65, 66, 67, 68, 69] (by kernel_rfl) (by kernel_rfl) ?_; simp only [List.map_cons, List.map_nil, List.getD_cons_zero, List.getD_cons_succ])); (repeat (first | (refine Txt.off rfl ?_; simp only [Act.put, List.setIfInBounds_toArray, List.set_cons_zero, List.set_cons_succ]) | (refine Txt.take rfl rfl ?_; intro K hK; go_big_quiet_op; go_big_quiet_on) | (refine Txt.call rfl rfl Try.func67 (by kernel_rfl) rfl (spec_l1In.calls _ _ _ ?_ _ ?h) rfl ?_; (case h => exact zA); rintro e w1 ⟨rfl, hb⟩; replace hb := hb.below; replace hb := aM hb; have HB : Below w.heap.size w w1 := zB; refine ⟨_, rfl, zS, ?_⟩; simp only [Act.put, List.setIfInBounds_toArray, List.set_cons_zero, List.set_cons_succ]))); refine Txt.nil ?_); (try go_wp2_with (first | (go_at_call 67; refine (spec_l1In.calls _ _ _ ?_ _ ?h).mono ?_; (case h => exact zA); rintro e w1 ⟨rfl, hb⟩; replace hb := hb.below; replace hb := aM hb; have HB : Below w.heap.size w w1 := zB)))))
  go_loopg [5] k (fun kq v5 w' => ∃ (x5_0 : Int), v5 = .int .i64 x5_0 ∧ spec_AreValidEdges.l0 kq a0 l1 x5_0 = some r ∧ Below w.heap.size w w')
  case atStart => exact ⟨_, zR, zA, zB⟩
  case round =>
   clear h
   obtain ⟨x5_0, rfl, h, hb⟩ := hrel
   replace hb := aM hb
   have HB : Below w.heap.size w wr := zB
   rcases gk with _ | kk0
   exact absurd h (by simp [spec_AreValidEdges.l0])
   simp only [spec_AreValidEdges.l0] at h
   replace h := il h; rcases h with ⟨c1, c1a, h⟩ | ⟨c1, c1a, h⟩
   replace h := ie h; rcases h with ⟨c2, c2a, h⟩ | ⟨c2, c2a, h⟩
   replace h := bs h; obtain ⟨t104, B3, h⟩ := h
   replace h := ib h; rcases h with ⟨rfl, h⟩ | ⟨rfl, h⟩
   replace h := bs h; obtain ⟨t106, B5, h⟩ := h
   replace h := ib h; rcases h with ⟨rfl, h⟩ | ⟨rfl, h⟩
   replace h := ig h; rcases h with ⟨c7, c7a, h⟩ | ⟨c7, c7a, h⟩
   replace h := ie h; rcases h with ⟨c8, c8a, h⟩ | ⟨c8, c8a, h⟩
   replace h := il h; rcases h with ⟨c9, c9a, h⟩ | ⟨c9, c9a, h⟩
   replace h := il h; rcases h with ⟨c10, c10a, h⟩ | ⟨c10, c10a, h⟩
   obtain rfl := si h
   obtain ⟨ad102, e102, hx102_0, hx102_1⟩ := at_T89 hr1 (x5_0 : Int) aD aD
   have p102 := eq_true (aD : 0 ≤ (x5_0 : Int))
   have q102 := eq_true (aD : x5_0 < (l1.length : Int))
   cases e102
   replace hx102_0 := qa hx102_0
   replace hx102_1 := qa hx102_1
   obtain ⟨ad103, e103, hx103_0, hx103_1⟩ := at_T89 hr1 (x5_0 : Int) aD aD
   have p103 := eq_true (aD : 0 ≤ (x5_0 : Int))
   have q103 := eq_true (aD : x5_0 < (l1.length : Int))
   cases e103
   replace hx103_0 := qa hx103_0
   replace hx103_1 := qa hx103_1
   obtain ⟨ad105, e105, hx105_0, hx105_1⟩ := at_T89 hr1 (x5_0 : Int) aD aD
   have p105 := eq_true (aD : 0 ≤ (x5_0 : Int))
   have q105 := eq_true (aD : x5_0 < (l1.length : Int))
   cases e105
   replace hx105_0 := qa hx105_0
   replace hx105_1 := qa hx105_1
   obtain ⟨ad107, e107, hx107_0, hx107_1⟩ := at_T89 hr1 (x5_0 : Int) aD aD
   have p107 := eq_true (aD : 0 ≤ (x5_0 : Int))
   have q107 := eq_true (aD : x5_0 < (l1.length : Int))
   cases e107
   replace hx107_0 := qa hx107_0
   replace hx107_1 := qa hx107_1
   obtain ⟨ad108, e108, hx108_0, hx108_1⟩ := at_T89 hr1 ((wrap64 (x5_0 - 1)) : Int) aD aD
   have p108 := eq_true (aD : 0 ≤ ((wrap64 (x5_0 - 1)) : Int))
   have q108 := eq_true (aD : (wrap64 (x5_0 - 1)) < (l1.length : Int))
   cases e108
   replace hx108_0 := qa hx108_0
   replace hx108_1 := qa hx108_1
   rotate_left
   replace h := iq h; rcases h with ⟨c11, ⟨c11a, c11b⟩, h⟩ | ⟨c11, ⟨c11a, c11b⟩, h⟩
   replace h := ie h; rcases h with ⟨c12, c12a, h⟩ | ⟨c12, c12a, h⟩
   obtain rfl := si h
   obtain ⟨ad102, e102, hx102_0, hx102_1⟩ := at_T89 hr1 (x5_0 : Int) aD aD
   have p102 := eq_true (aD : 0 ≤ (x5_0 : Int))
   have q102 := eq_true (aD : x5_0 < (l1.length : Int))
   cases e102
   replace hx102_0 := qa hx102_0
   replace hx102_1 := qa hx102_1
   obtain ⟨ad103, e103, hx103_0, hx103_1⟩ := at_T89 hr1 (x5_0 : Int) aD aD
   have p103 := eq_true (aD : 0 ≤ (x5_0 : Int))
   have q103 := eq_true (aD : x5_0 < (l1.length : Int))
   cases e103
   replace hx103_0 := qa hx103_0
   replace hx103_1 := qa hx103_1
   obtain ⟨ad105, e105, hx105_0, hx105_1⟩ := at_T89 hr1 (x5_0 : Int) aD aD
   have p105 := eq_true (aD : 0 ≤ (x5_0 : Int))
   have q105 := eq_true (aD : x5_0 < (l1.length : Int))
   cases e105
   replace hx105_0 := qa hx105_0
   replace hx105_1 := qa hx105_1
   obtain ⟨ad107, e107, hx107_0, hx107_1⟩ := at_T89 hr1 (x5_0 : Int) aD aD
   have p107 := eq_true (aD : 0 ≤ (x5_0 : Int))
   have q107 := eq_true (aD : x5_0 < (l1.length : Int))
   cases e107
   replace hx107_0 := qa hx107_0
   replace hx107_1 := qa hx107_1
   obtain ⟨ad108, e108, hx108_0, hx108_1⟩ := at_T89 hr1 ((wrap64 (x5_0 - 1)) : Int) aD aD
   have p108 := eq_true (aD : 0 ≤ ((wrap64 (x5_0 - 1)) : Int))
   have q108 := eq_true (aD : (wrap64 (x5_0 - 1)) < (l1.length : Int))
   cases e108
   replace hx108_0 := qa hx108_0
   replace hx108_1 := qa hx108_1
   obtain ⟨ad109, e109, hx109_0, hx109_1⟩ := at_T89 hr1 (x5_0 : Int) aD aD
   have p109 := eq_true (aD : 0 ≤ (x5_0 : Int))
   have q109 := eq_true (aD : x5_0 < (l1.length : Int))
   cases e109
   replace hx109_0 := qa hx109_0
   replace hx109_1 := qa hx109_1
   obtain ⟨ad110, e110, hx110_0, hx110_1⟩ := at_T89 hr1 ((wrap64 (x5_0 - 1)) : Int) aD aD
   have p110 := eq_true (aD : 0 ≤ ((wrap64 (x5_0 - 1)) : Int))
   have q110 := eq_true (aD : (wrap64 (x5_0 - 1)) < (l1.length : Int))
   cases e110
   replace hx110_0 := qa hx110_0
   replace hx110_1 := qa hx110_1
   obtain ⟨ad111, e111, hx111_0, hx111_1⟩ := at_T89 hr1 (x5_0 : Int) aD aD
   have p111 := eq_true (aD : 0 ≤ (x5_0 : Int))
   have q111 := eq_true (aD : x5_0 < (l1.length : Int))
   cases e111
   replace hx111_0 := qa hx111_0
   replace hx111_1 := qa hx111_1
   obtain ⟨ad112, e112, hx112_0, hx112_1⟩ := at_T89 hr1 ((wrap64 (x5_0 - 1)) : Int) aD aD
   have p112 := eq_true (aD : 0 ≤ ((wrap64 (x5_0 - 1)) : Int))
   have q112 := eq_true (aD : (wrap64 (x5_0 - 1)) < (l1.length : Int))
   cases e112
   replace hx112_0 := qa hx112_0
   replace hx112_1 := qa hx112_1
   rotate_left
   obtain ⟨kf, hkf⟩ : ∃ kf, kf = kk0 := ⟨_, rfl⟩; rw [← hkf] at h
   obtain ⟨ad102, e102, hx102_0, hx102_1⟩ := at_T89 hr1 (x5_0 : Int) aD aD
   have p102 := eq_true (aD : 0 ≤ (x5_0 : Int))
   have q102 := eq_true (aD : x5_0 < (l1.length : Int))
   cases e102
   replace hx102_0 := qa hx102_0
   replace hx102_1 := qa hx102_1
   obtain ⟨ad103, e103, hx103_0, hx103_1⟩ := at_T89 hr1 (x5_0 : Int) aD aD
   have p103 := eq_true (aD : 0 ≤ (x5_0 : Int))
   have q103 := eq_true (aD : x5_0 < (l1.length : Int))
   cases e103
   replace hx103_0 := qa hx103_0
   replace hx103_1 := qa hx103_1
   obtain ⟨ad105, e105, hx105_0, hx105_1⟩ := at_T89 hr1 (x5_0 : Int) aD aD
   have p105 := eq_true (aD : 0 ≤ (x5_0 : Int))
   have q105 := eq_true (aD : x5_0 < (l1.length : Int))
   cases e105
   replace hx105_0 := qa hx105_0
   replace hx105_1 := qa hx105_1
   obtain ⟨ad107, e107, hx107_0, hx107_1⟩ := at_T89 hr1 (x5_0 : Int) aD aD
   have p107 := eq_true (aD : 0 ≤ (x5_0 : Int))
   have q107 := eq_true (aD : x5_0 < (l1.length : Int))
   cases e107
   replace hx107_0 := qa hx107_0
   replace hx107_1 := qa hx107_1
   obtain ⟨ad108, e108, hx108_0, hx108_1⟩ := at_T89 hr1 ((wrap64 (x5_0 - 1)) : Int) aD aD
   have p108 := eq_true (aD : 0 ≤ ((wrap64 (x5_0 - 1)) : Int))
   have q108 := eq_true (aD : (wrap64 (x5_0 - 1)) < (l1.length : Int))
   cases e108
   replace hx108_0 := qa hx108_0
   replace hx108_1 := qa hx108_1
   obtain ⟨ad109, e109, hx109_0, hx109_1⟩ := at_T89 hr1 (x5_0 : Int) aD aD
   have p109 := eq_true (aD : 0 ≤ (x5_0 : Int))
   have q109 := eq_true (aD : x5_0 < (l1.length : Int))
   cases e109
   replace hx109_0 := qa hx109_0
   replace hx109_1 := qa hx109_1
   obtain ⟨ad110, e110, hx110_0, hx110_1⟩ := at_T89 hr1 ((wrap64 (x5_0 - 1)) : Int) aD aD
   have p110 := eq_true (aD : 0 ≤ ((wrap64 (x5_0 - 1)) : Int))
   have q110 := eq_true (aD : (wrap64 (x5_0 - 1)) < (l1.length : Int))
   cases e110
   replace hx110_0 := qa hx110_0
   replace hx110_1 := qa hx110_1
   obtain ⟨ad111, e111, hx111_0, hx111_1⟩ := at_T89 hr1 (x5_0 : Int) aD aD
   have p111 := eq_true (aD : 0 ≤ (x5_0 : Int))
   have q111 := eq_true (aD : x5_0 < (l1.length : Int))
   cases e111
   replace hx111_0 := qa hx111_0
   replace hx111_1 := qa hx111_1
   obtain ⟨ad112, e112, hx112_0, hx112_1⟩ := at_T89 hr1 ((wrap64 (x5_0 - 1)) : Int) aD aD
   have p112 := eq_true (aD : 0 ≤ ((wrap64 (x5_0 - 1)) : Int))
   have q112 := eq_true (aD : (wrap64 (x5_0 - 1)) < (l1.length : Int))
   cases e112
   replace hx112_0 := qa hx112_0
   replace hx112_1 := qa hx112_1
   rotate_left
   obtain ⟨kf, hkf⟩ : ∃ kf, kf = kk0 := ⟨_, rfl⟩; rw [← hkf] at h
   obtain ⟨ad102, e102, hx102_0, hx102_1⟩ := at_T89 hr1 (x5_0 : Int) aD aD
   have p102 := eq_true (aD : 0 ≤ (x5_0 : Int))
   have q102 := eq_true (aD : x5_0 < (l1.length : Int))
   cases e102
   replace hx102_0 := qa hx102_0
   replace hx102_1 := qa hx102_1
   obtain ⟨ad103, e103, hx103_0, hx103_1⟩ := at_T89 hr1 (x5_0 : Int) aD aD
   have p103 := eq_true (aD : 0 ≤ (x5_0 : Int))
   have q103 := eq_true (aD : x5_0 < (l1.length : Int))
   cases e103
   replace hx103_0 := qa hx103_0
   replace hx103_1 := qa hx103_1
   obtain ⟨ad105, e105, hx105_0, hx105_1⟩ := at_T89 hr1 (x5_0 : Int) aD aD
   have p105 := eq_true (aD : 0 ≤ (x5_0 : Int))
   have q105 := eq_true (aD : x5_0 < (l1.length : Int))
   cases e105
   replace hx105_0 := qa hx105_0
   replace hx105_1 := qa hx105_1
   obtain ⟨ad107, e107, hx107_0, hx107_1⟩ := at_T89 hr1 (x5_0 : Int) aD aD
   have p107 := eq_true (aD : 0 ≤ (x5_0 : Int))
   have q107 := eq_true (aD : x5_0 < (l1.length : Int))
   cases e107
   replace hx107_0 := qa hx107_0
   replace hx107_1 := qa hx107_1
   obtain ⟨ad108, e108, hx108_0, hx108_1⟩ := at_T89 hr1 ((wrap64 (x5_0 - 1)) : Int) aD aD
   have p108 := eq_true (aD : 0 ≤ ((wrap64 (x5_0 - 1)) : Int))
   have q108 := eq_true (aD : (wrap64 (x5_0 - 1)) < (l1.length : Int))
   cases e108
   replace hx108_0 := qa hx108_0
   replace hx108_1 := qa hx108_1
   obtain ⟨ad109, e109, hx109_0, hx109_1⟩ := at_T89 hr1 (x5_0 : Int) aD aD
   have p109 := eq_true (aD : 0 ≤ (x5_0 : Int))
   have q109 := eq_true (aD : x5_0 < (l1.length : Int))
   cases e109
   replace hx109_0 := qa hx109_0
   replace hx109_1 := qa hx109_1
   obtain ⟨ad110, e110, hx110_0, hx110_1⟩ := at_T89 hr1 ((wrap64 (x5_0 - 1)) : Int) aD aD
   have p110 := eq_true (aD : 0 ≤ ((wrap64 (x5_0 - 1)) : Int))
   have q110 := eq_true (aD : (wrap64 (x5_0 - 1)) < (l1.length : Int))
   cases e110
   replace hx110_0 := qa hx110_0
   replace hx110_1 := qa hx110_1
   rotate_left
   exact absurd h (by simp)
   exact absurd h (by simp)
   obtain ⟨kf, hkf⟩ : ∃ kf, kf = kk0 := ⟨_, rfl⟩; rw [← hkf] at h
   obtain ⟨ad102, e102, hx102_0, hx102_1⟩ := at_T89 hr1 (x5_0 : Int) aD aD
   have p102 := eq_true (aD : 0 ≤ (x5_0 : Int))
   have q102 := eq_true (aD : x5_0 < (l1.length : Int))
   cases e102
   replace hx102_0 := qa hx102_0
   replace hx102_1 := qa hx102_1
   obtain ⟨ad103, e103, hx103_0, hx103_1⟩ := at_T89 hr1 (x5_0 : Int) aD aD
   have p103 := eq_true (aD : 0 ≤ (x5_0 : Int))
   have q103 := eq_true (aD : x5_0 < (l1.length : Int))
   cases e103
   replace hx103_0 := qa hx103_0
   replace hx103_1 := qa hx103_1
   obtain ⟨ad105, e105, hx105_0, hx105_1⟩ := at_T89 hr1 (x5_0 : Int) aD aD
   have p105 := eq_true (aD : 0 ≤ (x5_0 : Int))
   have q105 := eq_true (aD : x5_0 < (l1.length : Int))
   cases e105
   replace hx105_0 := qa hx105_0
   replace hx105_1 := qa hx105_1
   rotate_left
   obtain rfl := si h
   obtain ⟨ad102, e102, hx102_0, hx102_1⟩ := at_T89 hr1 (x5_0 : Int) aD aD
   have p102 := eq_true (aD : 0 ≤ (x5_0 : Int))
   have q102 := eq_true (aD : x5_0 < (l1.length : Int))
   cases e102
   replace hx102_0 := qa hx102_0
   replace hx102_1 := qa hx102_1
   obtain ⟨ad103, e103, hx103_0, hx103_1⟩ := at_T89 hr1 (x5_0 : Int) aD aD
   have p103 := eq_true (aD : 0 ≤ (x5_0 : Int))
   have q103 := eq_true (aD : x5_0 < (l1.length : Int))
   cases e103
   replace hx103_0 := qa hx103_0
   replace hx103_1 := qa hx103_1
   obtain ⟨ad105, e105, hx105_0, hx105_1⟩ := at_T89 hr1 (x5_0 : Int) aD aD
   have p105 := eq_true (aD : 0 ≤ (x5_0 : Int))
   have q105 := eq_true (aD : x5_0 < (l1.length : Int))
   cases e105
   replace hx105_0 := qa hx105_0
   replace hx105_1 := qa hx105_1
   rotate_left
   obtain rfl := si h
   obtain ⟨ad102, e102, hx102_0, hx102_1⟩ := at_T89 hr1 (x5_0 : Int) aD aD
   have p102 := eq_true (aD : 0 ≤ (x5_0 : Int))
   have q102 := eq_true (aD : x5_0 < (l1.length : Int))
   cases e102
   replace hx102_0 := qa hx102_0
   replace hx102_1 := qa hx102_1
   obtain ⟨ad103, e103, hx103_0, hx103_1⟩ := at_T89 hr1 (x5_0 : Int) aD aD
   have p103 := eq_true (aD : 0 ≤ (x5_0 : Int))
   have q103 := eq_true (aD : x5_0 < (l1.length : Int))
   cases e103
   replace hx103_0 := qa hx103_0
   replace hx103_1 := qa hx103_1
   rotate_left
   exact absurd h (by simp)
   replace h := bs h; obtain ⟨t101, B13, h⟩ := h
   obtain rfl := si h
   rotate_left
   all_goals (go_wp2_with (first | (go_at_call 67; refine (spec_l1In.calls _ _ _ ?_ _ ?h).mono ?_; (case h => exact zA); rintro e w1 ⟨rfl, hb⟩; replace hb := hb.below; replace hb := aM hb; have HB : Below w.heap.size w w1 := zB)); (repeat ((refine nw (w0 := w) zB ?_; intro W1 HB hb hd; (first | (refine Txt.rg (id := 4) [0, 1, 2, 3, 4, 5, 6, 7, 8, 9, 10, 11, 12, 13, 14, 15, 16, 17, 18, 19, 20, 21, 22, 23, 24, 25, 26, 27, 28, 29, 30, 31, 32, 33, 34, 35, 36, 37, 38, 39, 40, 41, 42, 43, 44, 45, 46, 47, 48, 49, 50, 51, 52, 53, 54, 55, 56, 57, 58, 59, 60, 61, 62, 63, 64, 65, 66, 67, 68, 69] (by kernel_rfl) (by kernel_rfl) ?_; simp only [List.map_cons, List.map_nil, List.getD_cons_zero, List.getD_cons_succ])); (repeat (first | (refine Txt.off rfl ?_; simp only [Act.put, List.setIfInBounds_toArray, List.set_cons_zero, List.set_cons_succ]) | (refine Txt.take rfl rfl ?_; intro K hK; go_big_quiet_op; go_big_quiet_on) | (refine Txt.call rfl rfl Try.func67 (by kernel_rfl) rfl (spec_l1In.calls _ _ _ ?_ _ ?h) rfl ?_; (case h => exact zA); rintro e w1 ⟨rfl, hb⟩; replace hb := hb.below; replace hb := aM hb; have HB : Below w.heap.size w w1 := zB; refine ⟨_, rfl, zS, ?_⟩; simp only [Act.put, List.setIfInBounds_toArray, List.set_cons_zero, List.set_cons_succ]))); refine Txt.nil ?_); (try go_wp2_with (first | (go_at_call 67; refine (spec_l1In.calls _ _ _ ?_ _ ?h).mono ?_; (case h => exact zA); rintro e w1 ⟨rfl, hb⟩; replace hb := hb.below; replace hb := aM hb; have HB : Below w.heap.size w w1 := zB))))); first | (go_ret; exact zE zB) | (go_roundg kf; (case measure => omega); (case rel => exact ⟨_, zR, zA, zB⟩)))

/-! ### spec_l8Set: function 73 -/
def spec_l8Set.l0 : Nat → Int → List Int → Int → Option (Bool)
 | 0, _, _, _ => none
 | k + 1, x0, x1, x5 => if x5 < (x1.length : Int) then (if 0 ≤ x5 then ((spec_l1In.f (rd x1 x5) 0 (wrap64 (x0 - 1))).bind fun t114 => (if t114 = true then (if x5 > 0 then (if 0 ≤ (wrap64 (x5 - 1)) then (if (wrap64 (x5 - 1)) < (x1.length : Int) then (if (rd x1 x5) ≤ (rd x1 (wrap64 (x5 - 1))) then (some false) else (spec_l8Set.l0 k x0 x1 (wrap64 (x5 + 1)))) else (none)) else (none)) else (spec_l8Set.l0 k x0 x1 (wrap64 (x5 + 1)))) else (some false))) else (none)) else (some true)
def spec_l8Set.f (k : Nat) (a0 : Int) (l1 : List Int) : Option (Bool) := spec_l8Set.l0 k a0 l1 0
set_option maxHeartbeats 8000000 in
set_option maxRecDepth 100000 in
theorem spec_l8Set.calls (k : Nat) (a0 : Int) (A1 : Option Addr) (c1 : Nat) (l1 : List Int) (r : Bool) (w : World) (hr1 : Kd.C (Kd.int .i64) w A1 l1.length l1) (hc1 : l1.length ≤ c1) (h : spec_l8Set.f k a0 l1 = some r) :
  Calls Try.prog 73 #[.int .i64 a0, .slice A1 l1.length c1] w fun e w' => e = .returned (.bool r) ∧ Drawn0 w w' := by
 have rg_ := @bcl w
 have rd_ := @bdr w
 unfold spec_l8Set.f at h
 ·go_enter Try.func73, Try.ntmps73
  go_wp2
  (repeat ((refine nw (w0 := w) zB ?_; intro W1 HB hb hd; (first | (refine Txt.rg (id := 4) [0, 1, 2, 3, 4, 5, 6, 7, 8, 9, 10, 11, 12, 13, 14, 15, 16, 17, 18, 19, 20, 21, 22, 23] (by kernel_rfl) (by kernel_rfl) ?_; simp only [List.map_cons, List.map_nil, List.getD_cons_zero, List.getD_cons_succ])); (repeat (first | (refine Txt.off rfl ?_; simp only [Act.put, List.setIfInBounds_toArray, List.set_cons_zero, List.set_cons_succ]) | (refine Txt.take rfl rfl ?_; intro K hK; go_big_quiet_op; go_big_quiet_on) | (refine Txt.call rfl rfl Try.func67 (by kernel_rfl) rfl (spec_l1In.calls _ _ _ ?_ _ ?h) rfl ?_; (case h => exact zA); rintro e w1 ⟨rfl, hb⟩; have hd := hb; replace hb := hb.below; replace hb := aM hb; have HB : Below w.heap.size w w1 := zB; refine ⟨_, rfl, zS, ?_⟩; simp only [Act.put, List.setIfInBounds_toArray, List.set_cons_zero, List.set_cons_succ]))); refine Txt.nil ?_); (try go_wp2)))
  go_loopg [5] k (fun kq v5 w' => ∃ (x5_0 : Int), v5 = .int .i64 x5_0 ∧ spec_l8Set.l0 kq a0 l1 x5_0 = some r ∧ Drawn0 w w')
  case atStart => exact ⟨_, zR, zA, zD⟩
  case round =>
   clear h
   obtain ⟨x5_0, rfl, h, hb⟩ := hrel
   have hd := hb
   replace hb := hb.below
   replace hb := aM hb
   have HB : Below w.heap.size w wr := zB
   rcases gk with _ | kk0
   exact absurd h (by simp [spec_l8Set.l0])
   simp only [spec_l8Set.l0] at h
   replace h := il h; rcases h with ⟨c1, c1a, h⟩ | ⟨c1, c1a, h⟩
   replace h := ie h; rcases h with ⟨c2, c2a, h⟩ | ⟨c2, c2a, h⟩
   replace h := bs h; obtain ⟨t114, B3, h⟩ := h
   replace h := ib h; rcases h with ⟨rfl, h⟩ | ⟨rfl, h⟩
   replace h := ig h; rcases h with ⟨c5, c5a, h⟩ | ⟨c5, c5a, h⟩
   replace h := ie h; rcases h with ⟨c6, c6a, h⟩ | ⟨c6, c6a, h⟩
   replace h := il h; rcases h with ⟨c7, c7a, h⟩ | ⟨c7, c7a, h⟩
   replace h := ie h; rcases h with ⟨c8, c8a, h⟩ | ⟨c8, c8a, h⟩
   obtain rfl := si h
   obtain ⟨ad113, e113, hx113_0⟩ := Kd.at_int hr1 (x5_0 : Int) aD aD
   have p113 := eq_true (aD : 0 ≤ (x5_0 : Int))
   have q113 := eq_true (aD : x5_0 < (l1.length : Int))
   cases e113
   replace hx113_0 := qa hx113_0
   obtain ⟨ad115, e115, hx115_0⟩ := Kd.at_int hr1 (x5_0 : Int) aD aD
   have p115 := eq_true (aD : 0 ≤ (x5_0 : Int))
   have q115 := eq_true (aD : x5_0 < (l1.length : Int))
   cases e115
   replace hx115_0 := qa hx115_0
   obtain ⟨ad116, e116, hx116_0⟩ := Kd.at_int hr1 ((wrap64 (x5_0 - 1)) : Int) aD aD
   have p116 := eq_true (aD : 0 ≤ ((wrap64 (x5_0 - 1)) : Int))
   have q116 := eq_true (aD : (wrap64 (x5_0 - 1)) < (l1.length : Int))
   cases e116
   replace hx116_0 := qa hx116_0
   rotate_left
   obtain ⟨kf, hkf⟩ : ∃ kf, kf = kk0 := ⟨_, rfl⟩; rw [← hkf] at h
   obtain ⟨ad113, e113, hx113_0⟩ := Kd.at_int hr1 (x5_0 : Int) aD aD
   have p113 := eq_true (aD : 0 ≤ (x5_0 : Int))
   have q113 := eq_true (aD : x5_0 < (l1.length : Int))
   cases e113
   replace hx113_0 := qa hx113_0
   obtain ⟨ad115, e115, hx115_0⟩ := Kd.at_int hr1 (x5_0 : Int) aD aD
   have p115 := eq_true (aD : 0 ≤ (x5_0 : Int))
   have q115 := eq_true (aD : x5_0 < (l1.length : Int))
   cases e115
   replace hx115_0 := qa hx115_0
   obtain ⟨ad116, e116, hx116_0⟩ := Kd.at_int hr1 ((wrap64 (x5_0 - 1)) : Int) aD aD
   have p116 := eq_true (aD : 0 ≤ ((wrap64 (x5_0 - 1)) : Int))
   have q116 := eq_true (aD : (wrap64 (x5_0 - 1)) < (l1.length : Int))
   cases e116
   replace hx116_0 := qa hx116_0
   rotate_left
   exact absurd h (by simp)
   exact absurd h (by simp)
   obtain ⟨kf, hkf⟩ : ∃ kf, kf = kk0 := ⟨_, rfl⟩; rw [← hkf] at h
   obtain ⟨ad113, e113, hx113_0⟩ := Kd.at_int hr1 (x5_0 : Int) aD aD
   have p113 := eq_true (aD : 0 ≤ (x5_0 : Int))
   have q113 := eq_true (aD : x5_0 < (l1.length : Int))
   cases e113
   replace hx113_0 := qa hx113_0
   rotate_left
   obtain rfl := si h
   obtain ⟨ad113, e113, hx113_0⟩ := Kd.at_int hr1 (x5_0 : Int) aD aD
   have p113 := eq_true (aD : 0 ≤ (x5_0 : Int))
   have q113 := eq_true (aD : x5_0 < (l1.length : Int))
   cases e113
   replace hx113_0 := qa hx113_0
   rotate_left
   exact absurd h (by simp)
   obtain rfl := si h
   rotate_left
   all_goals (go_wp2; (repeat ((refine nw (w0 := w) zB ?_; intro W1 HB hb hd; (first | (refine Txt.rg (id := 4) [0, 1, 2, 3, 4, 5, 6, 7, 8, 9, 10, 11, 12, 13, 14, 15, 16, 17, 18, 19, 20, 21, 22, 23] (by kernel_rfl) (by kernel_rfl) ?_; simp only [List.map_cons, List.map_nil, List.getD_cons_zero, List.getD_cons_succ])); (repeat (first | (refine Txt.off rfl ?_; simp only [Act.put, List.setIfInBounds_toArray, List.set_cons_zero, List.set_cons_succ]) | (refine Txt.take rfl rfl ?_; intro K hK; go_big_quiet_op; go_big_quiet_on) | (refine Txt.call rfl rfl Try.func67 (by kernel_rfl) rfl (spec_l1In.calls _ _ _ ?_ _ ?h) rfl ?_; (case h => exact zA); rintro e w1 ⟨rfl, hb⟩; have hd := hb; replace hb := hb.below; replace hb := aM hb; have HB : Below w.heap.size w w1 := zB; refine ⟨_, rfl, zS, ?_⟩; simp only [Act.put, List.setIfInBounds_toArray, List.set_cons_zero, List.set_cons_succ]))); refine Txt.nil ?_); (try go_wp2))); first | (go_ret; exact zE zD) | (go_roundg kf; (case measure => omega); (case rel => exact ⟨_, zR, zA, zD⟩)))

/-! ### spec_l7Has: function 102 -/
def spec_l7Has.l0 : Nat → List Int → Int → Int → Option (Bool)
 | 0, _, _, _ => none
 | k + 1, x0, x1, x5 => if x5 < (x0.length : Int) then (if 0 ≤ x5 then (if (rd x0 x5) = x1 then (some true) else (spec_l7Has.l0 k x0 x1 (wrap64 (x5 + 1)))) else (none)) else (some false)
def spec_l7Has.f (k : Nat) (l0 : List Int) (a1 : Int) : Option (Bool) := spec_l7Has.l0 k l0 a1 0
set_option maxHeartbeats 8000000 in
set_option maxRecDepth 100000 in
theorem spec_l7Has.calls (k : Nat) (A0 : Option Addr) (c0 : Nat) (l0 : List Int) (a1 : Int) (r : Bool) (w : World) (hr0 : Kd.C (Kd.int .i64) w A0 l0.length l0) (hc0 : l0.length ≤ c0) (h : spec_l7Has.f k l0 a1 = some r) :
  Calls Try.prog 102 #[.slice A0 l0.length c0, .int .i64 a1] w fun e w' => e = .returned (.bool r) ∧ Drawn0 w w' := by
 unfold spec_l7Has.f at h
 ·go_enter Try.func102, Try.ntmps102
  go_wp2
  go_loopg [5] k (fun kq v5 w' => ∃ (x5_0 : Int), v5 = .int .i64 x5_0 ∧ spec_l7Has.l0 kq l0 a1 x5_0 = some r ∧ Drawn0 w w')
  case atStart => exact ⟨_, zR, zA, zD⟩
  case round =>
   clear h
   obtain ⟨x5_0, rfl, h, hb⟩ := hrel
   have hd := hb
   replace hb := hb.below
   replace hb := aM hb
   have HB : Below w.heap.size w wr := zB
   rcases gk with _ | kk0
   exact absurd h (by simp [spec_l7Has.l0])
   simp only [spec_l7Has.l0] at h
   replace h := il h; rcases h with ⟨c1, c1a, h⟩ | ⟨c1, c1a, h⟩
   replace h := ie h; rcases h with ⟨c2, c2a, h⟩ | ⟨c2, c2a, h⟩
   replace h := iq h; rcases h with ⟨c3, ⟨c3a, c3b⟩, h⟩ | ⟨c3, ⟨c3a, c3b⟩, h⟩
   obtain rfl := si h
   obtain ⟨ad117, e117, hx117_0⟩ := Kd.at_int hr0 (x5_0 : Int) aD aD
   have p117 := eq_true (aD : 0 ≤ (x5_0 : Int))
   have q117 := eq_true (aD : x5_0 < (l0.length : Int))
   cases e117
   replace hx117_0 := qa hx117_0
   rotate_left
   obtain ⟨kf, hkf⟩ : ∃ kf, kf = kk0 := ⟨_, rfl⟩; rw [← hkf] at h
   obtain ⟨ad117, e117, hx117_0⟩ := Kd.at_int hr0 (x5_0 : Int) aD aD
   have p117 := eq_true (aD : 0 ≤ (x5_0 : Int))
   have q117 := eq_true (aD : x5_0 < (l0.length : Int))
   cases e117
   replace hx117_0 := qa hx117_0
   rotate_left
   exact absurd h (by simp)
   obtain rfl := si h
   rotate_left
   all_goals (go_wp2; first | (go_ret; exact zE zD) | (go_roundg kf; (case measure => omega); (case rel => exact ⟨_, zR, zA, zD⟩)))

/-! ### spec_IsIndependent: function 74 -/
def spec_IsIndependent.l0 : Nat → List (S89) → List Int → Int → Option (Bool)
 | 0, _, _, _ => none
 | k + 1, x0, x1, x5 => if x5 < (x0.length : Int) then (if 0 ≤ x5 then ((spec_l7Has.f k x1 ((rd_T89 x0 x5).f0)).bind fun t119 => (if t119 = true then ((spec_l7Has.f k x1 ((rd_T89 x0 x5).f1)).bind fun t121 => (if t121 = true then (some false) else (spec_IsIndependent.l0 k x0 x1 (wrap64 (x5 + 1))))) else (spec_IsIndependent.l0 k x0 x1 (wrap64 (x5 + 1))))) else (none)) else (some true)
def spec_IsIndependent.f (k : Nat) (l0 : List (S89)) (l1 : List Int) : Option (Bool) := spec_IsIndependent.l0 k l0 l1 0
set_option maxHeartbeats 8000000 in
set_option maxRecDepth 100000 in
theorem spec_IsIndependent.calls (k : Nat) (A0 : Option Addr) (c0 : Nat) (l0 : List (S89)) (A1 : Option Addr) (c1 : Nat) (l1 : List Int) (r : Bool) (w : World) (hr0 : Kd.C k89 w A0 l0.length l0) (hc0 : l0.length ≤ c0) (hr1 : Kd.C (Kd.int .i64) w A1 l1.length l1) (hc1 : l1.length ≤ c1) (h : spec_IsIndependent.f k l0 l1 = some r) :
  Calls Try.prog 74 #[.slice A0 l0.length c0, .slice A1 l1.length c1] w fun e w' => e = .returned (.bool r) ∧ Drawn0 w w' := by
 unfold spec_IsIndependent.f at h
 ·go_enter Try.func74, Try.ntmps74
  go_wp2_with (first | (go_at_call 102; refine (spec_l7Has.calls ?_ _ _ _ _ ?_ _ ?_ ?_ ?h).mono ?_; (case h => exact zA); (iterate 2 (first | exact zC | exact zA)); rintro e w1 ⟨rfl, hb⟩; have hd := hb; replace hb := hb.below; replace hb := aM hb; have HB : Below w.heap.size w w1 := zB))
  go_loopg [5] k (fun kq v5 w' => ∃ (x5_0 : Int), v5 = .int .i64 x5_0 ∧ spec_IsIndependent.l0 kq l0 l1 x5_0 = some r ∧ Drawn0 w w')
  case atStart => exact ⟨_, zR, zA, zD⟩
  case round =>
   clear h
   obtain ⟨x5_0, rfl, h, hb⟩ := hrel
   have hd := hb
   replace hb := hb.below
   replace hb := aM hb
   have HB : Below w.heap.size w wr := zB
   rcases gk with _ | kk0
   exact absurd h (by simp [spec_IsIndependent.l0])
   simp only [spec_IsIndependent.l0] at h
   replace h := il h; rcases h with ⟨c1, c1a, h⟩ | ⟨c1, c1a, h⟩
   replace h := ie h; rcases h with ⟨c2, c2a, h⟩ | ⟨c2, c2a, h⟩
   replace h := bs h; obtain ⟨t119, B3, h⟩ := h
   replace h := ib h; rcases h with ⟨rfl, h⟩ | ⟨rfl, h⟩
   replace h := bs h; obtain ⟨t121, B5, h⟩ := h
   replace h := ib h; rcases h with ⟨rfl, h⟩ | ⟨rfl, h⟩
   obtain rfl := si h
   obtain ⟨ad118, e118, hx118_0, hx118_1⟩ := at_T89 hr0 (x5_0 : Int) aD aD
   have p118 := eq_true (aD : 0 ≤ (x5_0 : Int))
   have q118 := eq_true (aD : x5_0 < (l0.length : Int))
   cases e118
   replace hx118_0 := qa hx118_0
   replace hx118_1 := qa hx118_1
   obtain ⟨ad120, e120, hx120_0, hx120_1⟩ := at_T89 hr0 (x5_0 : Int) aD aD
   have p120 := eq_true (aD : 0 ≤ (x5_0 : Int))
   have q120 := eq_true (aD : x5_0 < (l0.length : Int))
   cases e120
   replace hx120_0 := qa hx120_0
   replace hx120_1 := qa hx120_1
   rotate_left
   obtain ⟨kf, hkf⟩ : ∃ kf, kf = kk0 := ⟨_, rfl⟩; rw [← hkf] at h
   obtain ⟨ad118, e118, hx118_0, hx118_1⟩ := at_T89 hr0 (x5_0 : Int) aD aD
   have p118 := eq_true (aD : 0 ≤ (x5_0 : Int))
   have q118 := eq_true (aD : x5_0 < (l0.length : Int))
   cases e118
   replace hx118_0 := qa hx118_0
   replace hx118_1 := qa hx118_1
   obtain ⟨ad120, e120, hx120_0, hx120_1⟩ := at_T89 hr0 (x5_0 : Int) aD aD
   have p120 := eq_true (aD : 0 ≤ (x5_0 : Int))
   have q120 := eq_true (aD : x5_0 < (l0.length : Int))
   cases e120
   replace hx120_0 := qa hx120_0
   replace hx120_1 := qa hx120_1
   rotate_left
   obtain ⟨kf, hkf⟩ : ∃ kf, kf = kk0 := ⟨_, rfl⟩; rw [← hkf] at h
   obtain ⟨ad118, e118, hx118_0, hx118_1⟩ := at_T89 hr0 (x5_0 : Int) aD aD
   have p118 := eq_true (aD : 0 ≤ (x5_0 : Int))
   have q118 := eq_true (aD : x5_0 < (l0.length : Int))
   cases e118
   replace hx118_0 := qa hx118_0
   replace hx118_1 := qa hx118_1
   rotate_left
   exact absurd h (by simp)
   obtain rfl := si h
   rotate_left
   all_goals (go_wp2_with (first | (go_at_call 102; refine (spec_l7Has.calls ?_ _ _ _ _ ?_ _ ?_ ?_ ?h).mono ?_; (case h => exact zA); (iterate 2 (first | exact zC | exact zA)); rintro e w1 ⟨rfl, hb⟩; have hd := hb; replace hb := hb.below; replace hb := aM hb; have HB : Below w.heap.size w w1 := zB)); first | (go_ret; exact zE zD) | (go_roundg kf; (case measure => omega); (case rel => exact ⟨_, zR, zA, zD⟩)))

/-! ### spec_l8Fits: function 75 -/
def spec_l8Fits.f (k : Nat) (l0 : List (S89)) (l1 : List Int) (a2 : Int) : Option (Bool) := (spec_l7Has.f k l1 a2).bind fun t122 => (if t122 = true then (some false) else ((some (([] : List Int) : List Int)).bind fun y123 => (if y123.length + l1.length < 17592186044416 then ((some (y123 ++ l1 : List Int)).bind fun y126 => (if y126.length < 17592186044416 then ((spec_IsIndependent.f k l0 (y126 ++ [a2])).bind fun t132 => (some t132)) else (none))) else (none))))
set_option maxHeartbeats 8000000 in
set_option maxRecDepth 100000 in
theorem spec_l8Fits.calls (k : Nat) (A0 : Option Addr) (c0 : Nat) (l0 : List (S89)) (A1 : Option Addr) (c1 : Nat) (l1 : List Int) (a2 : Int) (r : Bool) (w : World) (hr0 : Kd.C k89 w A0 l0.length l0) (hc0 : l0.length ≤ c0) (hr1 : Kd.C (Kd.int .i64) w A1 l1.length l1) (hc1 : l1.length ≤ c1) (h : spec_l8Fits.f k l0 l1 a2 = some r) :
  Calls Try.prog 75 #[.slice A0 l0.length c0, .slice A1 l1.length c1, .int .i64 a2] w fun e w' => e = .returned (.bool r) ∧ Below w.heap.size w w' := by
 have HR0 := aM hr0
 have HC0 := aM hc0
 clear hr0 hc0
 have HR1 := aM hr1
 have HC1 := aM hc1
 clear hr1 hc1
 have HB := aM (Below.refl w.heap.size w)
 have H : ((spec_l7Has.f k l1 a2).bind fun t122 => (if t122 = true then (some false) else ((some (([] : List Int) : List Int)).bind fun y123 => (if y123.length + l1.length < 17592186044416 then ((some (y123 ++ l1 : List Int)).bind fun y126 => (if y126.length < 17592186044416 then ((spec_IsIndependent.f k l0 (y126 ++ [a2])).bind fun t132 => (some t132)) else (none))) else (none))))) = some r := h
 clear h
 replace H := Option.bind_eq_some_iff.mp H
 obtain ⟨t122, A40, H⟩ := H
 replace H : (if t122 = true then (some false) else ((some (([] : List Int) : List Int)).bind fun y123 => (if y123.length + l1.length < 17592186044416 then ((some (y123 ++ l1 : List Int)).bind fun y126 => (if y126.length < 17592186044416 then ((spec_IsIndependent.f k l0 (y126 ++ [a2])).bind fun t132 => (some t132)) else (none))) else (none)))) = some r := H
 have A4 := aM A40
 clear A40
 by_cases c5 : t122 = true
 ·subst c5
  have H1 : (some false) = some r := by rw [if_pos rfl] at H; exact H
  clear H
  have H := H1
  clear H1
  obtain rfl := Option.some.inj H
  go_enter Try.func75, Try.ntmps75
  go_wp2_with (first | ((with_reducible refine gate_callee (f := 102) rfl ?_); refine goesL_ (some 9) rfl rfl Try.func102 (by kernel_rfl) rfl #[.slice A1 l1.length c1, .int .i64 a2] rfl (by (try simp only [List.map_toArray, List.map_cons, List.map_nil]); first | done | rfl | (simp only [List.length_drop, List.length_take]; rfl)) ?_; (with_reducible refine (spec_l7Has.calls k _ _ l1 a2 true _ ?side1 ?side2 A4.out).mono ?_); (case side1 => repeat (first | exact HR1.out | (with_reducible refine Kd.C_alloc ?_ _) | (with_reducible refine Kd.C_drewN ?_ _) | (with_reducible refine Kd.C_drew ?_))); (case side2 => exact HC1.out); rintro e w' ⟨rfl, ⟨nd, rfl⟩⟩; refine ⟨_, rfl, ?_⟩))
  go_ret
  exact ⟨by first | rfl | (simp [errW_none, errW_some] <;> rfl) | (simp [*, errW_none, errW_some] <;> rfl), by repeat (first | (with_reducible first | exact HB.out | apply below_alloc | apply pw_below_drewN | apply below_drew1) | exact HB.out)⟩
 ·replace c5 := Bool.eq_false_iff.mpr c5
  subst c5
  have H1 : ((some (([] : List Int) : List Int)).bind fun y123 => (if y123.length + l1.length < 17592186044416 then ((some (y123 ++ l1 : List Int)).bind fun y126 => (if y126.length < 17592186044416 then ((spec_IsIndependent.f k l0 (y126 ++ [a2])).bind fun t132 => (some t132)) else (none))) else (none))) = some r := by rw [if_neg (show ¬ (false = true) by decide)] at H; exact H
  clear H
  have H := H1
  clear H1
  obtain ⟨y123, hy123⟩ : ∃ y_ : List Int, y_ = (([] : List Int)) := ⟨_, rfl⟩
  replace H : (if y123.length + l1.length < 17592186044416 then ((some (y123 ++ l1 : List Int)).bind fun y126 => (if y126.length < 17592186044416 then ((spec_IsIndependent.f k l0 (y126 ++ [a2])).bind fun t132 => (some t132)) else (none))) else (none)) = some r := by first | (rw [hy123]; with_reducible exact H) | (have H2_ := (Option.bind_some _ _).symm.trans H; rw [hy123]; with_reducible exact H2_) | (have H2_ := (Option.bind_some _ _).symm.trans H; with_reducible exact H2_) | with_reducible exact H | (rw [hy123]; exact H) | exact H
  have Ny123 := aM hy123
  clear hy123
  by_cases c6 : y123.length + l1.length < 17592186044416
  ·rw [if_pos c6] at H
   have LMc6 := aM c6
   clear c6
   obtain ⟨y126, hy126⟩ : ∃ y_ : List Int, y_ = (y123 ++ l1) := ⟨_, rfl⟩
   replace H : (if y126.length < 17592186044416 then ((spec_IsIndependent.f k l0 (y126 ++ [a2])).bind fun t132 => (some t132)) else (none)) = some r := by first | (rw [hy126]; with_reducible exact H) | (have H2_ := (Option.bind_some _ _).symm.trans H; rw [hy126]; with_reducible exact H2_) | (have H2_ := (Option.bind_some _ _).symm.trans H; with_reducible exact H2_) | with_reducible exact H | (rw [hy126]; exact H) | exact H
   have Ny126 := aM hy126
   clear hy126
   by_cases c7 : y126.length < 17592186044416
   ·rw [if_pos c7] at H
    have LMc7 := aM c7
    clear c7
    obtain ⟨y129, hy129⟩ : ∃ y_ : List Int, y_ = (y126 ++ [a2]) := ⟨_, rfl⟩
    replace H : ((spec_IsIndependent.f k l0 y129).bind fun t132 => (some t132)) = some r := by first | (rw [hy129]; with_reducible exact H) | (have H2_ := (Option.bind_some _ _).symm.trans H; rw [hy129]; with_reducible exact H2_) | (have H2_ := (Option.bind_some _ _).symm.trans H; with_reducible exact H2_) | with_reducible exact H | (rw [hy129]; exact H) | exact H
    have Ny129 := aM hy129
    clear hy129
    replace H := Option.bind_eq_some_iff.mp H
    obtain ⟨t132, A80, H⟩ := H
    replace H : (some t132) = some r := H
    have A8 := aM A80
    clear A80
    obtain rfl := Option.some.inj H
    go_enter Try.func75, Try.ntmps75
    go_wp2_with (first | ((with_reducible refine gate_callee (f := 102) rfl ?_); refine goesL_ (some 9) rfl rfl Try.func102 (by kernel_rfl) rfl #[.slice A1 l1.length c1, .int .i64 a2] rfl (by (try simp only [List.map_toArray, List.map_cons, List.map_nil]); first | done | rfl | (simp only [List.length_drop, List.length_take]; rfl)) ?_; (with_reducible refine (spec_l7Has.calls k _ _ l1 a2 false _ ?side1 ?side2 A4.out).mono ?_); (case side1 => repeat (first | exact HR1.out | (with_reducible refine Kd.C_alloc ?_ _) | (with_reducible refine Kd.C_drewN ?_ _) | (with_reducible refine Kd.C_drew ?_))); (case side2 => exact HC1.out); rintro e w' ⟨rfl, ⟨nd, rfl⟩⟩; refine ⟨_, rfl, ?_⟩) | ((with_reducible refine gate_dst (N := 13) rfl ?_); (try (refine gate_guard (by rfl) ?_; dsimp only)); refine Kd.R_lit (Kd.int .i64) _ 3 ?hg (N := 13) ?hd (xs := ([] : List Int)) (inner := []) (ok := fun _ => True) (okp := fun _ => True) ?hr ?hp (fun _ hk => hk) trivial (Below.refl _ _) (Nat.le_refl _) (by simp) ?_; (case hd => rfl); (case hg => rfl); (case hr => first | (go_simp; done) | (go_simp; rfl)); (case hp => exact (Reps.none _ _)); intro v124 w9 ho10 hb hg_ hnew_; clear hg_ hnew_; (first | rw [← Ny123.out] at ho10 | (simp only [Int.reduceToNat] at ho10; rw [← Ny123.out] at ho10)); have n0_ := aM (Kd.R_lower ho10 (below_size aB)); have n1_ := aM (below_step aB hb); clear HB; have HO125 := n0_; have HB := n1_; clear n0_ n1_; clear hb ho10) | ((with_reducible refine gate_builtin (b := .append) (xs := #[.tmp 13, .tmp 14]) rfl ?_); (try (refine gate_guard (by rfl) ?_; dsimp only)); at_builtin; refine Kd.R_append_rows (Kd.int .i64) (w0 := w) w.heap.size rfl (.tmp 13) (.tmp 14) 22 3 (.int .i64 0) 8 rfl Try.underlying22 info3 rfl (by decide) (by omega) v124 y123 l1 _ _ _ (fun _ => True) (fun _ => False) rfl rfl ?aO ?aR (fun _ _ h => h) (fun _ h => h.elim) ?aF ?aB ?aS ?aL ?_; (case aR => exact aC); (case aB => exact aB); (case aF => exact (fun _ _ => trivial)); (case aO => exact (aR HO125)); (case aS => exact (below_size aB)); (case aL => have := LMc6.out; omega); intro v127 w11 ho hb hg hat; rw [← Ny126.out] at ho; have n0_ := aM (hb); have n1_ := aM (ho); clear HB; clear HO125; have HB := n0_; have HO128 := n1_; clear n0_ n1_; clear ho hb hg hat) | ((with_reducible refine gate_builtin (b := .append) (xs := #[.tmp 15, .tmp 17]) rfl ?_); (try (refine gate_guard (by rfl) ?_; dsimp only)); at_builtin; refine Kd.R_append (Kd.int .i64) (w0 := w) w.heap.size rfl (.tmp 15) (.tmp 17) 22 3 (.int .i64 0) 8 rfl Try.underlying22 info3 rfl (by decide) (by omega) v127 y126 a2 [.int .i64 a2] (fun _ => True) (fun _ => False) rfl rfl ?aP (fun _ hk => hk.elim) ?aF ?aO ?aB ?aS ?aL ?_; (case aP => exact rfl); (case aB => exact aB); (case aF => exact (fun _ _ => trivial)); (case aO => exact (aR HO128)); (case aS => exact (below_size aB)); (case aL => have := LMc7.out; omega); intro v130 w12 ho hb hg hat; rw [← Ny129.out] at ho; have n0_ := aM (hb); have n1_ := aM (ho); clear HB; clear HO128; have HB := n0_; have HO131 := n1_; clear n0_ n1_; clear ho hb hg hat; obtain ⟨Ao13, co13, eo13⟩ := Kd.R_slice HO131.out; subst eo13) | (go_at_call 74; (with_reducible refine (spec_IsIndependent.calls k _ _ l0 _ _ y129 t132 _ ?side1 ?side2 ?side3 ?side4 A8.out).mono ?_); (case side1 => exact aC); (case side2 => exact HC0.out); (case side3 => repeat (first | exact (Kd.R_reads' HO131.out).2.2 | (with_reducible refine Kd.C_alloc ?_ _) | (with_reducible refine Kd.C_drewN ?_ _) | (with_reducible refine Kd.C_drew ?_))); (case side4 => exact (Kd.R_reads' HO131.out).2.1); rintro e w' ⟨rfl, ⟨nd, rfl⟩⟩))
    go_ret
    exact ⟨by first | rfl | (simp [errW_none, errW_some] <;> rfl) | (simp [*, errW_none, errW_some] <;> rfl), by repeat (first | (with_reducible first | exact HB.out | apply below_alloc | apply pw_below_drewN | apply below_drew1) | exact HB.out)⟩
   ·rw [if_neg c7] at H
    exact absurd H (by simp)
  ·rw [if_neg c6] at H
   exact absurd H (by simp)

/-! ### spec_IsMaximalIndependent: function 26 -/
mutual
def spec_IsMaximalIndependent.j0 : Nat → Int → List (S89) → List Int → Bool → Option (Bool)
 | 0, _, _, _, _ => none
 | k + 1, x0, x1, x2, x23 => if x23 = true then (some false) else (spec_IsMaximalIndependent.l0 k x0 x1 x2 0)
def spec_IsMaximalIndependent.l0 : Nat → Int → List (S89) → List Int → Int → Option (Bool)
 | 0, _, _, _, _ => none
 | k + 1, x0, x1, x2, x7 => if x7 < x0 then ((spec_l8Fits.f k x1 x2 x7).bind fun t136 => (if t136 = true then (some false) else (spec_IsMaximalIndependent.l0 k x0 x1 x2 (wrap64 (x7 + 1))))) else (some true)
end
def spec_IsMaximalIndependent.f (k : Nat) (a0 : Int) (l1 : List (S89)) (l2 : List Int) : Option (Bool) := (spec_AreValidEdges.f k a0 l1).bind fun t133 => (if t133 = true then ((spec_l8Set.f k a0 l2).bind fun t134 => (if t134 = true then ((spec_IsIndependent.f k l1 l2).bind fun t135 => (spec_IsMaximalIndependent.j0 k a0 l1 l2 (!t135))) else (spec_IsMaximalIndependent.j0 k a0 l1 l2 true))) else (spec_IsMaximalIndependent.j0 k a0 l1 l2 true))
set_option maxHeartbeats 8000000 in
set_option maxRecDepth 100000 in
theorem spec_IsMaximalIndependent.calls (k : Nat) (a0 : Int) (A1 : Option Addr) (c1 : Nat) (l1 : List (S89)) (A2 : Option Addr) (c2 : Nat) (l2 : List Int) (r : Bool) (w : World) (hr1 : Kd.C k89 w A1 l1.length l1) (hc1 : l1.length ≤ c1) (hr2 : Kd.C (Kd.int .i64) w A2 l2.length l2) (hc2 : l2.length ≤ c2) (h : spec_IsMaximalIndependent.f k a0 l1 l2 = some r) :
  Calls Try.prog 26 #[.int .i64 a0, .slice A1 l1.length c1, .slice A2 l2.length c2] w fun e w' => e = .returned (.bool r) ∧ Below w.heap.size w w' := by
 unfold spec_IsMaximalIndependent.f at h
 replace h := bs h; obtain ⟨t133, B0, h⟩ := h
 replace h := ib h; rcases h with ⟨rfl, h⟩ | ⟨rfl, h⟩
 replace h := bs h; obtain ⟨t134, B2, h⟩ := h
 replace h := ib h; rcases h with ⟨rfl, h⟩ | ⟨rfl, h⟩
 replace h := bs h; obtain ⟨t135, B4, h⟩ := h
 rcases k with _ | kj5
 exact absurd h (by simp [spec_IsMaximalIndependent.j0])
 simp only [spec_IsMaximalIndependent.j0] at h
 replace h := ib h; rcases h with ⟨c6, h⟩ | ⟨c6, h⟩
 obtain rfl := si h
 rotate_left
 ·go_enter Try.func26, Try.ntmps26
  go_wp2_with (first | (go_at_call 72; refine (spec_AreValidEdges.calls ?_ _ _ _ _ ?_ _ ?_ ?_ ?h).mono ?_; (case h => exact zA); (iterate 2 (first | exact zC | exact zA)); rintro e w1 ⟨rfl, hb⟩; replace hb := aM hb; have HB : Below w.heap.size w w1 := zB) | (go_at_call 73; refine (spec_l8Set.calls ?_ _ _ _ _ ?_ _ ?_ ?_ ?h).mono ?_; (case h => exact zA); (iterate 2 (first | exact zC | exact zA)); rintro e w1 ⟨rfl, hb⟩; replace hb := hb.below; replace hb := aM hb; have HB : Below w.heap.size w w1 := zB) | (go_at_call 74; refine (spec_IsIndependent.calls ?_ _ _ _ _ _ _ ?_ _ ?_ ?_ ?_ ?_ ?h).mono ?_; (case h => exact zA); (iterate 4 (first | exact zC | exact zA)); rintro e w1 ⟨rfl, hb⟩; replace hb := hb.below; replace hb := aM hb; have HB : Below w.heap.size w w1 := zB) | (go_at_call 75; refine (spec_l8Fits.calls ?_ _ _ _ _ _ _ _ ?_ _ ?_ ?_ ?_ ?_ ?h).mono ?_; (case h => exact zA); (iterate 4 (first | exact zC | exact zA)); rintro e w1 ⟨rfl, hb⟩; replace hb := aM hb; have HB : Below w.heap.size w w1 := zB))
  go_loopg [7] kj5 (fun kq v7 w' => ∃ (x7_7 : Int), v7 = .int .i64 x7_7 ∧ spec_IsMaximalIndependent.l0 kq a0 l1 l2 x7_7 = some r ∧ Below w.heap.size w w')
  case atStart => exact ⟨_, zR, zA, zB⟩
  case round =>
   clear h
   obtain ⟨x7_7, rfl, h, hb⟩ := hrel
   replace hb := aM hb
   have HB : Below w.heap.size w wr := zB
   rcases gk with _ | kk7
   exact absurd h (by simp [spec_IsMaximalIndependent.l0])
   simp only [spec_IsMaximalIndependent.l0] at h
   replace h := il h; rcases h with ⟨c8, c8a, h⟩ | ⟨c8, c8a, h⟩
   replace h := bs h; obtain ⟨t136, B9, h⟩ := h
   replace h := ib h; rcases h with ⟨rfl, h⟩ | ⟨rfl, h⟩
   obtain rfl := si h
   rotate_left
   obtain ⟨kf, hkf⟩ : ∃ kf, kf = kk7 := ⟨_, rfl⟩; rw [← hkf] at h
   rotate_left
   obtain rfl := si h
   rotate_left
   all_goals (go_wp2_with (first | (go_at_call 72; refine (spec_AreValidEdges.calls ?_ _ _ _ _ ?_ _ ?_ ?_ ?h).mono ?_; (case h => exact zA); (iterate 2 (first | exact zC | exact zA)); rintro e w1 ⟨rfl, hb⟩; replace hb := aM hb; have HB : Below w.heap.size w w1 := zB) | (go_at_call 73; refine (spec_l8Set.calls ?_ _ _ _ _ ?_ _ ?_ ?_ ?h).mono ?_; (case h => exact zA); (iterate 2 (first | exact zC | exact zA)); rintro e w1 ⟨rfl, hb⟩; replace hb := hb.below; replace hb := aM hb; have HB : Below w.heap.size w w1 := zB) | (go_at_call 74; refine (spec_IsIndependent.calls ?_ _ _ _ _ _ _ ?_ _ ?_ ?_ ?_ ?_ ?h).mono ?_; (case h => exact zA); (iterate 4 (first | exact zC | exact zA)); rintro e w1 ⟨rfl, hb⟩; replace hb := hb.below; replace hb := aM hb; have HB : Below w.heap.size w w1 := zB) | (go_at_call 75; refine (spec_l8Fits.calls ?_ _ _ _ _ _ _ _ ?_ _ ?_ ?_ ?_ ?_ ?h).mono ?_; (case h => exact zA); (iterate 4 (first | exact zC | exact zA)); rintro e w1 ⟨rfl, hb⟩; replace hb := aM hb; have HB : Below w.heap.size w w1 := zB)); first | (go_ret; exact zE zB) | (go_roundg kf; (case measure => omega); (case rel => exact ⟨_, zR, zA, zB⟩)))
 rcases k with _ | kj11
 exact absurd h (by simp [spec_IsMaximalIndependent.j0])
 simp only [spec_IsMaximalIndependent.j0] at h
 (try replace h := itt h)
 obtain rfl := si h
 rotate_left
 rcases k with _ | kj12
 exact absurd h (by simp [spec_IsMaximalIndependent.j0])
 simp only [spec_IsMaximalIndependent.j0] at h
 (try replace h := itt h)
 obtain rfl := si h
 rotate_left
 all_goals (go_enter Try.func26, Try.ntmps26; go_wp2_with (first | (go_at_call 72; refine (spec_AreValidEdges.calls ?_ _ _ _ _ ?_ _ ?_ ?_ ?h).mono ?_; (case h => exact zA); (iterate 2 (first | exact zC | exact zA)); rintro e w1 ⟨rfl, hb⟩; replace hb := aM hb; have HB : Below w.heap.size w w1 := zB) | (go_at_call 73; refine (spec_l8Set.calls ?_ _ _ _ _ ?_ _ ?_ ?_ ?h).mono ?_; (case h => exact zA); (iterate 2 (first | exact zC | exact zA)); rintro e w1 ⟨rfl, hb⟩; replace hb := hb.below; replace hb := aM hb; have HB : Below w.heap.size w w1 := zB) | (go_at_call 74; refine (spec_IsIndependent.calls ?_ _ _ _ _ _ _ ?_ _ ?_ ?_ ?_ ?_ ?h).mono ?_; (case h => exact zA); (iterate 4 (first | exact zC | exact zA)); rintro e w1 ⟨rfl, hb⟩; replace hb := hb.below; replace hb := aM hb; have HB : Below w.heap.size w w1 := zB) | (go_at_call 75; refine (spec_l8Fits.calls ?_ _ _ _ _ _ _ _ ?_ _ ?_ ?_ ?_ ?_ ?h).mono ?_; (case h => exact zA); (iterate 4 (first | exact zC | exact zA)); rintro e w1 ⟨rfl, hb⟩; replace hb := aM hb; have HB : Below w.heap.size w w1 := zB)); go_ret; exact zE zB)

/-! ### laws_toConflictEdge: function 76 -/
def laws_toConflictEdge.f (a0_0 : Int) (a0_1 : Int) : Option (Int × Int) := some (a0_0, a0_1)
set_option maxHeartbeats 8000000 in
set_option maxRecDepth 100000 in
theorem laws_toConflictEdge.calls (a0_0 : Int) (a0_1 : Int) (r1 : Int) (r2 : Int) (w : World) (h : laws_toConflictEdge.f a0_0 a0_1 = some (r1, r2)) :
  Calls Try.prog 76 #[.agg #[.int .i64 a0_0, .int .i64 a0_1]] w fun e w' => e = .returned (.agg #[.int .i64 r1, .int .i64 r2]) ∧ Below w.heap.size w w' := by
 have hu91 := Try.underlying91
 have hu89 := Try.underlying89
 have HB := aM (Below.refl w.heap.size w)
 have H : (some (a0_0, a0_1)) = some (r1, r2) := h
 clear h
 simp only [Option.some.injEq, Prod.mk.injEq] at H
 obtain ⟨rfl, rfl⟩ := H
 go_enter Try.func76, Try.ntmps76
 go_wp2_with (first | ((with_reducible refine gate_dst (N := 1) rfl ?_); refine box_event ?hg (N := 1) ?hd (cs := #[.int .i64 a0_0, .int .i64 a0_1]) (t := 91) ?hr ?_; (case hd => rfl); (case hg => rfl); (case hr => first | (go_simp; done) | (go_simp; rfl)); intro gb137 hg w2 hbox hb; have n0_ := aM (below_step aB hb); have n1_ := aM (hbox); have n2_ := aM ((by rw [hg]; exact (below_size aB) : w.heap.size ≤ gb137)); have n3_ := aM ((by rw [hg]; exact (below_size aB) : w.heap.size ≤ gb137)); clear HB; have HB := n0_; have BK137 := n1_; have GW137 := n2_; have GE137 := n3_; clear n0_ n1_ n2_ n3_; clear hb hbox hg) | ((with_reducible refine gate_dst (N := 2) rfl ?_); refine box_event ?hg (N := 2) ?hd (cs := #[.int .i64 0, .int .i64 0]) (t := 89) ?hr ?_; (case hd => rfl); (case hg => rfl); (case hr => first | (go_simp; done) | (go_simp; rfl)); intro gb138 hg w3 hbox hb; have n0_ := aM (blk_below (g := gb137) (o := .cells #[.int .i64 a0_0, .int .i64 a0_1] 91 (0, 0)) aK hb); have n1_ := aM (below_step aG hb); have n2_ := aM (hbox); have n3_ := aM ((by rw [hg]; exact (below_size aG) : w.heap.size ≤ gb138)); have n4_ := aM ((by rw [hg]; exact (below_size aG) : w.heap.size ≤ gb138)); have n5_ := aM ((by rw [hg]; exact Nat.ne_of_lt (blk_lt (g := gb137) (o := .cells #[.int .i64 a0_0, .int .i64 a0_1] 91 (0, 0)) aK) : gb137 ≠ gb138)); have n6_ := aM ((by rw [hg]; exact Nat.ne_of_gt (blk_lt (g := gb137) (o := .cells #[.int .i64 a0_0, .int .i64 a0_1] 91 (0, 0)) aK) : gb138 ≠ gb137)); clear BK137; clear HB; have BK137 := n0_; have HB := n1_; have BK138 := n2_; have GW138 := n3_; have GE138 := n4_; have NB137_138 := n5_; have NB138_137 := n6_; clear n0_ n1_ n2_ n3_ n4_ n5_ n6_; clear hb hbox hg) | ((with_reducible refine gate_dst (N := 3) rfl ?_); refine box_event ?hg (N := 3) ?hd (cs := #[.int .i64 0, .int .i64 0]) (t := 89) ?hr ?_; (case hd => rfl); (case hg => rfl); (case hr => first | (go_simp; done) | (go_simp; rfl)); intro gb139 hg w4 hbox hb; have n0_ := aM (blk_below (g := gb137) (o := .cells #[.int .i64 a0_0, .int .i64 a0_1] 91 (0, 0)) aK hb); have n1_ := aM (blk_below (g := gb138) (o := .cells #[.int .i64 0, .int .i64 0] 89 (0, 0)) aK hb); have n2_ := aM (below_step aG hb); have n3_ := aM (hbox); have n4_ := aM ((by rw [hg]; exact (below_size aG) : w.heap.size ≤ gb139)); have n5_ := aM ((by rw [hg]; exact (below_size aG) : w.heap.size ≤ gb139)); have n6_ := aM ((by rw [hg]; exact Nat.ne_of_lt (blk_lt (g := gb137) (o := .cells #[.int .i64 a0_0, .int .i64 a0_1] 91 (0, 0)) aK) : gb137 ≠ gb139)); have n7_ := aM ((by rw [hg]; exact Nat.ne_of_gt (blk_lt (g := gb137) (o := .cells #[.int .i64 a0_0, .int .i64 a0_1] 91 (0, 0)) aK) : gb139 ≠ gb137)); have n8_ := aM ((by rw [hg]; exact Nat.ne_of_lt (blk_lt (g := gb138) (o := .cells #[.int .i64 0, .int .i64 0] 89 (0, 0)) aK) : gb138 ≠ gb139)); have n9_ := aM ((by rw [hg]; exact Nat.ne_of_gt (blk_lt (g := gb138) (o := .cells #[.int .i64 0, .int .i64 0] 89 (0, 0)) aK) : gb139 ≠ gb138)); clear BK137; clear BK138; clear HB; have BK137 := n0_; have BK138 := n1_; have HB := n2_; have BK139 := n3_; have GW139 := n4_; have GE139 := n5_; have NB137_139 := n6_; have NB139_137 := n7_; have NB138_139 := n8_; have NB139_138 := n9_; clear n0_ n1_ n2_ n3_ n4_ n5_ n6_ n7_ n8_ n9_; clear hb hbox hg; have hnb5 := NB137_138.out; have hnc5 := NB138_137.out; have hnb6 := NB137_139.out; have hnc6 := NB139_137.out; have hcz7_0 : w4.cell? ⟨gb137, 0, none⟩ = some (.int .i64 a0_0) := (blk_cell BK137.out 0).trans rfl; have hcz7_1 : w4.cell? ⟨gb137, 1, none⟩ = some (.int .i64 a0_1) := (blk_cell BK137.out 1).trans rfl; have hfz7_0 := blk_frozen BK137.out 0; have hfz7_1 := blk_frozen BK137.out 1; have hnb8 := NB139_138.out; have hnc8 := NB138_139.out; have hcz9_0 : w4.cell? ⟨gb139, 0, none⟩ = some (.int .i64 0) := (blk_cell BK139.out 0).trans rfl; have hcz9_1 : w4.cell? ⟨gb139, 1, none⟩ = some (.int .i64 0) := (blk_cell BK139.out 1).trans rfl; have hfz9_0 := blk_frozen BK139.out 0; have hfz9_1 := blk_frozen BK139.out 1; have hcz10_0 : w4.cell? ⟨gb138, 0, none⟩ = some (.int .i64 0) := (blk_cell BK138.out 0).trans rfl; have hcz10_1 : w4.cell? ⟨gb138, 1, none⟩ = some (.int .i64 0) := (blk_cell BK138.out 1).trans rfl; have hfz10_0 := blk_frozen BK138.out 0; have hfz10_1 := blk_frozen BK138.out 1))
 refine bodyPost_ret (results_cell_row rfl _ _ gb138 89 #[.int .i64 a0_0, .int .i64 a0_1] (0, 0) _ rfl (by (with_reducible repeat (first | refine blk_drewN ?_ _ | refine blk_drew ?_ | refine blk_alloc ?_ _)); refine blk_put (cs := #[.int .i64 a0_0, .int .i64 0]) ?_ 1 _ rfl; (with_reducible repeat (first | refine blk_drewN ?_ _ | refine blk_drew ?_ | refine blk_alloc ?_ _)); refine blk_put (cs := #[.int .i64 0, .int .i64 0]) ?_ 0 _ rfl; (with_reducible repeat (first | refine blk_drewN ?_ _ | refine blk_drew ?_ | refine blk_alloc ?_ _)); refine blk_far ?_ NB138_139.out _; (with_reducible repeat (first | refine blk_drewN ?_ _ | refine blk_drew ?_ | refine blk_alloc ?_ _)); refine blk_far ?_ NB138_139.out _; (with_reducible repeat (first | refine blk_drewN ?_ _ | refine blk_drew ?_ | refine blk_alloc ?_ _)); exact BK138.out) Try.underlying89 rfl (by kernel_rfl)) rfl ?_
 exact ⟨by first | rfl | (simp [errW_none, errW_some] <;> rfl) | (simp [*, errW_none, errW_some] <;> rfl), by repeat (first | (with_reducible first | exact HB.out | apply below_alloc | apply pw_below_drewN | apply below_drew1 | refine below_set ?_ GE137.out | refine below_set ?_ GE138.out | refine below_set ?_ GE139.out) | exact HB.out)⟩

/-! ### laws_toConflictEdgeS: function 27 -/
def laws_toConflictEdgeS.l0 : Nat → List (S91) → List (S89) → Int → Option ((List (S89)))
 | 0, _, _, _ => none
 | k + 1, x0, x3, x4 => if x4 < (x0.length : Int) then (if 0 ≤ x4 then ((laws_toConflictEdge.f ((rd_T91 x0 x4).f0) ((rd_T91 x0 x4).f1)).bind fun bt144 => (if x4 < (x3.length : Int) then (laws_toConflictEdgeS.l0 k x0 (x3.set (x4 : Int).toNat (⟨bt144.1, bt144.2⟩ : S89)) (wrap64 (x4 + 1))) else (none))) else (none)) else (some x3)
def laws_toConflictEdgeS.f (k : Nat) (l0 : List (S91)) : Option ((List (S89))) := if 0 ≤ (l0.length : Int) then (if ((l0.length : Int) : Int).toNat ≤ 17592186044416 then (laws_toConflictEdgeS.l0 k l0 (List.replicate ((l0.length : Int) : Int).toNat z89) 0) else (none)) else (none)
set_option maxHeartbeats 8000000 in
set_option maxRecDepth 100000 in
theorem laws_toConflictEdgeS.calls (k : Nat) (A0 : Option Addr) (c0 : Nat) (l0 : List (S91)) (r : List (S89)) (w : World) (hr0 : Kd.C k91 w A0 l0.length l0) (hc0 : l0.length ≤ c0) (h : laws_toConflictEdgeS.f k l0 = some r) :
  Calls Try.prog 27 #[.slice A0 l0.length c0] w fun e w' => ∃ v0_ : Value, e = .returned (v0_) ∧ Kd.R k89 89 w' w.heap.size (fun _ => True) v0_ r ∧ Below w.heap.size w w' := by
 have hu91 := Try.underlying91
 have hu89 := Try.underlying89
 have HR0 := aM hr0
 have HC0 := aM hc0
 clear hr0 hc0
 have HB := aM (Below.refl w.heap.size w)
 have H : (if 0 ≤ (l0.length : Int) then (if ((l0.length : Int) : Int).toNat ≤ 17592186044416 then (laws_toConflictEdgeS.l0 k l0 (List.replicate ((l0.length : Int) : Int).toNat z89) 0) else (none)) else (none)) = some r := h
 clear h
 by_cases c2 : 0 ≤ (l0.length : Int)
 ·rw [if_pos c2] at H
  have c2b0 := eq_true c2
  have c2b1 : decide (0 ≤ (l0.length : Int)) = true := decide_eq_true c2
  clear c2
  by_cases c3 : ((l0.length : Int) : Int).toNat ≤ 17592186044416
  ·rw [if_pos c3] at H
   have c3b0 := eq_true c3
   have c3b1 : decide (((l0.length : Int) : Int).toNat ≤ 17592186044416) = true := decide_eq_true c3
   clear c3
   obtain ⟨y140, hy140⟩ : ∃ y_ : List (S89), y_ = (List.replicate ((l0.length : Int) : Int).toNat z89) := ⟨_, rfl⟩
   replace H : (laws_toConflictEdgeS.l0 k l0 y140 0) = some r := by first | (rw [hy140]; with_reducible exact H) | (have H2_ := (Option.bind_some _ _).symm.trans H; rw [hy140]; with_reducible exact H2_) | (have H2_ := (Option.bind_some _ _).symm.trans H; with_reducible exact H2_) | with_reducible exact H | (rw [hy140]; exact H) | exact H
   have Ny140 := aM hy140
   clear hy140
   have H' := aM H
   clear H
   go_enter Try.func27, Try.ntmps27
   go_wp2_with (first | ((with_reducible refine gate_dst (N := 7) rfl ?_); refine Kd.R_make k89 _ 89 rfl (N := 7) rfl 41 _ _ rfl (l0.length : Int) rfl rfl Try.underlying41 (.agg #[(.int .i64 0), (.int .i64 0)]) 16 info89 rfl (by decide) (by omega) z89 (ok := fun _ => True) (okp := fun _ => True) (k89_mkM _ _ _ z89 ) (fun _ hk => hk) trivial (aD) (Nat.le_trans (Nat.mul_le_mul_right _ (aD : (l0.length : Int).toNat ≤ 17592186044416)) (by omega)) (Below.refl _ _) (Nat.le_refl _) ?_; intro v141 w4 ho5 hb hg_ hnew_; clear hg_ hnew_; (first | rw [← Ny140.out] at ho5 | (simp only [Int.reduceToNat] at ho5; rw [← Ny140.out] at ho5)); have n0_ := aM (Kd.R_lower ho5 (below_size aB)); have n1_ := aM (below_step aB hb); clear HB; have HO142 := n0_; have HB := n1_; clear n0_ n1_; clear hb ho5))
   go_loopg [4] k (fun kq v4 w' => ∃ (x3_1 : List (S89)) (x4_1 : Int), v4 = .int .i64 x4_1 ∧ Aside0 (laws_toConflictEdgeS.l0 kq l0 x3_1 x4_1 = some r) ∧ Aside0 (kq ≤ k) ∧ Aside0 (Kd.R k89 89 w' w.heap.size (fun _ => True) v141 x3_1) ∧ Aside0 (Below w.heap.size w w'))
   case atStart => exact ⟨(y140), (0), (by first | rfl | (simp; done) | (simp [*]; done)), H', ⟨Nat.le_refl _⟩, ⟨aR HO142⟩, ⟨by repeat (first | (with_reducible first | exact HB.out | apply below_alloc | apply pw_below_drewN | apply below_drew1) | exact HB.out)⟩⟩
   case round =>
    clear H'
    try clear c2
    try clear c2b0
    try clear c2b1
    try clear p2
    try clear c3
    try clear c3b0
    try clear c3b1
    obtain ⟨x3_1, x4_1, rfl, HA, HK1, HO_3, HB⟩ := hrel
    cases gk with
    | zero => exact absurd HA.out (by simp [laws_toConflictEdgeS.l0])
    | succ k1 =>
     have H := HA.out
     clear HA
     simp only [laws_toConflictEdgeS.l0] at H
     by_cases c6 : x4_1 < (l0.length : Int)
     ·rw [if_pos c6] at H
      have c6b0 : decide (x4_1 < (l0.length : Int)) = true := decide_eq_true c6
      clear c6
      by_cases c7 : 0 ≤ x4_1
      ·rw [if_pos c7] at H
       have c7b0 : decide (0 ≤ x4_1) = true := decide_eq_true c7
       clear c7
       replace H := Option.bind_eq_some_iff.mp H
       obtain ⟨⟨t144, t145⟩, A80, H⟩ := H
       replace H : (if x4_1 < (x3_1.length : Int) then (laws_toConflictEdgeS.l0 k1 l0 (x3_1.set (x4_1 : Int).toNat (⟨t144, t145⟩ : S89)) (wrap64 (x4_1 + 1))) else (none)) = some r := H
       have A8 := aM A80
       clear A80
       by_cases c9 : x4_1 < (x3_1.length : Int)
       ·rw [if_pos c9] at H
        have c9b0 : decide (x4_1 < (x3_1.length : Int)) = true := decide_eq_true c9
        clear c9
        obtain ⟨y146, hy146⟩ : ∃ y_ : List (S89), y_ = (x3_1.set (x4_1 : Int).toNat (⟨t144, t145⟩ : S89)) := ⟨_, rfl⟩
        replace H : (laws_toConflictEdgeS.l0 k1 l0 y146 (wrap64 (x4_1 + 1))) = some r := by first | (rw [hy146]; with_reducible exact H) | (have H2_ := (Option.bind_some _ _).symm.trans H; rw [hy146]; with_reducible exact H2_) | (have H2_ := (Option.bind_some _ _).symm.trans H; with_reducible exact H2_) | with_reducible exact H | (rw [hy146]; exact H) | exact H
        have Ny146 := aM hy146
        clear hy146
        have H' := aM H
        clear H
        have p143 : 0 ≤ (x4_1 : Int) := aD
        have q143 : x4_1 < (l0.length : Int) := aD
        obtain ⟨ad143, e143, hx143_0, hx143_1⟩ := at_T91 HR0.out x4_1 p143 q143
        cases e143
        replace hx143_0 := (HB.out.cell (World.block_lt_of_cell? w _ hx143_0)).trans hx143_0
        replace hx143_1 := (HB.out.cell (World.block_lt_of_cell? w _ hx143_1)).trans hx143_1
        replace p143 := eq_true p143
        replace q143 := eq_true q143
        go_wp2_with (first | ((with_reducible refine gate_callee (f := 76) rfl ?_); refine goesL_ (some 20) rfl rfl Try.func76 (by kernel_rfl) rfl #[.agg #[.int .i64 ((rd_T91 l0 x4_1).f0), .int .i64 ((rd_T91 l0 x4_1).f1)]] rfl (by (try simp only [List.map_toArray, List.map_cons, List.map_nil]); first | done | rfl | (simp only [List.length_drop, List.length_take]; rfl)) ?_; (with_reducible refine (laws_toConflictEdge.calls ((rd_T91 l0 x4_1).f0) ((rd_T91 l0 x4_1).f1) t144 t145 _ A8.out).mono ?_); rintro e w11 ⟨rfl, hb⟩; refine ⟨_, rfl, ?_⟩; have n0_ := aM (Kd.R_below (aR HO_3) hb); have n1_ := aM (below_step aB hb); clear HO_3; clear HB; have HO_3 := n0_; have HB := n1_; clear n0_ n1_; (try clear hb); (try clear hb2); (try clear hk); (try clear hi); have p10 : 0 ≤ (x4_1 : Int) := aD; have q10 : (x4_1 : Int) < ((x3_1.length : Int) : Int) := aD; obtain ⟨go10, co10, eo10, gb10, gl10, cl10, HG10⟩ := Kd.R_form HO_3.out (by omega); (first | cases eo10 | (injection eo10 with ea_ en_ ec_; (first | subst ea_ | (injection ea_ with ea_; subst ea_)); subst ec_; clear en_)); have GB10 := aM gb10; have GG10 := aM HG10; clear gb10 gl10 HG10; obtain ⟨ce10, hcl10, hM10, hcc10, hfr10⟩ := Kd.R_elem HO_3.out z89 (x4_1 : Int) p10 q10; obtain rfl := k89_openM hM10; have hx10_0 : w11.cell? ⟨go10, (x4_1 : Int).toNat * 2, none⟩ = some (.int .i64 ((rd_T89 x3_1 x4_1).f0)) := hcc10 0 _ rfl; have hx10_1 : w11.cell? ⟨go10, (x4_1 : Int).toNat * 2 + 1, none⟩ = some (.int .i64 ((rd_T89 x3_1 x4_1).f1)) := hcc10 1 _ rfl; have hf10_0 : w11.frozen? ⟨go10, (x4_1 : Int).toNat * 2, none⟩ = false := hfr10 0; have hf10_1 : w11.frozen? ⟨go10, (x4_1 : Int).toNat * 2 + 1, none⟩ = false := hfr10 1; clear hcl10 hcc10 hfr10 hM10; replace p10 := eq_true p10; replace q10 := eq_true q10; have HX12 := aM (show Kd.R k89 89 w11 w.heap.size (fun _ => True) (.slice (some ⟨go10, 0, none⟩) x3_1.length co10) x3_1 from (aR HO_3)); obtain ⟨ce12, hcl12, hM12, hcc12, hfr12⟩ := Kd.R_elem HX12.out z89 (x4_1 : Int) (aD) (by have h_ : (x4_1 : Int) < ((x3_1.length : Int) : Int) := aD; first | exact h_ | (have e_ := (Kd.R_reads' HO_3.out).1; omega) | simpa using h_); obtain rfl := k89_openM hM12; have HP12 := Kd.R_seg HX12.out (x4_1 : Int) (aD) (by have h_ : (x4_1 : Int) < ((x3_1.length : Int) : Int) := aD; first | exact h_ | (have e_ := (Kd.R_reads' HO_3.out).1; omega) | simpa using h_) (seg := [.int .i64 t144, .int .i64 t145]) (j := 0) hcl12 hcc12 (show 2 ≤ 2 from by decide) (x' := (⟨t144, t145⟩ : S89)) (k89_mkM _ _ _ (⟨t144, t145⟩ : S89) ) (fun _ hk => hk); have hx12_0 := hcc12 0 _ rfl; (try simp only [show (k89).sz = 2 from rfl, Nat.mul_one, Nat.add_zero] at hx12_0); have hf12_0 := hfr12 0; (try simp only [show (k89).sz = 2 from rfl, Nat.mul_one, Nat.add_zero] at hf12_0); have hx12_1 := hcc12 1 _ rfl; (try simp only [show (k89).sz = 2 from rfl, Nat.mul_one, Nat.add_zero] at hx12_1); have hf12_1 := hfr12 1; (try simp only [show (k89).sz = 2 from rfl, Nat.mul_one, Nat.add_zero] at hf12_1); clear hcl12 hcc12 hfr12 hM12) | ((with_reducible refine gate_store (t := 89) (p := 21) rfl ?_); refine store_event (t := 89) (p := 21) (v := ?vo_w13) (w1 := ((w11.setCell ⟨go10, (x4_1 : Int).toNat * 2, none⟩ (.int .i64 t144)).setCell ⟨go10, (x4_1 : Int).toNat * 2 + 1, none⟩ (.int .i64 t145))) ?hg ?ho ?hn ?hr ?_; (case ho => rfl); (case hg => rfl); (case hn => rfl); (case hr => first | (go_simp; done) | (go_simp; rfl) | (obtain ⟨A_, c_, e_⟩ := Kd.R_slice HO_3.out; subst e_; first | (go_simp; done) | (go_simp; rfl))); intro w13 hw; have hg : w11.grownBy w13 (some go10) := (by rw [hw]; exact HP12.2); have hp_ : Kd.R k89 89 w13 w.heap.size (fun _ => True) (.slice (some ⟨go10, 0, none⟩) x3_1.length co10) y146 := (by rw [hw, Ny146.out]; exact HP12.1); clear HP12; have n0_ := aM (hp_); have n1_ := aM ((by rw [hw]; exact below_set (below_set (HB.out) GB10.out) GB10.out : Below w.heap.size w w13)); clear HO_3; clear HB; have HO_3 := n0_; have HB := n1_; clear n0_ n1_; clear hg hw hp_))
        go_roundg k1
        case measure => have := HK1.out; omega
        case rel => exact ⟨(y146), (wrap64 (x4_1 + 1)), (by first | rfl | (simp; done) | (simp [*]; done)), H', ⟨by have := HK1.out; omega⟩, ⟨aR HO_3⟩, ⟨by repeat (first | (with_reducible first | exact HB.out | apply below_alloc | apply pw_below_drewN | apply below_drew1) | exact HB.out)⟩⟩
       ·rw [if_neg c9] at H
        exact absurd H (by simp)
      ·rw [if_neg c7] at H
       exact absurd H (by simp)
     ·rw [if_neg c6] at H
      have c6b0 : decide (x4_1 < (l0.length : Int)) = false := decide_eq_false c6
      clear c6
      obtain rfl := Option.some.inj H
      go_wp2
      go_ret
      exact ⟨_, by first | rfl | (simp [errW_none, errW_some] <;> rfl) | (simp [*, errW_none, errW_some] <;> rfl), aR HO_3, by repeat (first | (with_reducible first | exact HB.out | apply below_alloc | apply pw_below_drewN | apply below_drew1) | exact HB.out)⟩
  ·rw [if_neg c3] at H
   exact absurd H (by simp)
 ·rw [if_neg c2] at H
  exact absurd H (by simp)

/-! ### laws_toIntS: function 28 -/
def laws_toIntS.l0 : Nat → List Int → List Int → Int → Option (List Int)
 | 0, _, _, _ => none
 | k + 1, x0, x3, x4 => if x4 < (x0.length : Int) then (if 0 ≤ x4 then (if x4 < (x3.length : Int) then (laws_toIntS.l0 k x0 (x3.set (x4 : Int).toNat (rd x0 x4)) (wrap64 (x4 + 1))) else (none)) else (none)) else (some x3)
def laws_toIntS.f (k : Nat) (l0 : List Int) : Option (List Int) := if 0 ≤ (l0.length : Int) then (if ((l0.length : Int) : Int).toNat ≤ 35184372088832 then (laws_toIntS.l0 k l0 (List.replicate ((l0.length : Int) : Int).toNat 0) 0) else (none)) else (none)
set_option maxHeartbeats 8000000 in
set_option maxRecDepth 100000 in
theorem laws_toIntS.calls (k : Nat) (A0 : Option Addr) (c0 : Nat) (l0 : List Int) (r : List Int) (w : World) (hr0 : Kd.C (Kd.int .i64) w A0 l0.length l0) (hc0 : l0.length ≤ c0) (h : laws_toIntS.f k l0 = some r) :
  Calls Try.prog 28 #[.slice A0 l0.length c0] w fun e w' => ∃ v0_ : Value, e = .returned (v0_) ∧ Kd.R (Kd.int .i64) 3 w' w.heap.size (fun _ => True) v0_ r ∧ Below w.heap.size w w' := by
 have HR0 := aM hr0
 have HC0 := aM hc0
 clear hr0 hc0
 have HB := aM (Below.refl w.heap.size w)
 have H : (if 0 ≤ (l0.length : Int) then (if ((l0.length : Int) : Int).toNat ≤ 35184372088832 then (laws_toIntS.l0 k l0 (List.replicate ((l0.length : Int) : Int).toNat 0) 0) else (none)) else (none)) = some r := h
 clear h
 by_cases c2 : 0 ≤ (l0.length : Int)
 ·rw [if_pos c2] at H
  have c2b0 := eq_true c2
  have c2b1 : decide (0 ≤ (l0.length : Int)) = true := decide_eq_true c2
  clear c2
  by_cases c3 : ((l0.length : Int) : Int).toNat ≤ 35184372088832
  ·rw [if_pos c3] at H
   have c3b0 := eq_true c3
   have c3b1 : decide (((l0.length : Int) : Int).toNat ≤ 35184372088832) = true := decide_eq_true c3
   clear c3
   obtain ⟨y147, hy147⟩ : ∃ y_ : List Int, y_ = (List.replicate ((l0.length : Int) : Int).toNat 0) := ⟨_, rfl⟩
   replace H : (laws_toIntS.l0 k l0 y147 0) = some r := by first | (rw [hy147]; with_reducible exact H) | (have H2_ := (Option.bind_some _ _).symm.trans H; rw [hy147]; with_reducible exact H2_) | (have H2_ := (Option.bind_some _ _).symm.trans H; with_reducible exact H2_) | with_reducible exact H | (rw [hy147]; exact H) | exact H
   have Ny147 := aM hy147
   clear hy147
   have H' := aM H
   clear H
   go_enter Try.func28, Try.ntmps28
   go_wp2_with (first | ((with_reducible refine gate_dst (N := 7) rfl ?_); refine Kd.R_make (Kd.int .i64) _ 3 rfl (N := 7) rfl 22 _ _ rfl (l0.length : Int) rfl rfl Try.underlying22 (.int .i64 0) 8 info3 rfl (by decide) (by omega) 0 (ok := fun _ => True) (okp := fun _ => True) rfl (fun _ hk => hk) trivial (aD) (Nat.le_trans (Nat.mul_le_mul_right _ (aD : (l0.length : Int).toNat ≤ 35184372088832)) (by omega)) (Below.refl _ _) (Nat.le_refl _) ?_; intro v148 w4 ho5 hb hg_ hnew_; clear hg_ hnew_; (first | rw [← Ny147.out] at ho5 | (simp only [Int.reduceToNat] at ho5; rw [← Ny147.out] at ho5)); have n0_ := aM (Kd.R_lower ho5 (below_size aB)); have n1_ := aM (below_step aB hb); clear HB; have HO149 := n0_; have HB := n1_; clear n0_ n1_; clear hb ho5))
   go_loopg [4] k (fun kq v4 w' => ∃ (x3_1 : List Int) (x4_1 : Int), v4 = .int .i64 x4_1 ∧ Aside0 (laws_toIntS.l0 kq l0 x3_1 x4_1 = some r) ∧ Aside0 (kq ≤ k) ∧ Aside0 (Kd.R (Kd.int .i64) 3 w' w.heap.size (fun _ => True) v148 x3_1) ∧ Aside0 (Below w.heap.size w w'))
   case atStart => exact ⟨(y147), (0), (by first | rfl | (simp; done) | (simp [*]; done)), H', ⟨Nat.le_refl _⟩, ⟨aR HO149⟩, ⟨by repeat (first | (with_reducible first | exact HB.out | apply below_alloc | apply pw_below_drewN | apply below_drew1) | exact HB.out)⟩⟩
   case round =>
    clear H'
    try clear c2
    try clear c2b0
    try clear c2b1
    try clear p2
    try clear c3
    try clear c3b0
    try clear c3b1
    obtain ⟨x3_1, x4_1, rfl, HA, HK1, HO_3, HB⟩ := hrel
    cases gk with
    | zero => exact absurd HA.out (by simp [laws_toIntS.l0])
    | succ k1 =>
     have H := HA.out
     clear HA
     simp only [laws_toIntS.l0] at H
     by_cases c6 : x4_1 < (l0.length : Int)
     ·rw [if_pos c6] at H
      have c6b0 : decide (x4_1 < (l0.length : Int)) = true := decide_eq_true c6
      clear c6
      by_cases c7 : 0 ≤ x4_1
      ·rw [if_pos c7] at H
       have c7b0 : decide (0 ≤ x4_1) = true := decide_eq_true c7
       clear c7
       by_cases c8 : x4_1 < (x3_1.length : Int)
       ·rw [if_pos c8] at H
        have c8b0 : decide (x4_1 < (x3_1.length : Int)) = true := decide_eq_true c8
        clear c8
        obtain ⟨y151, hy151⟩ : ∃ y_ : List Int, y_ = (x3_1.set (x4_1 : Int).toNat (rd l0 x4_1)) := ⟨_, rfl⟩
        replace H : (laws_toIntS.l0 k1 l0 y151 (wrap64 (x4_1 + 1))) = some r := by first | (rw [hy151]; with_reducible exact H) | (have H2_ := (Option.bind_some _ _).symm.trans H; rw [hy151]; with_reducible exact H2_) | (have H2_ := (Option.bind_some _ _).symm.trans H; with_reducible exact H2_) | with_reducible exact H | (rw [hy151]; exact H) | exact H
        have Ny151 := aM hy151
        clear hy151
        have H' := aM H
        clear H
        have p150 : 0 ≤ (x4_1 : Int) := aD
        have q150 : x4_1 < (l0.length : Int) := aD
        obtain ⟨ad150, e150, hx150_0⟩ := Kd.at_int HR0.out x4_1 p150 q150
        cases e150
        replace hx150_0 := (HB.out.cell (World.block_lt_of_cell? w _ hx150_0)).trans hx150_0
        replace p150 := eq_true p150
        replace q150 := eq_true q150
        have p9 : 0 ≤ (x4_1 : Int) := aD
        have q9 : (x4_1 : Int) < ((x3_1.length : Int) : Int) := aD
        obtain ⟨go9, co9, eo9, gb9, gl9, cl9, HG9⟩ := Kd.R_form HO_3.out (by omega)
        (first | cases eo9 | (injection eo9 with ea_ en_ ec_; (first | subst ea_ | (injection ea_ with ea_; subst ea_)); subst ec_; clear en_))
        have GB9 := aM gb9
        have GG9 := aM HG9
        clear gb9 gl9 HG9
        obtain ⟨hx9_0, hf9_0⟩ := Kd.R_celln 0 HO_3.out (x4_1 : Int) p9 q9
        replace p9 := eq_true p9
        replace q9 := eq_true q9
        have HP10 := Kd.R_putg HO_3.out (x4_1 : Int) (rd l0 x4_1)
        go_wp2_with (first | ((with_reducible refine gate_store (t := 3) (p := 20) rfl ?_); refine store_event (t := 3) (p := 20) (v := ?vo_w11) (w1 := (wr.setCell ⟨go9, (x4_1 : Int).toNat, none⟩ (.int .i64 (rd l0 x4_1)))) ?hg ?ho ?hn ?hr ?_; (case ho => rfl); (case hg => rfl); (case hn => rfl); (case hr => first | (go_simp; done) | (go_simp; rfl) | (obtain ⟨A_, c_, e_⟩ := Kd.R_slice HO_3.out; subst e_; first | (go_simp; done) | (go_simp; rfl))); intro w11 hw; have hg : wr.grownBy w11 (some go9) := (by rw [hw]; exact HP10.2); have hp_ : Kd.R (Kd.int .i64) 3 w11 w.heap.size (fun _ => True) (.slice (some ⟨go9, 0, none⟩) x3_1.length co9) y151 := (by rw [hw, Ny151.out]; exact HP10.1); clear HP10; have n0_ := aM (hp_); have n1_ := aM ((by rw [hw]; exact below_set (HB.out) GB9.out : Below w.heap.size w w11)); clear HO_3; clear HB; have HO_3 := n0_; have HB := n1_; clear n0_ n1_; clear hg hw hp_))
        go_roundg k1
        case measure => have := HK1.out; omega
        case rel => exact ⟨(y151), (wrap64 (x4_1 + 1)), (by first | rfl | (simp; done) | (simp [*]; done)), H', ⟨by have := HK1.out; omega⟩, ⟨aR HO_3⟩, ⟨by repeat (first | (with_reducible first | exact HB.out | apply below_alloc | apply pw_below_drewN | apply below_drew1) | exact HB.out)⟩⟩
       ·rw [if_neg c8] at H
        exact absurd H (by simp)
      ·rw [if_neg c7] at H
       exact absurd H (by simp)
     ·rw [if_neg c6] at H
      have c6b0 : decide (x4_1 < (l0.length : Int)) = false := decide_eq_false c6
      clear c6
      obtain rfl := Option.some.inj H
      go_wp2
      go_ret
      exact ⟨_, by first | rfl | (simp [errW_none, errW_some] <;> rfl) | (simp [*, errW_none, errW_some] <;> rfl), aR HO_3, by repeat (first | (with_reducible first | exact HB.out | apply below_alloc | apply pw_below_drewN | apply below_drew1) | exact HB.out)⟩
  ·rw [if_neg c3] at H
   exact absurd H (by simp)
 ·rw [if_neg c2] at H
  exact absurd H (by simp)

end Go.Proofs.Ytddeflhambegiaa.PFnExactIsMaximalIndependent
