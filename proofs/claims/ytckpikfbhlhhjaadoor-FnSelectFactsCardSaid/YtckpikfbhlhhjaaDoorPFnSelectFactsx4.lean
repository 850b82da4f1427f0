import Derived.Test.YtckpikfbhlhhjaaDoorPFnSelectFactsx0
import Derived.Test.YtckpikfbhlhhjaaDoorPFnSelectFactsx3
namespace Go.Proofs.YtckpikfbhlhhjaaDoor.PFnSelectFacts
open Go.RowKit Go.Proofs.YtckpikfbhlhhjaaDoorW.PrintWords Go.Proofs.YtckpikfbhlhhjaaDoorW.PrintLast Go.Proofs.YtckpikfbhlhhjaaDoorW.PrintMore
attribute [local go_sem] max2_int min2_int max_two min_two max_three min_three max_four min_four
set_option linter.unusedVariables false
set_option linter.unusedSimpArgs false

/-! ### spec_l3Ints: function 67 -/
mutual
def spec_l3Ints.l0 : Nat → List Int → List Int → Int → Option (Int)
 | 0, _, _, _ => none
 | k + 1, x0, x1, x5 => if x5 < (x0.length : Int) then (spec_l3Ints.j1 k x0 x1 x5 (decide (x5 < (x1.length : Int)))) else (spec_l3Ints.j1 k x0 x1 x5 false)
def spec_l3Ints.j1 : Nat → List Int → List Int → Int → Bool → Option (Int)
 | 0, _, _, _, _ => none
 | k + 1, x0, x1, x5, x15 => if x15 = true then (if 0 ≤ x5 then (if x5 < (x0.length : Int) then (if x5 < (x1.length : Int) then (if (rd x0 x5) < (rd x1 x5) then (some (-1)) else (if (rd x0 x5) > (rd x1 x5) then (some 1) else (spec_l3Ints.l0 k x0 x1 (wrap64 (x5 + 1))))) else (none)) else (none)) else (none)) else (if (x0.length : Int) < (x1.length : Int) then (some (-1)) else (if (x0.length : Int) > (x1.length : Int) then (some 1) else (some 0)))
end
def spec_l3Ints.f (k : Nat) (l0 : List Int) (l1 : List Int) : Option (Int) := spec_l3Ints.l0 k l0 l1 0
set_option maxHeartbeats 8000000 in
set_option maxRecDepth 100000 in
theorem spec_l3Ints.calls (k : Nat) (A0 : Option Addr) (c0 : Nat) (l0 : List Int) (A1 : Option Addr) (c1 : Nat) (l1 : List Int) (r : Int) (w : World) (hr0 : Kd.C (Kd.int .i64) w A0 l0.length l0) (hc0 : l0.length ≤ c0) (hr1 : Kd.C (Kd.int .i64) w A1 l1.length l1) (hc1 : l1.length ≤ c1) (h : spec_l3Ints.f k l0 l1 = some r) :
  Calls Tryd.prog 67 #[.slice A0 l0.length c0, .slice A1 l1.length c1] w fun e w' => e = .returned (.int .i64 r) ∧ Drawn0 w w' := by
 have rg_ := @bcl w
 have rd_ := @bdr w
 unfold spec_l3Ints.f at h
 ·go_enter Tryd.func67, Tryd.ntmps67
  go_wp2
  (repeat ((refine nw (w0 := w) zB ?_; intro W1 HB hb hd; (first | (refine Txt.rg (id := 4) [0, 1, 2, 3, 4, 5, 6, 7, 8] (by kernel_rfl) (by kernel_rfl) ?_; simp only [List.map_cons, List.map_nil, List.getD_cons_zero, List.getD_cons_succ]) | (refine Txt.rg (id := 6) [0, 1, 2, 3, 4, 5, 6, 7, 8] (by kernel_rfl) (by kernel_rfl) ?_; simp only [List.map_cons, List.map_nil, List.getD_cons_zero, List.getD_cons_succ])); (repeat (first | (refine Txt.off rfl ?_; simp only [Act.put, List.setIfInBounds_toArray, List.set_cons_zero, List.set_cons_succ]) | (refine Txt.take rfl rfl ?_; intro K hK; go_big_quiet_op; go_big_quiet_on))); refine Txt.nil ?_); (try go_wp2)))
  go_loopg [5] k (fun kq v5 w' => ∃ (x5_0 : Int), v5 = .int .i64 x5_0 ∧ spec_l3Ints.l0 kq l0 l1 x5_0 = some r ∧ Drawn0 w w')
  case atStart => exact ⟨_, zR, zA, zD⟩
  case round =>
   clear h
   obtain ⟨x5_0, rfl, h, hb⟩ := hrel
   have hd := hb
   replace hb := hb.below
   replace hb := aM hb
   have HB : Below w.heap.size w wr := zB
   rcases gk with _ | kk0
   exact absurd h (by simp [spec_l3Ints.l0])
   simp only [spec_l3Ints.l0] at h
   replace h := il h; rcases h with ⟨c1, c1a, h⟩ | ⟨c1, c1a, h⟩
   rcases kk0 with _ | kj2
   exact absurd h (by simp [spec_l3Ints.j1])
   simp only [spec_l3Ints.j1] at h
   replace h := ib h; rcases h with ⟨c3, h⟩ | ⟨c3, h⟩
   replace h := ie h; rcases h with ⟨c4, c4a, h⟩ | ⟨c4, c4a, h⟩
   replace h := il h; rcases h with ⟨c5, c5a, h⟩ | ⟨c5, c5a, h⟩
   replace h := il h; rcases h with ⟨c6, c6a, h⟩ | ⟨c6, c6a, h⟩
   replace h := il h; rcases h with ⟨c7, c7a, h⟩ | ⟨c7, c7a, h⟩
   obtain rfl := si h
   obtain ⟨ad184, e184, hx184_0⟩ := Kd.at_int hr0 (x5_0 : Int) aD aD
   have p184 := eq_true (aD : 0 ≤ (x5_0 : Int))
   have q184 := eq_true (aD : x5_0 < (l0.length : Int))
   cases e184
   replace hx184_0 := qa hx184_0
   obtain ⟨ad185, e185, hx185_0⟩ := Kd.at_int hr1 (x5_0 : Int) aD aD
   have p185 := eq_true (aD : 0 ≤ (x5_0 : Int))
   have q185 := eq_true (aD : x5_0 < (l1.length : Int))
   cases e185
   replace hx185_0 := qa hx185_0
   rotate_left
   replace h := ig h; rcases h with ⟨c8, c8a, h⟩ | ⟨c8, c8a, h⟩
   obtain rfl := si h
   obtain ⟨ad184, e184, hx184_0⟩ := Kd.at_int hr0 (x5_0 : Int) aD aD
   have p184 := eq_true (aD : 0 ≤ (x5_0 : Int))
   have q184 := eq_true (aD : x5_0 < (l0.length : Int))
   cases e184
   replace hx184_0 := qa hx184_0
   obtain ⟨ad185, e185, hx185_0⟩ := Kd.at_int hr1 (x5_0 : Int) aD aD
   have p185 := eq_true (aD : 0 ≤ (x5_0 : Int))
   have q185 := eq_true (aD : x5_0 < (l1.length : Int))
   cases e185
   replace hx185_0 := qa hx185_0
   obtain ⟨ad186, e186, hx186_0⟩ := Kd.at_int hr0 (x5_0 : Int) aD aD
   have p186 := eq_true (aD : 0 ≤ (x5_0 : Int))
   have q186 := eq_true (aD : x5_0 < (l0.length : Int))
   cases e186
   replace hx186_0 := qa hx186_0
   obtain ⟨ad187, e187, hx187_0⟩ := Kd.at_int hr1 (x5_0 : Int) aD aD
   have p187 := eq_true (aD : 0 ≤ (x5_0 : Int))
   have q187 := eq_true (aD : x5_0 < (l1.length : Int))
   cases e187
   replace hx187_0 := qa hx187_0
   rotate_left
   obtain ⟨kf, hkf⟩ : ∃ kf, kf = kj2 := ⟨_, rfl⟩; rw [← hkf] at h
   obtain ⟨ad184, e184, hx184_0⟩ := Kd.at_int hr0 (x5_0 : Int) aD aD
   have p184 := eq_true (aD : 0 ≤ (x5_0 : Int))
   have q184 := eq_true (aD : x5_0 < (l0.length : Int))
   cases e184
   replace hx184_0 := qa hx184_0
   obtain ⟨ad185, e185, hx185_0⟩ := Kd.at_int hr1 (x5_0 : Int) aD aD
   have p185 := eq_true (aD : 0 ≤ (x5_0 : Int))
   have q185 := eq_true (aD : x5_0 < (l1.length : Int))
   cases e185
   replace hx185_0 := qa hx185_0
   obtain ⟨ad186, e186, hx186_0⟩ := Kd.at_int hr0 (x5_0 : Int) aD aD
   have p186 := eq_true (aD : 0 ≤ (x5_0 : Int))
   have q186 := eq_true (aD : x5_0 < (l0.length : Int))
   cases e186
   replace hx186_0 := qa hx186_0
   obtain ⟨ad187, e187, hx187_0⟩ := Kd.at_int hr1 (x5_0 : Int) aD aD
   have p187 := eq_true (aD : 0 ≤ (x5_0 : Int))
   have q187 := eq_true (aD : x5_0 < (l1.length : Int))
   cases e187
   replace hx187_0 := qa hx187_0
   rotate_left
   exact absurd h (by simp)
   exact absurd h (by simp)
   exact absurd h (by simp)
   replace h := il h; rcases h with ⟨c9, c9a, h⟩ | ⟨c9, c9a, h⟩
   have cz := c9.out
   have c9x1 : decide (l0.length < l1.length) = true := decide_eq_true (Int.ofNat_lt.mp cz)
   clear cz
   obtain rfl := si h
   rotate_left
   have cz := c9.out
   have c9x1 : decide (l0.length < l1.length) = false := decide_eq_false (fun h => cz (Int.ofNat_lt.mpr h))
   clear cz
   replace h := ig h; rcases h with ⟨c10, c10a, h⟩ | ⟨c10, c10a, h⟩
   have cz := c10.out
   have c10x1 : decide (l1.length < l0.length) = true := decide_eq_true (Int.ofNat_lt.mp cz)
   clear cz
   obtain rfl := si h
   rotate_left
   have cz := c10.out
   have c10x1 : decide (l1.length < l0.length) = false := decide_eq_false (fun h => cz (Int.ofNat_lt.mpr h))
   clear cz
   obtain rfl := si h
   rotate_left
   rcases kk0 with _ | kj11
   exact absurd h (by simp [spec_l3Ints.j1])
   simp only [spec_l3Ints.j1] at h
   (try replace h := iff_ h)
   replace h := il h; rcases h with ⟨c12, c12a, h⟩ | ⟨c12, c12a, h⟩
   have cz := c12.out
   have c12x1 : decide (l0.length < l1.length) = true := decide_eq_true (Int.ofNat_lt.mp cz)
   clear cz
   obtain rfl := si h
   rotate_left
   have cz := c12.out
   have c12x1 : decide (l0.length < l1.length) = false := decide_eq_false (fun h => cz (Int.ofNat_lt.mpr h))
   clear cz
   replace h := ig h; rcases h with ⟨c13, c13a, h⟩ | ⟨c13, c13a, h⟩
   have cz := c13.out
   have c13x1 : decide (l1.length < l0.length) = true := decide_eq_true (Int.ofNat_lt.mp cz)
   clear cz
   obtain rfl := si h
   rotate_left
   have cz := c13.out
   have c13x1 : decide (l1.length < l0.length) = false := decide_eq_false (fun h => cz (Int.ofNat_lt.mpr h))
   clear cz
   obtain rfl := si h
   rotate_left
   all_goals (go_wp2; (repeat ((refine nw (w0 := w) zB ?_; intro W1 HB hb hd; (first | (refine Txt.rg (id := 4) [0, 1, 2, 3, 4, 5, 6, 7, 8] (by kernel_rfl) (by kernel_rfl) ?_; simp only [List.map_cons, List.map_nil, List.getD_cons_zero, List.getD_cons_succ]) | (refine Txt.rg (id := 6) [0, 1, 2, 3, 4, 5, 6, 7, 8] (by kernel_rfl) (by kernel_rfl) ?_; simp only [List.map_cons, List.map_nil, List.getD_cons_zero, List.getD_cons_succ])); (repeat (first | (refine Txt.off rfl ?_; simp only [Act.put, List.setIfInBounds_toArray, List.set_cons_zero, List.set_cons_succ]) | (refine Txt.take rfl rfl ?_; intro K hK; go_big_quiet_op; go_big_quiet_on))); refine Txt.nil ?_); (try go_wp2))); first | (go_ret; exact zE zD) | (go_roundg kf; (case measure => omega); (case rel => exact ⟨_, zR, zA, zD⟩)))

/-! ### spec_CompareFacts: function 22 -/
def spec_CompareFacts.f (k : Nat) (a0_0 : Int) (l0_1 : List Int) (a1_0 : Int) (l1_1 : List Int) : Option (Int) := if a0_0 < a1_0 then (some (-1)) else (if a0_0 > a1_0 then (some 1) else ((spec_l3Ints.f k l0_1 l1_1).bind fun t190 => (some t190)))
set_option maxHeartbeats 8000000 in
set_option maxRecDepth 100000 in
theorem spec_CompareFacts.calls (k : Nat) (a0_0 : Int) (A0_1 : Option Addr) (c0_1 : Nat) (l0_1 : List Int) (a1_0 : Int) (A1_1 : Option Addr) (c1_1 : Nat) (l1_1 : List Int) (r : Int) (w : World) (hr0_1 : Kd.C (Kd.int .i64) w A0_1 l0_1.length l0_1) (hc0_1 : l0_1.length ≤ c0_1) (hr1_1 : Kd.C (Kd.int .i64) w A1_1 l1_1.length l1_1) (hc1_1 : l1_1.length ≤ c1_1) (h : spec_CompareFacts.f k a0_0 l0_1 a1_0 l1_1 = some r) :
  Calls Tryd.prog 22 #[.agg #[.int .i64 a0_0, .slice A0_1 l0_1.length c0_1], .agg #[.int .i64 a1_0, .slice A1_1 l1_1.length c1_1]] w fun e w' => e = .returned (.int .i64 r) ∧ Below w.heap.size w w' := by
 have hu39 := Tryd.underlying39
 obtain ⟨W, hW⟩ : ∃ W, (w.alloc (.cells #[.int .i64 a0_0, .slice A0_1 l0_1.length c0_1] 39)).alloc (.cells #[.int .i64 a1_0, .slice A1_1 l1_1.length c1_1] 39) = W := ⟨_, rfl⟩
 have q0 := qa (w := W) (p := ⟨w.heap.size, 0, none⟩) (v := .int .i64 a0_0) (by subst hW; go_simp)
 have q1 := qa (w := W) (p := ⟨w.heap.size, 1, none⟩) (v := .slice A0_1 l0_1.length c0_1) (by subst hW; go_simp)
 have q2 := qa (w := W) (p := ⟨w.heap.size + 1, 0, none⟩) (v := .int .i64 a1_0) (by subst hW; go_simp)
 have q3 := qa (w := W) (p := ⟨w.heap.size + 1, 1, none⟩) (v := .slice A1_1 l1_1.length c1_1) (by subst hW; go_simp)
 have HB : Below w.heap.size w W := by subst hW; exact zB
 have HW := Below.refl W.heap.size W
 have hb := aM HB
 unfold spec_CompareFacts.f at h
 replace h := il h; rcases h with ⟨c0, c0a, h⟩ | ⟨c0, c0a, h⟩
 obtain rfl := si h
 rotate_left
 replace h := ig h; rcases h with ⟨c1, c1a, h⟩ | ⟨c1, c1a, h⟩
 obtain rfl := si h
 rotate_left
 replace h := bs h; obtain ⟨t190, B2, h⟩ := h
 obtain rfl := si h
 rotate_left
 all_goals (go_enter Tryd.func22, Tryd.ntmps22; go_wp2_with (first | (go_at_call 67; refine (spec_l3Ints.calls ?_ _ _ _ _ _ _ ?_ _ ?_ ?_ ?_ ?_ ?h).mono ?_; (case h => exact zA); (iterate 4 (first | exact zC | exact zA)); rintro e w1 ⟨rfl, hb⟩; replace hb := hb.below; replace hb := aM hb; have HW : Below W.heap.size W w1 := zB; have HB : Below w.heap.size w w1 := zB)); go_ret; exact zE zB)

/-! ### spec_IsValidDatabase: function 33 -/
def spec_IsValidDatabase.l0 : Nat → Int → List (S68) → List (S39) → Option (Bool)
 | 0, _, _, _ => none
 | k + 1, x3, x192000, x192001 => if x3 < (x192001.length : Int) then (if 0 ≤ x3 then ((spec_IsValidFact.f k x192000 ((rd_T39 x192001 x3).f0) ((rd_T39 x192001 x3).f1)).bind fun t194 => (if t194 = true then (if x3 > 0 then (if 0 ≤ (wrap64 (x3 - 1)) then (if (wrap64 (x3 - 1)) < (x192001.length : Int) then ((spec_CompareFacts.f k ((rd_T39 x192001 (wrap64 (x3 - 1))).f0) ((rd_T39 x192001 (wrap64 (x3 - 1))).f1) ((rd_T39 x192001 x3).f0) ((rd_T39 x192001 x3).f1)).bind fun t197 => (if t197 ≥ 0 then (some false) else (spec_IsValidDatabase.l0 k (wrap64 (x3 + 1)) x192000 x192001))) else (none)) else (none)) else (spec_IsValidDatabase.l0 k (wrap64 (x3 + 1)) x192000 x192001)) else (some false))) else (none)) else ((spec_AreValidRelations.f x192000).bind fun t192 => (if t192 = true then (some (decide ((x192001.length : Int) ≤ 14))) else (some false)))
def spec_IsValidDatabase.f (k : Nat) (l0_0 : List (S68)) (l0_1 : List (S39)) : Option (Bool) := spec_IsValidDatabase.l0 k 0 l0_0 l0_1
set_option maxHeartbeats 8000000 in
set_option maxRecDepth 100000 in
theorem spec_IsValidDatabase.calls (k : Nat) (A0_0 : Option Addr) (c0_0 : Nat) (l0_0 : List (S68)) (A0_1 : Option Addr) (c0_1 : Nat) (l0_1 : List (S39)) (r : Bool) (w : World) (hr0_0 : Kd.C k68 w A0_0 l0_0.length l0_0) (hc0_0 : l0_0.length ≤ c0_0) (hr0_1 : Kd.C k39 w A0_1 l0_1.length l0_1) (hc0_1 : l0_1.length ≤ c0_1) (h : spec_IsValidDatabase.f k l0_0 l0_1 = some r) :
  Calls Tryd.prog 33 #[.agg #[.slice A0_0 l0_0.length c0_0, .slice A0_1 l0_1.length c0_1]] w fun e w' => e = .returned (.bool r) ∧ Below w.heap.size w w' := by
 have hu31 := Tryd.underlying31
 have hu39 := Tryd.underlying39
 obtain ⟨W, hW⟩ : ∃ W, w.alloc (.cells #[.slice A0_0 l0_0.length c0_0, .slice A0_1 l0_1.length c0_1] 31) = W := ⟨_, rfl⟩
 have q0 := qa (w := W) (p := ⟨w.heap.size, 0, none⟩) (v := .slice A0_0 l0_0.length c0_0) (by subst hW; go_simp)
 have q1 := qa (w := W) (p := ⟨w.heap.size, 1, none⟩) (v := .slice A0_1 l0_1.length c0_1) (by subst hW; go_simp)
 have HB : Below w.heap.size w W := by subst hW; exact zB
 have HW := Below.refl W.heap.size W
 have hb := aM HB
 have rg_ := @bcl w
 have rd_ := @bdr w
 have rG_ := @bcl W
 have rD_ := @bdr W
 unfold spec_IsValidDatabase.f at h
 ·go_enter Tryd.func33, Tryd.ntmps33
  go_wp2_with (first | (go_at_call 63; refine (spec_AreValidRelations.calls _ _ _ ?_ _ ?_ ?_ ?h).mono ?_; (case h => exact zA); (iterate 2 (first | exact zC | exact zA)); rintro e w1 ⟨rfl, hb⟩; replace hb := aM hb; have HW : Below W.heap.size W w1 := zB; have HB : Below w.heap.size w w1 := zB))
  (repeat ((refine nw (w0 := w) zB ?_; intro W1 HB hb hd; have HW : Below W.heap.size W W1 := zB; (first | (refine Txt.rg (id := 4) [0, 1, 2, 3, 4, 5, 6, 7, 8, 9, 10, 11, 12, 13, 14, 15, 16, 17, 18, 19, 20, 21, 22, 23, 24, 25, 26, 27] (by kernel_rfl) (by kernel_rfl) ?_; simp only [List.map_cons, List.map_nil, List.getD_cons_zero, List.getD_cons_succ])); (repeat (first | (refine Txt.off rfl ?_; simp only [Act.put, List.setIfInBounds_toArray, List.set_cons_zero, List.set_cons_succ]) | (refine Txt.take rfl rfl ?_; intro K hK; go_big_quiet_op; go_big_quiet_on) | (refine Txt.call rfl rfl Tryd.func20 (by kernel_rfl) rfl (spec_IsValidFact.calls ?_ _ _ _ _ _ _ _ ?_ _ ?_ ?_ ?_ ?_ ?h) rfl ?_; (case h => exact zA); (iterate 4 (first | exact zC | exact zA)); rintro e w1 ⟨rfl, hb⟩; replace hb := aM hb; have HW : Below W.heap.size W w1 := zB; have HB : Below w.heap.size w w1 := zB; refine ⟨_, rfl, zS, ?_⟩; simp only [Act.put, List.setIfInBounds_toArray, List.set_cons_zero, List.set_cons_succ]) | (refine Txt.call rfl rfl Tryd.func22 (by kernel_rfl) rfl (spec_CompareFacts.calls ?_ _ _ _ _ _ _ _ _ ?_ _ ?_ ?_ ?_ ?_ ?h) rfl ?_; (case h => exact zA); (iterate 4 (first | exact zC | exact zA)); rintro e w1 ⟨rfl, hb⟩; replace hb := aM hb; have HW : Below W.heap.size W w1 := zB; have HB : Below w.heap.size w w1 := zB; refine ⟨_, rfl, zS, ?_⟩; simp only [Act.put, List.setIfInBounds_toArray, List.set_cons_zero, List.set_cons_succ]))); refine Txt.nil ?_); (try go_wp2_with (first | (go_at_call 63; refine (spec_AreValidRelations.calls _ _ _ ?_ _ ?_ ?_ ?h).mono ?_; (case h => exact zA); (iterate 2 (first | exact zC | exact zA)); rintro e w1 ⟨rfl, hb⟩; replace hb := aM hb; have HW : Below W.heap.size W w1 := zB; have HB : Below w.heap.size w w1 := zB)))))
  go_loopg [3] k (fun kq v3 w' => ∃ (x3_0 : Int), v3 = .int .i64 x3_0 ∧ spec_IsValidDatabase.l0 kq x3_0 l0_0 l0_1 = some r ∧ Below W.heap.size W w')
  case atStart => exact ⟨_, zR, zA, zB⟩
  case round =>
   clear h
   obtain ⟨x3_0, rfl, h, hb⟩ := hrel
   replace hb := aM hb
   have HW : Below W.heap.size W wr := zB
   have HB : Below w.heap.size w wr := zB
   rcases gk with _ | kk0
   exact absurd h (by simp [spec_IsValidDatabase.l0])
   simp only [spec_IsValidDatabase.l0] at h
   replace h := il h; rcases h with ⟨c1, c1a, h⟩ | ⟨c1, c1a, h⟩
   replace h := ie h; rcases h with ⟨c2, c2a, h⟩ | ⟨c2, c2a, h⟩
   replace h := bs h; obtain ⟨t194, B3, h⟩ := h
   replace h := ib h; rcases h with ⟨rfl, h⟩ | ⟨rfl, h⟩
   replace h := ig h; rcases h with ⟨c5, c5a, h⟩ | ⟨c5, c5a, h⟩
   replace h := ie h; rcases h with ⟨c6, c6a, h⟩ | ⟨c6, c6a, h⟩
   replace h := il h; rcases h with ⟨c7, c7a, h⟩ | ⟨c7, c7a, h⟩
   replace h := bs h; obtain ⟨t197, B8, h⟩ := h
   replace h := ih h; rcases h with ⟨c9, c9a, h⟩ | ⟨c9, c9a, h⟩
   obtain rfl := si h
   obtain ⟨ad193, A193_1, c193_1, e193, hx193_0, hx193_1, hl193_1, hi193_1⟩ := at_T39 hr0_1 (x3_0 : Int) aD aD
   have p193 := eq_true (aD : 0 ≤ (x3_0 : Int))
   have q193 := eq_true (aD : x3_0 < (l0_1.length : Int))
   cases e193
   replace hx193_0 := qa hx193_0
   replace hx193_1 := qa hx193_1
   obtain ⟨ad195, A195_1, c195_1, e195, hx195_0, hx195_1, hl195_1, hi195_1⟩ := at_T39 hr0_1 ((wrap64 (x3_0 - 1)) : Int) aD aD
   have p195 := eq_true (aD : 0 ≤ ((wrap64 (x3_0 - 1)) : Int))
   have q195 := eq_true (aD : (wrap64 (x3_0 - 1)) < (l0_1.length : Int))
   cases e195
   replace hx195_0 := qa hx195_0
   replace hx195_1 := qa hx195_1
   obtain ⟨ad196, A196_1, c196_1, e196, hx196_0, hx196_1, hl196_1, hi196_1⟩ := at_T39 hr0_1 (x3_0 : Int) aD aD
   have p196 := eq_true (aD : 0 ≤ (x3_0 : Int))
   have q196 := eq_true (aD : x3_0 < (l0_1.length : Int))
   cases e196
   replace hx196_0 := qa hx196_0
   replace hx196_1 := qa hx196_1
   rotate_left
   obtain ⟨kf, hkf⟩ : ∃ kf, kf = kk0 := ⟨_, rfl⟩; rw [← hkf] at h
   obtain ⟨ad193, A193_1, c193_1, e193, hx193_0, hx193_1, hl193_1, hi193_1⟩ := at_T39 hr0_1 (x3_0 : Int) aD aD
   have p193 := eq_true (aD : 0 ≤ (x3_0 : Int))
   have q193 := eq_true (aD : x3_0 < (l0_1.length : Int))
   cases e193
   replace hx193_0 := qa hx193_0
   replace hx193_1 := qa hx193_1
   obtain ⟨ad195, A195_1, c195_1, e195, hx195_0, hx195_1, hl195_1, hi195_1⟩ := at_T39 hr0_1 ((wrap64 (x3_0 - 1)) : Int) aD aD
   have p195 := eq_true (aD : 0 ≤ ((wrap64 (x3_0 - 1)) : Int))
   have q195 := eq_true (aD : (wrap64 (x3_0 - 1)) < (l0_1.length : Int))
   cases e195
   replace hx195_0 := qa hx195_0
   replace hx195_1 := qa hx195_1
   obtain ⟨ad196, A196_1, c196_1, e196, hx196_0, hx196_1, hl196_1, hi196_1⟩ := at_T39 hr0_1 (x3_0 : Int) aD aD
   have p196 := eq_true (aD : 0 ≤ (x3_0 : Int))
   have q196 := eq_true (aD : x3_0 < (l0_1.length : Int))
   cases e196
   replace hx196_0 := qa hx196_0
   replace hx196_1 := qa hx196_1
   rotate_left
   exact absurd h (by simp)
   exact absurd h (by simp)
   obtain ⟨kf, hkf⟩ : ∃ kf, kf = kk0 := ⟨_, rfl⟩; rw [← hkf] at h
   obtain ⟨ad193, A193_1, c193_1, e193, hx193_0, hx193_1, hl193_1, hi193_1⟩ := at_T39 hr0_1 (x3_0 : Int) aD aD
   have p193 := eq_true (aD : 0 ≤ (x3_0 : Int))
   have q193 := eq_true (aD : x3_0 < (l0_1.length : Int))
   cases e193
   replace hx193_0 := qa hx193_0
   replace hx193_1 := qa hx193_1
   rotate_left
   obtain rfl := si h
   obtain ⟨ad193, A193_1, c193_1, e193, hx193_0, hx193_1, hl193_1, hi193_1⟩ := at_T39 hr0_1 (x3_0 : Int) aD aD
   have p193 := eq_true (aD : 0 ≤ (x3_0 : Int))
   have q193 := eq_true (aD : x3_0 < (l0_1.length : Int))
   cases e193
   replace hx193_0 := qa hx193_0
   replace hx193_1 := qa hx193_1
   rotate_left
   exact absurd h (by simp)
   replace h := bs h; obtain ⟨t192, B10, h⟩ := h
   replace h := ib h; rcases h with ⟨rfl, h⟩ | ⟨rfl, h⟩
   obtain rfl := si h
   rotate_left
   obtain rfl := si h
   rotate_left
   all_goals (go_wp2_with (first | (go_at_call 63; refine (spec_AreValidRelations.calls _ _ _ ?_ _ ?_ ?_ ?h).mono ?_; (case h => exact zA); (iterate 2 (first | exact zC | exact zA)); rintro e w1 ⟨rfl, hb⟩; replace hb := aM hb; have HW : Below W.heap.size W w1 := zB; have HB : Below w.heap.size w w1 := zB)); (repeat ((refine nw (w0 := w) zB ?_; intro W1 HB hb hd; have HW : Below W.heap.size W W1 := zB; (first | (refine Txt.rg (id := 4) [0, 1, 2, 3, 4, 5, 6, 7, 8, 9, 10, 11, 12, 13, 14, 15, 16, 17, 18, 19, 20, 21, 22, 23, 24, 25, 26, 27] (by kernel_rfl) (by kernel_rfl) ?_; simp only [List.map_cons, List.map_nil, List.getD_cons_zero, List.getD_cons_succ])); (repeat (first | (refine Txt.off rfl ?_; simp only [Act.put, List.setIfInBounds_toArray, List.set_cons_zero, List.set_cons_succ]) | (refine Txt.take rfl rfl ?_; intro K hK; go_big_quiet_op; go_big_quiet_on) | (refine Txt.call rfl rfl Tryd.func20 (by kernel_rfl) rfl (spec_IsValidFact.calls ?_ _ _ _ _ _ _ _ ?_ _ ?_ ?_ ?_ ?_ ?h) rfl ?_; (case h => exact zA); (iterate 4 (first | exact zC | exact zA)); rintro e w1 ⟨rfl, hb⟩; replace hb := aM hb; have HW : Below W.heap.size W w1 := zB; have HB : Below w.heap.size w w1 := zB; refine ⟨_, rfl, zS, ?_⟩; simp only [Act.put, List.setIfInBounds_toArray, List.set_cons_zero, List.set_cons_succ]) | (refine Txt.call rfl rfl Tryd.func22 (by kernel_rfl) rfl (spec_CompareFacts.calls ?_ _ _ _ _ _ _ _ _ ?_ _ ?_ ?_ ?_ ?_ ?h) rfl ?_; (case h => exact zA); (iterate 4 (first | exact zC | exact zA)); rintro e w1 ⟨rfl, hb⟩; replace hb := aM hb; have HW : Below W.heap.size W w1 := zB; have HB : Below w.heap.size w w1 := zB; refine ⟨_, rfl, zS, ?_⟩; simp only [Act.put, List.setIfInBounds_toArray, List.set_cons_zero, List.set_cons_succ]))); refine Txt.nil ?_); (try go_wp2_with (first | (go_at_call 63; refine (spec_AreValidRelations.calls _ _ _ ?_ _ ?_ ?_ ?h).mono ?_; (case h => exact zA); (iterate 2 (first | exact zC | exact zA)); rintro e w1 ⟨rfl, hb⟩; replace hb := aM hb; have HW : Below W.heap.size W w1 := zB; have HB : Below w.heap.size w w1 := zB))))); first | (go_ret; exact zE zB) | (go_roundg kf; (case measure => omega); (case rel => exact ⟨_, zR, zA, zB⟩)))

/-! ### spec_l4Copy: function 113 -/
def spec_l4Copy.l0 : Nat → Int → List (S68) → List (S39) → List (S68) → List (S39) → Option ((List (S68)) × (List (S39)))
 | 0, _, _, _, _, _ => none
 | k + 1, x4, x199000, x199001, x207000, x207001 => if x4 < (x199001.length : Int) then (if 0 ≤ x4 then ((some (([] : List Int) : List Int)).bind fun y208 => (if y208.length + ((rd_T39 x199001 x4).f1).length < 17592186044416 then (if x207001.length < 4398046511104 then (spec_l4Copy.l0 k (wrap64 (x4 + 1)) x199000 x199001 x207000 (x207001 ++ [(⟨(rd_T39 x199001 x4).f0, (y208 ++ ((rd_T39 x199001 x4).f1))⟩ : S39)])) else (none)) else (none))) else (none)) else (some (x207000, x207001))
def spec_l4Copy.f (k : Nat) (l0_0 : List (S68)) (l0_1 : List (S39)) : Option ((List (S68)) × (List (S39))) := (some (([] : List (S68)) : List (S68))).bind fun y200 => (if y200.length + l0_0.length < 4398046511104 then (spec_l4Copy.l0 k 0 l0_0 l0_1 (y200 ++ l0_0) ([] : List (S39))) else (none))
def spec_l4Copy.T5 : Bool × List (List Nat × List Nat) := (true, [([], []), ([0], [0]), ([], []), ([2], [2]), ([], []), ([3, 4], [3, 4]), ([5], [5]), ([6], [6]), ([], []), ([], []), ([9], [9]), ([], []), ([10, 11], [10, 11]), ([12], [12]), ([13], [13]), ([8, 14], [8, 14]), ([7, 15], [7, 15]), ([16], [16]), ([1, 17, 15], [1, 17]), ([0, 1, 2, 3, 4, 5, 6, 7, 8, 9, 10, 11, 12, 13, 14, 15, 16, 17, 18], []), ([19, 18, 18, 0, 1, 2, 3, 4, 5, 6, 7, 8, 9, 10, 11, 12, 13, 14, 15, 16, 17, 18], [18, 19])])
def spec_l4Copy.B5 : List Nat := [0, 1, 0, 4, 0, 28, 60, 124, 0, 0, 512, 0, 3584, 7680, 15872, 32512, 65532, 131068, 262143, 524287, 1048575]
theorem spec_l4Copy.tab5 : rtab .any (opsOf Tryd.f113 5) = spec_l4Copy.T5 := by kernel_rfl
theorem spec_l4Copy.bits5 : waitsOk spec_l4Copy.T5.2 spec_l4Copy.B5 = true := by kernel_rfl
set_option maxHeartbeats 8000000 in
set_option maxRecDepth 100000 in
theorem spec_l4Copy.calls (k : Nat) (A0_0 : Option Addr) (c0_0 : Nat) (l0_0 : List (S68)) (A0_1 : Option Addr) (c0_1 : Nat) (l0_1 : List (S39)) (r1 : List (S68)) (r2 : List (S39)) (w : World) (hr0_0 : Kd.C k68 w A0_0 l0_0.length l0_0) (hc0_0 : l0_0.length ≤ c0_0) (hr0_1 : Kd.C k39 w A0_1 l0_1.length l0_1) (hc0_1 : l0_1.length ≤ c0_1) (h : spec_l4Copy.f k l0_0 l0_1 = some (r1, r2)) :
  Calls Tryd.prog 113 #[.agg #[.slice A0_0 l0_0.length c0_0, .slice A0_1 l0_1.length c0_1]] w fun e w' => ∃ v0_ v1_ : Value, e = .returned (.agg #[v0_, v1_]) ∧ Kd.R k68 68 w' w.heap.size (fun _ => True) v0_ r1 ∧ Kd.S k39 39 w' w.heap.size (fun _ => True) v1_ r2 ∧ Below w.heap.size w w' := by
 have hu31 := Tryd.underlying31
 have hu39 := Tryd.underlying39
 have HR0_0 := aM hr0_0
 have HC0_0 := aM hc0_0
 clear hr0_0 hc0_0
 have HR0_1 := aM hr0_1
 have HC0_1 := aM hc0_1
 clear hr0_1 hc0_1
 have HB := aM (Below.refl w.heap.size w)
 have H : ((some (([] : List (S68)) : List (S68))).bind fun y200 => (if y200.length + l0_0.length < 4398046511104 then (spec_l4Copy.l0 k 0 l0_0 l0_1 (y200 ++ l0_0) ([] : List (S39))) else (none))) = some (r1, r2) := h
 clear h
 obtain ⟨y200, hy200⟩ : ∃ y_ : List (S68), y_ = (([] : List (S68))) := ⟨_, rfl⟩
 first | replace H := bY hy200 H | rw [← hy200] at H
 have Ny200 := aM hy200
 clear hy200
 by_cases c2 : y200.length + l0_0.length < 4398046511104
 ·rw [if_pos c2] at H
  have LMc2 := aM c2
  clear c2
  obtain ⟨y203, hy203⟩ : ∃ y_ : List (S68), y_ = (y200 ++ l0_0) := ⟨_, rfl⟩
  first | replace H := bY hy203 H | rw [← hy203] at H
  have Ny203 := aM hy203
  clear hy203
  have H' := aM H
  clear H
  go_enter Tryd.func113, Tryd.ntmps113
  go_wp2_with (first | ((with_reducible refine gate_dst (N := 1) rfl ?_); refine bE 1 (cs := #[.slice A0_0 l0_0.length c0_0, .slice A0_1 l0_1.length c0_1]) (t := 31) ?_; intro gb198 hg w3 hbox hb; have BK198 := aM (hbox); have GW198 := aM ((by rw [hg]; exact (below_size aB) : w.heap.size ≤ gb198)); have GE198 := aM ((by rw [hg]; exact (below_size aB) : w.heap.size ≤ gb198)); replace HB := aM (below_step aB hb); clear hb hbox hg) | ((with_reducible refine gate_dst (N := 2) rfl ?_); refine bE 2 (cs := #[.slice none 0 0, .slice none 0 0]) (t := 31) ?_; intro gb199 hg w4 hbox hb; have BK199 := aM (hbox); have GW199 := aM ((by rw [hg]; exact (below_size aG) : w.heap.size ≤ gb199)); have GE199 := aM ((by rw [hg]; exact (below_size aG) : w.heap.size ≤ gb199)); have NB198_199 := aM ((by rw [hg]; exact Nat.ne_of_lt (blk_lt (g := gb198) (o := .cells #[.slice A0_0 l0_0.length c0_0, .slice A0_1 l0_1.length c0_1] 31 (0, 0)) aK) : gb198 ≠ gb199)); have NB199_198 := aM ((by rw [hg]; exact Nat.ne_of_gt (blk_lt (g := gb198) (o := .cells #[.slice A0_0 l0_0.length c0_0, .slice A0_1 l0_1.length c0_1] 31 (0, 0)) aK) : gb199 ≠ gb198)); replace BK198 := aM (kB gb198 #[.slice A0_0 l0_0.length c0_0, .slice A0_1 l0_1.length c0_1] 31 hb); replace HB := aM (below_step aG hb); clear hb hbox hg) | ((with_reducible refine gate_dst (N := 5) rfl ?_); refine Kd.R_lit k68 _ 68 ?hg (N := 5) ?hd (xs := ([] : List (S68))) (inner := []) (ok := fun _ => True) (okp := fun _ => True) ?hr ?hp (fun _ hk => hk) trivial (Below.refl _ _) (Nat.le_refl _) (by simp) ?_; (case hd => rfl); (case hg => rfl); (case hr => first | (go_simp; done) | (go_simp; rfl)); (case hp => exact (Reps.none _ _)); intro v201 w5 ho6 hb hg_ hnew_; clear hg_ hnew_; (first | rw [← Ny200.out] at ho6 | (simp only [Int.reduceToNat] at ho6; rw [← Ny200.out] at ho6)); have n0_ := aM (Kd.R_lower ho6 (below_size aG)); have n1_ := aM (kB gb198 #[.slice A0_0 l0_0.length c0_0, .slice A0_1 l0_1.length c0_1] 31 hb); have n2_ := aM (kB gb199 #[.slice none 0 0, .slice none 0 0] 31 hb); have n3_ := aM (below_step aG hb); clear BK198; clear BK199; clear HB; have HO202 := n0_; have BK198 := n1_; have BK199 := n2_; have HB := n3_; clear n0_ n1_ n2_ n3_; clear hb ho6; have hnb7 := NB198_199.out; have hnc7 := NB199_198.out; have hcz8_0 : w5.cell? ⟨gb198, 0, none⟩ = some (.slice A0_0 l0_0.length c0_0) := (blk_cell BK198.out 0).trans rfl; have hcz8_1 : w5.cell? ⟨gb198, 1, none⟩ = some (.slice A0_1 l0_1.length c0_1) := (blk_cell BK198.out 1).trans rfl; have hfz8_0 := blk_frozen BK198.out 0; have hfz8_1 := blk_frozen BK198.out 1) | ((with_reducible refine gate_builtin (b := .append) (xs := #[.tmp 5, .tmp 7]) rfl ?_); at_builtin; refine Kd.R_append_rows k68 (w0 := w) w.heap.size rfl (.tmp 5) (.tmp 7) 28 68 (.agg #[(.string ⟨#[]⟩), (.int .i64 0), (.int .i64 0)]) 32 rfl Tryd.underlying28 info68 rfl (by decide) (by omega) v201 y200 l0_0 _ _ _ (fun _ => True) (fun _ => False) rfl rfl ?aO ?aR (fun _ _ h => h) (fun _ h => h.elim) ?aF ?aB ?aS ?aL ?_; (case aR => exact aC); (case aB => exact aG); (case aF => exact (fun _ _ => trivial)); (case aO => exact (aR HO202)); (case aS => exact (below_size aG)); (case aL => have := LMc2.out; omega); intro v204 w9 ho hb hg hat; rw [← Ny203.out] at ho; have n0_ := aM (blk_grown (g := gb198) (o := .cells #[.slice A0_0 l0_0.length c0_0, .slice A0_1 l0_1.length c0_1] 31 (0, 0)) aK hg (Kd.R_ne HO202.out BK198.out (by decide))); have n1_ := aM (blk_grown (g := gb199) (o := .cells #[.slice none 0 0, .slice none 0 0] 31 (0, 0)) aK hg (Kd.R_ne HO202.out BK199.out (by decide))); have n2_ := aM (hb); have n3_ := aM (ho); clear BK198; clear BK199; clear HB; clear HO202; have BK198 := n0_; have BK199 := n1_; have HB := n2_; have HO205 := n3_; clear n0_ n1_ n2_ n3_; clear ho hb hg hat; obtain ⟨Ao10, co10, eo10⟩ := Kd.R_slice HO205.out; subst eo10) | ((with_reducible refine gate_dst (N := 3) rfl ?_); refine bE 3 (cs := #[.slice none 0 0, .slice none 0 0]) (t := 31) ?_; intro gb206 hg w11 hbox hb; have n0_ := aM (Kd.R_below (aR HO205) hb); have n1_ := aM (kB gb198 #[.slice A0_0 l0_0.length c0_0, .slice A0_1 l0_1.length c0_1] 31 hb); have n2_ := aM (kB gb199 #[.slice none 0 0, .slice none 0 0] 31 hb); have n3_ := aM (below_step aG hb); have n4_ := aM (hbox); have n5_ := aM ((by rw [hg]; exact (below_size aG) : w.heap.size ≤ gb206)); have n6_ := aM ((by rw [hg]; exact (below_size aG) : w.heap.size ≤ gb206)); have n7_ := aM ((by rw [hg]; exact Nat.ne_of_lt (blk_lt (g := gb198) (o := .cells #[.slice A0_0 l0_0.length c0_0, .slice A0_1 l0_1.length c0_1] 31 (0, 0)) aK) : gb198 ≠ gb206)); have n8_ := aM ((by rw [hg]; exact Nat.ne_of_gt (blk_lt (g := gb198) (o := .cells #[.slice A0_0 l0_0.length c0_0, .slice A0_1 l0_1.length c0_1] 31 (0, 0)) aK) : gb206 ≠ gb198)); have n9_ := aM ((by rw [hg]; exact Nat.ne_of_lt (blk_lt (g := gb199) (o := .cells #[.slice none 0 0, .slice none 0 0] 31 (0, 0)) aK) : gb199 ≠ gb206)); have n10_ := aM ((by rw [hg]; exact Nat.ne_of_gt (blk_lt (g := gb199) (o := .cells #[.slice none 0 0, .slice none 0 0] 31 (0, 0)) aK) : gb206 ≠ gb199)); clear HO205; clear BK198; clear BK199; clear HB; have HO205 := n0_; have BK198 := n1_; have BK199 := n2_; have HB := n3_; have BK206 := n4_; have GW206 := n5_; have GE206 := n6_; have NB198_206 := n7_; have NB206_198 := n8_; have NB199_206 := n9_; have NB206_199 := n10_; clear n0_ n1_ n2_ n3_ n4_ n5_ n6_ n7_ n8_ n9_ n10_; clear hb hbox hg; have hnb12 := NB206_198.out; have hnc12 := NB198_206.out; have hnb13 := NB206_199.out; have hnc13 := NB199_206.out; have hcz14_0 : w11.cell? ⟨gb206, 0, none⟩ = some (.slice none 0 0) := (blk_cell BK206.out 0).trans rfl; have hcz14_1 : w11.cell? ⟨gb206, 1, none⟩ = some (.slice none 0 0) := (blk_cell BK206.out 1).trans rfl; have hfz14_0 := blk_frozen BK206.out 0; have hfz14_1 := blk_frozen BK206.out 1))
  go_loopg [4] k (fun kq v4 w' => ∃ (x4_1 : Int) (x207001_1 : List (S39)) (u207001 : Value), v4 = .int .i64 x4_1 ∧ Aside0 (spec_l4Copy.l0 kq x4_1 l0_0 l0_1 y203 x207001_1 = some (r1, r2)) ∧ Aside0 (kq ≤ k) ∧ Aside0 (Kd.R k68 68 w' w.heap.size (fun _ => True) (.slice Ao10 y203.length co10) y203) ∧ Aside0 (Kd.S k39 39 w' w.heap.size (fun _ => True) u207001 x207001_1) ∧ Aside0 (w'.heap[gb198]? = some (.cells #[(.slice A0_0 l0_0.length c0_0), (.slice A0_1 l0_1.length c0_1)] 31 (0, 0))) ∧ Aside0 (w'.heap[gb199]? = some (.cells #[(.slice none 0 0), (.slice none 0 0)] 31 (0, 0))) ∧ Aside0 (w'.heap[gb206]? = some (.cells #[(.slice Ao10 y203.length co10), u207001] 31 (0, 0))) ∧ Aside0 (Below w.heap.size w w'))
  case atStart => exact ⟨(0), (([] : List (S39))), (.slice none 0 0), aX, H', ⟨Nat.le_refl _⟩, ⟨by (with_reducible repeat apply pR); exact Kd.R_mono (Kd.R_far (p := ⟨gb206, 1, none⟩) (Kd.R_far (p := ⟨gb206, 0, none⟩) (Kd.R_types HO205.out BK206.out (by decide)) (fun _ hk => hk.2) (.slice Ao10 y203.length co10)) (fun _ hk => hk.2) (.slice none 0 0)) (fun _ hk => trivial)⟩, ⟨by first | exact Kd.S_nil _ _ _ _ _ | exact Kd.N_nil _ _ _ _ _ | exact Kd.V_nil _ _ _ _ _ | exact Kd.Q_nil _ _ _ _ _ | exact Kd.R_nil _ _ _ _ _⟩, ⟨by (with_reducible repeat refine pB ?_); refine blk_far ?_ NB198_206.out _; (with_reducible repeat refine pB ?_); refine blk_far ?_ NB198_206.out _; (with_reducible repeat refine pB ?_); exact BK198.out⟩, ⟨by (with_reducible repeat refine pB ?_); refine blk_far ?_ NB199_206.out _; (with_reducible repeat refine pB ?_); refine blk_far ?_ NB199_206.out _; (with_reducible repeat refine pB ?_); exact BK199.out⟩, ⟨by (with_reducible repeat refine pB ?_); refine blk_put (cs := #[.slice Ao10 y203.length co10, .slice none 0 0]) ?_ 1 _ rfl; (with_reducible repeat refine pB ?_); refine blk_put (cs := #[.slice none 0 0, .slice none 0 0]) ?_ 0 _ rfl; (with_reducible repeat refine pB ?_); exact BK206.out⟩, ⟨aG⟩⟩
  case round =>
   clear H'
   try clear c1
   try clear c2
   try clear p2
   try clear c7
   try clear c11
   try clear c12
   try clear c13
   try clear hcz14_0
   try clear hcz14_1
   try clear hcz8_0
   try clear hcz8_1
   try clear hfz14_0
   try clear hfz14_1
   try clear hfz8_0
   try clear hfz8_1
   obtain ⟨x4_1, x207001_1, u207001, rfl, HA, HK1, HO_207000, HO_207001, BK198, BK199, BK206, HB⟩ := hrel
   cases gk with
   | zero => exact absurd HA.out (by simp [spec_l4Copy.l0])
   | succ k1 =>
    have H := HA.out
    clear HA
    simp only [spec_l4Copy.l0] at H
    by_cases c15 : x4_1 < (l0_1.length : Int)
    ·rw [if_pos c15] at H
     have c15b0 : decide (x4_1 < (l0_1.length : Int)) = true := decide_eq_true c15
     clear c15
     by_cases c16 : 0 ≤ x4_1
     ·rw [if_pos c16] at H
      have c16b0 : decide (0 ≤ x4_1) = true := decide_eq_true c16
      clear c16
      obtain ⟨y208, hy208⟩ : ∃ y_ : List Int, y_ = (([] : List Int)) := ⟨_, rfl⟩
      first | replace H := bY hy208 H | rw [← hy208] at H
      have Ny208 := aM hy208
      clear hy208
      by_cases c17 : y208.length + ((rd_T39 l0_1 x4_1).f1).length < 17592186044416
      ·rw [if_pos c17] at H
       have LMc17 := aM c17
       clear c17
       obtain ⟨y212, hy212⟩ : ∃ y_ : List Int, y_ = (y208 ++ ((rd_T39 l0_1 x4_1).f1)) := ⟨_, rfl⟩
       first | replace H := bY hy212 H | rw [← hy212] at H
       have Ny212 := aM hy212
       clear hy212
       by_cases c18 : x207001_1.length < 4398046511104
       ·rw [if_pos c18] at H
        have LMc18 := aM c18
        clear c18
        obtain ⟨y215, hy215⟩ : ∃ y_ : List (S39), y_ = (x207001_1 ++ [(⟨(rd_T39 l0_1 x4_1).f0, y212⟩ : S39)]) := ⟨_, rfl⟩
        first | replace H := bY hy215 H | rw [← hy215] at H
        have Ny215 := aM hy215
        clear hy215
        have H' := aM H
        clear H
        have hnb19 := NB198_199.out
        have hnc19 := NB199_198.out
        have hnb20 := NB198_206.out
        have hnc20 := NB206_198.out
        have hcz21_0 : wr.cell? ⟨gb198, 0, none⟩ = some (.slice A0_0 l0_0.length c0_0) := (blk_cell BK198.out 0).trans rfl
        have hcz21_1 : wr.cell? ⟨gb198, 1, none⟩ = some (.slice A0_1 l0_1.length c0_1) := (blk_cell BK198.out 1).trans rfl
        have hfz21_0 := blk_frozen BK198.out 0
        have hfz21_1 := blk_frozen BK198.out 1
        try go_wp2
        replace HO_207000 := aM (Kd.R_drew HO_207000.out)
        replace HO_207001 := aM (Kd.S_drew HO_207001.out)
        replace BK198 := aM (blk_drew BK198.out)
        replace BK199 := aM (blk_drew BK199.out)
        replace BK206 := aM (blk_drew BK206.out)
        replace HB := aM (below_drew1 HB.out)
        have p207 : 0 ≤ (x4_1 : Int) := aD
        have q207 : x4_1 < (l0_1.length : Int) := aD
        obtain ⟨ad207, A207_1, c207_1, e207, hx207_0, hx207_1, hl207_1, hi207_1⟩ := at_T39 HR0_1.out x4_1 p207 q207
        have hw207_1 := hx207_1
        have hw207_0 := hx207_0
        cases e207
        replace hx207_0 := (HB.out.cell (World.block_lt_of_cell? w _ hx207_0)).trans hx207_0
        replace hx207_1 := (HB.out.cell (World.block_lt_of_cell? w _ hx207_1)).trans hx207_1
        have HR207_1 := aM hi207_1
        have HC207_1 := aM hl207_1
        clear hi207_1 hl207_1
        replace p207 := eq_true p207
        replace q207 := eq_true q207
        have p211 : 0 ≤ (x4_1 : Int) := aD
        have q211 : x4_1 < (l0_1.length : Int) := aD
        obtain ⟨ad211, A211_1, c211_1, e211, hx211_0, hx211_1, hl211_1, hi211_1⟩ := at_T39 HR0_1.out x4_1 p211 q211
        have hw211_1 := hx211_1
        have hw211_0 := hx211_0
        obtain rfl : ad207 = ad211 := (by injection e211)
        replace hx211_0 := (HB.out.cell (World.block_lt_of_cell? w _ hx211_0)).trans hx211_0
        replace hx211_1 := (HB.out.cell (World.block_lt_of_cell? w _ hx211_1)).trans hx211_1
        have HR211_1 := aM hi211_1
        have HC211_1 := aM hl211_1
        clear hi211_1 hl211_1
        replace p211 := eq_true p211
        replace q211 := eq_true q211
        have ea_ := Option.some.inj (hx207_1.symm.trans hx211_1)
        injection ea_ with ea_ en_ ec_
        subst ea_
        subst ec_
        clear en_
        refine start_ (n := 21) (S := fun w' => w'.cell? ⟨gb206, 0, none⟩ = some (.slice Ao10 y203.length co10) ∧ w'.cell? ⟨gb206, 1, none⟩ = some (u207001) ∧ w'.cell? ⟨gb198, 0, none⟩ = some (.slice A0_0 l0_0.length c0_0) ∧ w'.cell? ⟨gb198, 1, none⟩ = some (.slice (some ad207) l0_1.length c0_1) ∧ w'.cell? (ad207.add ((x4_1).toNat * 2)) = some (.int .i64 ((rd_T39 l0_1 x4_1).f0)) ∧ w'.cell? ⟨(ad207.add ((x4_1).toNat * 2)).block, (ad207.add ((x4_1).toNat * 2)).off + 1, none⟩ = some (.slice A207_1 ((rd_T39 l0_1 x4_1).f1).length c207_1) ∧ w'.cell? (ad207.add ((x4_1).toNat * 2)) = some (.int .i64 ((rd_T39 l0_1 x4_1).f0)) ∧ w'.cell? ⟨(ad207.add ((x4_1).toNat * 2)).block, (ad207.add ((x4_1).toNat * 2)).off + 1, none⟩ = some (.slice A207_1 ((rd_T39 l0_1 x4_1).f1).length c207_1)) (ds := [20]) #[false, false, false, false, false, false, false, false, false, false, false, false, false, false, false, false, false, false, false, false, false] (by kernel_rfl) rfl rfl ⟨(blk_cell BK206.out 0).trans rfl, (blk_cell BK206.out 1).trans rfl, (blk_cell BK198.out 0).trans rfl, (blk_cell BK198.out 1).trans rfl, (pw_cell_below HB.out hw207_0), (pw_cell_below HB.out hw207_1), (pw_cell_below HB.out hw211_0), (pw_cell_below HB.out hw211_1)⟩ (fun hHeld => ?_); refine with_tabW spec_l4Copy.tab5 spec_l4Copy.bits5 (fun HT_ HW_ => ?_)
        generalize wr.drew = w22 at HO_207000 HO_207001 BK198 BK199 BK206 HB HR207_1 HR211_1 hx207_0 hx207_1 hx211_0 hx211_1 hHeld ⊢
        refine pU 0 17 ?_
        refine pU 2 19 ?_
        refine pU 4 21 ?_
        refine pU 9 26 ?_
        refine pU 11 28 ?_
        refine tU8 1 18 hHeld ?_
        refine tU8 3 20 hHeld ?_
        refine pU 5 22 ?_
        refine pU 6 23 ?_
        refine tU8 7 24 hHeld ?_
        refine tU8 10 27 hHeld ?_
        refine pU 12 29 ?_
        refine pU 13 30 ?_
        refine tU8 14 31 hHeld ?_
        refine oU 8 25 (fun K hK => ?_)
        refine Kd.R_lit_step (Kd.int .i64) _ 3 ?hg (N := 25) ?hd (xs := ([] : List Int)) (inner := []) (ok := fun _ => True) (okp := fun _ => True) ?hr ?hp (fun _ hk => hk) trivial (Below.refl _ _) (Nat.le_refl _) (by simp) ?_; (case hd => rfl); (case hg => rfl); (case hr => first | (go_simp; done) | (go_simp; rfl)); (case hp => exact (Reps.none _ _))
        intro v209 w23 ho24 hb hg_ hnew_
        clear hg_ hnew_
        (first | rw [← Ny208.out] at ho24 | (simp only [Int.reduceToNat] at ho24; rw [← Ny208.out] at ho24))
        have n0_ := aM (Kd.R_below (aR HO_207000) hb)
        have n1_ := aM (Kd.S_elder' (aS HO_207001) (Kd.R_base ho24) hb)
        have n2_ := aM (Kd.R_lower ho24 (below_size aG))
        have n3_ := aM (kB gb198 #[.slice A0_0 l0_0.length c0_0, .slice (some ad207) l0_1.length c0_1] 31 hb)
        have n4_ := aM (kB gb199 #[.slice none 0 0, .slice none 0 0] 31 hb)
        have n5_ := aM (kB gb206 #[.slice Ao10 y203.length co10, u207001] 31 hb)
        have n6_ := aM (below_step aG hb)
        clear HO_207000
        clear HO_207001
        clear BK198
        clear BK199
        clear BK206
        clear HB
        have HO_207000 := n0_
        have HO_207001 := n1_
        have HO210 := n2_
        have BK198 := n3_
        have BK199 := n4_
        have BK206 := n5_
        have HB := n6_
        clear n0_ n1_ n2_ n3_ n4_ n5_ n6_
        clear hb ho24
        refine hK.out _ _ ⟨(blk_cell BK206.out 0).trans rfl, (blk_cell BK206.out 1).trans rfl, (blk_cell BK198.out 0).trans rfl, (blk_cell BK198.out 1).trans rfl, (pw_cell_below HB.out hw207_0), (pw_cell_below HB.out hw207_1), (pw_cell_below HB.out hw211_0), (pw_cell_below HB.out hw211_1)⟩ (fun hHeld => ?_)
        clear hK K
        refine nU 25 ?_
        refine oU 15 32 (fun K hK => ?_)
        refine Kd.R_append_rows_step (Kd.int .i64) (w0 := w) w.heap.size (by rfl) (.tmp 25) (.tmp 31) 37 3 (.int .i64 0) 8 rfl Tryd.underlying37 info3 rfl (by decide) (by omega) v209 y208 ((rd_T39 l0_1 x4_1).f1) _ _ _ (fun _ => True) (fun _ => False) rfl rfl ?aO ?aR (fun _ _ h => h) (fun _ h => h.elim) ?aF ?aB ?aS ?aL ?_
        (case aR => exact aC)
        (case aB => exact aG)
        (case aF => exact (fun _ _ => trivial))
        (case aO => exact (aR HO210))
        (case aS => exact (below_size aG))
        (case aL => have := LMc17.out; omega)
        intro v213 w25 ho hb hg hat
        rw [← Ny212.out] at ho
        have n0_ := aM (Kd.R_over' (aR HO_207000) (Kd.R_typed (aR HO210)) (by decide) hg)
        have n1_ := aM (Kd.S_after (ok := (fun _ => True)) (aS HO_207001) hg hat)
        have n2_ := aM (blk_grown (g := gb198) (o := .cells #[.slice A0_0 l0_0.length c0_0, .slice (some ad207) l0_1.length c0_1] 31 (0, 0)) aK hg (Kd.R_ne HO210.out BK198.out (by decide)))
        have n3_ := aM (blk_grown (g := gb199) (o := .cells #[.slice none 0 0, .slice none 0 0] 31 (0, 0)) aK hg (Kd.R_ne HO210.out BK199.out (by decide)))
        have n4_ := aM (blk_grown (g := gb206) (o := .cells #[.slice Ao10 y203.length co10, u207001] 31 (0, 0)) aK hg (Kd.R_ne HO210.out BK206.out (by decide)))
        have n5_ := aM (hb)
        have n6_ := aM (ho)
        clear HO_207000
        clear HO_207001
        clear BK198
        clear BK199
        clear BK206
        clear HB
        clear HO210
        have HO_207000 := n0_
        have HO_207001 := n1_
        have BK198 := n2_
        have BK199 := n3_
        have BK206 := n4_
        have HB := n5_
        have HO214 := n6_
        clear n0_ n1_ n2_ n3_ n4_ n5_ n6_
        clear ho hb hg hat
        obtain ⟨Ao26, co26, eo26⟩ := Kd.R_slice HO214.out
        (first | subst eo26 | (injection eo26 with f1_ f2_ f3_; have f4_ := f1_.symm; have f5_ := f3_.symm; clear f1_ f2_ f3_; subst f4_; subst f5_))
        refine hK.out _ _ ⟨(blk_cell BK206.out 0).trans rfl, (blk_cell BK206.out 1).trans rfl, (blk_cell BK198.out 0).trans rfl, (blk_cell BK198.out 1).trans rfl, (pw_cell_below HB.out hw207_0), (pw_cell_below HB.out hw207_1), (pw_cell_below HB.out hw211_0), (pw_cell_below HB.out hw211_1)⟩ (fun hHeld => ?_)
        clear hK K
        refine nU 32 ?_
        refine pU 16 33 ?_
        refine oU 17 34 (fun K hK => ?_)
        refine value_ (w1 := ?_) (v := ?_) (by rfl) rfl ?_ ?_
        rotate_left 2
        ·go_simp
         constructor
         ·rfl
         ·rfl
        refine hK.out _ _ ⟨(blk_cell (blk_alloc BK206.out _) 0).trans rfl, (blk_cell (blk_alloc BK206.out _) 1).trans rfl, (blk_cell (blk_alloc BK198.out _) 0).trans rfl, (blk_cell (blk_alloc BK198.out _) 1).trans rfl, (World.cell?_alloc_lt _ _ _ (World.block_lt_of_cell? _ _ ((pw_cell_below HB.out hw207_0)))).trans ((pw_cell_below HB.out hw207_0)), (World.cell?_alloc_lt _ _ _ (World.block_lt_of_cell? _ _ ((pw_cell_below HB.out hw207_1)))).trans ((pw_cell_below HB.out hw207_1)), (World.cell?_alloc_lt _ _ _ (World.block_lt_of_cell? _ _ ((pw_cell_below HB.out hw211_0)))).trans ((pw_cell_below HB.out hw211_0)), (World.cell?_alloc_lt _ _ _ (World.block_lt_of_cell? _ _ ((pw_cell_below HB.out hw211_1)))).trans ((pw_cell_below HB.out hw211_1))⟩ (fun hHeld => ?_)
        clear hK K
        refine nU 34 ?_
        refine oU 18 35 (fun K hK => ?_)
        refine Kd.S_append_step k39 (w0 := w) w.heap.size (by rfl) (.tmp 18) (.tmp 34) 29 39 (.agg #[(.int .i64 0), (.slice none 0 0)]) 32 rfl Tryd.underlying29 info39 rfl (by decide) (by omega) u207001 x207001_1 (⟨(rd_T39 l0_1 x4_1).f0, y212⟩ : S39) [.int .i64 ((rd_T39 l0_1 x4_1).f0), .slice Ao26 y212.length co26] (fun _ => True) (fun k_ => some k_ = (.slice Ao26 y212.length co26 : Value).ownBlock) rfl rfl ?aP (fun k_ hk_ => ((Kd.R_mono (ok' := fun k_ => ((fun _ => True)) k_ ∧ some k_ ≠ (u207001 : Value).ownBlock) (Kd.R_apart' (HO214.out) (Kd.S_typed HO_207001.out) (by decide)) (fun k_ hk => ⟨trivial, hk.2⟩))).1 k_ hk_.symm) ?aF ?aO ?aB ?aS ?aL ?_
        (case aP => exact k39_mkM _ _ _ (⟨(rd_T39 l0_1 x4_1).f0, y212⟩ : S39) (Kd.R_mono (Kd.R_tight rfl (Kd.R_mono (ok' := fun k_ => ((fun _ => True)) k_ ∧ some k_ ≠ (u207001 : Value).ownBlock) (Kd.R_apart' (HO214.out) (Kd.S_typed HO_207001.out) (by decide)) (fun k_ hk => ⟨trivial, hk.2⟩))) (fun _ h_ => h_)))
        (case aB => exact aG)
        (case aF => exact (fun _ _ => trivial))
        (case aO => exact (by (with_reducible repeat apply pS); exact Kd.S_mono HO_207001.out (fun k_ hk => ⟨trivial, fun e_ => hk.2 e_⟩)))
        (case aS => exact (below_size aG))
        (case aL => have := LMc18.out; omega)
        intro v216 w27 ho hb hg hat
        rw [← Ny215.out] at ho
        have n0_ := aM (Kd.R_over' (aR HO_207000) (Kd.S_typed (aS HO_207001)) (by decide) hg)
        have n1_ := aM (blk_grown (g := gb198) (o := .cells #[.slice A0_0 l0_0.length c0_0, .slice (some ad207) l0_1.length c0_1] 31 (0, 0)) aK hg (Kd.S_ne HO_207001.out BK198.out (by decide)))
        have n2_ := aM (blk_grown (g := gb199) (o := .cells #[.slice none 0 0, .slice none 0 0] 31 (0, 0)) aK hg (Kd.S_ne HO_207001.out BK199.out (by decide)))
        have n3_ := aM (blk_grown (g := gb206) (o := .cells #[.slice Ao10 y203.length co10, u207001] 31 (0, 0)) aK hg (Kd.S_ne HO_207001.out BK206.out (by decide)))
        have n4_ := aM (hb)
        have n5_ := aM (ho)
        clear HO_207000
        clear BK198
        clear BK199
        clear BK206
        clear HB
        clear HO_207001
        clear HO214
        have HO_207000 := n0_
        have BK198 := n1_
        have BK199 := n2_
        have BK206 := n3_
        have HB := n4_
        have HO217 := n5_
        clear n0_ n1_ n2_ n3_ n4_ n5_
        clear ho hb hg hat
        obtain ⟨Ao28, co28, eo28⟩ := Kd.S_slice HO217.out
        (first | subst eo28 | (injection eo28 with f1_ f2_ f3_; have f4_ := f1_.symm; have f5_ := f3_.symm; clear f1_ f2_ f3_; subst f4_; subst f5_))
        refine hK.out _ _ ⟨(blk_cell BK206.out 0).trans rfl, (blk_cell BK206.out 1).trans rfl, (blk_cell BK198.out 0).trans rfl, (blk_cell BK198.out 1).trans rfl, (pw_cell_below HB.out hw207_0), (pw_cell_below HB.out hw207_1), (pw_cell_below HB.out hw211_0), (pw_cell_below HB.out hw211_1)⟩ (fun hHeld => ?_)
        clear hK K
        refine nU 35 ?_
        refine pU 19 36 ?_
        refine last_ (i := 20) (N := none) #[true, true, true, true, true, true, true, true, true, true, true, true, true, true, true, true, true, true, true, true, true] rfl rfl (one_of HT_.out (by kernel_rfl)) (by decide) (fun K hK => ?_)
        have hs29 : w27.cell? ⟨gb206, 1, none⟩ = some (u207001) := (blk_cell BK206.out 1).trans rfl
        have hfs29 := blk_frozen BK206.out 1
        have hns29_0 := NB198_206.out
        have hns29_1 := NB199_206.out
        have hms29_0 := NB206_198.out
        have hms29_1 := NB206_199.out
        refine skip_ (w1 := ?_) (by rfl) rfl ?_ ?_
        rotate_left
        ·go_simp
         rfl
        refine hK.out _ _ ?_
        clear hK K
        refine done_ (done_of HT_.out (by kernel_rfl)) ?_
        try go_wp2
        go_roundg k1
        case measure => have := HK1.out; omega
        case rel => exact ⟨(wrap64 (x4_1 + 1)), (y215), (.slice Ao28 y215.length co28), aX, H', ⟨by have := HK1.out; omega⟩, ⟨by (with_reducible repeat apply pR); exact Kd.R_mono (Kd.R_far (p := ⟨gb206, 1, none⟩) (Kd.R_types HO_207000.out BK206.out (by decide)) (fun _ hk => hk.2) (.slice Ao28 y215.length co28)) (fun _ hk => trivial)⟩, ⟨by (with_reducible repeat apply pS); exact Kd.S_mono (Kd.S_far (p := ⟨gb206, 1, none⟩) (Kd.S_types HO217.out BK206.out (by decide)) (fun _ hk => hk.2) (.slice Ao28 y215.length co28)) (fun _ hk => trivial)⟩, ⟨by (with_reducible repeat refine pB ?_); refine blk_far ?_ NB198_206.out _; (with_reducible repeat refine pB ?_); exact BK198.out⟩, ⟨by (with_reducible repeat refine pB ?_); refine blk_far ?_ NB199_206.out _; (with_reducible repeat refine pB ?_); exact BK199.out⟩, ⟨by (with_reducible repeat refine pB ?_); refine blk_put (cs := #[.slice Ao10 y203.length co10, u207001]) ?_ 1 _ rfl; (with_reducible repeat refine pB ?_); exact BK206.out⟩, ⟨aG⟩⟩
       ·rw [if_neg c18] at H
        exact absurd H (by simp)
      ·rw [if_neg c17] at H
       exact absurd H (by simp)
     ·rw [if_neg c16] at H
      exact absurd H (by simp)
    ·rw [if_neg c15] at H
     have c15b0 : decide (x4_1 < (l0_1.length : Int)) = false := decide_eq_false c15
     clear c15
     simp only [Option.some.injEq, Prod.mk.injEq] at H
     obtain ⟨rfl, rfl⟩ := H
     have hnb30 := NB198_199.out
     have hnc30 := NB199_198.out
     have hnb31 := NB198_206.out
     have hnc31 := NB206_198.out
     have hcz32_0 : wr.cell? ⟨gb198, 0, none⟩ = some (.slice A0_0 l0_0.length c0_0) := (blk_cell BK198.out 0).trans rfl
     have hcz32_1 : wr.cell? ⟨gb198, 1, none⟩ = some (.slice A0_1 l0_1.length c0_1) := (blk_cell BK198.out 1).trans rfl
     have hfz32_0 := blk_frozen BK198.out 0
     have hfz32_1 := blk_frozen BK198.out 1
     have hnb33 := NB206_199.out
     have hnc33 := NB199_206.out
     have hcz34_0 : wr.cell? ⟨gb206, 0, none⟩ = some (.slice Ao10 y203.length co10) := (blk_cell BK206.out 0).trans rfl
     have hcz34_1 : wr.cell? ⟨gb206, 1, none⟩ = some (u207001) := (blk_cell BK206.out 1).trans rfl
     have hfz34_0 := blk_frozen BK206.out 0
     have hfz34_1 := blk_frozen BK206.out 1
     have hcz35_0 : wr.cell? ⟨gb199, 0, none⟩ = some (.slice none 0 0) := (blk_cell BK199.out 0).trans rfl
     have hcz35_1 : wr.cell? ⟨gb199, 1, none⟩ = some (.slice none 0 0) := (blk_cell BK199.out 1).trans rfl
     have hfz35_0 := blk_frozen BK199.out 0
     have hfz35_1 := blk_frozen BK199.out 1
     obtain ⟨Ao36, co36, eo36⟩ := Kd.S_slice HO_207001.out
     subst eo36
     go_wp2
     refine bodyPost_ret (results_cell_row rfl _ _ gb199 31 #[.slice Ao10 y203.length co10, .slice Ao36 x207001_1.length co36] (0, 0) _ rfl (by (with_reducible repeat refine pB ?_); refine blk_put (cs := #[.slice Ao10 y203.length co10, .slice none 0 0]) ?_ 1 _ rfl; (with_reducible repeat refine pB ?_); refine blk_put (cs := #[.slice none 0 0, .slice none 0 0]) ?_ 0 _ rfl; (with_reducible repeat refine pB ?_); exact BK199.out) Tryd.underlying31 rfl (by kernel_rfl)) rfl ?_
     exact ⟨_, _, aE, by (with_reducible repeat apply pR); exact Kd.R_mono (Kd.R_far (p := ⟨gb199, 1, none⟩) (Kd.R_far (p := ⟨gb199, 0, none⟩) (Kd.R_types HO_207000.out BK199.out (by decide)) (fun _ hk => hk.2) (.slice Ao10 y203.length co10)) (fun _ hk => hk.2) (.slice Ao36 x207001_1.length co36)) (fun _ hk => trivial), by (with_reducible repeat apply pS); exact Kd.S_mono (Kd.S_far (p := ⟨gb199, 1, none⟩) (Kd.S_far (p := ⟨gb199, 0, none⟩) (Kd.S_types HO_207001.out BK199.out (by decide)) (fun _ hk => hk.2) (.slice Ao10 y203.length co10)) (fun _ hk => hk.2) (.slice Ao36 x207001_1.length co36)) (fun _ hk => trivial), aG⟩
 ·rw [if_neg c2] at H
  exact absurd H (by simp)

/-! ### spec_FactIndex: function 120 -/
def spec_FactIndex.l0 : Nat → Int → List (S68) → List (S39) → Int → List Int → Option (Int)
 | 0, _, _, _, _, _ => none
 | k + 1, x5, x219000, x219001, x220000, x220001 => if x5 < (x219001.length : Int) then (if 0 ≤ x5 then ((spec_CompareFacts.f k ((rd_T39 x219001 x5).f0) ((rd_T39 x219001 x5).f1) x220000 x220001).bind fun t221 => (if t221 = 0 then (some x5) else (spec_FactIndex.l0 k (wrap64 (x5 + 1)) x219000 x219001 x220000 x220001))) else (none)) else (some (-1))
def spec_FactIndex.f (k : Nat) (l0_0 : List (S68)) (l0_1 : List (S39)) (a1_0 : Int) (l1_1 : List Int) : Option (Int) := spec_FactIndex.l0 k 0 l0_0 l0_1 a1_0 l1_1
set_option maxHeartbeats 8000000 in
set_option maxRecDepth 100000 in
theorem spec_FactIndex.calls (k : Nat) (A0_0 : Option Addr) (c0_0 : Nat) (l0_0 : List (S68)) (A0_1 : Option Addr) (c0_1 : Nat) (l0_1 : List (S39)) (a1_0 : Int) (A1_1 : Option Addr) (c1_1 : Nat) (l1_1 : List Int) (r : Int) (w : World) (hr0_0 : Kd.C k68 w A0_0 l0_0.length l0_0) (hc0_0 : l0_0.length ≤ c0_0) (hr0_1 : Kd.C k39 w A0_1 l0_1.length l0_1) (hc0_1 : l0_1.length ≤ c0_1) (hr1_1 : Kd.C (Kd.int .i64) w A1_1 l1_1.length l1_1) (hc1_1 : l1_1.length ≤ c1_1) (h : spec_FactIndex.f k l0_0 l0_1 a1_0 l1_1 = some r) :
  Calls Tryd.prog 120 #[.agg #[.slice A0_0 l0_0.length c0_0, .slice A0_1 l0_1.length c0_1], .agg #[.int .i64 a1_0, .slice A1_1 l1_1.length c1_1]] w fun e w' => e = .returned (.int .i64 r) ∧ Below w.heap.size w w' := by
 have hu31 := Tryd.underlying31
 have hu39 := Tryd.underlying39
 obtain ⟨W, hW⟩ : ∃ W, (w.alloc (.cells #[.slice A0_0 l0_0.length c0_0, .slice A0_1 l0_1.length c0_1] 31)).alloc (.cells #[.int .i64 a1_0, .slice A1_1 l1_1.length c1_1] 39) = W := ⟨_, rfl⟩
 have q0 := qa (w := W) (p := ⟨w.heap.size, 0, none⟩) (v := .slice A0_0 l0_0.length c0_0) (by subst hW; go_simp)
 have q1 := qa (w := W) (p := ⟨w.heap.size, 1, none⟩) (v := .slice A0_1 l0_1.length c0_1) (by subst hW; go_simp)
 have q2 := qa (w := W) (p := ⟨w.heap.size + 1, 0, none⟩) (v := .int .i64 a1_0) (by subst hW; go_simp)
 have q3 := qa (w := W) (p := ⟨w.heap.size + 1, 1, none⟩) (v := .slice A1_1 l1_1.length c1_1) (by subst hW; go_simp)
 have HB : Below w.heap.size w W := by subst hW; exact zB
 have HW := Below.refl W.heap.size W
 have hb := aM HB
 have rg_ := @bcl w
 have rd_ := @bdr w
 have rG_ := @bcl W
 have rD_ := @bdr W
 unfold spec_FactIndex.f at h
 ·go_enter Tryd.func120, Tryd.ntmps120
  go_wp2
  (repeat ((refine nw (w0 := w) zB ?_; intro W1 HB hb hd; have HW : Below W.heap.size W W1 := zB; (first | (refine Txt.rg (id := 4) [0, 1, 2, 3, 4, 5, 6, 7] (by kernel_rfl) (by kernel_rfl) ?_; simp only [List.map_cons, List.map_nil, List.getD_cons_zero, List.getD_cons_succ])); (repeat (first | (refine Txt.off rfl ?_; simp only [Act.put, List.setIfInBounds_toArray, List.set_cons_zero, List.set_cons_succ]) | (refine Txt.take rfl rfl ?_; intro K hK; go_big_quiet_op; go_big_quiet_on) | (refine Txt.call rfl rfl Tryd.func22 (by kernel_rfl) rfl (spec_CompareFacts.calls ?_ _ _ _ _ _ _ _ _ ?_ _ ?_ ?_ ?_ ?_ ?h) rfl ?_; (case h => exact zA); (iterate 4 (first | exact zC | exact zA)); rintro e w1 ⟨rfl, hb⟩; replace hb := aM hb; have HW : Below W.heap.size W w1 := zB; have HB : Below w.heap.size w w1 := zB; refine ⟨_, rfl, zS, ?_⟩; simp only [Act.put, List.setIfInBounds_toArray, List.set_cons_zero, List.set_cons_succ]))); refine Txt.nil ?_); (try go_wp2)))
  go_loopg [5] k (fun kq v5 w' => ∃ (x5_0 : Int), v5 = .int .i64 x5_0 ∧ spec_FactIndex.l0 kq x5_0 l0_0 l0_1 a1_0 l1_1 = some r ∧ Below W.heap.size W w')
  case atStart => exact ⟨_, zR, zA, zB⟩
  case round =>
   clear h
   obtain ⟨x5_0, rfl, h, hb⟩ := hrel
   replace hb := aM hb
   have HW : Below W.heap.size W wr := zB
   have HB : Below w.heap.size w wr := zB
   rcases gk with _ | kk0
   exact absurd h (by simp [spec_FactIndex.l0])
   simp only [spec_FactIndex.l0] at h
   replace h := il h; rcases h with ⟨c1, c1a, h⟩ | ⟨c1, c1a, h⟩
   replace h := ie h; rcases h with ⟨c2, c2a, h⟩ | ⟨c2, c2a, h⟩
   replace h := bs h; obtain ⟨t221, B3, h⟩ := h
   replace h := iq h; rcases h with ⟨c4, ⟨c4a, c4b⟩, h⟩ | ⟨c4, ⟨c4a, c4b⟩, h⟩
   obtain rfl := si h
   obtain ⟨ad220, A220_1, c220_1, e220, hx220_0, hx220_1, hl220_1, hi220_1⟩ := at_T39 hr0_1 (x5_0 : Int) aD aD
   have p220 := eq_true (aD : 0 ≤ (x5_0 : Int))
   have q220 := eq_true (aD : x5_0 < (l0_1.length : Int))
   cases e220
   replace hx220_0 := qa hx220_0
   replace hx220_1 := qa hx220_1
   rotate_left
   obtain ⟨kf, hkf⟩ : ∃ kf, kf = kk0 := ⟨_, rfl⟩; rw [← hkf] at h
   obtain ⟨ad220, A220_1, c220_1, e220, hx220_0, hx220_1, hl220_1, hi220_1⟩ := at_T39 hr0_1 (x5_0 : Int) aD aD
   have p220 := eq_true (aD : 0 ≤ (x5_0 : Int))
   have q220 := eq_true (aD : x5_0 < (l0_1.length : Int))
   cases e220
   replace hx220_0 := qa hx220_0
   replace hx220_1 := qa hx220_1
   rotate_left
   exact absurd h (by simp)
   obtain rfl := si h
   rotate_left
   all_goals (go_wp2; (repeat ((refine nw (w0 := w) zB ?_; intro W1 HB hb hd; have HW : Below W.heap.size W W1 := zB; (first | (refine Txt.rg (id := 4) [0, 1, 2, 3, 4, 5, 6, 7] (by kernel_rfl) (by kernel_rfl) ?_; simp only [List.map_cons, List.map_nil, List.getD_cons_zero, List.getD_cons_succ])); (repeat (first | (refine Txt.off rfl ?_; simp only [Act.put, List.setIfInBounds_toArray, List.set_cons_zero, List.set_cons_succ]) | (refine Txt.take rfl rfl ?_; intro K hK; go_big_quiet_op; go_big_quiet_on) | (refine Txt.call rfl rfl Tryd.func22 (by kernel_rfl) rfl (spec_CompareFacts.calls ?_ _ _ _ _ _ _ _ _ ?_ _ ?_ ?_ ?_ ?_ ?h) rfl ?_; (case h => exact zA); (iterate 4 (first | exact zC | exact zA)); rintro e w1 ⟨rfl, hb⟩; replace hb := aM hb; have HW : Below W.heap.size W w1 := zB; have HB : Below w.heap.size w w1 := zB; refine ⟨_, rfl, zS, ?_⟩; simp only [Act.put, List.setIfInBounds_toArray, List.set_cons_zero, List.set_cons_succ]))); refine Txt.nil ?_); (try go_wp2))); first | (go_ret; exact zE zB) | (go_roundg kf; (case measure => omega); (case rel => exact ⟨_, zR, zA, zB⟩)))

/-! ### spec_ContainsFact: function 114 -/
def spec_ContainsFact.f (k : Nat) (l0_0 : List (S68)) (l0_1 : List (S39)) (a1_0 : Int) (l1_1 : List Int) : Option (Bool) := (spec_IsValidDatabase.f k l0_0 l0_1).bind fun t224 => (if t224 = true then ((spec_FactIndex.f k l0_0 l0_1 a1_0 l1_1).bind fun t225 => (some (decide (t225 ≥ 0)))) else (some false))
set_option maxHeartbeats 8000000 in
set_option maxRecDepth 100000 in
theorem spec_ContainsFact.calls (k : Nat) (A0_0 : Option Addr) (c0_0 : Nat) (l0_0 : List (S68)) (A0_1 : Option Addr) (c0_1 : Nat) (l0_1 : List (S39)) (a1_0 : Int) (A1_1 : Option Addr) (c1_1 : Nat) (l1_1 : List Int) (r : Bool) (w : World) (hr0_0 : Kd.C k68 w A0_0 l0_0.length l0_0) (hc0_0 : l0_0.length ≤ c0_0) (hr0_1 : Kd.C k39 w A0_1 l0_1.length l0_1) (hc0_1 : l0_1.length ≤ c0_1) (hr1_1 : Kd.C (Kd.int .i64) w A1_1 l1_1.length l1_1) (hc1_1 : l1_1.length ≤ c1_1) (h : spec_ContainsFact.f k l0_0 l0_1 a1_0 l1_1 = some r) :
  Calls Tryd.prog 114 #[.agg #[.slice A0_0 l0_0.length c0_0, .slice A0_1 l0_1.length c0_1], .agg #[.int .i64 a1_0, .slice A1_1 l1_1.length c1_1]] w fun e w' => e = .returned (.bool r) ∧ Below w.heap.size w w' := by
 have hu31 := Tryd.underlying31
 have hu39 := Tryd.underlying39
 obtain ⟨W, hW⟩ : ∃ W, (w.alloc (.cells #[.slice A0_0 l0_0.length c0_0, .slice A0_1 l0_1.length c0_1] 31)).alloc (.cells #[.int .i64 a1_0, .slice A1_1 l1_1.length c1_1] 39) = W := ⟨_, rfl⟩
 have q0 := qa (w := W) (p := ⟨w.heap.size, 0, none⟩) (v := .slice A0_0 l0_0.length c0_0) (by subst hW; go_simp)
 have q1 := qa (w := W) (p := ⟨w.heap.size, 1, none⟩) (v := .slice A0_1 l0_1.length c0_1) (by subst hW; go_simp)
 have q2 := qa (w := W) (p := ⟨w.heap.size + 1, 0, none⟩) (v := .int .i64 a1_0) (by subst hW; go_simp)
 have q3 := qa (w := W) (p := ⟨w.heap.size + 1, 1, none⟩) (v := .slice A1_1 l1_1.length c1_1) (by subst hW; go_simp)
 have HB : Below w.heap.size w W := by subst hW; exact zB
 have HW := Below.refl W.heap.size W
 have hb := aM HB
 unfold spec_ContainsFact.f at h
 replace h := bs h; obtain ⟨t224, B0, h⟩ := h
 replace h := ib h; rcases h with ⟨rfl, h⟩ | ⟨rfl, h⟩
 replace h := bs h; obtain ⟨t225, B2, h⟩ := h
 obtain rfl := si h
 rotate_left
 obtain rfl := si h
 rotate_left
 all_goals (go_enter Tryd.func114, Tryd.ntmps114; go_wp2_with (first | (go_at_call 33; refine (spec_IsValidDatabase.calls ?_ _ _ _ _ _ _ ?_ _ ?_ ?_ ?_ ?_ ?h).mono ?_; (case h => exact zA); (iterate 4 (first | exact zC | exact zA)); rintro e w1 ⟨rfl, hb⟩; replace hb := aM hb; have HW : Below W.heap.size W w1 := zB; have HB : Below w.heap.size w w1 := zB) | (go_at_call 120; refine (spec_FactIndex.calls ?_ _ _ _ _ _ _ _ _ _ _ ?_ _ ?_ ?_ ?_ ?_ ?_ ?_ ?h).mono ?_; (case h => exact zA); (iterate 6 (first | exact zC | exact zA)); rintro e w1 ⟨rfl, hb⟩; replace hb := aM hb; have HW : Below W.heap.size W w1 := zB; have HB : Below w.heap.size w w1 := zB)); go_ret; exact zE zB)

end Go.Proofs.YtckpikfbhlhhjaaDoor.PFnSelectFacts
