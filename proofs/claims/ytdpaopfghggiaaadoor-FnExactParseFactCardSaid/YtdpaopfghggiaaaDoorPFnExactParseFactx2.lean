-- Laid by a program of this claim: what the functions come to, some of them proved by hand.
import Derived.Test.YtdpaopfghggiaaaDoorPFnExactParseFactx0
import Derived.Test.YtdpaopfghggiaaaDoorPFnExactParseFactx1
namespace Go.Proofs.YtdpaopfghggiaaaDoor.PFnExactParseFact
open Go.RowKit Go.Proofs.YtdpaopfghggiaaaDoorW.PrintWords Go.Proofs.YtdpaopfghggiaaaDoorW.PrintLast Go.Proofs.YtdpaopfghggiaaaDoorW.PrintMore
attribute [local go_sem] max2_int min2_int max_two min_two max_three min_three max_four min_four   -- for this text's walks alone
set_option linter.unusedVariables false
set_option linter.unusedSimpArgs false

/-! ### spec_IsValidFact: function 65 -/
mutual
def spec_IsValidFact.j0 : Nat → Bool → Int → List Int → Option (Bool)
 | 0, _, _, _ => none
 | k + 1, x29, x138000, x138001 => if x29 = true then (some false) else (spec_IsValidFact.l0 k 0 x138000 x138001)
def spec_IsValidFact.l0 : Nat → Int → Int → List Int → Option (Bool)
 | 0, _, _, _ => none
 | k + 1, x5, x138000, x138001 => if x5 < (x138001.length : Int) then (if 0 ≤ x5 then ((spec_l1In.f (rd x138001 x5) 0 9).bind fun t142 => (if t142 = true then (spec_IsValidFact.l0 k (wrap64 (x5 + 1)) x138000 x138001) else (some false))) else (none)) else (some true)
end
def spec_IsValidFact.f (k : Nat) (l0 : List (S28)) (a1_0 : Int) (l1_1 : List Int) : Option (Bool) := (spec_AreValidRelations.f l0).bind fun t138 => (if t138 = true then ((spec_l1In.f a1_0 0 (wrap64 ((l0.length : Int) - 1))).bind fun t139 => (if t139 = true then (if 0 ≤ a1_0 then (if a1_0 < (l0.length : Int) then (spec_IsValidFact.j0 k ((l1_1.length : Int) != ((rd_T28 l0 a1_0).f1)) a1_0 l1_1) else (none)) else (none)) else (spec_IsValidFact.j0 k true a1_0 l1_1))) else (spec_IsValidFact.j0 k true a1_0 l1_1))
set_option maxHeartbeats 8000000 in
set_option maxRecDepth 100000 in
theorem spec_IsValidFact.calls (k : Nat) (A0 : Option Addr) (c0 : Nat) (l0 : List (S28)) (a1_0 : Int) (A1_1 : Option Addr) (c1_1 : Nat) (l1_1 : List Int) (r : Bool) (w : World) (hr0 : Kd.C k28 w A0 l0.length l0) (hc0 : l0.length ≤ c0) (hr1_1 : Kd.C (Kd.int .i64) w A1_1 l1_1.length l1_1) (hc1_1 : l1_1.length ≤ c1_1) (h : spec_IsValidFact.f k l0 a1_0 l1_1 = some r) :
  Calls Tryd.prog 65 #[.slice A0 l0.length c0, .agg #[.int .i64 a1_0, .slice A1_1 l1_1.length c1_1]] w fun e w' => e = .returned (.bool r) ∧ Below w.heap.size w w' := by
 have hu52 := Tryd.underlying52
 obtain ⟨W, hW⟩ : ∃ W, w.alloc (.cells #[.int .i64 a1_0, .slice A1_1 l1_1.length c1_1] 52) = W := ⟨_, rfl⟩
 have q0 := qa (w := W) (p := ⟨w.heap.size, 0, none⟩) (v := .int .i64 a1_0) (by subst hW; go_simp)
 have q1 := qa (w := W) (p := ⟨w.heap.size, 1, none⟩) (v := .slice A1_1 l1_1.length c1_1) (by subst hW; go_simp)
 have HB : Below w.heap.size w W := by subst hW; exact zB
 have HW := Below.refl W.heap.size W
 have hb := aM HB
 have rg_ := @bcl w
 have rd_ := @bdr w
 have rG_ := @bcl W
 have rD_ := @bdr W
 unfold spec_IsValidFact.f at h
 replace h := bs h; obtain ⟨t138, B0, h⟩ := h
 replace h := ib h; rcases h with ⟨rfl, h⟩ | ⟨rfl, h⟩
 replace h := bs h; obtain ⟨t139, B2, h⟩ := h
 replace h := ib h; rcases h with ⟨rfl, h⟩ | ⟨rfl, h⟩
 replace h := ie h; rcases h with ⟨c4, c4a, h⟩ | ⟨c4, c4a, h⟩
 replace h := il h; rcases h with ⟨c5, c5a, h⟩ | ⟨c5, c5a, h⟩
 rcases k with _ | kj6
 exact absurd h (by simp [spec_IsValidFact.j0])
 simp only [spec_IsValidFact.j0] at h
 replace h := ib h; rcases h with ⟨c7, h⟩ | ⟨c7, h⟩
 obtain rfl := si h
 obtain ⟨ad140, e140, hx140_0, hx140_1, hx140_2⟩ := at_T28 hr0 (a1_0 : Int) aD aD
 have p140 := eq_true (aD : 0 ≤ (a1_0 : Int))
 have q140 := eq_true (aD : a1_0 < (l0.length : Int))
 cases e140
 replace hx140_0 := qa hx140_0
 replace hx140_1 := qa hx140_1
 replace hx140_2 := qa hx140_2
 rotate_left
 ·obtain ⟨ad140, e140, hx140_0, hx140_1, hx140_2⟩ := at_T28 hr0 (a1_0 : Int) aD aD
  have p140 := eq_true (aD : 0 ≤ (a1_0 : Int))
  have q140 := eq_true (aD : a1_0 < (l0.length : Int))
  cases e140
  replace hx140_0 := qa hx140_0
  replace hx140_1 := qa hx140_1
  replace hx140_2 := qa hx140_2
  go_enter Tryd.func65, Tryd.ntmps65
  go_wp2_with (first | (go_at_call 61; refine (spec_l1In.calls _ _ _ ?_ _ ?h).mono ?_; (case h => exact zA); rintro e w1 ⟨rfl, hb⟩; replace hb := hb.below; replace hb := aM hb; have HW : Below W.heap.size W w1 := zB; have HB : Below w.heap.size w w1 := zB))
  (repeat ((refine nw (w0 := w) zB ?_; intro W1 HB hb hd; have HW : Below W.heap.size W W1 := zB; (first | (refine Txt.rg (id := 1) [0, 1, 2, 3, 4, 5, 6, 7, 8, 9, 10, 11, 12, 13, 14, 15, 16, 17, 18, 19, 20, 21, 22, 23] (by kernel_rfl) (by kernel_rfl) ?_; simp only [List.map_cons, List.map_nil, List.getD_cons_zero, List.getD_cons_succ])); (repeat (first | (refine Txt.off rfl ?_; simp only [Act.put, List.setIfInBounds_toArray, List.set_cons_zero, List.set_cons_succ]) | (refine Txt.take rfl rfl ?_; intro K hK; go_big_quiet_op; go_big_quiet_on) | (refine Txt.call rfl rfl Tryd.func26 (by kernel_rfl) rfl (spec_AreValidRelations.calls _ _ _ ?_ _ ?_ ?_ ?h) rfl ?_; (case h => exact zA); (iterate 2 (first | exact zC | exact zA)); rintro e w1 ⟨rfl, hb⟩; replace hb := aM hb; have HW : Below W.heap.size W w1 := zB; have HB : Below w.heap.size w w1 := zB; refine ⟨_, rfl, zS, ?_⟩; simp only [Act.put, List.setIfInBounds_toArray, List.set_cons_zero, List.set_cons_succ]) | (refine Txt.call rfl rfl Tryd.func61 (by kernel_rfl) rfl (spec_l1In.calls _ _ _ ?_ _ ?h) rfl ?_; (case h => exact zA); rintro e w1 ⟨rfl, hb⟩; replace hb := hb.below; replace hb := aM hb; have HW : Below W.heap.size W w1 := zB; have HB : Below w.heap.size w w1 := zB; refine ⟨_, rfl, zS, ?_⟩; simp only [Act.put, List.setIfInBounds_toArray, List.set_cons_zero, List.set_cons_succ]))); refine Txt.nil ?_); (try go_wp2_with (first | (go_at_call 61; refine (spec_l1In.calls _ _ _ ?_ _ ?h).mono ?_; (case h => exact zA); rintro e w1 ⟨rfl, hb⟩; replace hb := hb.below; replace hb := aM hb; have HW : Below W.heap.size W w1 := zB; have HB : Below w.heap.size w w1 := zB)))))
  go_loopg [5] kj6 (fun kq v5 w' => ∃ (x5_8 : Int), v5 = .int .i64 x5_8 ∧ spec_IsValidFact.l0 kq x5_8 a1_0 l1_1 = some r ∧ Below W.heap.size W w')
  case atStart => exact ⟨_, zR, zA, zB⟩
  case round =>
   clear h
   obtain ⟨x5_8, rfl, h, hb⟩ := hrel
   replace hb := aM hb
   have HW : Below W.heap.size W wr := zB
   have HB : Below w.heap.size w wr := zB
   rcases gk with _ | kk8
   exact absurd h (by simp [spec_IsValidFact.l0])
   simp only [spec_IsValidFact.l0] at h
   replace h := il h; rcases h with ⟨c9, c9a, h⟩ | ⟨c9, c9a, h⟩
   replace h := ie h; rcases h with ⟨c10, c10a, h⟩ | ⟨c10, c10a, h⟩
   replace h := bs h; obtain ⟨t142, B11, h⟩ := h
   replace h := ib h; rcases h with ⟨rfl, h⟩ | ⟨rfl, h⟩
   obtain ⟨kf, hkf⟩ : ∃ kf, kf = kk8 := ⟨_, rfl⟩; rw [← hkf] at h
   obtain ⟨ad141, e141, hx141_0⟩ := Kd.at_int hr1_1 (x5_8 : Int) aD aD
   have p141 := eq_true (aD : 0 ≤ (x5_8 : Int))
   have q141 := eq_true (aD : x5_8 < (l1_1.length : Int))
   cases e141
   replace hx141_0 := qa hx141_0
   rotate_left
   obtain rfl := si h
   obtain ⟨ad141, e141, hx141_0⟩ := Kd.at_int hr1_1 (x5_8 : Int) aD aD
   have p141 := eq_true (aD : 0 ≤ (x5_8 : Int))
   have q141 := eq_true (aD : x5_8 < (l1_1.length : Int))
   cases e141
   replace hx141_0 := qa hx141_0
   rotate_left
   exact absurd h (by simp)
   obtain rfl := si h
   rotate_left
   all_goals (go_wp2_with (first | (go_at_call 61; refine (spec_l1In.calls _ _ _ ?_ _ ?h).mono ?_; (case h => exact zA); rintro e w1 ⟨rfl, hb⟩; replace hb := hb.below; replace hb := aM hb; have HW : Below W.heap.size W w1 := zB; have HB : Below w.heap.size w w1 := zB)); (repeat ((refine nw (w0 := w) zB ?_; intro W1 HB hb hd; have HW : Below W.heap.size W W1 := zB; (first | (refine Txt.rg (id := 1) [0, 1, 2, 3, 4, 5, 6, 7, 8, 9, 10, 11, 12, 13, 14, 15, 16, 17, 18, 19, 20, 21, 22, 23] (by kernel_rfl) (by kernel_rfl) ?_; simp only [List.map_cons, List.map_nil, List.getD_cons_zero, List.getD_cons_succ])); (repeat (first | (refine Txt.off rfl ?_; simp only [Act.put, List.setIfInBounds_toArray, List.set_cons_zero, List.set_cons_succ]) | (refine Txt.take rfl rfl ?_; intro K hK; go_big_quiet_op; go_big_quiet_on) | (refine Txt.call rfl rfl Tryd.func26 (by kernel_rfl) rfl (spec_AreValidRelations.calls _ _ _ ?_ _ ?_ ?_ ?h) rfl ?_; (case h => exact zA); (iterate 2 (first | exact zC | exact zA)); rintro e w1 ⟨rfl, hb⟩; replace hb := aM hb; have HW : Below W.heap.size W w1 := zB; have HB : Below w.heap.size w w1 := zB; refine ⟨_, rfl, zS, ?_⟩; simp only [Act.put, List.setIfInBounds_toArray, List.set_cons_zero, List.set_cons_succ]) | (refine Txt.call rfl rfl Tryd.func61 (by kernel_rfl) rfl (spec_l1In.calls _ _ _ ?_ _ ?h) rfl ?_; (case h => exact zA); rintro e w1 ⟨rfl, hb⟩; replace hb := hb.below; replace hb := aM hb; have HW : Below W.heap.size W w1 := zB; have HB : Below w.heap.size w w1 := zB; refine ⟨_, rfl, zS, ?_⟩; simp only [Act.put, List.setIfInBounds_toArray, List.set_cons_zero, List.set_cons_succ]))); refine Txt.nil ?_); (try go_wp2_with (first | (go_at_call 61; refine (spec_l1In.calls _ _ _ ?_ _ ?h).mono ?_; (case h => exact zA); rintro e w1 ⟨rfl, hb⟩; replace hb := hb.below; replace hb := aM hb; have HW : Below W.heap.size W w1 := zB; have HB : Below w.heap.size w w1 := zB))))); first | (go_ret; exact zE zB) | (go_roundg kf; (case measure => omega); (case rel => exact ⟨_, zR, zA, zB⟩)))
 exact absurd h (by simp)
 exact absurd h (by simp)
 rcases k with _ | kj13
 exact absurd h (by simp [spec_IsValidFact.j0])
 simp only [spec_IsValidFact.j0] at h
 (first | replace h := itt h | (try simp only [if_true, if_false] at h))
 obtain rfl := si h
 rotate_left
 rcases k with _ | kj14
 exact absurd h (by simp [spec_IsValidFact.j0])
 simp only [spec_IsValidFact.j0] at h
 (first | replace h := itt h | (try simp only [if_true, if_false] at h))
 obtain rfl := si h
 rotate_left
 all_goals (go_enter Tryd.func65, Tryd.ntmps65; go_wp2_with (first | (go_at_call 61; refine (spec_l1In.calls _ _ _ ?_ _ ?h).mono ?_; (case h => exact zA); rintro e w1 ⟨rfl, hb⟩; replace hb := hb.below; replace hb := aM hb; have HW : Below W.heap.size W w1 := zB; have HB : Below w.heap.size w w1 := zB)); (repeat ((refine nw (w0 := w) zB ?_; intro W1 HB hb hd; have HW : Below W.heap.size W W1 := zB; (first | (refine Txt.rg (id := 1) [0, 1, 2, 3, 4, 5, 6, 7, 8, 9, 10, 11, 12, 13, 14, 15, 16, 17, 18, 19, 20, 21, 22, 23] (by kernel_rfl) (by kernel_rfl) ?_; simp only [List.map_cons, List.map_nil, List.getD_cons_zero, List.getD_cons_succ])); (repeat (first | (refine Txt.off rfl ?_; simp only [Act.put, List.setIfInBounds_toArray, List.set_cons_zero, List.set_cons_succ]) | (refine Txt.take rfl rfl ?_; intro K hK; go_big_quiet_op; go_big_quiet_on) | (refine Txt.call rfl rfl Tryd.func26 (by kernel_rfl) rfl (spec_AreValidRelations.calls _ _ _ ?_ _ ?_ ?_ ?h) rfl ?_; (case h => exact zA); (iterate 2 (first | exact zC | exact zA)); rintro e w1 ⟨rfl, hb⟩; replace hb := aM hb; have HW : Below W.heap.size W w1 := zB; have HB : Below w.heap.size w w1 := zB; refine ⟨_, rfl, zS, ?_⟩; simp only [Act.put, List.setIfInBounds_toArray, List.set_cons_zero, List.set_cons_succ]) | (refine Txt.call rfl rfl Tryd.func61 (by kernel_rfl) rfl (spec_l1In.calls _ _ _ ?_ _ ?h) rfl ?_; (case h => exact zA); rintro e w1 ⟨rfl, hb⟩; replace hb := hb.below; replace hb := aM hb; have HW : Below W.heap.size W w1 := zB; have HB : Below w.heap.size w w1 := zB; refine ⟨_, rfl, zS, ?_⟩; simp only [Act.put, List.setIfInBounds_toArray, List.set_cons_zero, List.set_cons_succ]))); refine Txt.nil ?_); (try go_wp2_with (first | (go_at_call 61; refine (spec_l1In.calls _ _ _ ?_ _ ?h).mono ?_; (case h => exact zA); rintro e w1 ⟨rfl, hb⟩; replace hb := hb.below; replace hb := aM hb; have HW : Below W.heap.size W w1 := zB; have HB : Below w.heap.size w w1 := zB))))); go_ret; exact zE zB)

/-! ### spec_FormatFact: function 30 -/
def spec_FormatFact.l0 : Nat → List (S28) → ByteArray → Int → Int → List Int → Option (ByteArray)
 | 0, _, _, _, _, _ => none
 | k + 1, x0, x5, x6, x144000, x144001 => if x6 < (x144001.length : Int) then (if 0 ≤ x144000 then (if x144000 < (x0.length : Int) then (if x6 = ((rd_T28 x0 x144000).f2) then (if x5.size + 1 ≤ 9223372036854775807 then (if 0 ≤ x6 then ((spec_FormatInt.f k (rd x144001 x6)).bind fun t148 => (if (x5 ++ (⟨#[124]⟩ : ByteArray)).size + t148.size ≤ 9223372036854775807 then (spec_FormatFact.l0 k x0 ((x5 ++ (⟨#[124]⟩ : ByteArray)) ++ t148) (wrap64 (x6 + 1)) x144000 x144001) else (none))) else (none)) else (none)) else (if 0 ≤ x6 then ((spec_FormatInt.f k (rd x144001 x6)).bind fun t150 => (if x5.size + t150.size ≤ 9223372036854775807 then (spec_FormatFact.l0 k x0 (x5 ++ t150) (wrap64 (x6 + 1)) x144000 x144001) else (none))) else (none))) else (none)) else (none)) else (some x5)
def spec_FormatFact.f (k : Nat) (l0 : List (S28)) (a1_0 : Int) (l1_1 : List Int) : Option (ByteArray) := (spec_IsValidFact.f k l0 a1_0 l1_1).bind fun t144 => (if t144 = true then (if 0 ≤ a1_0 then (if a1_0 < (l0.length : Int) then (spec_FormatFact.l0 k l0 ((rd_T28 l0 a1_0).f0) 0 a1_0 l1_1) else (none)) else (none)) else (some (⟨#[]⟩ : ByteArray)))
set_option maxHeartbeats 8000000 in
set_option maxRecDepth 100000 in
theorem spec_FormatFact.calls (k : Nat) (A0 : Option Addr) (c0 : Nat) (l0 : List (S28)) (a1_0 : Int) (A1_1 : Option Addr) (c1_1 : Nat) (l1_1 : List Int) (r : ByteArray) (w : World) (hr0 : Kd.C k28 w A0 l0.length l0) (hc0 : l0.length ≤ c0) (hr1_1 : Kd.C (Kd.int .i64) w A1_1 l1_1.length l1_1) (hc1_1 : l1_1.length ≤ c1_1) (h : spec_FormatFact.f k l0 a1_0 l1_1 = some r) :
  Calls Tryd.prog 30 #[.slice A0 l0.length c0, .agg #[.int .i64 a1_0, .slice A1_1 l1_1.length c1_1]] w fun e w' => e = .returned (.string r) ∧ Below w.heap.size w w' := by
 have hu52 := Tryd.underlying52
 obtain ⟨W, hW⟩ : ∃ W, w.alloc (.cells #[.int .i64 a1_0, .slice A1_1 l1_1.length c1_1] 52) = W := ⟨_, rfl⟩
 have q0 := qa (w := W) (p := ⟨w.heap.size, 0, none⟩) (v := .int .i64 a1_0) (by subst hW; go_simp)
 have q1 := qa (w := W) (p := ⟨w.heap.size, 1, none⟩) (v := .slice A1_1 l1_1.length c1_1) (by subst hW; go_simp)
 have HB : Below w.heap.size w W := by subst hW; exact zB
 have HW := Below.refl W.heap.size W
 have hb := aM HB
 unfold spec_FormatFact.f at h
 replace h := bs h; obtain ⟨t144, B0, h⟩ := h
 replace h := ib h; rcases h with ⟨rfl, h⟩ | ⟨rfl, h⟩
 replace h := ie h; rcases h with ⟨c2, c2a, h⟩ | ⟨c2, c2a, h⟩
 replace h := il h; rcases h with ⟨c3, c3a, h⟩ | ⟨c3, c3a, h⟩
 ·obtain ⟨ad145, e145, hx145_0, hx145_1, hx145_2⟩ := at_T28 hr0 (a1_0 : Int) aD aD
  have p145 := eq_true (aD : 0 ≤ (a1_0 : Int))
  have q145 := eq_true (aD : a1_0 < (l0.length : Int))
  cases e145
  replace hx145_0 := qa hx145_0
  replace hx145_1 := qa hx145_1
  replace hx145_2 := qa hx145_2
  go_enter Tryd.func30, Tryd.ntmps30
  go_wp2_with (first | (go_at_call 65; refine (spec_IsValidFact.calls ?_ _ _ _ _ _ _ _ ?_ _ ?_ ?_ ?_ ?_ ?h).mono ?_; (case h => exact zA); (iterate 4 (first | exact zC | exact zA)); rintro e w1 ⟨rfl, hb⟩; replace hb := aM hb; have HW : Below W.heap.size W w1 := zB; have HB : Below w.heap.size w w1 := zB) | (go_at_call 11; refine (spec_FormatInt.calls ?_ _ ?_ _ ?h).mono ?_; (case h => exact zA); rintro e w1 ⟨rfl, hb⟩; replace hb := aM hb; have HW : Below W.heap.size W w1 := zB; have HB : Below w.heap.size w w1 := zB))
  go_loopg [5, 6] k (fun kq v5 v6 w' => ∃ (x5_4 : ByteArray) (x6_4 : Int), v5 = .string x5_4 ∧ v6 = .int .i64 x6_4 ∧ spec_FormatFact.l0 kq l0 x5_4 x6_4 a1_0 l1_1 = some r ∧ Below W.heap.size W w')
  case atStart => exact ⟨_, _, zR, zR, zA, zB⟩
  case round =>
   clear h
   obtain ⟨x5_4, x6_4, rfl, rfl, h, hb⟩ := hrel
   replace hb := aM hb
   have HW : Below W.heap.size W wr := zB
   have HB : Below w.heap.size w wr := zB
   rcases gk with _ | kk4
   exact absurd h (by simp [spec_FormatFact.l0])
   simp only [spec_FormatFact.l0] at h
   replace h := il h; rcases h with ⟨c5, c5a, h⟩ | ⟨c5, c5a, h⟩
   replace h := ie h; rcases h with ⟨c6, c6a, h⟩ | ⟨c6, c6a, h⟩
   replace h := il h; rcases h with ⟨c7, c7a, h⟩ | ⟨c7, c7a, h⟩
   replace h := iq h; rcases h with ⟨c8, ⟨c8a, c8b⟩, h⟩ | ⟨c8, ⟨c8a, c8b⟩, h⟩
   replace h := ieN h; rcases h with ⟨c9, c9a, h⟩ | ⟨c9, c9a, h⟩
   have c9x0 : decide (x5_4.size + 1 ≤ 9223372036854775807) = true := decide_eq_true (of_eq_true c9a)
   have c9x1 : (9223372036854775807 < x5_4.size + 1) = False := eq_false (Nat.not_lt.2 (of_eq_true c9a))
   replace h := ie h; rcases h with ⟨c10, c10a, h⟩ | ⟨c10, c10a, h⟩
   replace h := bs h; obtain ⟨t148, B11, h⟩ := h
   replace h := ieN h; rcases h with ⟨c12, c12a, h⟩ | ⟨c12, c12a, h⟩
   have c12x0 : decide ((x5_4 ++ (⟨#[124]⟩ : ByteArray)).size + t148.size ≤ 9223372036854775807) = true := decide_eq_true (of_eq_true c12a)
   have c12x1 : (9223372036854775807 < (x5_4 ++ (⟨#[124]⟩ : ByteArray)).size + t148.size) = False := eq_false (Nat.not_lt.2 (of_eq_true c12a))
   have c12y := c12a; simp only [ByteArray.size_append, (show (⟨#[124]⟩ : ByteArray).size = 1 from rfl)] at c12y; have c12y0 := decide_eq_true (of_eq_true c12y); have c12y1 := eq_false (Nat.not_lt.2 (of_eq_true c12y))
   obtain ⟨kf, hkf⟩ : ∃ kf, kf = kk4 := ⟨_, rfl⟩; rw [← hkf] at h
   obtain ⟨ad146, e146, hx146_0, hx146_1, hx146_2⟩ := at_T28 hr0 (a1_0 : Int) aD aD
   have p146 := eq_true (aD : 0 ≤ (a1_0 : Int))
   have q146 := eq_true (aD : a1_0 < (l0.length : Int))
   cases e146
   replace hx146_0 := qa hx146_0
   replace hx146_1 := qa hx146_1
   replace hx146_2 := qa hx146_2
   obtain ⟨ad147, e147, hx147_0⟩ := Kd.at_int hr1_1 (x6_4 : Int) aD aD
   have p147 := eq_true (aD : 0 ≤ (x6_4 : Int))
   have q147 := eq_true (aD : x6_4 < (l1_1.length : Int))
   cases e147
   replace hx147_0 := qa hx147_0
   rotate_left
   exact absurd h (by simp)
   exact absurd h (by simp)
   exact absurd h (by simp)
   replace h := ie h; rcases h with ⟨c13, c13a, h⟩ | ⟨c13, c13a, h⟩
   replace h := bs h; obtain ⟨t150, B14, h⟩ := h
   replace h := ieN h; rcases h with ⟨c15, c15a, h⟩ | ⟨c15, c15a, h⟩
   have c15x0 : decide (x5_4.size + t150.size ≤ 9223372036854775807) = true := decide_eq_true (of_eq_true c15a)
   have c15x1 : (9223372036854775807 < x5_4.size + t150.size) = False := eq_false (Nat.not_lt.2 (of_eq_true c15a))
   obtain ⟨kf, hkf⟩ : ∃ kf, kf = kk4 := ⟨_, rfl⟩; rw [← hkf] at h
   obtain ⟨ad146, e146, hx146_0, hx146_1, hx146_2⟩ := at_T28 hr0 (a1_0 : Int) aD aD
   have p146 := eq_true (aD : 0 ≤ (a1_0 : Int))
   have q146 := eq_true (aD : a1_0 < (l0.length : Int))
   cases e146
   replace hx146_0 := qa hx146_0
   replace hx146_1 := qa hx146_1
   replace hx146_2 := qa hx146_2
   obtain ⟨ad149, e149, hx149_0⟩ := Kd.at_int hr1_1 (x6_4 : Int) aD aD
   have p149 := eq_true (aD : 0 ≤ (x6_4 : Int))
   have q149 := eq_true (aD : x6_4 < (l1_1.length : Int))
   cases e149
   replace hx149_0 := qa hx149_0
   rotate_left
   exact absurd h (by simp)
   exact absurd h (by simp)
   exact absurd h (by simp)
   exact absurd h (by simp)
   obtain rfl := si h
   rotate_left
   all_goals (go_wp2_with (first | (go_at_call 65; refine (spec_IsValidFact.calls ?_ _ _ _ _ _ _ _ ?_ _ ?_ ?_ ?_ ?_ ?h).mono ?_; (case h => exact zA); (iterate 4 (first | exact zC | exact zA)); rintro e w1 ⟨rfl, hb⟩; replace hb := aM hb; have HW : Below W.heap.size W w1 := zB; have HB : Below w.heap.size w w1 := zB) | (go_at_call 11; refine (spec_FormatInt.calls ?_ _ ?_ _ ?h).mono ?_; (case h => exact zA); rintro e w1 ⟨rfl, hb⟩; replace hb := aM hb; have HW : Below W.heap.size W w1 := zB; have HB : Below w.heap.size w w1 := zB)); first | (go_ret; exact zE zB) | (go_roundg kf; (case measure => omega); (case rel => exact ⟨_, _, zR, zR, zA, zB⟩)))
 exact absurd h (by simp)
 exact absurd h (by simp)
 obtain rfl := si h
 rotate_left
 all_goals (go_enter Tryd.func30, Tryd.ntmps30; go_wp2_with (first | (go_at_call 65; refine (spec_IsValidFact.calls ?_ _ _ _ _ _ _ _ ?_ _ ?_ ?_ ?_ ?_ ?h).mono ?_; (case h => exact zA); (iterate 4 (first | exact zC | exact zA)); rintro e w1 ⟨rfl, hb⟩; replace hb := aM hb; have HW : Below W.heap.size W w1 := zB; have HB : Below w.heap.size w w1 := zB) | (go_at_call 11; refine (spec_FormatInt.calls ?_ _ ?_ _ ?h).mono ?_; (case h => exact zA); rintro e w1 ⟨rfl, hb⟩; replace hb := aM hb; have HW : Below W.heap.size W w1 := zB; have HB : Below w.heap.size w w1 := zB)); go_ret; exact zE zB)

/-! ### spec_RelationIndex: function 72 -/
def spec_RelationIndex.l0 : Nat → List (S28) → ByteArray → Int → Option (Int)
 | 0, _, _, _ => none
 | k + 1, x0, x1, x5 => if x5 < (x0.length : Int) then (if 0 ≤ x5 then (if ((rd_T28 x0 x5).f0).toList = x1.toList then (some x5) else (spec_RelationIndex.l0 k x0 x1 (wrap64 (x5 + 1)))) else (none)) else (some (-1))
def spec_RelationIndex.f (k : Nat) (l0 : List (S28)) (a1 : ByteArray) : Option (Int) := spec_RelationIndex.l0 k l0 a1 0
set_option maxHeartbeats 8000000 in
set_option maxRecDepth 100000 in
theorem spec_RelationIndex.calls (k : Nat) (A0 : Option Addr) (c0 : Nat) (l0 : List (S28)) (a1 : ByteArray) (r : Int) (w : World) (hr0 : Kd.C k28 w A0 l0.length l0) (hc0 : l0.length ≤ c0) (h : spec_RelationIndex.f k l0 a1 = some r) :
  Calls Tryd.prog 72 #[.slice A0 l0.length c0, .string a1] w fun e w' => e = .returned (.int .i64 r) ∧ Drawn0 w w' := by
 unfold spec_RelationIndex.f at h
 ·go_enter Tryd.func72, Tryd.ntmps72
  go_wp2
  go_loopg [5] k (fun kq v5 w' => ∃ (x5_0 : Int), v5 = .int .i64 x5_0 ∧ spec_RelationIndex.l0 kq l0 a1 x5_0 = some r ∧ Drawn0 w w')
  case atStart => exact ⟨_, zR, zA, zD⟩
  case round =>
   clear h
   obtain ⟨x5_0, rfl, h, hb⟩ := hrel
   have hd := hb
   replace hb := hb.below
   replace hb := aM hb
   have HB : Below w.heap.size w wr := zB
   rcases gk with _ | kk0
   exact absurd h (by simp [spec_RelationIndex.l0])
   simp only [spec_RelationIndex.l0] at h
   replace h := il h; rcases h with ⟨c1, c1a, h⟩ | ⟨c1, c1a, h⟩
   replace h := ie h; rcases h with ⟨c2, c2a, h⟩ | ⟨c2, c2a, h⟩
   replace h := iq h; rcases h with ⟨c3, ⟨c3a, c3b⟩, h⟩ | ⟨c3, ⟨c3a, c3b⟩, h⟩
   obtain rfl := si h
   obtain ⟨ad151, e151, hx151_0, hx151_1, hx151_2⟩ := at_T28 hr0 (x5_0 : Int) aD aD
   have p151 := eq_true (aD : 0 ≤ (x5_0 : Int))
   have q151 := eq_true (aD : x5_0 < (l0.length : Int))
   cases e151
   replace hx151_0 := qa hx151_0
   replace hx151_1 := qa hx151_1
   replace hx151_2 := qa hx151_2
   rotate_left
   obtain ⟨kf, hkf⟩ : ∃ kf, kf = kk0 := ⟨_, rfl⟩; rw [← hkf] at h
   obtain ⟨ad151, e151, hx151_0, hx151_1, hx151_2⟩ := at_T28 hr0 (x5_0 : Int) aD aD
   have p151 := eq_true (aD : 0 ≤ (x5_0 : Int))
   have q151 := eq_true (aD : x5_0 < (l0.length : Int))
   cases e151
   replace hx151_0 := qa hx151_0
   replace hx151_1 := qa hx151_1
   replace hx151_2 := qa hx151_2
   rotate_left
   exact absurd h (by simp)
   obtain rfl := si h
   rotate_left
   all_goals (go_wp2; first | (go_ret; exact zE zD) | (go_roundg kf; (case measure => omega); (case rel => exact ⟨_, zR, zA, zD⟩)))

/-! ### spec_ParseFact: function 38 -/
def spec_ParseFact.l0 : Nat → List (S28) → ByteArray → Int → Int → List Int → Option (Int × List Int × Bool)
 | 0, _, _, _, _, _ => none
 | k + 1, x0, x1, x7, x155000, x155001 => if x7 < (x1.size : Int) then (if 0 ≤ x7 then (if (bt x1 x7) = 124 then (spec_ParseFact.l0 k x0 x1 (wrap64 (x7 + 1)) x155000 x155001) else (if x155001.length < 17592186044416 then (spec_ParseFact.l0 k x0 x1 (wrap64 (x7 + 1)) x155000 (x155001 ++ [wrap64 ((wrap64 (bt x1 x7)) - 48)])) else (none))) else (none)) else ((spec_FormatFact.f k x0 x155000 x155001).bind fun t158 => (if t158.toList = x1.toList then (some (x155000, x155001, true)) else (some (0, ([] : List Int), false))))
def spec_ParseFact.f (k : Nat) (l0 : List (S28)) (a1 : ByteArray) : Option (Int × List Int × Bool) := if a1.toList = ([] : List UInt8) then (some (0, ([] : List Int), false)) else (if 0 ≤ 1 then (if 1 ≤ (a1.size : Int) then ((spec_RelationIndex.f k l0 (a1.extract 0 1)).bind fun t153 => (spec_ParseFact.l0 k l0 a1 1 t153 ([] : List Int))) else (none)) else (none))
def spec_ParseFact.T8 : Bool × List (List Nat × List Nat) := (true, [([], []), ([0], [0]), ([], []), ([], []), ([2, 3], [2, 3]), ([4], [4]), ([5], [5]), ([6], [6]), ([1, 7], [1, 7]), ([0, 1, 2, 3, 4, 5, 6, 7, 8], []), ([9, 8, 8, 0, 1, 2, 3, 4, 5, 6, 7, 8], [8, 9])])
def spec_ParseFact.B8 : List Nat := [0, 1, 0, 0, 12, 28, 60, 124, 255, 511, 1023]
theorem spec_ParseFact.tab8 : rtab .any (opsOf Tryd.f38 8) = spec_ParseFact.T8 := by kernel_rfl
theorem spec_ParseFact.bits8 : waitsOk spec_ParseFact.T8.2 spec_ParseFact.B8 = true := by kernel_rfl
set_option maxHeartbeats 8000000 in
set_option maxRecDepth 100000 in
theorem spec_ParseFact.calls (k : Nat) (A0 : Option Addr) (c0 : Nat) (l0 : List (S28)) (a1 : ByteArray) (r1 : Int) (r2 : List Int) (r3 : Bool) (w : World) (hr0 : Kd.C k28 w A0 l0.length l0) (hc0 : l0.length ≤ c0) (h : spec_ParseFact.f k l0 a1 = some (r1, r2, r3)) :
  Calls Tryd.prog 38 #[.slice A0 l0.length c0, .string a1] w fun e w' => ∃ v1_ : Value, e = .returned (.tuple #[.agg #[.int .i64 r1, v1_], .bool r3]) ∧ Kd.R (Kd.int .i64) 3 w' w.heap.size (fun _ => True) v1_ r2 ∧ Below w.heap.size w w' := by
 have hu52 := Tryd.underlying52
 have HR0 := aM hr0
 have HC0 := aM hc0
 clear hr0 hc0
 have HB := aM (Below.refl w.heap.size w)
 have H : (if a1.toList = ([] : List UInt8) then (some (0, ([] : List Int), false)) else (if 0 ≤ 1 then (if 1 ≤ (a1.size : Int) then ((spec_RelationIndex.f k l0 (a1.extract 0 1)).bind fun t153 => (spec_ParseFact.l0 k l0 a1 1 t153 ([] : List Int))) else (none)) else (none))) = some (r1, r2, r3) := h
 clear h
 by_cases c3 : a1.toList = ([] : List UInt8)
 ·rw [if_pos c3] at H
  have c3b0 : (a1.toList == ([] : List UInt8)) = true := beq_iff_eq.mpr c3
  have c3b1 : (a1.toList != ([] : List UInt8)) = false := bne_eq_false_iff_eq.mpr c3
  clear c3
  simp only [Option.some.injEq, Prod.mk.injEq] at H
  obtain ⟨rfl, rfl, rfl⟩ := H
  go_enter Tryd.func38, Tryd.ntmps38
  go_wp2_with (first | ((with_reducible refine gate_dst (N := 4) rfl ?_); refine box_event ?hg (N := 4) ?hd (cs := #[.int .i64 0, .slice none 0 0]) (t := 52) ?hr ?_; (case hd => rfl); (case hg => rfl); (case hr => first | (go_simp; done) | (go_simp; rfl)); intro gb152 hg w4 hbox hb; have n0_ := aM (below_step aB hb); have n1_ := aM (hbox); have n2_ := aM ((by rw [hg]; exact (below_size aB) : w.heap.size ≤ gb152)); have n3_ := aM ((by rw [hg]; exact (below_size aB) : w.heap.size ≤ gb152)); clear HB; have HB := n0_; have BK152 := n1_; have GW152 := n2_; have GE152 := n3_; clear n0_ n1_ n2_ n3_; clear hb hbox hg; have hcz5_0 : w4.cell? ⟨gb152, 0, none⟩ = some (.int .i64 0) := (blk_cell BK152.out 0).trans rfl; have hcz5_1 : w4.cell? ⟨gb152, 1, none⟩ = some (.slice none 0 0) := (blk_cell BK152.out 1).trans rfl; have hfz5_0 := blk_frozen BK152.out 0; have hfz5_1 := blk_frozen BK152.out 1))
  refine bodyPost_ret (results_ct rfl _ _ gb152 52 #[.int .i64 0, .slice none 0 0] (0, 0) _ rfl (by (with_reducible repeat (first | refine blk_drewN ?_ _ | refine blk_drew ?_ | refine blk_alloc ?_ _)); refine blk_put (cs := #[.int .i64 0, .slice none 0 0]) ?_ 1 _ rfl; (with_reducible repeat (first | refine blk_drewN ?_ _ | refine blk_drew ?_ | refine blk_alloc ?_ _)); refine blk_put (cs := #[.int .i64 0, .slice none 0 0]) ?_ 0 _ rfl; (with_reducible repeat (first | refine blk_drewN ?_ _ | refine blk_drew ?_ | refine blk_alloc ?_ _)); exact BK152.out) Tryd.underlying52 rfl (by kernel_rfl)) rfl ?_
  exact ⟨_, by first | rfl | (simp [errW_none, errW_some] <;> rfl) | (simp [*, errW_none, errW_some] <;> rfl), by first | exact Kd.R_nil _ _ _ _ _ | exact Kd.N_nil _ _ _ _ _ | exact Kd.V_nil _ _ _ _ _ | exact Kd.Q_nil _ _ _ _ _ | exact Kd.S_nil _ _ _ _ _, by repeat (first | (with_reducible first | exact HB.out | apply below_alloc | apply pw_below_drewN | apply below_drew1 | refine below_set ?_ GE152.out) | exact HB.out)⟩
 ·rw [if_neg c3] at H
  have c3b0 : (a1.toList == ([] : List UInt8)) = false := beq_eq_false_iff_ne.mpr c3
  have c3b1 : (a1.toList != ([] : List UInt8)) = true := bne_iff_ne.mpr c3
  by_cases c6 : 0 ≤ 1
  ·rw [if_pos c6] at H
   have c6b0 := eq_true c6
   have c6b1 : decide (0 ≤ 1) = true := decide_eq_true c6
   clear c6
   by_cases c7 : 1 ≤ (a1.size : Int)
   ·rw [if_pos c7] at H
    have c7b0 := eq_true c7
    have c7b1 : decide (1 ≤ (a1.size : Int)) = true := decide_eq_true c7
    clear c7
    replace H := Option.bind_eq_some_iff.mp H
    obtain ⟨t153, A80, H⟩ := H
    replace H : (spec_ParseFact.l0 k l0 a1 1 t153 ([] : List Int)) = some (r1, r2, r3) := H
    have A8 := aM A80
    clear A80
    have H' := aM H
    clear H
    go_enter Tryd.func38, Tryd.ntmps38
    go_wp2_with (first | ((with_reducible refine gate_dst (N := 4) rfl ?_); refine box_event ?hg (N := 4) ?hd (cs := #[.int .i64 0, .slice none 0 0]) (t := 52) ?hr ?_; (case hd => rfl); (case hg => rfl); (case hr => first | (go_simp; done) | (go_simp; rfl)); intro gb152 hg w9 hbox hb; have n0_ := aM (below_step aB hb); have n1_ := aM (hbox); have n2_ := aM ((by rw [hg]; exact (below_size aB) : w.heap.size ≤ gb152)); have n3_ := aM ((by rw [hg]; exact (below_size aB) : w.heap.size ≤ gb152)); clear HB; have HB := n0_; have BK152 := n1_; have GW152 := n2_; have GE152 := n3_; clear n0_ n1_ n2_ n3_; clear hb hbox hg) | ((with_reducible refine gate_callee (f := 72) rfl ?_); refine goesL_ (some 14) rfl rfl Tryd.func72 (by kernel_rfl) rfl #[.slice A0 l0.length c0, .string (a1.extract 0 1)] rfl (by (try simp only [List.map_toArray, List.map_cons, List.map_nil]); first | done | rfl | (simp only [List.length_drop, List.length_take]; rfl)) ?_; (with_reducible refine (spec_RelationIndex.calls k _ _ l0 (a1.extract 0 1) t153 _ ?side1 ?side2 A8.out).mono ?_); (case side1 => exact aC); (case side2 => exact HC0.out); rintro e w' ⟨rfl, ⟨nd, rfl⟩⟩; refine ⟨_, rfl, ?_⟩; (try (rw [drewN_self w9]; generalize hq_ : World.drewN w9 _ = w9; have n0_ : Aside0 (w9.heap[gb152]? = some (.cells #[.int .i64 0, .slice none 0 0] 52 (0, 0))) := ⟨by rw [← hq_]; exact aK⟩; have n1_ : Aside0 (Below w.heap.size w w9) := ⟨by rw [← hq_]; exact aG⟩; clear BK152 HB hq_; have BK152 := n0_; have HB := n1_; clear n0_ n1_))) | ((with_reducible refine gate_dst (N := 6) rfl ?_); refine box_event ?hg (N := 6) ?hd (cs := #[.int .i64 0, .slice none 0 0]) (t := 52) ?hr ?_; (case hd => rfl); (case hg => rfl); (case hr => first | (go_simp; done) | (go_simp; rfl)); intro gb154 hg w10 hbox hb; have n0_ := aM (blk_below (g := gb152) (o := .cells #[.int .i64 0, .slice none 0 0] 52 (0, 0)) aK hb); have n1_ := aM (below_step aG hb); have n2_ := aM (hbox); have n3_ := aM ((by rw [hg]; exact (below_size aG) : w.heap.size ≤ gb154)); have n4_ := aM ((by rw [hg]; exact (below_size aG) : w.heap.size ≤ gb154)); have n5_ := aM ((by rw [hg]; exact Nat.ne_of_lt (blk_lt (g := gb152) (o := .cells #[.int .i64 0, .slice none 0 0] 52 (0, 0)) aK) : gb152 ≠ gb154)); have n6_ := aM ((by rw [hg]; exact Nat.ne_of_gt (blk_lt (g := gb152) (o := .cells #[.int .i64 0, .slice none 0 0] 52 (0, 0)) aK) : gb154 ≠ gb152)); clear BK152; clear HB; have BK152 := n0_; have HB := n1_; have BK154 := n2_; have GW154 := n3_; have GE154 := n4_; have NB152_154 := n5_; have NB154_152 := n6_; clear n0_ n1_ n2_ n3_ n4_ n5_ n6_; clear hb hbox hg; have hnb11 := NB154_152.out; have hnc11 := NB152_154.out; have hcz12_0 : w10.cell? ⟨gb154, 0, none⟩ = some (.int .i64 0) := (blk_cell BK154.out 0).trans rfl; have hcz12_1 : w10.cell? ⟨gb154, 1, none⟩ = some (.slice none 0 0) := (blk_cell BK154.out 1).trans rfl; have hfz12_0 := blk_frozen BK154.out 0; have hfz12_1 := blk_frozen BK154.out 1))
    go_loopg [7] k (fun kq v7 w' => ∃ (x7_1 : Int) (x155001_1 : List Int) (u155001 : Value), v7 = .int .i64 x7_1 ∧ Aside0 (spec_ParseFact.l0 kq l0 a1 x7_1 t153 x155001_1 = some (r1, r2, r3)) ∧ Aside0 (kq ≤ k) ∧ Aside0 (Kd.R (Kd.int .i64) 3 w' w.heap.size (fun _ => True) u155001 x155001_1) ∧ Aside0 (w'.heap[gb152]? = some (.cells #[.int .i64 0, (.slice none 0 0)] 52 (0, 0))) ∧ Aside0 (w'.heap[gb154]? = some (.cells #[.int .i64 t153, u155001] 52 (0, 0))) ∧ Aside0 (Below w.heap.size w w'))
    case atStart => exact ⟨(1), (([] : List Int)), (.slice none 0 0), (by first | rfl | (simp; done) | (simp [*]; done)), H', ⟨Nat.le_refl _⟩, ⟨by first | exact Kd.R_nil _ _ _ _ _ | exact Kd.N_nil _ _ _ _ _ | exact Kd.V_nil _ _ _ _ _ | exact Kd.Q_nil _ _ _ _ _ | exact Kd.S_nil _ _ _ _ _⟩, ⟨by (with_reducible repeat (first | refine blk_drewN ?_ _ | refine blk_drew ?_ | refine blk_alloc ?_ _)); refine blk_far ?_ NB152_154.out _; (with_reducible repeat (first | refine blk_drewN ?_ _ | refine blk_drew ?_ | refine blk_alloc ?_ _)); refine blk_far ?_ NB152_154.out _; (with_reducible repeat (first | refine blk_drewN ?_ _ | refine blk_drew ?_ | refine blk_alloc ?_ _)); exact BK152.out⟩, ⟨by (with_reducible repeat (first | refine blk_drewN ?_ _ | refine blk_drew ?_ | refine blk_alloc ?_ _)); refine blk_put (cs := #[.int .i64 t153, .slice none 0 0]) ?_ 1 _ rfl; (with_reducible repeat (first | refine blk_drewN ?_ _ | refine blk_drew ?_ | refine blk_alloc ?_ _)); refine blk_put (cs := #[.int .i64 0, .slice none 0 0]) ?_ 0 _ rfl; (with_reducible repeat (first | refine blk_drewN ?_ _ | refine blk_drew ?_ | refine blk_alloc ?_ _)); exact BK154.out⟩, ⟨by repeat (first | (with_reducible first | exact HB.out | apply below_alloc | apply pw_below_drewN | apply below_drew1 | refine below_set ?_ GE152.out | refine below_set ?_ GE154.out) | exact HB.out)⟩⟩
    case round =>
     clear H'
     try clear c1
     try clear p2
     try clear c3
     try clear c3b0
     try clear c3b1
     try clear c6
     try clear c6b0
     try clear c6b1
     try clear c7
     try clear c7b0
     try clear c7b1
     try clear c11
     try clear hcz12_0
     try clear hcz12_1
     try clear hcz5_0
     try clear hcz5_1
     try clear hfz12_0
     try clear hfz12_1
     try clear hfz5_0
     try clear hfz5_1
     obtain ⟨x7_1, x155001_1, u155001, rfl, HA, HK1, HO_155001, BK152, BK154, HB⟩ := hrel
     cases gk with
     | zero => exact absurd HA.out (by simp [spec_ParseFact.l0])
     | succ k1 =>
      have H := HA.out
      clear HA
      simp only [spec_ParseFact.l0] at H
      by_cases c13 : x7_1 < (a1.size : Int)
      ·rw [if_pos c13] at H
       have c13b0 : decide (x7_1 < (a1.size : Int)) = true := decide_eq_true c13
       clear c13
       by_cases c14 : 0 ≤ x7_1
       ·rw [if_pos c14] at H
        have c14b0 : decide (0 ≤ x7_1) = true := decide_eq_true c14
        clear c14
        by_cases c16 : (bt a1 x7_1) = 124
        ·rw [if_pos c16] at H
         have c16b0 : ((bt a1 x7_1) == 124) = true := beq_iff_eq.mpr c16
         have c16b1 : ((bt a1 x7_1) != 124) = false := bne_eq_false_iff_eq.mpr c16
         clear c16
         have H' := aM H
         clear H
         have p15 : 0 ≤ (x7_1 : Int) := aD
         have q15 : x7_1 < (a1.size : Int) := aD
         have hx15 := bt_at a1 x7_1
         replace p15 := eq_true p15
         replace q15 := eq_true q15
         go_wp2
         go_roundg k1
         case measure => have := HK1.out; omega
         case rel => exact ⟨(wrap64 (x7_1 + 1)), (x155001_1), (u155001), (by first | rfl | (simp; done) | (simp [*]; done)), H', ⟨by have := HK1.out; omega⟩, ⟨aR HO_155001⟩, ⟨by (with_reducible repeat (first | refine blk_drewN ?_ _ | refine blk_drew ?_ | refine blk_alloc ?_ _)); exact BK152.out⟩, ⟨by (with_reducible repeat (first | refine blk_drewN ?_ _ | refine blk_drew ?_ | refine blk_alloc ?_ _)); exact BK154.out⟩, ⟨by repeat (first | (with_reducible first | exact HB.out | apply below_alloc | apply pw_below_drewN | apply below_drew1 | refine below_set ?_ GE152.out | refine below_set ?_ GE154.out) | exact HB.out)⟩⟩
        ·rw [if_neg c16] at H
         have c16b0 : ((bt a1 x7_1) == 124) = false := beq_eq_false_iff_ne.mpr c16
         have c16b1 : ((bt a1 x7_1) != 124) = true := bne_iff_ne.mpr c16
         by_cases c18 : x155001_1.length < 17592186044416
         ·rw [if_pos c18] at H
          have LMc18 := aM c18
          clear c18
          obtain ⟨y155, hy155⟩ : ∃ y_ : List Int, y_ = (x155001_1 ++ [wrap64 ((wrap64 (bt a1 x7_1)) - 48)]) := ⟨_, rfl⟩
          replace H : (spec_ParseFact.l0 k1 l0 a1 (wrap64 (x7_1 + 1)) t153 y155) = some (r1, r2, r3) := by first | (rw [hy155]; with_reducible exact H) | (have H2_ := (Option.bind_some _ _).symm.trans H; rw [hy155]; with_reducible exact H2_) | (have H2_ := (Option.bind_some _ _).symm.trans H; with_reducible exact H2_) | with_reducible exact H | (rw [hy155]; exact H) | exact H
          have Ny155 := aM hy155
          clear hy155
          have H' := aM H
          clear H
          have p15 : 0 ≤ (x7_1 : Int) := aD
          have q15 : x7_1 < (a1.size : Int) := aD
          have hx15 := bt_at a1 x7_1
          replace p15 := eq_true p15
          replace q15 := eq_true q15
          try go_wp2
          have n0_ := aM (Kd.R_drew HO_155001.out)
          have n1_ := aM (blk_drew BK152.out)
          have n2_ := aM (blk_drew BK154.out)
          have n3_ := aM (below_drew1 HB.out)
          clear HO_155001
          clear BK152
          clear BK154
          clear HB
          have HO_155001 := n0_
          have BK152 := n1_
          have BK154 := n2_
          have HB := n3_
          clear n0_ n1_ n2_ n3_
          have p17 : 0 ≤ (x7_1 : Int) := aD
          have q17 : x7_1 < (a1.size : Int) := aD
          have hx17 := bt_at a1 x7_1
          replace p17 := eq_true p17
          replace q17 := eq_true q17
          refine start_ (n := 11) (S := fun w' => w'.cell? ⟨gb154, 0, none⟩ = some (.int .i64 t153) ∧ w'.cell? ⟨gb154, 1, none⟩ = some (u155001)) (ds := [10]) #[false, false, false, false, false, false, false, false, false, false, false] (by kernel_rfl) rfl rfl ⟨(blk_cell BK154.out 0).trans rfl, (blk_cell BK154.out 1).trans rfl⟩ (fun hHeld => ?_); refine with_tabW spec_ParseFact.tab8 spec_ParseFact.bits8 (fun HT_ HW_ => ?_)
          generalize wr.drew = w19 at HO_155001 BK152 BK154 HB hHeld ⊢
          refine pure_ (i := 0) (N := some 26) (v := ?_) (a' := ?_) #[true, false, false, false, false, false, false, false, false, false, false] rfl rfl (any_of HT_.out (by kernel_rfl)) (fun _ _ _ h => h) (Or.inl ⟨by rfl, ?_⟩) ?_ ?_
          rotate_left
          ·exact aI
          rotate_left
          ·exact aP
          refine pure_ (i := 2) (N := some 28) (v := ?_) (a' := ?_) #[true, false, true, false, false, false, false, false, false, false, false] rfl rfl (any_of HT_.out (by kernel_rfl)) (fun _ _ _ h => h) (Or.inl ⟨by rfl, ?_⟩) ?_ ?_
          rotate_left
          ·exact aI
          rotate_left
          ·exact aP
          refine pure_ (i := 3) (N := some 29) (v := ?_) (a' := ?_) #[true, false, true, true, false, false, false, false, false, false, false] rfl rfl (any_of HT_.out (by kernel_rfl)) (fun _ _ _ h => h) (Or.inl ⟨by rfl, ?_⟩) ?_ ?_
          rotate_left
          ·exact aI
          rotate_left
          ·exact aP
          refine take_ (i := 1) (N := some 27) (v := ?_) (a' := ?_) #[true, true, true, true, false, false, false, false, false, false, false] rfl rfl (take_ofW HT_.out HW_.out (by kernel_rfl)) (fun _ _ _ h => h) (Or.inl ⟨by rfl, ?_⟩) hHeld ?_ ?_
          rotate_left
          ·rintro w' ⟨s0, s1⟩
           go_simp
           with_reducible rfl
          rotate_left
          ·exact aP
          refine take_ (i := 4) (N := some 30) (v := ?_) (a' := ?_) #[true, true, true, true, true, false, false, false, false, false, false] rfl rfl (take_ofW HT_.out HW_.out (by kernel_rfl)) (fun _ _ _ h => h) (Or.inl ⟨by rfl, ?_⟩) hHeld ?_ ?_
          rotate_left
          ·rintro w' ⟨s0, s1⟩
           go_simp
           with_reducible rfl
          rotate_left
          ·exact aP
          refine pure_ (i := 5) (N := some 31) (v := ?_) (a' := ?_) #[true, true, true, true, true, true, false, false, false, false, false] rfl rfl (any_of HT_.out (by kernel_rfl)) (fun _ _ _ h => h) (Or.inl ⟨by rfl, ?_⟩) ?_ ?_
          rotate_left
          ·exact aI
          rotate_left
          ·exact aP
          refine pure_ (i := 6) (N := some 32) (v := ?_) (a' := ?_) #[true, true, true, true, true, true, true, false, false, false, false] rfl rfl (any_of HT_.out (by kernel_rfl)) (fun _ _ _ h => h) (Or.inl ⟨by rfl, ?_⟩) ?_ ?_
          rotate_left
          ·exact aI
          rotate_left
          ·exact aP
          refine one_ (i := 7) (N := some 33) #[true, true, true, true, true, true, true, true, false, false, false] rfl rfl (one_of HT_.out (by kernel_rfl)) (by decide) (fun K hK => ?_)
          refine value_ (w1 := ?_) (v := ?_) (by rfl) rfl ?_ ?_
          rotate_left 2
          ·go_simp
           constructor
           ·rfl
           ·rfl
          refine hK.out _ _ ⟨(blk_cell (blk_alloc BK154.out _) 0).trans rfl, (blk_cell (blk_alloc BK154.out _) 1).trans rfl⟩ (fun hHeld => ?_)
          clear hK K
          refine norm_ (a' := ?_) ?_ ?_
          rotate_left
          ·show Act.put _ (some 33) _ = _
           simp only [Act.put, List.setIfInBounds_toArray, List.set_cons_zero, List.set_cons_succ, i64_w, i32_w]
           rfl
          refine one_ (i := 8) (N := some 34) #[true, true, true, true, true, true, true, true, true, false, false] rfl rfl (one_of HT_.out (by kernel_rfl)) (by decide) (fun K hK => ?_)
          refine Kd.R_append_step (Kd.int .i64) (w0 := w) w.heap.size (by rfl) (.tmp 27) (.tmp 33) 45 3 (.int .i64 0) 8 rfl Tryd.underlying45 info3 rfl (by decide) (by omega) u155001 x155001_1 (wrap64 ((wrap64 (bt a1 x7_1)) - 48)) [.int .i64 (wrap64 ((wrap64 (bt a1 x7_1)) - 48))] (fun _ => True) (fun _ => False) rfl rfl ?aP (fun _ hk => hk.elim) ?aF ?aO ?aB ?aS ?aL ?_
          (case aP => exact rfl)
          (case aB => exact aG)
          (case aF => exact (fun _ _ => trivial))
          (case aO => exact (aR HO_155001))
          (case aS => exact (below_size aG))
          (case aL => have := LMc18.out; omega)
          intro v156 w20 ho hb hg hat
          rw [← Ny155.out] at ho
          have n0_ := aM (blk_grown (g := gb152) (o := .cells #[.int .i64 0, .slice none 0 0] 52 (0, 0)) aK hg (Kd.R_ne HO_155001.out BK152.out (by decide)))
          have n1_ := aM (blk_grown (g := gb154) (o := .cells #[.int .i64 t153, u155001] 52 (0, 0)) aK hg (Kd.R_ne HO_155001.out BK154.out (by decide)))
          have n2_ := aM (hb)
          have n3_ := aM (ho)
          clear BK152
          clear BK154
          clear HB
          clear HO_155001
          have BK152 := n0_
          have BK154 := n1_
          have HB := n2_
          have HO157 := n3_
          clear n0_ n1_ n2_ n3_
          clear ho hb hg hat
          obtain ⟨Ao21, co21, eo21⟩ := Kd.R_slice HO157.out
          (first | subst eo21 | (injection eo21 with f1_ f2_ f3_; have f4_ := f1_.symm; have f5_ := f3_.symm; clear f1_ f2_ f3_; subst f4_; subst f5_))
          refine hK.out _ _ ⟨(blk_cell BK154.out 0).trans rfl, (blk_cell BK154.out 1).trans rfl⟩ (fun hHeld => ?_)
          clear hK K
          refine norm_ (a' := ?_) ?_ ?_
          rotate_left
          ·show Act.put _ (some 34) _ = _
           simp only [Act.put, List.setIfInBounds_toArray, List.set_cons_zero, List.set_cons_succ, i64_w, i32_w]
           rfl
          refine pure_ (i := 9) (N := some 35) (v := ?_) (a' := ?_) #[true, true, true, true, true, true, true, true, true, true, false] rfl rfl (any_of HT_.out (by kernel_rfl)) (fun _ _ _ h => h) (Or.inl ⟨by rfl, ?_⟩) ?_ ?_
          rotate_left
          ·exact aI
          rotate_left
          ·exact aP
          refine last_ (i := 10) (N := none) #[true, true, true, true, true, true, true, true, true, true, true] rfl rfl (one_of HT_.out (by kernel_rfl)) (by decide) (fun K hK => ?_)
          have hs22 : w20.cell? ⟨gb154, 1, none⟩ = some (u155001) := (blk_cell BK154.out 1).trans rfl
          have hfs22 := blk_frozen BK154.out 1
          have hns22_0 := NB152_154.out
          have hms22_0 := NB154_152.out
          refine skip_ (w1 := ?_) (by rfl) rfl ?_ ?_
          rotate_left
          ·go_simp
           rfl
          refine hK.out _ _ ?_
          clear hK K
          refine done_ (done_of HT_.out (by kernel_rfl)) ?_
          try go_wp2
          go_roundg k1
          case measure => have := HK1.out; omega
          case rel => exact ⟨(wrap64 (x7_1 + 1)), (y155), (.slice Ao21 y155.length co21), (by first | rfl | (simp; done) | (simp [*]; done)), H', ⟨by have := HK1.out; omega⟩, ⟨by (with_reducible repeat (first | apply Kd.R_alloc | apply Kd.R_drewN | apply Kd.R_drew)); exact Kd.R_mono (Kd.R_far (p := ⟨gb154, 1, none⟩) (Kd.R_types HO157.out BK154.out (by decide)) (fun _ hk => hk.2) (.slice Ao21 y155.length co21)) (fun _ hk => trivial)⟩, ⟨by (with_reducible repeat (first | refine blk_drewN ?_ _ | refine blk_drew ?_ | refine blk_alloc ?_ _)); refine blk_far ?_ NB152_154.out _; (with_reducible repeat (first | refine blk_drewN ?_ _ | refine blk_drew ?_ | refine blk_alloc ?_ _)); exact BK152.out⟩, ⟨by (with_reducible repeat (first | refine blk_drewN ?_ _ | refine blk_drew ?_ | refine blk_alloc ?_ _)); refine blk_put (cs := #[.int .i64 t153, u155001]) ?_ 1 _ rfl; (with_reducible repeat (first | refine blk_drewN ?_ _ | refine blk_drew ?_ | refine blk_alloc ?_ _)); exact BK154.out⟩, ⟨by repeat (first | (with_reducible first | exact HB.out | apply below_alloc | apply pw_below_drewN | apply below_drew1 | refine below_set ?_ GE152.out | refine below_set ?_ GE154.out) | exact HB.out)⟩⟩
         ·rw [if_neg c18] at H
          exact absurd H (by simp)
       ·rw [if_neg c14] at H
        exact absurd H (by simp)
      ·rw [if_neg c13] at H
       have c13b0 : decide (x7_1 < (a1.size : Int)) = false := decide_eq_false c13
       clear c13
       replace H := Option.bind_eq_some_iff.mp H
       obtain ⟨t158, A230, H⟩ := H
       replace H : (if t158.toList = a1.toList then (some (t153, x155001_1, true)) else (some (0, ([] : List Int), false))) = some (r1, r2, r3) := H
       have A23 := aM A230
       clear A230
       by_cases c24 : t158.toList = a1.toList
       ·rw [if_pos c24] at H
        have c24b0 : (t158.toList == a1.toList) = true := beq_iff_eq.mpr c24
        have c24b1 : (t158.toList != a1.toList) = false := bne_eq_false_iff_eq.mpr c24
        clear c24
        simp only [Option.some.injEq, Prod.mk.injEq] at H
        obtain ⟨rfl, rfl, rfl⟩ := H
        have hnb25 := NB154_152.out
        have hnc25 := NB152_154.out
        have hcz26_0 : wr.cell? ⟨gb154, 0, none⟩ = some (.int .i64 t153) := (blk_cell BK154.out 0).trans rfl
        have hcz26_1 : wr.cell? ⟨gb154, 1, none⟩ = some (u155001) := (blk_cell BK154.out 1).trans rfl
        have hfz26_0 := blk_frozen BK154.out 0
        have hfz26_1 := blk_frozen BK154.out 1
        obtain ⟨Ao27, co27, eo27⟩ := Kd.R_slice HO_155001.out
        subst eo27
        go_wp2_with (first | ((with_reducible refine gate_callee (f := 30) rfl ?_); refine goesL_ (some 38) rfl rfl Tryd.func30 (by kernel_rfl) rfl #[.slice A0 l0.length c0, .agg #[.int .i64 t153, .slice Ao27 x155001_1.length co27]] rfl (by (try simp only [List.map_toArray, List.map_cons, List.map_nil]); first | done | rfl | (simp only [List.length_drop, List.length_take]; rfl)) ?_; (with_reducible refine (spec_FormatFact.calls k1 _ _ l0 t153 _ _ x155001_1 t158 _ ?side1 ?side2 ?side3 ?side4 A23.out).mono ?_); (case side1 => exact aC); (case side2 => exact HC0.out); (case side3 => repeat (first | exact (Kd.R_reads' HO_155001.out).2.2 | (with_reducible refine Kd.C_alloc ?_ _) | (with_reducible refine Kd.C_drewN ?_ _) | (with_reducible refine Kd.C_drew ?_))); (case side4 => exact (Kd.R_reads' HO_155001.out).2.1); rintro e w28 ⟨rfl, hb⟩; refine ⟨_, rfl, ?_⟩; have n0_ := aM (Kd.R_below (aR HO_155001) hb); have n1_ := aM (blk_below (g := gb152) (o := .cells #[.int .i64 0, .slice none 0 0] 52 (0, 0)) aK hb); have n2_ := aM (blk_below (g := gb154) (o := .cells #[.int .i64 t153, .slice Ao27 x155001_1.length co27] 52 (0, 0)) aK hb); have n3_ := aM (below_step aG hb); clear HO_155001; clear BK152; clear BK154; clear HB; have HO_155001 := n0_; have BK152 := n1_; have BK154 := n2_; have HB := n3_; clear n0_ n1_ n2_ n3_; (try clear hb); (try clear hb2); (try clear hk); (try clear hi); have hcz29_0 : w28.cell? ⟨gb154, 0, none⟩ = some (.int .i64 t153) := (blk_cell BK154.out 0).trans rfl; have hcz29_1 : w28.cell? ⟨gb154, 1, none⟩ = some (.slice Ao27 x155001_1.length co27) := (blk_cell BK154.out 1).trans rfl; have hfz29_0 := blk_frozen BK154.out 0; have hfz29_1 := blk_frozen BK154.out 1; have hcz30_0 : w28.cell? ⟨gb152, 0, none⟩ = some (.int .i64 0) := (blk_cell BK152.out 0).trans rfl; have hcz30_1 : w28.cell? ⟨gb152, 1, none⟩ = some (.slice none 0 0) := (blk_cell BK152.out 1).trans rfl; have hfz30_0 := blk_frozen BK152.out 0; have hfz30_1 := blk_frozen BK152.out 1))
        refine bodyPost_ret (results_ct rfl _ _ gb152 52 #[.int .i64 t153, .slice Ao27 x155001_1.length co27] (0, 0) _ rfl (by (with_reducible repeat (first | refine blk_drewN ?_ _ | refine blk_drew ?_ | refine blk_alloc ?_ _)); refine blk_put (cs := #[.int .i64 t153, .slice none 0 0]) ?_ 1 _ rfl; (with_reducible repeat (first | refine blk_drewN ?_ _ | refine blk_drew ?_ | refine blk_alloc ?_ _)); refine blk_put (cs := #[.int .i64 0, .slice none 0 0]) ?_ 0 _ rfl; (with_reducible repeat (first | refine blk_drewN ?_ _ | refine blk_drew ?_ | refine blk_alloc ?_ _)); exact BK152.out) Tryd.underlying52 rfl (by kernel_rfl)) rfl ?_
        exact ⟨_, by first | rfl | (simp [errW_none, errW_some] <;> rfl) | (simp [*, errW_none, errW_some] <;> rfl), by (with_reducible repeat (first | apply Kd.R_alloc | apply Kd.R_drewN | apply Kd.R_drew)); exact Kd.R_mono (Kd.R_far (p := ⟨gb152, 1, none⟩) (Kd.R_far (p := ⟨gb152, 0, none⟩) (Kd.R_types HO_155001.out BK152.out (by decide)) (fun _ hk => hk.2) (.int .i64 t153)) (fun _ hk => hk.2) (.slice Ao27 x155001_1.length co27)) (fun _ hk => trivial), by repeat (first | (with_reducible first | exact HB.out | apply below_alloc | apply pw_below_drewN | apply below_drew1 | refine below_set ?_ GE152.out | refine below_set ?_ GE154.out) | exact HB.out)⟩
       ·rw [if_neg c24] at H
        have c24b0 : (t158.toList == a1.toList) = false := beq_eq_false_iff_ne.mpr c24
        have c24b1 : (t158.toList != a1.toList) = true := bne_iff_ne.mpr c24
        simp only [Option.some.injEq, Prod.mk.injEq] at H
        obtain ⟨rfl, rfl, rfl⟩ := H
        have hnb31 := NB154_152.out
        have hnc31 := NB152_154.out
        have hcz32_0 : wr.cell? ⟨gb154, 0, none⟩ = some (.int .i64 t153) := (blk_cell BK154.out 0).trans rfl
        have hcz32_1 : wr.cell? ⟨gb154, 1, none⟩ = some (u155001) := (blk_cell BK154.out 1).trans rfl
        have hfz32_0 := blk_frozen BK154.out 0
        have hfz32_1 := blk_frozen BK154.out 1
        obtain ⟨Ao33, co33, eo33⟩ := Kd.R_slice HO_155001.out
        subst eo33
        go_wp2_with (first | ((with_reducible refine gate_callee (f := 30) rfl ?_); refine goesL_ (some 38) rfl rfl Tryd.func30 (by kernel_rfl) rfl #[.slice A0 l0.length c0, .agg #[.int .i64 t153, .slice Ao33 x155001_1.length co33]] rfl (by (try simp only [List.map_toArray, List.map_cons, List.map_nil]); first | done | rfl | (simp only [List.length_drop, List.length_take]; rfl)) ?_; (with_reducible refine (spec_FormatFact.calls k1 _ _ l0 t153 _ _ x155001_1 t158 _ ?side1 ?side2 ?side3 ?side4 A23.out).mono ?_); (case side1 => exact aC); (case side2 => exact HC0.out); (case side3 => repeat (first | exact (Kd.R_reads' HO_155001.out).2.2 | (with_reducible refine Kd.C_alloc ?_ _) | (with_reducible refine Kd.C_drewN ?_ _) | (with_reducible refine Kd.C_drew ?_))); (case side4 => exact (Kd.R_reads' HO_155001.out).2.1); rintro e w34 ⟨rfl, hb⟩; refine ⟨_, rfl, ?_⟩; have n0_ := aM (Kd.R_below (aR HO_155001) hb); have n1_ := aM (blk_below (g := gb152) (o := .cells #[.int .i64 0, .slice none 0 0] 52 (0, 0)) aK hb); have n2_ := aM (blk_below (g := gb154) (o := .cells #[.int .i64 t153, .slice Ao33 x155001_1.length co33] 52 (0, 0)) aK hb); have n3_ := aM (below_step aG hb); clear HO_155001; clear BK152; clear BK154; clear HB; have HO_155001 := n0_; have BK152 := n1_; have BK154 := n2_; have HB := n3_; clear n0_ n1_ n2_ n3_; (try clear hb); (try clear hb2); (try clear hk); (try clear hi); have hcz35_0 : w34.cell? ⟨gb152, 0, none⟩ = some (.int .i64 0) := (blk_cell BK152.out 0).trans rfl; have hcz35_1 : w34.cell? ⟨gb152, 1, none⟩ = some (.slice none 0 0) := (blk_cell BK152.out 1).trans rfl; have hfz35_0 := blk_frozen BK152.out 0; have hfz35_1 := blk_frozen BK152.out 1))
        refine bodyPost_ret (results_ct rfl _ _ gb152 52 #[.int .i64 0, .slice none 0 0] (0, 0) _ rfl (by (with_reducible repeat (first | refine blk_drewN ?_ _ | refine blk_drew ?_ | refine blk_alloc ?_ _)); refine blk_put (cs := #[.int .i64 0, .slice none 0 0]) ?_ 1 _ rfl; (with_reducible repeat (first | refine blk_drewN ?_ _ | refine blk_drew ?_ | refine blk_alloc ?_ _)); refine blk_put (cs := #[.int .i64 0, .slice none 0 0]) ?_ 0 _ rfl; (with_reducible repeat (first | refine blk_drewN ?_ _ | refine blk_drew ?_ | refine blk_alloc ?_ _)); exact BK152.out) Tryd.underlying52 rfl (by kernel_rfl)) rfl ?_
        exact ⟨_, by first | rfl | (simp [errW_none, errW_some] <;> rfl) | (simp [*, errW_none, errW_some] <;> rfl), by first | exact Kd.R_nil _ _ _ _ _ | exact Kd.N_nil _ _ _ _ _ | exact Kd.V_nil _ _ _ _ _ | exact Kd.Q_nil _ _ _ _ _ | exact Kd.S_nil _ _ _ _ _, by repeat (first | (with_reducible first | exact HB.out | apply below_alloc | apply pw_below_drewN | apply below_drew1 | refine below_set ?_ GE152.out | refine below_set ?_ GE154.out) | exact HB.out)⟩
   ·rw [if_neg c7] at H
    exact absurd H (by simp)
  ·rw [if_neg c6] at H
   exact absurd H (by simp)

-- NOT PRINTED: function 62 (impl_Relation)

/-! ### impl_RelationIndex: function 27 -/
section
open Base
def nameIs (nm : ByteArray) (x : S28) : Bool := x.f0.toList == nm.toList
set_option maxHeartbeats 8000000 in
theorem nameIs_calls (nm : ByteArray) (b : Nat) (x : S28) (w : World) (hb : w.cell? ⟨b, 0, none⟩ = some (.string nm)) :
  Calls Tryd.prog 63 #[.agg #[.string x.f0, .int .i64 x.f1, .int .i64 x.f2], .pointer (some ⟨b, 0, none⟩)] w fun e w' => e = .returned (.bool (nameIs nm x)) ∧ Below w.heap.size w w' := by
 have hlt := World.block_lt_of_cell? w _ hb
 have hb1 : ∀ o, (w.alloc o).cell? ⟨b, 0, none⟩ = some (.string nm) := fun o => (World.cell?_alloc_lt _ _ _ hlt).trans hb
 go_enter Tryd.func63, Tryd.ntmps63
 go_wp2
 go_ret
 exact ⟨rfl, (Below.refl _ _).alloc (Nat.le_refl _) _⟩
set_option maxHeartbeats 8000000 in
set_option maxRecDepth 100000 in
theorem nameIdx_calls (nm : ByteArray) (b : Nat) (A0 : Option Addr) (c0 : Nat) (l : List S28) (w : World) (hr : Kd.C k28 w A0 l.length l) (hb : w.cell? ⟨b, 0, none⟩ = some (.string nm)) :
  Calls Tryd.prog 62 #[.slice A0 l.length c0, .func (.func 63) #[] #[.pointer (some ⟨b, 0, none⟩)]] w fun e w' => e = .returned (.int .i64 (idxW (nameIs nm) l 0)) ∧ Below w.heap.size w w' := by
 have hl : l.length ≤ 9223372036854775807 := hr.2.1
 have hlt := World.block_lt_of_cell? w _ hb
 have HR := aM hr
 have HN := aM hb
 clear hr hb
 go_enter Tryd.func62, Tryd.ntmps62
 go_wp2
 go_loopg [5, 8] l.length (fun gg _ s8 wr => ∃ kk : Nat, kk ≤ l.length ∧ l.length - kk ≤ gg ∧ s8 = .int .i64 kk ∧ Aside0 (Below w.heap.size w wr) ∧ Aside0 (∀ j, j < kk → nameIs nm (l.getD j z28) = false))
 case atStart => exact ⟨0, Nat.zero_le _, by omega, rfl, ⟨Below.refl _ _⟩, ⟨fun j hj => absurd hj (Nat.not_lt_zero _)⟩⟩
 case round =>
  obtain ⟨kk, hkk, hg, rfl, BW, HA⟩ := hrel
  by_cases hltk : kk < l.length
  ·have hltz : (kk : Int) < (l.length : Int) := by omega
   obtain ⟨ad, e, h0, h1, h2⟩ := at_T28 (Kd.C_below HR.out BW.out) (kk : Int) (by omega) hltz
   rw [Int.toNat_natCast] at h0 h1 h2
   cases e
   have hcell : wr.cell? ⟨b, 0, none⟩ = some (.string nm) := pw_cell_below BW.out HN.out
   have hcall := nameIs_calls nm b (rd_T28 l (kk : Int)) wr hcell
   have HC := aM hcell
   clear hcell
   have hrd : rd_T28 l (kk : Int) = l.getD kk z28 := by unfold rd_T28; rw [Int.toNat_natCast]
   cases hq : nameIs nm (rd_T28 l (kk : Int)) with
   | true =>
    rw [hq] at hcall
    have HQ := aM hq
    have HRD := aM hrd
    clear hq hrd
    go_wp2_with (go_at_call 63; refine hcall.mono ?_; rintro e w' ⟨rfl, hb'⟩)
    go_ret
    refine ⟨?_, below_then BW.out BW.out.size hb'⟩
    rw [idxW_hit (nameIs nm) z28 l kk 0 hltk HA.out (by rw [← HRD.out]; exact HQ.out)]
    simp
   | false =>
    rw [hq] at hcall
    have HQ := aM hq
    have HRD := aM hrd
    clear hq hrd
    go_wp2_with (go_at_call 63; refine hcall.mono ?_; rintro e w' ⟨rfl, hb'⟩)
    go_roundg (l.length - (kk + 1))
    case measure => omega
    case rel =>
     refine ⟨kk + 1, by omega, by omega, by go_num, ⟨below_then BW.out BW.out.size hb'⟩, ⟨fun j hj => ?_⟩⟩
     by_cases e : j = kk
     ·subst e
      rw [← HRD.out]; exact HQ.out
     ·exact HA.out j (by omega)
  ·have hltz : ¬ (kk : Int) < (l.length : Int) := by omega
   have hd : decide (kk < l.length) = false := decide_eq_false hltk
   have HK := aM (show l.length ≤ kk by omega)
   clear hltk hltz
   go_wp2
   go_ret
   refine ⟨?_, BW.out⟩
   have HA := fun j (hj : j < l.length) => HA.out j (Nat.lt_of_lt_of_le hj HK.out)
   rw [idxW_miss (nameIs nm) z28 l 0 HA]
   rfl
def impl_RelationIndex.f (l0 : List S28) (a1 : ByteArray) : Option Int := some (idxW (nameIs a1) l0 0)
set_option maxHeartbeats 8000000 in
set_option maxRecDepth 100000 in
theorem impl_RelationIndex.calls (A0 : Option Addr) (c0 : Nat) (l0 : List S28) (a1 : ByteArray) (r : Int) (w : World) (hr0 : Kd.C k28 w A0 l0.length l0) (hc0 : l0.length ≤ c0) (h : impl_RelationIndex.f l0 a1 = some r) :
  Calls Tryd.prog 27 #[.slice A0 l0.length c0, .string a1] w fun e w' => e = .returned (.int .i64 r) ∧ Below w.heap.size w w' := by
 obtain rfl := Option.some.inj h
 have hb : (w.alloc (.cells #[.string a1] 9)).cell? ⟨w.heap.size, 0, none⟩ = some (.string a1) := (blk_cell (heap_alloc_new w _) 0).trans rfl
 have hcall := fun c => nameIdx_calls a1 w.heap.size A0 c l0 _ (Kd.C_below hr0 ((Below.refl _ _).alloc (Nat.le_refl _) (.cells #[.string a1] 9))) hb
 have HC := aM hcall
 clear hcall hb hr0 h
 go_enter Tryd.func27, Tryd.ntmps27
 go_wp2_with (go_at_call 62; refine (HC.out _).mono ?_; rintro e w' ⟨rfl, hb'⟩)
 go_ret
 exact ⟨rfl, below_then ((Below.refl _ _).alloc (Nat.le_refl _) _) (by simp) hb'⟩
end


/-! ### strconv_Itoa_52: function 52 -/
def strconv_Itoa_52.f (a0 : Int) : Option (ByteArray) := if -9223372036854775808 ≤ a0 then (if a0 ≤ 9223372036854775807 then (some (⟨(Lib.itoa a0).toArray⟩ : ByteArray)) else (none)) else (none)
theorem strconv_Itoa_52.calls (a0 : Int) (r : ByteArray) (w : World) (h : strconv_Itoa_52.f a0 = some r) (hp_ : Go.Proofs.YtdpaopfghggiaaaDoor.Shelf.Pow w) :
 Calls Tryd.prog 52 #[.int .i64 a0] w fun e w' => e = .returned (.string r) ∧ Below w.heap.size w w' := by
 unfold strconv_Itoa_52.f at h
 replace h := ie h; rcases h with ⟨c0, c0a, h⟩ | ⟨c0, c0a, h⟩
 replace h := ie h; rcases h with ⟨c1, c1a, h⟩ | ⟨c1, c1a, h⟩
 obtain rfl := si h
 exact Shelf.Itoa a0 c0.out c1.out w hp_
 exact absurd h (by simp)
 exact absurd h (by simp)


/-! ### impl_FormatInt: function 12 -/
def impl_FormatInt.f (a0 : Int) : Option (ByteArray) := (strconv_Itoa_52.f a0).bind fun t176 => (some t176)
set_option maxHeartbeats 8000000 in
set_option maxRecDepth 100000 in
theorem impl_FormatInt.calls (a0 : Int) (r : ByteArray) (w : World) (h : impl_FormatInt.f a0 = some r) (hp_ : Go.Proofs.YtdpaopfghggiaaaDoor.Shelf.Pow w) :
  Calls Tryd.prog 12 #[.int .i64 a0] w fun e w' => e = .returned (.string r) ∧ Below w.heap.size w w' := by
 unfold impl_FormatInt.f at h
 replace h := bs h; obtain ⟨t176, B0, h⟩ := h
 obtain rfl := si h
 rotate_left
 all_goals (go_enter Tryd.func12, Tryd.ntmps12; go_wp2_with (first | (go_at_call 52; refine (strconv_Itoa_52.calls _ ?_ _ ?h ?hp).mono ?_; (case h => exact zA); (case hp => exact hp_.on zB); rintro e w1 ⟨rfl, hb⟩; replace hb := aM hb; have HB : Below w.heap.size w w1 := zB)); go_ret; exact zE zB)

end Go.Proofs.YtdpaopfghggiaaaDoor.PFnExactParseFact
