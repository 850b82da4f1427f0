import Derived.Test.YtckpikfbhlhhjaaDoorPFnFactFormatx0
import Derived.Test.YtckpikfbhlhhjaaDoorPFnFactFormatx1
import Derived.Test.YtckpikfbhlhhjaaDoorPFnFactFormatx3
import Derived.Test.YtckpikfbhlhhjaaDoorPFnFactFormatx4
namespace Go.Proofs.YtckpikfbhlhhjaaDoor.PFnFactFormat
open Go.RowKit Go.Proofs.YtckpikfbhlhhjaaDoorW.PrintWords Go.Proofs.YtckpikfbhlhhjaaDoorW.PrintLast Go.Proofs.YtckpikfbhlhhjaaDoorW.PrintMore
attribute [local go_sem] max2_int min2_int max_two min_two max_three min_three max_four min_four
set_option linter.unusedVariables false
set_option linter.unusedSimpArgs false

/-! ### spec_AreValidRelations: function 63 -/

theorem inS (x a b : Int) : spec_l1In.f x a b = some (inB x a b) := by
 unfold spec_l1In.f inB
 by_cases h : a ≤ x
 ·rw [if_pos h]; simp [h]
 ·rw [if_neg h]; simp [h]
theorem vRelS (r : S68) : spec_IsValidRelation.f r.f0 r.f1 r.f2 = some (vRel r) := by
 rw [← vRelI r]
 unfold impl_IsValidRelation.f spec_IsValidRelation.f
 simp only [inS, inI]
def spec_AreValidRelations.f (l0 : List S68) : Option Bool := some (vRels l0)
set_option maxHeartbeats 4000000 in
set_option maxRecDepth 100000 in
theorem spec_AreValidRelations.calls (A0 : Option Addr) (c0 : Nat) (l0 : List S68) (r : Bool) (w : World) (hr0 : Kd.C k68 w A0 l0.length l0) (hc0 : l0.length ≤ c0) (h : spec_AreValidRelations.f l0 = some r) :
  Calls Tryd.prog 63 #[.slice A0 l0.length c0] w fun e w' => e = .returned (.bool r) ∧ Below w.heap.size w w' := by
 obtain rfl := Option.some.inj h
 have hl : l0.length ≤ 9223372036854775807 := hr0.2.1
 have HR := aM hr0
 clear hr0 h
 go_enter Tryd.func63, Tryd.ntmps63
 go_wp2
 go_loopg [3] l0.length (fun gg s3 wr => ∃ i : Nat, i ≤ l0.length ∧ l0.length - i ≤ gg ∧ s3 = .int .i64 i ∧ Aside0 (Below w.heap.size w wr) ∧ Aside0 (vRelsFrom l0 (l0.length - i) i = vRels l0))
 case atStart => exact ⟨0, Nat.zero_le _, by omega, rfl, ⟨Below.refl _ _⟩, ⟨rfl⟩⟩
 case round =>
  obtain ⟨i, hi, hg, rfl, BW, HA⟩ := hrel
  by_cases hlt : i < l0.length
  ·have hltz : (i : Int) < (l0.length : Int) := by omega
   have hi00 : (0 : Int) ≤ (i : Int) := by omega
   obtain ⟨ad, e, h0, h1, h2⟩ := at_T68 (Kd.C_below HR.out BW.out) (i : Int) (by omega) hltz
   rw [Int.toNat_natCast] at h0 h1 h2
   cases e
   have hrd : rd_T68 l0 (i : Int) = l0.getD i z68 := by unfold rd_T68; rw [Int.toNat_natCast]
   rw [hrd] at h0 h1 h2
   clear hrd
   have HX : Aside0 (vRelsFrom l0 (l0.length - i) i = (vRel (l0.getD i z68) && (decide (i = 0) || Op.bytesLess (l0.getD (i - 1) z68).f0.toList (l0.getD i z68).f0.toList) && vRelsFrom l0 (l0.length - (i + 1)) (i + 1))) := ⟨by
    rw [show l0.length - i = (l0.length - (i + 1)) + 1 by omega]; rfl⟩
   generalize l0.getD i z68 = x at h0 h1 h2 HX
   have HC : Aside0 (∀ (W : World) d os, Calls Tryd.prog 80 #[.agg #[.string x.f0, .int .i64 x.f1, .int .i64 x.f2]] (Go.Sort.grow (redrawn W d) os) fun e w'' => e = .returned (.bool (vRel x)) ∧ ∃ p : Regrown, w'' = Go.Sort.grow (redrawn W p.d) p.os) := ⟨fun W d os => Calls.regrown_of (spec_IsValidRelation.calls x.f0 x.f1 x.f2 (vRel x) _ (vRelS x))⟩
   have f0 := cell_regrown h0
   have f1 := cell_regrown h1
   have f2 := cell_regrown h2
   clear h0 h1 h2
   by_cases hi0 : i = 0 ∨ vRel x = false
   ·have hd0 : vRel x = true → decide (0 < i) = false := fun hx => by
     rcases hi0 with h | h
     ·simp [h]
     ·rw [hx] at h; cases h
    have hX : vRelsFrom l0 (l0.length - i) i = (vRel x && vRelsFrom l0 (l0.length - (i + 1)) (i + 1)) := by
     rw [HX.out]
     rcases hi0 with h | h
     ·simp [h]
     ·simp [h]
    have HX := aM hX
    clear hX hi0
    cases hv : vRel x with
    | false =>
     have HV := aM hv
     clear hv hd0
     go_wp2_with fail
     have hc := HC.out wr
     rw [HV.out] at hc
     have HC := aM hc
     clear hc
     refine wp_region_quiet_below (by kernel_rfl) (by kernel_rfl) ?_
     repeat (go_big_quiet_step (exact HC.out _ _))
     refine wpQuiet_nil ?_
     intro _ hw'
     obtain ⟨⟨dq, osq⟩, hw''⟩ := hw'
     subst hw''
     go_wp2
     go_ret
     exact ⟨by rw [← HA.out, HX.out, HV.out]; rfl, below_then BW.out BW.out.size (below_regrown _ _ _)⟩
    | true =>
     have hd0 := hd0 hv
     have HV := aM hv
     clear hv
     go_wp2_with fail
     have hc := HC.out wr
     rw [HV.out] at hc
     have HC := aM hc
     clear hc
     refine wp_region_quiet_below (by kernel_rfl) (by kernel_rfl) ?_
     repeat (go_big_quiet_step (exact HC.out _ _))
     refine wpQuiet_nil ?_
     intro _ hw'
     obtain ⟨⟨dq, osq⟩, hw''⟩ := hw'
     subst hw''
     go_wp2
     go_roundg (l0.length - (i + 1))
     case measure => omega
     case rel => exact ⟨i + 1, by omega, by omega, by go_num, ⟨below_then BW.out BW.out.size (below_regrown _ _ _)⟩, ⟨by rw [← HA.out, HX.out, HV.out]; rfl⟩⟩
   ·have hi1 : i ≠ 0 := fun h => hi0 (.inl h)
    have hv : vRel x = true := by
     cases h : vRel x with
     | true => rfl
     | false => exact absurd (.inr h) hi0
    clear hi0
    obtain ⟨ad', e', k0, _, _⟩ := at_T68 (Kd.C_below HR.out BW.out) ((i - 1 : Nat) : Int) (by omega) (by omega)
    cases e'
    rw [Int.toNat_natCast] at k0
    have hrd : rd_T68 l0 ((i - 1 : Nat) : Int) = l0.getD (i - 1) z68 := by unfold rd_T68; rw [Int.toNat_natCast]
    rw [hrd] at k0
    clear hrd
    have hX : vRelsFrom l0 (l0.length - i) i = (Op.bytesLess (l0.getD (i - 1) z68).f0.toList x.f0.toList && vRelsFrom l0 (l0.length - (i + 1)) (i + 1)) := by
     rw [HX.out, hv]; simp [hi1]
    have HX := aM hX
    have HV := aM hv
    clear hX hv
    generalize (l0.getD (i - 1) z68).f0 = y at k0 HX
    have f3 := cell_regrown k0
    clear k0
    have e3 : IntKind.i64.wrap ((i : Int) - 1) = ((i - 1 : Nat) : Int) := by rw [IntKind.wrap_i64]; omega
    have hd0 : decide (0 < i) = true := by simp; omega
    have hm0 : (0 : Int) ≤ ((i - 1 : Nat) : Int) := by omega
    have hm1 : ((i - 1 : Nat) : Int) < (l0.length : Int) := by omega
    go_wp2_with fail
    have hc := HC.out wr
    rw [HV.out] at hc
    have HC := aM hc
    clear hc
    cases hb : Op.bytesLess y.toList x.f0.toList with
    | false =>
     refine wp_region_quiet_below (by kernel_rfl) (by kernel_rfl) ?_
     repeat (go_big_quiet_step (exact HC.out _ _))
     refine wpQuiet_nil ?_
     intro _ hw'
     obtain ⟨⟨dq, osq⟩, hw''⟩ := hw'
     subst hw''
     have HB := aM hb
     clear hb
     go_wp2
     go_ret
     exact ⟨by rw [← HA.out, HX.out, HB.out]; rfl, below_then BW.out BW.out.size (below_regrown _ _ _)⟩
    | true =>
     refine wp_region_quiet_below (by kernel_rfl) (by kernel_rfl) ?_
     repeat (go_big_quiet_step (exact HC.out _ _))
     refine wpQuiet_nil ?_
     intro _ hw'
     obtain ⟨⟨dq, osq⟩, hw''⟩ := hw'
     subst hw''
     have HB := aM hb
     clear hb
     go_wp2
     go_roundg (l0.length - (i + 1))
     case measure => omega
     case rel => exact ⟨i + 1, by omega, by omega, by go_num, ⟨below_then BW.out BW.out.size (below_regrown _ _ _)⟩, ⟨by rw [← HA.out, HX.out, HB.out]; rfl⟩⟩
  ·have hd : decide (i < l0.length) = false := decide_eq_false hlt
   have hle : l0.length ≤ i := by omega
   have HX : Aside0 (vRels l0 = decide (l0.length ≤ 4)) := ⟨by rw [← HA.out, show l0.length - i = 0 by omega]; exact decide_eq_decide.2 (by omega)⟩
   clear hlt
   go_wp2
   go_ret
   exact ⟨by rw [HX.out]; first | rfl | (simp; done) | (simp; omega), BW.out⟩


/-! ### spec_IsValidFact: function 20 -/
mutual
def spec_IsValidFact.j0 : Nat → Bool → Int → List Int → Option (Bool)
 | 0, _, _, _ => none
 | k + 1, x29, x248000, x248001 => if x29 = true then (some false) else (spec_IsValidFact.l0 k 0 x248000 x248001)
def spec_IsValidFact.l0 : Nat → Int → Int → List Int → Option (Bool)
 | 0, _, _, _ => none
 | k + 1, x5, x248000, x248001 => if x5 < (x248001.length : Int) then (if 0 ≤ x5 then ((spec_l1In.f (rd x248001 x5) 0 9).bind fun t252 => (if t252 = true then (spec_IsValidFact.l0 k (wrap64 (x5 + 1)) x248000 x248001) else (some false))) else (none)) else (some true)
end
def spec_IsValidFact.f (k : Nat) (l0 : List (S68)) (a1_0 : Int) (l1_1 : List Int) : Option (Bool) := (spec_AreValidRelations.f l0).bind fun t248 => (if t248 = true then ((spec_l1In.f a1_0 0 (wrap64 ((l0.length : Int) - 1))).bind fun t249 => (if t249 = true then (if 0 ≤ a1_0 then (if a1_0 < (l0.length : Int) then (spec_IsValidFact.j0 k ((l1_1.length : Int) != ((rd_T68 l0 a1_0).f1)) a1_0 l1_1) else (none)) else (none)) else (spec_IsValidFact.j0 k true a1_0 l1_1))) else (spec_IsValidFact.j0 k true a1_0 l1_1))
set_option maxHeartbeats 8000000 in
set_option maxRecDepth 100000 in
theorem spec_IsValidFact.calls (k : Nat) (A0 : Option Addr) (c0 : Nat) (l0 : List (S68)) (a1_0 : Int) (A1_1 : Option Addr) (c1_1 : Nat) (l1_1 : List Int) (r : Bool) (w : World) (hr0 : Kd.C k68 w A0 l0.length l0) (hc0 : l0.length ≤ c0) (hr1_1 : Kd.C (Kd.int .i64) w A1_1 l1_1.length l1_1) (hc1_1 : l1_1.length ≤ c1_1) (h : spec_IsValidFact.f k l0 a1_0 l1_1 = some r) :
  Calls Tryd.prog 20 #[.slice A0 l0.length c0, .agg #[.int .i64 a1_0, .slice A1_1 l1_1.length c1_1]] w fun e w' => e = .returned (.bool r) ∧ Below w.heap.size w w' := by
 have hu39 := Tryd.underlying39
 obtain ⟨W, hW⟩ : ∃ W, w.alloc (.cells #[.int .i64 a1_0, .slice A1_1 l1_1.length c1_1] 39) = W := ⟨_, rfl⟩
 have q0 := qa (w := W) (p := ⟨w.heap.size, 0, none⟩) (v := .int .i64 a1_0) (by subst hW; go_simp)
 have q1 := qa (w := W) (p := ⟨w.heap.size, 1, none⟩) (v := .slice A1_1 l1_1.length c1_1) (by subst hW; go_simp)
 have HB : Below w.heap.size w W := by subst hW; exact zB
 have HW := Below.refl W.heap.size W
 have hb := aM HB
 have rg_ := @bcl w
 have rd_ := @bdr w
 have rG_ := @bcl W
 have rD_ := @bdr W
 unfold spec_IsValidFact.f at h
 replace h := bs h; obtain ⟨t248, B0, h⟩ := h
 replace h := ib h; rcases h with ⟨rfl, h⟩ | ⟨rfl, h⟩
 replace h := bs h; obtain ⟨t249, B2, h⟩ := h
 replace h := ib h; rcases h with ⟨rfl, h⟩ | ⟨rfl, h⟩
 replace h := ie h; rcases h with ⟨c4, c4a, h⟩ | ⟨c4, c4a, h⟩
 replace h := il h; rcases h with ⟨c5, c5a, h⟩ | ⟨c5, c5a, h⟩
 rcases k with _ | kj6
 exact absurd h (by simp [spec_IsValidFact.j0])
 simp only [spec_IsValidFact.j0] at h
 replace h := ib h; rcases h with ⟨c7, h⟩ | ⟨c7, h⟩
 obtain rfl := si h
 obtain ⟨ad250, e250, hx250_0, hx250_1, hx250_2⟩ := at_T68 hr0 (a1_0 : Int) aD aD
 have p250 := eq_true (aD : 0 ≤ (a1_0 : Int))
 have q250 := eq_true (aD : a1_0 < (l0.length : Int))
 cases e250
 replace hx250_0 := qa hx250_0
 replace hx250_1 := qa hx250_1
 replace hx250_2 := qa hx250_2
 rotate_left
 ·obtain ⟨ad250, e250, hx250_0, hx250_1, hx250_2⟩ := at_T68 hr0 (a1_0 : Int) aD aD
  have p250 := eq_true (aD : 0 ≤ (a1_0 : Int))
  have q250 := eq_true (aD : a1_0 < (l0.length : Int))
  cases e250
  replace hx250_0 := qa hx250_0
  replace hx250_1 := qa hx250_1
  replace hx250_2 := qa hx250_2
  go_enter Tryd.func20, Tryd.ntmps20
  go_wp2_with (first | (go_at_call 64; refine (spec_l1In.calls _ _ _ ?_ _ ?h).mono ?_; (case h => exact zA); rintro e w1 ⟨rfl, hb⟩; replace hb := hb.below; replace hb := aM hb; have HW : Below W.heap.size W w1 := zB; have HB : Below w.heap.size w w1 := zB))
  (repeat ((refine nw (w0 := w) zB ?_; intro W1 HB hb hd; have HW : Below W.heap.size W W1 := zB; (first | (refine Txt.rg (id := 1) [0, 1, 2, 3, 4, 5, 6, 7, 8, 9, 10, 11, 12, 13, 14, 15, 16, 17, 18, 19, 20, 21, 22, 23] (by kernel_rfl) (by kernel_rfl) ?_; simp only [List.map_cons, List.map_nil, List.getD_cons_zero, List.getD_cons_succ])); (repeat (first | (refine Txt.off rfl ?_; simp only [Act.put, List.setIfInBounds_toArray, List.set_cons_zero, List.set_cons_succ]) | (refine Txt.take rfl rfl ?_; intro K hK; go_big_quiet_op; go_big_quiet_on) | (refine Txt.call rfl rfl Tryd.func63 (by kernel_rfl) rfl (spec_AreValidRelations.calls _ _ _ ?_ _ ?_ ?_ ?h) rfl ?_; (case h => exact zA); (iterate 2 (first | exact zC | exact zA)); rintro e w1 ⟨rfl, hb⟩; replace hb := aM hb; have HW : Below W.heap.size W w1 := zB; have HB : Below w.heap.size w w1 := zB; refine ⟨_, rfl, zS, ?_⟩; simp only [Act.put, List.setIfInBounds_toArray, List.set_cons_zero, List.set_cons_succ]) | (refine Txt.call rfl rfl Tryd.func64 (by kernel_rfl) rfl (spec_l1In.calls _ _ _ ?_ _ ?h) rfl ?_; (case h => exact zA); rintro e w1 ⟨rfl, hb⟩; replace hb := hb.below; replace hb := aM hb; have HW : Below W.heap.size W w1 := zB; have HB : Below w.heap.size w w1 := zB; refine ⟨_, rfl, zS, ?_⟩; simp only [Act.put, List.setIfInBounds_toArray, List.set_cons_zero, List.set_cons_succ]))); refine Txt.nil ?_); (try go_wp2_with (first | (go_at_call 64; refine (spec_l1In.calls _ _ _ ?_ _ ?h).mono ?_; (case h => exact zA); rintro e w1 ⟨rfl, hb⟩; replace hb := hb.below; replace hb := aM hb; have HW : Below W.heap.size W w1 := zB; have HB : Below w.heap.size w w1 := zB)))))
  go_loopg [5] kj6 (fun kq v5 w' => ∃ (x5_8 : Int), v5 = .int .i64 x5_8 ∧ spec_IsValidFact.l0 kq x5_8 a1_0 l1_1 = some r ∧ Below W.heap.size W w')
  case atStart => exact ⟨_, zR, zA, zB⟩
  case round =>
   clear h
   obtain ⟨x5_8, rfl, h, hb⟩ := hrel
   replace hb := aM hb
   have HW : Below W.heap.size W wr := zB
   have HB : Below w.heap.size w wr := zB
   rcases gk with _ | kk8
   exact absurd h (by simp [spec_IsValidFact.l0])
   simp only [spec_IsValidFact.l0] at h
   replace h := il h; rcases h with ⟨c9, c9a, h⟩ | ⟨c9, c9a, h⟩
   replace h := ie h; rcases h with ⟨c10, c10a, h⟩ | ⟨c10, c10a, h⟩
   replace h := bs h; obtain ⟨t252, B11, h⟩ := h
   replace h := ib h; rcases h with ⟨rfl, h⟩ | ⟨rfl, h⟩
   obtain ⟨kf, hkf⟩ : ∃ kf, kf = kk8 := ⟨_, rfl⟩; rw [← hkf] at h
   obtain ⟨ad251, e251, hx251_0⟩ := Kd.at_int hr1_1 (x5_8 : Int) aD aD
   have p251 := eq_true (aD : 0 ≤ (x5_8 : Int))
   have q251 := eq_true (aD : x5_8 < (l1_1.length : Int))
   cases e251
   replace hx251_0 := qa hx251_0
   rotate_left
   obtain rfl := si h
   obtain ⟨ad251, e251, hx251_0⟩ := Kd.at_int hr1_1 (x5_8 : Int) aD aD
   have p251 := eq_true (aD : 0 ≤ (x5_8 : Int))
   have q251 := eq_true (aD : x5_8 < (l1_1.length : Int))
   cases e251
   replace hx251_0 := qa hx251_0
   rotate_left
   exact absurd h (by simp)
   obtain rfl := si h
   rotate_left
   all_goals (go_wp2_with (first | (go_at_call 64; refine (spec_l1In.calls _ _ _ ?_ _ ?h).mono ?_; (case h => exact zA); rintro e w1 ⟨rfl, hb⟩; replace hb := hb.below; replace hb := aM hb; have HW : Below W.heap.size W w1 := zB; have HB : Below w.heap.size w w1 := zB)); (repeat ((refine nw (w0 := w) zB ?_; intro W1 HB hb hd; have HW : Below W.heap.size W W1 := zB; (first | (refine Txt.rg (id := 1) [0, 1, 2, 3, 4, 5, 6, 7, 8, 9, 10, 11, 12, 13, 14, 15, 16, 17, 18, 19, 20, 21, 22, 23] (by kernel_rfl) (by kernel_rfl) ?_; simp only [List.map_cons, List.map_nil, List.getD_cons_zero, List.getD_cons_succ])); (repeat (first | (refine Txt.off rfl ?_; simp only [Act.put, List.setIfInBounds_toArray, List.set_cons_zero, List.set_cons_succ]) | (refine Txt.take rfl rfl ?_; intro K hK; go_big_quiet_op; go_big_quiet_on) | (refine Txt.call rfl rfl Tryd.func63 (by kernel_rfl) rfl (spec_AreValidRelations.calls _ _ _ ?_ _ ?_ ?_ ?h) rfl ?_; (case h => exact zA); (iterate 2 (first | exact zC | exact zA)); rintro e w1 ⟨rfl, hb⟩; replace hb := aM hb; have HW : Below W.heap.size W w1 := zB; have HB : Below w.heap.size w w1 := zB; refine ⟨_, rfl, zS, ?_⟩; simp only [Act.put, List.setIfInBounds_toArray, List.set_cons_zero, List.set_cons_succ]) | (refine Txt.call rfl rfl Tryd.func64 (by kernel_rfl) rfl (spec_l1In.calls _ _ _ ?_ _ ?h) rfl ?_; (case h => exact zA); rintro e w1 ⟨rfl, hb⟩; replace hb := hb.below; replace hb := aM hb; have HW : Below W.heap.size W w1 := zB; have HB : Below w.heap.size w w1 := zB; refine ⟨_, rfl, zS, ?_⟩; simp only [Act.put, List.setIfInBounds_toArray, List.set_cons_zero, List.set_cons_succ]))); refine Txt.nil ?_); (try go_wp2_with (first | (go_at_call 64; refine (spec_l1In.calls _ _ _ ?_ _ ?h).mono ?_; (case h => exact zA); rintro e w1 ⟨rfl, hb⟩; replace hb := hb.below; replace hb := aM hb; have HW : Below W.heap.size W w1 := zB; have HB : Below w.heap.size w w1 := zB))))); first | (go_ret; exact zE zB) | (go_roundg kf; (case measure => omega); (case rel => exact ⟨_, zR, zA, zB⟩)))
 exact absurd h (by simp)
 exact absurd h (by simp)
 rcases k with _ | kj13
 exact absurd h (by simp [spec_IsValidFact.j0])
 simp only [spec_IsValidFact.j0] at h
 (first | replace h := itt h | (try simp only [if_true, if_false] at h))
 obtain rfl := si h
 rotate_left
 rcases k with _ | kj14
 exact absurd h (by simp [spec_IsValidFact.j0])
 simp only [spec_IsValidFact.j0] at h
 (first | replace h := itt h | (try simp only [if_true, if_false] at h))
 obtain rfl := si h
 rotate_left
 all_goals (go_enter Tryd.func20, Tryd.ntmps20; go_wp2_with (first | (go_at_call 64; refine (spec_l1In.calls _ _ _ ?_ _ ?h).mono ?_; (case h => exact zA); rintro e w1 ⟨rfl, hb⟩; replace hb := hb.below; replace hb := aM hb; have HW : Below W.heap.size W w1 := zB; have HB : Below w.heap.size w w1 := zB)); (repeat ((refine nw (w0 := w) zB ?_; intro W1 HB hb hd; have HW : Below W.heap.size W W1 := zB; (first | (refine Txt.rg (id := 1) [0, 1, 2, 3, 4, 5, 6, 7, 8, 9, 10, 11, 12, 13, 14, 15, 16, 17, 18, 19, 20, 21, 22, 23] (by kernel_rfl) (by kernel_rfl) ?_; simp only [List.map_cons, List.map_nil, List.getD_cons_zero, List.getD_cons_succ])); (repeat (first | (refine Txt.off rfl ?_; simp only [Act.put, List.setIfInBounds_toArray, List.set_cons_zero, List.set_cons_succ]) | (refine Txt.take rfl rfl ?_; intro K hK; go_big_quiet_op; go_big_quiet_on) | (refine Txt.call rfl rfl Tryd.func63 (by kernel_rfl) rfl (spec_AreValidRelations.calls _ _ _ ?_ _ ?_ ?_ ?h) rfl ?_; (case h => exact zA); (iterate 2 (first | exact zC | exact zA)); rintro e w1 ⟨rfl, hb⟩; replace hb := aM hb; have HW : Below W.heap.size W w1 := zB; have HB : Below w.heap.size w w1 := zB; refine ⟨_, rfl, zS, ?_⟩; simp only [Act.put, List.setIfInBounds_toArray, List.set_cons_zero, List.set_cons_succ]) | (refine Txt.call rfl rfl Tryd.func64 (by kernel_rfl) rfl (spec_l1In.calls _ _ _ ?_ _ ?h) rfl ?_; (case h => exact zA); rintro e w1 ⟨rfl, hb⟩; replace hb := hb.below; replace hb := aM hb; have HW : Below W.heap.size W w1 := zB; have HB : Below w.heap.size w w1 := zB; refine ⟨_, rfl, zS, ?_⟩; simp only [Act.put, List.setIfInBounds_toArray, List.set_cons_zero, List.set_cons_succ]))); refine Txt.nil ?_); (try go_wp2_with (first | (go_at_call 64; refine (spec_l1In.calls _ _ _ ?_ _ ?h).mono ?_; (case h => exact zA); rintro e w1 ⟨rfl, hb⟩; replace hb := hb.below; replace hb := aM hb; have HW : Below W.heap.size W w1 := zB; have HB : Below w.heap.size w w1 := zB))))); go_ret; exact zE zB)

/-! ### spec_FormatInt: function 81 -/
def spec_FormatInt.l0 : Nat → Int → ByteArray → Bool → Option (ByteArray)
 | 0, _, _, _ => none
 | k + 1, x0, x3, x4 => if x0 = 0 then (if x4 = true then (if 1 + x3.size ≤ 9223372036854775807 then (some ((⟨#[45]⟩ : ByteArray) ++ x3)) else (none)) else (some x3)) else (if (Int.tmod x0 10) < 0 then ((some (([(wrap64 (48 + (wrap64 (-(Int.tmod x0 10))))) % 256] : List Int) : List Int)).bind fun y253 => (if (strOfNums y253).size + x3.size ≤ 9223372036854775807 then (spec_FormatInt.l0 k (wrap64 (Int.tdiv x0 10)) ((strOfNums y253) ++ x3) x4) else (none))) else ((some (([(wrap64 (48 + (Int.tmod x0 10))) % 256] : List Int) : List Int)).bind fun y256 => (if (strOfNums y256).size + x3.size ≤ 9223372036854775807 then (spec_FormatInt.l0 k (wrap64 (Int.tdiv x0 10)) ((strOfNums y256) ++ x3) x4) else (none))))
def spec_FormatInt.f (k : Nat) (a0 : Int) : Option (ByteArray) := if a0 = 0 then (some (⟨#[48]⟩ : ByteArray)) else (spec_FormatInt.l0 k a0 (⟨#[]⟩ : ByteArray) (decide (a0 < 0)))
set_option maxHeartbeats 8000000 in
set_option maxRecDepth 100000 in
theorem spec_FormatInt.calls (k : Nat) (a0 : Int) (r : ByteArray) (w : World) (h : spec_FormatInt.f k a0 = some r) :
  Calls Tryd.prog 81 #[.int .i64 a0] w fun e w' => e = .returned (.string r) ∧ Below w.heap.size w w' := by
 have HB := aM (Below.refl w.heap.size w)
 have H : (if a0 = 0 then (some (⟨#[48]⟩ : ByteArray)) else (spec_FormatInt.l0 k a0 (⟨#[]⟩ : ByteArray) (decide (a0 < 0)))) = some r := h
 clear h
 by_cases c2 : a0 = 0
 ·rw [if_pos c2] at H
  have c2b0 : (a0 == 0) = true := beq_iff_eq.mpr c2
  have c2b1 : (a0 != 0) = false := bne_eq_false_iff_eq.mpr c2
  clear c2
  obtain rfl := Option.some.inj H
  go_enter Tryd.func81, Tryd.ntmps81
  go_wp2
  go_ret
  exact ⟨aE, aB⟩
 ·rw [if_neg c2] at H
  have c2b0 : (a0 == 0) = false := beq_eq_false_iff_ne.mpr c2
  have c2b1 : (a0 != 0) = true := bne_iff_ne.mpr c2
  have H' := aM H
  clear H
  go_enter Tryd.func81, Tryd.ntmps81
  go_wp2
  go_loopg [0, 3] k (fun kq v0 v3 w' => ∃ (x0_1 : Int) (x3_1 : ByteArray), v0 = .int .i64 x0_1 ∧ v3 = .string x3_1 ∧ Aside0 (spec_FormatInt.l0 kq x0_1 x3_1 (decide (a0 < 0)) = some r) ∧ Aside0 (kq ≤ k) ∧ Aside0 (Below w.heap.size w w'))
  case atStart => exact ⟨(a0), ((⟨#[]⟩ : ByteArray)), aX, aX, H', ⟨Nat.le_refl _⟩, ⟨aB⟩⟩
  case round =>
   clear H'
   try clear c2
   try clear c2b0
   try clear c2b1
   try clear p2
   obtain ⟨x0_1, x3_1, rfl, rfl, HA, HK1, HB⟩ := hrel
   cases gk with
   | zero => exact absurd HA.out (by simp [spec_FormatInt.l0])
   | succ k1 =>
    have H := HA.out
    clear HA
    simp only [spec_FormatInt.l0] at H
    by_cases c3 : x0_1 = 0
    ·rw [if_pos c3] at H
     have c3b0 : (x0_1 == 0) = true := beq_iff_eq.mpr c3
     have c3b1 : (x0_1 != 0) = false := bne_eq_false_iff_eq.mpr c3
     clear c3
     by_cases c4 : (decide (a0 < 0)) = true
     ·rw [if_pos c4] at H
      have c4b0 : (decide (a0 < 0)) = true := c4
      clear c4
      by_cases c5 : 1 + x3_1.size ≤ 9223372036854775807
      ·rw [if_pos c5] at H
       have c5b0 := eq_true c5
       have c5b1 : decide (1 + x3_1.size ≤ 9223372036854775807) = true := decide_eq_true c5
       try have c5b2 : (9223372036854775807 < 1 + x3_1.size) = False := eq_false (Nat.not_lt.2 c5)
       obtain rfl := Option.some.inj H
       go_wp2
       all_goals first | (exfalso; have := of_decide_eq_true c4b0; omega) | (go_ret; exact ⟨aE, aB⟩)
      ·rw [if_neg c5] at H
       exact absurd H (by simp)
     ·rw [if_neg c4] at H
      have c4b0 : (decide (a0 < 0)) = false := by simpa using c4
      clear c4
      obtain rfl := Option.some.inj H
      go_wp2
      all_goals first | (exfalso; have := of_decide_eq_false c4b0; omega) | (go_ret; exact ⟨aE, aB⟩)
    ·rw [if_neg c3] at H
     have c3b0 : (x0_1 == 0) = false := beq_eq_false_iff_ne.mpr c3
     have c3b1 : (x0_1 != 0) = true := bne_iff_ne.mpr c3
     by_cases c6 : (Int.tmod x0_1 10) < 0
     ·rw [if_pos c6] at H
      have c6b0 : decide ((Int.tmod x0_1 10) < 0) = true := decide_eq_true c6
      clear c6
      obtain ⟨y253, hy253⟩ : ∃ y_ : List Int, y_ = (([(wrap64 (48 + (wrap64 (-(Int.tmod x0_1 10))))) % 256] : List Int)) := ⟨_, rfl⟩
      first | replace H := bY hy253 H | rw [← hy253] at H
      have Ny253 := aM hy253
      clear hy253
      by_cases c7 : (strOfNums y253).size + x3_1.size ≤ 9223372036854775807
      ·rw [if_pos c7] at H
       have c7b0 := eq_true c7
       have c7b1 : decide ((strOfNums y253).size + x3_1.size ≤ 9223372036854775807) = true := decide_eq_true c7
       try have c7b2 : (9223372036854775807 < (strOfNums y253).size + x3_1.size) = False := eq_false (Nat.not_lt.2 c7)
       have H' := aM H
       clear H
       go_wp2_with (first | ((with_reducible refine gate_dst (N := 21) rfl ?_); refine Kd.R_lit (Kd.int .u8) _ 5 ?hg (N := 21) ?hd (xs := ([(wrap64 (48 + (wrap64 (-(Int.tmod x0_1 10))))) % 256] : List Int)) (inner := [.int .u8 ((wrap64 (48 + (wrap64 (-(Int.tmod x0_1 10))))) % 256)]) (ok := fun _ => True) (okp := fun _ => True) ?hr ?hp (fun _ hk => hk) trivial (Below.refl _ _) (Nat.le_refl _) (by simp) ?_; (case hd => rfl); (case hg => rfl); (case hr => first | (go_simp; done) | (go_simp; rfl)); (case hp => exact (Reps.one (show Kd.M (Kd.int .u8) _ _ _ ((wrap64 (48 + (wrap64 (-(Int.tmod x0_1 10))))) % 256) [.int .u8 ((wrap64 (48 + (wrap64 (-(Int.tmod x0_1 10))))) % 256)] from rfl) (Reps.none _ _))); intro v254 w8 ho9 hb hg_ hnew_; clear hg_ hnew_; (first | rw [← Ny253.out] at ho9 | (simp only [Int.reduceToNat] at ho9; rw [← Ny253.out] at ho9)); have HO255 := aM (Kd.R_lower ho9 (below_size aB)); replace HB := aM (below_step aB hb); clear hb ho9; have hcv10 := own_string (P := Tryd.prog) Tryd.underlying35 Tryd.underlying5 Tryd.underlying9 (Kd.own_of_R HO255.out)))
       go_roundg k1
       case measure => have := HK1.out; omega
       case rel => exact ⟨(wrap64 (Int.tdiv x0_1 10)), ((strOfNums y253) ++ x3_1), aX, aX, H', ⟨by have := HK1.out; omega⟩, ⟨aB⟩⟩
      ·rw [if_neg c7] at H
       exact absurd H (by simp)
     ·rw [if_neg c6] at H
      have c6b0 : decide ((Int.tmod x0_1 10) < 0) = false := decide_eq_false c6
      clear c6
      obtain ⟨y256, hy256⟩ : ∃ y_ : List Int, y_ = (([(wrap64 (48 + (Int.tmod x0_1 10))) % 256] : List Int)) := ⟨_, rfl⟩
      first | replace H := bY hy256 H | rw [← hy256] at H
      have Ny256 := aM hy256
      clear hy256
      by_cases c11 : (strOfNums y256).size + x3_1.size ≤ 9223372036854775807
      ·rw [if_pos c11] at H
       have c11b0 := eq_true c11
       have c11b1 : decide ((strOfNums y256).size + x3_1.size ≤ 9223372036854775807) = true := decide_eq_true c11
       try have c11b2 : (9223372036854775807 < (strOfNums y256).size + x3_1.size) = False := eq_false (Nat.not_lt.2 c11)
       have H' := aM H
       clear H
       go_wp2_with (first | ((with_reducible refine gate_dst (N := 21) rfl ?_); refine Kd.R_lit (Kd.int .u8) _ 5 ?hg (N := 21) ?hd (xs := ([(wrap64 (48 + (Int.tmod x0_1 10))) % 256] : List Int)) (inner := [.int .u8 ((wrap64 (48 + (Int.tmod x0_1 10))) % 256)]) (ok := fun _ => True) (okp := fun _ => True) ?hr ?hp (fun _ hk => hk) trivial (Below.refl _ _) (Nat.le_refl _) (by simp) ?_; (case hd => rfl); (case hg => rfl); (case hr => first | (go_simp; done) | (go_simp; rfl)); (case hp => exact (Reps.one (show Kd.M (Kd.int .u8) _ _ _ ((wrap64 (48 + (Int.tmod x0_1 10))) % 256) [.int .u8 ((wrap64 (48 + (Int.tmod x0_1 10))) % 256)] from rfl) (Reps.none _ _))); intro v257 w12 ho13 hb hg_ hnew_; clear hg_ hnew_; (first | rw [← Ny256.out] at ho13 | (simp only [Int.reduceToNat] at ho13; rw [← Ny256.out] at ho13)); have HO258 := aM (Kd.R_lower ho13 (below_size aB)); replace HB := aM (below_step aB hb); clear hb ho13; have hcv14 := own_string (P := Tryd.prog) Tryd.underlying35 Tryd.underlying5 Tryd.underlying9 (Kd.own_of_R HO258.out)))
       go_roundg k1
       case measure => have := HK1.out; omega
       case rel => exact ⟨(wrap64 (Int.tdiv x0_1 10)), ((strOfNums y256) ++ x3_1), aX, aX, H', ⟨by have := HK1.out; omega⟩, ⟨aB⟩⟩
      ·rw [if_neg c11] at H
       exact absurd H (by simp)

/-! ### spec_FormatFact: function 55 -/
def spec_FormatFact.l0 : Nat → List (S68) → ByteArray → Int → Int → List Int → Option (ByteArray)
 | 0, _, _, _, _, _ => none
 | k + 1, x0, x5, x6, x260000, x260001 => if x6 < (x260001.length : Int) then (if 0 ≤ x260000 then (if x260000 < (x0.length : Int) then (if x6 = ((rd_T68 x0 x260000).f2) then (if x5.size + 1 ≤ 9223372036854775807 then (if 0 ≤ x6 then ((spec_FormatInt.f k (rd x260001 x6)).bind fun t264 => (if (x5 ++ (⟨#[124]⟩ : ByteArray)).size + t264.size ≤ 9223372036854775807 then (spec_FormatFact.l0 k x0 ((x5 ++ (⟨#[124]⟩ : ByteArray)) ++ t264) (wrap64 (x6 + 1)) x260000 x260001) else (none))) else (none)) else (none)) else (if 0 ≤ x6 then ((spec_FormatInt.f k (rd x260001 x6)).bind fun t266 => (if x5.size + t266.size ≤ 9223372036854775807 then (spec_FormatFact.l0 k x0 (x5 ++ t266) (wrap64 (x6 + 1)) x260000 x260001) else (none))) else (none))) else (none)) else (none)) else (some x5)
def spec_FormatFact.f (k : Nat) (l0 : List (S68)) (a1_0 : Int) (l1_1 : List Int) : Option (ByteArray) := (spec_IsValidFact.f k l0 a1_0 l1_1).bind fun t260 => (if t260 = true then (if 0 ≤ a1_0 then (if a1_0 < (l0.length : Int) then (spec_FormatFact.l0 k l0 ((rd_T68 l0 a1_0).f0) 0 a1_0 l1_1) else (none)) else (none)) else (some (⟨#[]⟩ : ByteArray)))
set_option maxHeartbeats 8000000 in
set_option maxRecDepth 100000 in
theorem spec_FormatFact.calls (k : Nat) (A0 : Option Addr) (c0 : Nat) (l0 : List (S68)) (a1_0 : Int) (A1_1 : Option Addr) (c1_1 : Nat) (l1_1 : List Int) (r : ByteArray) (w : World) (hr0 : Kd.C k68 w A0 l0.length l0) (hc0 : l0.length ≤ c0) (hr1_1 : Kd.C (Kd.int .i64) w A1_1 l1_1.length l1_1) (hc1_1 : l1_1.length ≤ c1_1) (h : spec_FormatFact.f k l0 a1_0 l1_1 = some r) :
  Calls Tryd.prog 55 #[.slice A0 l0.length c0, .agg #[.int .i64 a1_0, .slice A1_1 l1_1.length c1_1]] w fun e w' => e = .returned (.string r) ∧ Below w.heap.size w w' := by
 have hu39 := Tryd.underlying39
 obtain ⟨W, hW⟩ : ∃ W, w.alloc (.cells #[.int .i64 a1_0, .slice A1_1 l1_1.length c1_1] 39) = W := ⟨_, rfl⟩
 have q0 := qa (w := W) (p := ⟨w.heap.size, 0, none⟩) (v := .int .i64 a1_0) (by subst hW; go_simp)
 have q1 := qa (w := W) (p := ⟨w.heap.size, 1, none⟩) (v := .slice A1_1 l1_1.length c1_1) (by subst hW; go_simp)
 have HB : Below w.heap.size w W := by subst hW; exact zB
 have HW := Below.refl W.heap.size W
 have hb := aM HB
 unfold spec_FormatFact.f at h
 replace h := bs h; obtain ⟨t260, B0, h⟩ := h
 replace h := ib h; rcases h with ⟨rfl, h⟩ | ⟨rfl, h⟩
 replace h := ie h; rcases h with ⟨c2, c2a, h⟩ | ⟨c2, c2a, h⟩
 replace h := il h; rcases h with ⟨c3, c3a, h⟩ | ⟨c3, c3a, h⟩
 ·obtain ⟨ad261, e261, hx261_0, hx261_1, hx261_2⟩ := at_T68 hr0 (a1_0 : Int) aD aD
  have p261 := eq_true (aD : 0 ≤ (a1_0 : Int))
  have q261 := eq_true (aD : a1_0 < (l0.length : Int))
  cases e261
  replace hx261_0 := qa hx261_0
  replace hx261_1 := qa hx261_1
  replace hx261_2 := qa hx261_2
  go_enter Tryd.func55, Tryd.ntmps55
  go_wp2_with (first | (go_at_call 20; refine (spec_IsValidFact.calls ?_ _ _ _ _ _ _ _ ?_ _ ?_ ?_ ?_ ?_ ?h).mono ?_; (case h => exact zA); (iterate 4 (first | exact zC | exact zA)); rintro e w1 ⟨rfl, hb⟩; replace hb := aM hb; have HW : Below W.heap.size W w1 := zB; have HB : Below w.heap.size w w1 := zB) | (go_at_call 81; refine (spec_FormatInt.calls ?_ _ ?_ _ ?h).mono ?_; (case h => exact zA); rintro e w1 ⟨rfl, hb⟩; replace hb := aM hb; have HW : Below W.heap.size W w1 := zB; have HB : Below w.heap.size w w1 := zB))
  go_loopg [5, 6] k (fun kq v5 v6 w' => ∃ (x5_4 : ByteArray) (x6_4 : Int), v5 = .string x5_4 ∧ v6 = .int .i64 x6_4 ∧ spec_FormatFact.l0 kq l0 x5_4 x6_4 a1_0 l1_1 = some r ∧ Below W.heap.size W w')
  case atStart => exact ⟨_, _, zR, zR, zA, zB⟩
  case round =>
   clear h
   obtain ⟨x5_4, x6_4, rfl, rfl, h, hb⟩ := hrel
   replace hb := aM hb
   have HW : Below W.heap.size W wr := zB
   have HB : Below w.heap.size w wr := zB
   rcases gk with _ | kk4
   exact absurd h (by simp [spec_FormatFact.l0])
   simp only [spec_FormatFact.l0] at h
   replace h := il h; rcases h with ⟨c5, c5a, h⟩ | ⟨c5, c5a, h⟩
   replace h := ie h; rcases h with ⟨c6, c6a, h⟩ | ⟨c6, c6a, h⟩
   replace h := il h; rcases h with ⟨c7, c7a, h⟩ | ⟨c7, c7a, h⟩
   replace h := iq h; rcases h with ⟨c8, ⟨c8a, c8b⟩, h⟩ | ⟨c8, ⟨c8a, c8b⟩, h⟩
   replace h := ieN h; rcases h with ⟨c9, c9a, h⟩ | ⟨c9, c9a, h⟩
   have c9x0 : decide (x5_4.size + 1 ≤ 9223372036854775807) = true := decide_eq_true (of_eq_true c9a)
   have c9x1 : (9223372036854775807 < x5_4.size + 1) = False := eq_false (Nat.not_lt.2 (of_eq_true c9a))
   replace h := ie h; rcases h with ⟨c10, c10a, h⟩ | ⟨c10, c10a, h⟩
   replace h := bs h; obtain ⟨t264, B11, h⟩ := h
   replace h := ieN h; rcases h with ⟨c12, c12a, h⟩ | ⟨c12, c12a, h⟩
   have c12x0 : decide ((x5_4 ++ (⟨#[124]⟩ : ByteArray)).size + t264.size ≤ 9223372036854775807) = true := decide_eq_true (of_eq_true c12a)
   have c12x1 : (9223372036854775807 < (x5_4 ++ (⟨#[124]⟩ : ByteArray)).size + t264.size) = False := eq_false (Nat.not_lt.2 (of_eq_true c12a))
   have c12y := c12a; simp only [ByteArray.size_append, (show (⟨#[124]⟩ : ByteArray).size = 1 from rfl)] at c12y; have c12y0 := decide_eq_true (of_eq_true c12y); have c12y1 := eq_false (Nat.not_lt.2 (of_eq_true c12y))
   obtain ⟨kf, hkf⟩ : ∃ kf, kf = kk4 := ⟨_, rfl⟩; rw [← hkf] at h
   obtain ⟨ad262, e262, hx262_0, hx262_1, hx262_2⟩ := at_T68 hr0 (a1_0 : Int) aD aD
   have p262 := eq_true (aD : 0 ≤ (a1_0 : Int))
   have q262 := eq_true (aD : a1_0 < (l0.length : Int))
   cases e262
   replace hx262_0 := qa hx262_0
   replace hx262_1 := qa hx262_1
   replace hx262_2 := qa hx262_2
   obtain ⟨ad263, e263, hx263_0⟩ := Kd.at_int hr1_1 (x6_4 : Int) aD aD
   have p263 := eq_true (aD : 0 ≤ (x6_4 : Int))
   have q263 := eq_true (aD : x6_4 < (l1_1.length : Int))
   cases e263
   replace hx263_0 := qa hx263_0
   rotate_left
   exact absurd h (by simp)
   exact absurd h (by simp)
   exact absurd h (by simp)
   replace h := ie h; rcases h with ⟨c13, c13a, h⟩ | ⟨c13, c13a, h⟩
   replace h := bs h; obtain ⟨t266, B14, h⟩ := h
   replace h := ieN h; rcases h with ⟨c15, c15a, h⟩ | ⟨c15, c15a, h⟩
   have c15x0 : decide (x5_4.size + t266.size ≤ 9223372036854775807) = true := decide_eq_true (of_eq_true c15a)
   have c15x1 : (9223372036854775807 < x5_4.size + t266.size) = False := eq_false (Nat.not_lt.2 (of_eq_true c15a))
   obtain ⟨kf, hkf⟩ : ∃ kf, kf = kk4 := ⟨_, rfl⟩; rw [← hkf] at h
   obtain ⟨ad262, e262, hx262_0, hx262_1, hx262_2⟩ := at_T68 hr0 (a1_0 : Int) aD aD
   have p262 := eq_true (aD : 0 ≤ (a1_0 : Int))
   have q262 := eq_true (aD : a1_0 < (l0.length : Int))
   cases e262
   replace hx262_0 := qa hx262_0
   replace hx262_1 := qa hx262_1
   replace hx262_2 := qa hx262_2
   obtain ⟨ad265, e265, hx265_0⟩ := Kd.at_int hr1_1 (x6_4 : Int) aD aD
   have p265 := eq_true (aD : 0 ≤ (x6_4 : Int))
   have q265 := eq_true (aD : x6_4 < (l1_1.length : Int))
   cases e265
   replace hx265_0 := qa hx265_0
   rotate_left
   exact absurd h (by simp)
   exact absurd h (by simp)
   exact absurd h (by simp)
   exact absurd h (by simp)
   obtain rfl := si h
   rotate_left
   all_goals (go_wp2_with (first | (go_at_call 20; refine (spec_IsValidFact.calls ?_ _ _ _ _ _ _ _ ?_ _ ?_ ?_ ?_ ?_ ?h).mono ?_; (case h => exact zA); (iterate 4 (first | exact zC | exact zA)); rintro e w1 ⟨rfl, hb⟩; replace hb := aM hb; have HW : Below W.heap.size W w1 := zB; have HB : Below w.heap.size w w1 := zB) | (go_at_call 81; refine (spec_FormatInt.calls ?_ _ ?_ _ ?h).mono ?_; (case h => exact zA); rintro e w1 ⟨rfl, hb⟩; replace hb := aM hb; have HW : Below W.heap.size W w1 := zB; have HB : Below w.heap.size w w1 := zB)); first | (go_ret; exact zE zB) | (go_roundg kf; (case measure => omega); (case rel => exact ⟨_, _, zR, zR, zA, zB⟩)))
 exact absurd h (by simp)
 exact absurd h (by simp)
 obtain rfl := si h
 rotate_left
 all_goals (go_enter Tryd.func55, Tryd.ntmps55; go_wp2_with (first | (go_at_call 20; refine (spec_IsValidFact.calls ?_ _ _ _ _ _ _ _ ?_ _ ?_ ?_ ?_ ?_ ?h).mono ?_; (case h => exact zA); (iterate 4 (first | exact zC | exact zA)); rintro e w1 ⟨rfl, hb⟩; replace hb := aM hb; have HW : Below W.heap.size W w1 := zB; have HB : Below w.heap.size w w1 := zB) | (go_at_call 81; refine (spec_FormatInt.calls ?_ _ ?_ _ ?h).mono ?_; (case h => exact zA); rintro e w1 ⟨rfl, hb⟩; replace hb := aM hb; have HW : Below W.heap.size W w1 := zB; have HB : Below w.heap.size w w1 := zB)); go_ret; exact zE zB)

/-! ### spec_l1Once: function 57 -/
def spec_l1Once.f (s0_0 : List Int) (s0_1 : Int) (s0_2 : Int) (a1 : Int) : Option (Bool × Int × Int) := (spec_l1Below.f s0_0 s0_1 s0_2 a1).bind fun bt267 => (some ((bt267.1 == 0), bt267.2.1, bt267.2.2))
set_option maxHeartbeats 8000000 in
set_option maxRecDepth 100000 in
theorem spec_l1Once.calls (g : Nat) (s0_0 : List Int) (s0_1 : Int) (s0_2 : Int) (a1 : Int) (r1 : Bool) (r2 : Int) (r3 : Int) (w0 w : World) (hI : IsS117 w0 w g s0_0 s0_1 s0_2) (hB : Below w0.heap.size w0 w) (h : spec_l1Once.f s0_0 s0_1 s0_2 a1 = some (r1, r2, r3)) :
  Calls Tryd.prog 57 #[.pointer (some ⟨g, 0, none⟩), .int .i64 a1] w fun e w' => e = .returned (.bool r1) ∧ IsS117 w0 w' g s0_0 r2 r3 ∧ Below w0.heap.size w0 w' ∧ KeepBut w w' g none := by
 have HI0 := aM hI
 have HK := aM (KeepBut.refl w g none)
 have HL := aM hB.size
 clear hI
 have HW0 := aM hB.size
 have HB := aM hB
 clear hB
 have H : ((spec_l1Below.f s0_0 s0_1 s0_2 a1).bind fun bt267 => (some ((bt267.1 == 0), bt267.2.1, bt267.2.2))) = some (r1, r2, r3) := h
 clear h
 replace H := bM H
 obtain ⟨⟨t267, t268, t269⟩, A30, H⟩ := H
 dsimp only at H
 have A3 := aM A30
 clear A30
 simp only [Option.some.injEq, Prod.mk.injEq] at H
 obtain ⟨rfl, rfl, rfl⟩ := H
 go_enter Tryd.func57, Tryd.ntmps57
 go_wp2_with (first | ((with_reducible refine gate_callee (f := 62) rfl ?_); refine goesL_ (some 7) rfl rfl Tryd.func62 (by kernel_rfl) rfl #[.pointer (some ⟨g, 0, none⟩), .int .i64 a1] rfl aA ?_; (with_reducible refine (spec_l1Below.calls g s0_0 s0_1 s0_2 a1 t267 t268 t269 w0 _ ?side1 ?side2 A3.out).mono ?_); (case side1 => exact aZ); (case side2 => exact aY); rintro e w4 ⟨rfl, hi, hb, hk⟩; refine ⟨_, rfl, ?_⟩; replace HK := aM (KeepBut.trans aQ hk (.inl rfl)); replace HB := aM (hb); replace HI0 := aM (hi); (try clear hb); (try clear hb2); (try clear hk); (try clear hi)))
 go_ret
 exact ⟨aE, aZ, aY, aQ⟩

/-! ### spec_l1Pick: function 58 -/
def spec_l1Pick.f (s0_0 : List Int) (s0_1 : Int) (s0_2 : Int) (l1 : List ByteArray) : Option (ByteArray × Int × Int) := (spec_l1Below.f s0_0 s0_1 s0_2 (l1.length : Int)).bind fun bt270 => (if 0 ≤ bt270.1 then (if bt270.1 < (l1.length : Int) then (some (rdOf ByteArray.empty l1 bt270.1, bt270.2.1, bt270.2.2)) else (none)) else (none))
set_option maxHeartbeats 8000000 in
set_option maxRecDepth 100000 in
theorem spec_l1Pick.calls (g : Nat) (s0_0 : List Int) (s0_1 : Int) (s0_2 : Int) (A1 : Option Addr) (c1 : Nat) (l1 : List ByteArray) (r1 : ByteArray) (r2 : Int) (r3 : Int) (w0 w : World) (hI : IsS117 w0 w g s0_0 s0_1 s0_2) (hB : Below w0.heap.size w0 w) (hr1 : Kd.C Kd.string w A1 l1.length l1) (hc1 : l1.length ≤ c1) (hf1 : ∀ ad, A1 = some ad → 0 < l1.length → ad.block ≠ g) (h : spec_l1Pick.f s0_0 s0_1 s0_2 l1 = some (r1, r2, r3)) :
  Calls Tryd.prog 58 #[.pointer (some ⟨g, 0, none⟩), .slice A1 l1.length c1] w fun e w' => e = .returned (.string r1) ∧ IsS117 w0 w' g s0_0 r2 r3 ∧ Below w0.heap.size w0 w' ∧ KeepBut w w' g none := by
 have HR1 := aM hr1
 have HC1 := aM hc1
 clear hr1 hc1
 have HI0 := aM hI
 have HK := aM (KeepBut.refl w g none)
 have HL := aM hB.size
 clear hI
 have HW0 := aM hB.size
 have HB := aM hB
 clear hB
 have H : ((spec_l1Below.f s0_0 s0_1 s0_2 (l1.length : Int)).bind fun bt270 => (if 0 ≤ bt270.1 then (if bt270.1 < (l1.length : Int) then (some (rdOf ByteArray.empty l1 bt270.1, bt270.2.1, bt270.2.2)) else (none)) else (none))) = some (r1, r2, r3) := h
 clear h
 replace H := bM H
 obtain ⟨⟨t270, t271, t272⟩, A30, H⟩ := H
 dsimp only at H
 have A3 := aM A30
 clear A30
 by_cases c4 : 0 ≤ t270
 ·rw [if_pos c4] at H
  have c4b0 : decide (0 ≤ t270) = true := decide_eq_true c4
  clear c4
  by_cases c5 : t270 < (l1.length : Int)
  ·rw [if_pos c5] at H
   have c5b0 : decide (t270 < (l1.length : Int)) = true := decide_eq_true c5
   clear c5
   simp only [Option.some.injEq, Prod.mk.injEq] at H
   obtain ⟨rfl, rfl, rfl⟩ := H
   go_enter Tryd.func58, Tryd.ntmps58
   go_wp2_with (first | ((with_reducible refine gate_callee (f := 62) rfl ?_); refine goesL_ (some 9) rfl rfl Tryd.func62 (by kernel_rfl) rfl #[.pointer (some ⟨g, 0, none⟩), .int .i64 (l1.length : Int)] rfl aA ?_; (with_reducible refine (spec_l1Below.calls g s0_0 s0_1 s0_2 (l1.length : Int) t270 t271 t272 w0 _ ?side1 ?side2 A3.out).mono ?_); (case side1 => exact aZ); (case side2 => exact aY); rintro e w6 ⟨rfl, hi, hb, hk⟩; refine ⟨_, rfl, ?_⟩; replace HK := aM (KeepBut.trans aQ hk (.inl rfl)); replace HB := aM (hb); replace HI0 := aM (hi); (try clear hb); (try clear hb2); (try clear hk); (try clear hi); have p273 : 0 ≤ (t270 : Int) := aD; have q273 : t270 < (l1.length : Int) := aD; obtain ⟨ad273, e273, hx273_0⟩ := Kd.at_string HR1.out t270 p273 q273; cases e273; replace hx273_0 := keep_cell HK.out hx273_0 (by first | (rw [add_block]; exact hf1 _ rfl (by omega)) | exact hf1 _ rfl (by omega) | exact hf1 ad273 rfl (by omega)); replace p273 := eq_true p273; replace q273 := eq_true q273))
   go_ret
   exact ⟨aE, aZ, aY, aQ⟩
  ·rw [if_neg c5] at H
   exact absurd H (by simp)
 ·rw [if_neg c4] at H
  exact absurd H (by simp)

/-! ### spec_l1Text: function 94 -/
def spec_l1Text.l0 : Nat → List Int → Int → Int → List Int → Int → Int → Option (ByteArray × Int × Int)
 | 0, _, _, _, _, _, _ => none
 | k + 1, x5, x6, x7, x1000, x1001, x1002 => if x7 > 0 then ((spec_l1Byte.f x1000 x1001 x1002).bind fun bt283 => (if x6 = 1 then (if x6 = 2 then (if x5.length < 140737488355328 then (spec_l1Text.l0 k (x5 ++ [(wrap64 (97 + (Int.tmod (Int.tmod bt283.1 2) 4))) % 256]) x6 (wrap64 (x7 - 1)) x1000 bt283.2.1 bt283.2.2) else (none)) else (if x5.length < 140737488355328 then (spec_l1Text.l0 k (x5 ++ [(Int.tmod bt283.1 2) % 256]) x6 (wrap64 (x7 - 1)) x1000 bt283.2.1 bt283.2.2) else (none))) else (if x6 = 2 then (if x5.length < 140737488355328 then (spec_l1Text.l0 k (x5 ++ [(wrap64 (97 + (Int.tmod bt283.1 4))) % 256]) x6 (wrap64 (x7 - 1)) x1000 bt283.2.1 bt283.2.2) else (none)) else (if x5.length < 140737488355328 then (spec_l1Text.l0 k (x5 ++ [(bt283.1) % 256]) x6 (wrap64 (x7 - 1)) x1000 bt283.2.1 bt283.2.2) else (none))))) else (some (strOfNums x5, x1001, x1002))
def spec_l1Text.f (k : Nat) (s0_0 : List Int) (s0_1 : Int) (s0_2 : Int) (a1 : Int) : Option (ByteArray × Int × Int) := (spec_l1Below.f s0_0 s0_1 s0_2 4).bind fun bt277 => ((spec_l1Below.f s0_0 bt277.2.1 bt277.2.2 (wrap64 (a1 + 1))).bind fun bt280 => (spec_l1Text.l0 k (([] : List Int)) bt277.1 bt280.1 s0_0 bt280.2.1 bt280.2.2))
set_option maxHeartbeats 8000000 in
set_option maxRecDepth 100000 in
theorem spec_l1Text.calls (k : Nat) (g : Nat) (s0_0 : List Int) (s0_1 : Int) (s0_2 : Int) (a1 : Int) (r1 : ByteArray) (r2 : Int) (r3 : Int) (w0 w : World) (hI : IsS117 w0 w g s0_0 s0_1 s0_2) (hB : Below w0.heap.size w0 w) (h : spec_l1Text.f k s0_0 s0_1 s0_2 a1 = some (r1, r2, r3)) :
  Calls Tryd.prog 94 #[.pointer (some ⟨g, 0, none⟩), .int .i64 a1] w fun e w' => e = .returned (.string r1) ∧ IsS117 w0 w' g s0_0 r2 r3 ∧ Below w0.heap.size w0 w' ∧ KeepBut w w' g none := by
 have HI0 := aM hI
 have HK := aM (KeepBut.refl w g none)
 have HL := aM hB.size
 clear hI
 have HW0 := aM hB.size
 have HB := aM hB
 clear hB
 have H : ((spec_l1Below.f s0_0 s0_1 s0_2 4).bind fun bt277 => ((spec_l1Below.f s0_0 bt277.2.1 bt277.2.2 (wrap64 (a1 + 1))).bind fun bt280 => (spec_l1Text.l0 k (([] : List Int)) bt277.1 bt280.1 s0_0 bt280.2.1 bt280.2.2))) = some (r1, r2, r3) := h
 clear h
 obtain ⟨y274, hy274⟩ : ∃ y_ : List Int, y_ = (([] : List Int)) := ⟨_, rfl⟩
 first | replace H := bY hy274 H | rw [← hy274] at H
 have Ny274 := aM hy274
 clear hy274
 replace H := bM H
 obtain ⟨⟨t277, t278, t279⟩, A30, H⟩ := H
 dsimp only at H
 have A3 := aM A30
 clear A30
 replace H := bM H
 obtain ⟨⟨t280, t281, t282⟩, A40, H⟩ := H
 dsimp only at H
 have A4 := aM A40
 clear A40
 have H' := aM H
 clear H
 go_enter Tryd.func94, Tryd.ntmps94
 go_wp2_with (first | ((with_reducible refine gate_dst (N := 9) rfl ?_); refine Kd.R_lit (Kd.int .u8) _ 5 ?hg (N := 9) ?hd (xs := ([] : List Int)) (inner := []) (ok := fun _ => True) (okp := fun _ => True) ?hr ?hp (fun _ hk => hk) trivial (Below.refl _ _) (Nat.le_refl _) (by simp) ?_; (case hd => rfl); (case hg => rfl); (case hr => first | (go_simp; done) | (go_simp; rfl)); (case hp => exact (Reps.none _ _)); intro v275 w5 ho6 hb hg_ hnew_; clear hg_ hnew_; (first | rw [← Ny274.out] at ho6 | (simp only [Int.reduceToNat] at ho6; rw [← Ny274.out] at ho6)); have HO276 := aM (Kd.R_lower ho6 (kS (w := w) (g := g))); replace HK := aM (KeepBut.trans aQ (KeepBut.of_below hb g none) (.inl rfl)); replace HB := aM (below_step aY hb); replace HI0 := aM (IsS117.below aZ hb); clear hb ho6) | ((with_reducible refine gate_callee (f := 62) rfl ?_); refine goesL_ (some 11) rfl rfl Tryd.func62 (by kernel_rfl) rfl #[.pointer (some ⟨g, 0, none⟩), .int .i64 4] rfl aA ?_; (with_reducible refine (spec_l1Below.calls g s0_0 s0_1 s0_2 4 t277 t278 t279 w0 _ ?side1 ?side2 A3.out).mono ?_); (case side1 => exact aZ); (case side2 => exact aY); rintro e w7 ⟨rfl, hi, hb, hk⟩; refine ⟨_, rfl, ?_⟩; replace HO276 := aM (Kd.R_mono (Kd.R_keep (IsS117.apart (show IsS117 w0 _ g s0_0 s0_1 s0_2 from aZ) (aR HO276) (by decide)) hk (fun _ h => h.2)) (fun _ h => h.1)); replace HK := aM (KeepBut.trans aQ hk (.inl rfl)); replace HB := aM (hb); replace HI0 := aM (hi); (try clear hb); (try clear hb2); (try clear hk); (try clear hi)) | ((with_reducible refine gate_callee (f := 62) rfl ?_); refine goesL_ (some 15) rfl rfl Tryd.func62 (by kernel_rfl) rfl #[.pointer (some ⟨g, 0, none⟩), .int .i64 (wrap64 (a1 + 1))] rfl aA ?_; (with_reducible refine (spec_l1Below.calls g s0_0 t278 t279 (wrap64 (a1 + 1)) t280 t281 t282 w0 _ ?side1 ?side2 A4.out).mono ?_); (case side1 => exact aZ); (case side2 => exact aY); rintro e w8 ⟨rfl, hi, hb, hk⟩; refine ⟨_, rfl, ?_⟩; replace HO276 := aM (Kd.R_mono (Kd.R_keep (IsS117.apart (show IsS117 w0 _ g s0_0 t278 t279 from aZ) (aR HO276) (by decide)) hk (fun _ h => h.2)) (fun _ h => h.1)); replace HK := aM (KeepBut.trans aQ hk (.inl rfl)); replace HB := aM (hb); replace HI0 := aM (hi); (try clear hb); (try clear hb2); (try clear hk); (try clear hi)))
 go_loopg [5, 7] k (fun kq v5 v7 w' => ∃ (x5_1 : List Int) (x7_1 : Int) (x1001_1 : Int) (x1002_1 : Int), v7 = .int .i64 x7_1 ∧ Aside0 (spec_l1Text.l0 kq x5_1 t277 x7_1 s0_0 x1001_1 x1002_1 = some (r1, r2, r3)) ∧ Aside0 (kq ≤ k) ∧ Aside0 (Kd.R (Kd.int .u8) 5 w' w.heap.size (fun _ => True) v5 x5_1) ∧ Aside0 (IsS117 w0 w' g s0_0 x1001_1 x1002_1) ∧ Aside0 (KeepBut w w' g none) ∧ Aside0 (Below w0.heap.size w0 w'))
 case atStart => exact ⟨(y274), (t280), (t281), (t282), aX, H', ⟨Nat.le_refl _⟩, ⟨aR HO276⟩, ⟨aZ⟩, ⟨aQ⟩, ⟨aY⟩⟩
 case round =>
  clear H'
  try clear p2
  try clear c6
  try clear p6
  obtain ⟨x5_1, x7_1, x1001_1, x1002_1, rfl, HA, HK1, HO_5, HI0, HK, HB⟩ := hrel
  cases gk with
  | zero => exact absurd HA.out (by simp [spec_l1Text.l0])
  | succ k1 =>
   have H := HA.out
   clear HA
   simp only [spec_l1Text.l0] at H
   by_cases c9 : x7_1 > 0
   ·rw [if_pos c9] at H
    have c9b0 : decide (0 < x7_1) = true := decide_eq_true c9
    clear c9
    replace H := bM H
    obtain ⟨⟨t283, t284, t285⟩, A100, H⟩ := H
    dsimp only at H
    have A10 := aM A100
    clear A100
    by_cases c11 : t277 = 1
    ·rw [if_pos c11] at H
     have c11b0 : (t277 == 1) = true := beq_iff_eq.mpr c11
     have c11b1 : (t277 != 1) = false := bne_eq_false_iff_eq.mpr c11
     clear c11
     by_cases c12 : t277 = 2
     ·rw [if_pos c12] at H
      have c12b0 : (t277 == 2) = true := beq_iff_eq.mpr c12
      have c12b1 : (t277 != 2) = false := bne_eq_false_iff_eq.mpr c12
      clear c12
      by_cases c13 : x5_1.length < 140737488355328
      ·rw [if_pos c13] at H
       have LMc13 := aM c13
       clear c13
       obtain ⟨y286, hy286⟩ : ∃ y_ : List Int, y_ = (x5_1 ++ [(wrap64 (97 + (Int.tmod (Int.tmod t283 2) 4))) % 256]) := ⟨_, rfl⟩
       first | replace H := bY hy286 H | rw [← hy286] at H
       have Ny286 := aM hy286
       clear hy286
       have H' := aM H
       clear H
       go_wp2_with (first | ((with_reducible refine gate_callee (f := 95) rfl ?_); refine goesL_ (some 21) rfl rfl Tryd.func95 (by kernel_rfl) rfl #[.pointer (some ⟨g, 0, none⟩)] rfl aA ?_; (with_reducible refine (spec_l1Byte.calls g s0_0 x1001_1 x1002_1 t283 t284 t285 w0 _ ?side1 ?side2 A10.out).mono ?_); (case side1 => exact aZ); (case side2 => exact aY); rintro e w14 ⟨rfl, hi, hb, hk⟩; refine ⟨_, rfl, ?_⟩; replace HO_5 := aM (Kd.R_mono (Kd.R_keep (IsS117.apart (show IsS117 w0 _ g s0_0 x1001_1 x1002_1 from aZ) (aR HO_5) (by decide)) hk (fun _ h => h.2)) (fun _ h => h.1)); replace HK := aM (KeepBut.trans aQ hk (.inl rfl)); replace HB := aM (hb); replace HI0 := aM (hi); (try clear hb); (try clear hb2); (try clear hk); (try clear hi)) | ((with_reducible refine gate_builtin (b := .append) (xs := #[.tmp 31, .tmp 34]) rfl ?_); at_builtin; refine Kd.R_append (Kd.int .u8) w.heap.size rfl (.tmp 31) (.tmp 34) 35 5 (.int .u8 0) 1 rfl Tryd.underlying35 info5 rfl (by decide) (by omega) u5 x5_1 ((wrap64 (97 + (Int.tmod (Int.tmod t283 2) 4))) % 256) [.int .u8 ((wrap64 (97 + (Int.tmod (Int.tmod t283 2) 4))) % 256)] (fun _ => True) (fun _ => False) rfl rfl ?aP (fun _ hk => hk.elim) ?aF ?aO (Below.refl _ _) ?aS ?aL ?_; (case aP => exact rfl); (case aF => exact (fun _ _ => trivial)); (case aO => exact (aR HO_5)); (case aS => exact (kS (w := w) (g := g))); (case aL => have := LMc13.out; omega); intro v287 w15 ho hb hg hat; rw [← Ny286.out] at ho; have HO288 := aM (ho); replace HB := aM (below_weaken aY HL.out hb); replace HI0 := aM (IsS117.grown aZ hg (IsS117.own_ne HI0.out HO_5.out (by decide))); replace HK := aM (KeepBut.trans aQ (KeepBut.of_grown hg g) (Kd.R_base2 HO_5.out)); clear HO_5; clear ho hb hg hat))
       go_roundg k1
       case measure => have := HK1.out; omega
       case rel => exact ⟨(y286), (wrap64 (x7_1 - 1)), (t284), (t285), aX, H', ⟨by have := HK1.out; omega⟩, ⟨aR HO288⟩, ⟨aZ⟩, ⟨aQ⟩, ⟨aY⟩⟩
      ·rw [if_neg c13] at H
       exact absurd H (by simp)
     ·rw [if_neg c12] at H
      have c12b0 : (t277 == 2) = false := beq_eq_false_iff_ne.mpr c12
      have c12b1 : (t277 != 2) = true := bne_iff_ne.mpr c12
      by_cases c16 : x5_1.length < 140737488355328
      ·rw [if_pos c16] at H
       have LMc16 := aM c16
       clear c16
       obtain ⟨y289, hy289⟩ : ∃ y_ : List Int, y_ = (x5_1 ++ [(Int.tmod t283 2) % 256]) := ⟨_, rfl⟩
       first | replace H := bY hy289 H | rw [← hy289] at H
       have Ny289 := aM hy289
       clear hy289
       have H' := aM H
       clear H
       go_wp2_with (first | ((with_reducible refine gate_callee (f := 95) rfl ?_); refine goesL_ (some 21) rfl rfl Tryd.func95 (by kernel_rfl) rfl #[.pointer (some ⟨g, 0, none⟩)] rfl aA ?_; (with_reducible refine (spec_l1Byte.calls g s0_0 x1001_1 x1002_1 t283 t284 t285 w0 _ ?side1 ?side2 A10.out).mono ?_); (case side1 => exact aZ); (case side2 => exact aY); rintro e w17 ⟨rfl, hi, hb, hk⟩; refine ⟨_, rfl, ?_⟩; replace HO_5 := aM (Kd.R_mono (Kd.R_keep (IsS117.apart (show IsS117 w0 _ g s0_0 x1001_1 x1002_1 from aZ) (aR HO_5) (by decide)) hk (fun _ h => h.2)) (fun _ h => h.1)); replace HK := aM (KeepBut.trans aQ hk (.inl rfl)); replace HB := aM (hb); replace HI0 := aM (hi); (try clear hb); (try clear hb2); (try clear hk); (try clear hi)) | ((with_reducible refine gate_builtin (b := .append) (xs := #[.tmp 31, .tmp 34]) rfl ?_); at_builtin; refine Kd.R_append (Kd.int .u8) w.heap.size rfl (.tmp 31) (.tmp 34) 35 5 (.int .u8 0) 1 rfl Tryd.underlying35 info5 rfl (by decide) (by omega) u5 x5_1 ((Int.tmod t283 2) % 256) [.int .u8 ((Int.tmod t283 2) % 256)] (fun _ => True) (fun _ => False) rfl rfl ?aP (fun _ hk => hk.elim) ?aF ?aO (Below.refl _ _) ?aS ?aL ?_; (case aP => exact rfl); (case aF => exact (fun _ _ => trivial)); (case aO => exact (aR HO_5)); (case aS => exact (kS (w := w) (g := g))); (case aL => have := LMc16.out; omega); intro v290 w18 ho hb hg hat; rw [← Ny289.out] at ho; have HO291 := aM (ho); replace HB := aM (below_weaken aY HL.out hb); replace HI0 := aM (IsS117.grown aZ hg (IsS117.own_ne HI0.out HO_5.out (by decide))); replace HK := aM (KeepBut.trans aQ (KeepBut.of_grown hg g) (Kd.R_base2 HO_5.out)); clear HO_5; clear ho hb hg hat))
       go_roundg k1
       case measure => have := HK1.out; omega
       case rel => exact ⟨(y289), (wrap64 (x7_1 - 1)), (t284), (t285), aX, H', ⟨by have := HK1.out; omega⟩, ⟨aR HO291⟩, ⟨aZ⟩, ⟨aQ⟩, ⟨aY⟩⟩
      ·rw [if_neg c16] at H
       exact absurd H (by simp)
    ·rw [if_neg c11] at H
     have c11b0 : (t277 == 1) = false := beq_eq_false_iff_ne.mpr c11
     have c11b1 : (t277 != 1) = true := bne_iff_ne.mpr c11
     by_cases c19 : t277 = 2
     ·rw [if_pos c19] at H
      have c19b0 : (t277 == 2) = true := beq_iff_eq.mpr c19
      have c19b1 : (t277 != 2) = false := bne_eq_false_iff_eq.mpr c19
      clear c19
      by_cases c20 : x5_1.length < 140737488355328
      ·rw [if_pos c20] at H
       have LMc20 := aM c20
       clear c20
       obtain ⟨y292, hy292⟩ : ∃ y_ : List Int, y_ = (x5_1 ++ [(wrap64 (97 + (Int.tmod t283 4))) % 256]) := ⟨_, rfl⟩
       first | replace H := bY hy292 H | rw [← hy292] at H
       have Ny292 := aM hy292
       clear hy292
       have H' := aM H
       clear H
       go_wp2_with (first | ((with_reducible refine gate_callee (f := 95) rfl ?_); refine goesL_ (some 21) rfl rfl Tryd.func95 (by kernel_rfl) rfl #[.pointer (some ⟨g, 0, none⟩)] rfl aA ?_; (with_reducible refine (spec_l1Byte.calls g s0_0 x1001_1 x1002_1 t283 t284 t285 w0 _ ?side1 ?side2 A10.out).mono ?_); (case side1 => exact aZ); (case side2 => exact aY); rintro e w21 ⟨rfl, hi, hb, hk⟩; refine ⟨_, rfl, ?_⟩; replace HO_5 := aM (Kd.R_mono (Kd.R_keep (IsS117.apart (show IsS117 w0 _ g s0_0 x1001_1 x1002_1 from aZ) (aR HO_5) (by decide)) hk (fun _ h => h.2)) (fun _ h => h.1)); replace HK := aM (KeepBut.trans aQ hk (.inl rfl)); replace HB := aM (hb); replace HI0 := aM (hi); (try clear hb); (try clear hb2); (try clear hk); (try clear hi)) | ((with_reducible refine gate_builtin (b := .append) (xs := #[.tmp 31, .tmp 34]) rfl ?_); at_builtin; refine Kd.R_append (Kd.int .u8) w.heap.size rfl (.tmp 31) (.tmp 34) 35 5 (.int .u8 0) 1 rfl Tryd.underlying35 info5 rfl (by decide) (by omega) u5 x5_1 ((wrap64 (97 + (Int.tmod t283 4))) % 256) [.int .u8 ((wrap64 (97 + (Int.tmod t283 4))) % 256)] (fun _ => True) (fun _ => False) rfl rfl ?aP (fun _ hk => hk.elim) ?aF ?aO (Below.refl _ _) ?aS ?aL ?_; (case aP => exact rfl); (case aF => exact (fun _ _ => trivial)); (case aO => exact (aR HO_5)); (case aS => exact (kS (w := w) (g := g))); (case aL => have := LMc20.out; omega); intro v293 w22 ho hb hg hat; rw [← Ny292.out] at ho; have HO294 := aM (ho); replace HB := aM (below_weaken aY HL.out hb); replace HI0 := aM (IsS117.grown aZ hg (IsS117.own_ne HI0.out HO_5.out (by decide))); replace HK := aM (KeepBut.trans aQ (KeepBut.of_grown hg g) (Kd.R_base2 HO_5.out)); clear HO_5; clear ho hb hg hat))
       go_roundg k1
       case measure => have := HK1.out; omega
       case rel => exact ⟨(y292), (wrap64 (x7_1 - 1)), (t284), (t285), aX, H', ⟨by have := HK1.out; omega⟩, ⟨aR HO294⟩, ⟨aZ⟩, ⟨aQ⟩, ⟨aY⟩⟩
      ·rw [if_neg c20] at H
       exact absurd H (by simp)
     ·rw [if_neg c19] at H
      have c19b0 : (t277 == 2) = false := beq_eq_false_iff_ne.mpr c19
      have c19b1 : (t277 != 2) = true := bne_iff_ne.mpr c19
      by_cases c23 : x5_1.length < 140737488355328
      ·rw [if_pos c23] at H
       have LMc23 := aM c23
       clear c23
       obtain ⟨y295, hy295⟩ : ∃ y_ : List Int, y_ = (x5_1 ++ [(t283) % 256]) := ⟨_, rfl⟩
       first | replace H := bY hy295 H | rw [← hy295] at H
       have Ny295 := aM hy295
       clear hy295
       have H' := aM H
       clear H
       go_wp2_with (first | ((with_reducible refine gate_callee (f := 95) rfl ?_); refine goesL_ (some 21) rfl rfl Tryd.func95 (by kernel_rfl) rfl #[.pointer (some ⟨g, 0, none⟩)] rfl aA ?_; (with_reducible refine (spec_l1Byte.calls g s0_0 x1001_1 x1002_1 t283 t284 t285 w0 _ ?side1 ?side2 A10.out).mono ?_); (case side1 => exact aZ); (case side2 => exact aY); rintro e w24 ⟨rfl, hi, hb, hk⟩; refine ⟨_, rfl, ?_⟩; replace HO_5 := aM (Kd.R_mono (Kd.R_keep (IsS117.apart (show IsS117 w0 _ g s0_0 x1001_1 x1002_1 from aZ) (aR HO_5) (by decide)) hk (fun _ h => h.2)) (fun _ h => h.1)); replace HK := aM (KeepBut.trans aQ hk (.inl rfl)); replace HB := aM (hb); replace HI0 := aM (hi); (try clear hb); (try clear hb2); (try clear hk); (try clear hi)) | ((with_reducible refine gate_builtin (b := .append) (xs := #[.tmp 31, .tmp 34]) rfl ?_); at_builtin; refine Kd.R_append (Kd.int .u8) w.heap.size rfl (.tmp 31) (.tmp 34) 35 5 (.int .u8 0) 1 rfl Tryd.underlying35 info5 rfl (by decide) (by omega) u5 x5_1 ((t283) % 256) [.int .u8 ((t283) % 256)] (fun _ => True) (fun _ => False) rfl rfl ?aP (fun _ hk => hk.elim) ?aF ?aO (Below.refl _ _) ?aS ?aL ?_; (case aP => exact rfl); (case aF => exact (fun _ _ => trivial)); (case aO => exact (aR HO_5)); (case aS => exact (kS (w := w) (g := g))); (case aL => have := LMc23.out; omega); intro v296 w25 ho hb hg hat; rw [← Ny295.out] at ho; have HO297 := aM (ho); replace HB := aM (below_weaken aY HL.out hb); replace HI0 := aM (IsS117.grown aZ hg (IsS117.own_ne HI0.out HO_5.out (by decide))); replace HK := aM (KeepBut.trans aQ (KeepBut.of_grown hg g) (Kd.R_base2 HO_5.out)); clear HO_5; clear ho hb hg hat))
       go_roundg k1
       case measure => have := HK1.out; omega
       case rel => exact ⟨(y295), (wrap64 (x7_1 - 1)), (t284), (t285), aX, H', ⟨by have := HK1.out; omega⟩, ⟨aR HO297⟩, ⟨aZ⟩, ⟨aQ⟩, ⟨aY⟩⟩
      ·rw [if_neg c23] at H
       exact absurd H (by simp)
   ·rw [if_neg c9] at H
    have c9b0 : decide (0 < x7_1) = false := decide_eq_false c9
    clear c9
    simp only [Option.some.injEq, Prod.mk.injEq] at H
    obtain ⟨rfl, rfl, rfl⟩ := H
    have hcv26 := own_string (P := Tryd.prog) Tryd.underlying35 Tryd.underlying5 Tryd.underlying9 (Kd.own_of_R HO_5.out)
    go_wp2
    go_ret
    exact ⟨aE, aZ, aY, aQ⟩

end Go.Proofs.YtckpikfbhlhhjaaDoor.PFnFactFormat
