-- Laid by a program of this claim: what the functions come to, some of them proved by hand.
import Derived.Test.YteddnlklfjpgoaaPFnExactSelectFactsx0
import Derived.Test.YteddnlklfjpgoaaPFnExactSelectFactsx1
import Derived.Test.YteddnlklfjpgoaaPFnExactSelectFactsx4
namespace Go.Proofs.Yteddnlklfjpgoaa.PFnExactSelectFacts
open Go.RowKit Go.Proofs.YteddnlklfjpgoaaW.PrintWords Go.Proofs.YteddnlklfjpgoaaW.PrintLast Go.Proofs.YteddnlklfjpgoaaW.PrintMore
attribute [local go_sem] max2_int min2_int max_two min_two max_three min_three max_four min_four   -- for this text's walks alone
set_option linter.unusedVariables false
set_option linter.unusedSimpArgs false

/-! ### cmp_Compare_int: function 80 -/
def cmp_Compare_int.f (a0 : Int) (a1 : Int) : Option (Int) := (cmp_isNaN_int.f a0).bind fun t209 => ((cmp_isNaN_int.f a1).bind fun t210 => (if t209 = true then (if t210 = true then (some 0) else (some (-1))) else (if t210 = true then (some 1) else (if a0 < a1 then (some (-1)) else (if a0 > a1 then (some 1) else (some 0))))))
set_option maxHeartbeats 8000000 in
set_option maxRecDepth 100000 in
theorem cmp_Compare_int.calls (a0 : Int) (a1 : Int) (r : Int) (w : World) (h : cmp_Compare_int.f a0 a1 = some r) :
  Calls Try.prog 80 #[.int .i64 a0, .int .i64 a1] w fun e w' => e = .returned (.int .i64 r) ∧ Drawn0 w w' := by
 unfold cmp_Compare_int.f at h
 replace h := bs h; obtain ⟨t209, B0, h⟩ := h
 replace h := bs h; obtain ⟨t210, B1, h⟩ := h
 replace h := ib h; rcases h with ⟨rfl, h⟩ | ⟨rfl, h⟩
 replace h := ib h; rcases h with ⟨rfl, h⟩ | ⟨rfl, h⟩
 obtain rfl := si h
 rotate_left
 obtain rfl := si h
 rotate_left
 replace h := ib h; rcases h with ⟨rfl, h⟩ | ⟨rfl, h⟩
 obtain rfl := si h
 rotate_left
 replace h := il h; rcases h with ⟨c5, c5a, h⟩ | ⟨c5, c5a, h⟩
 obtain rfl := si h
 rotate_left
 replace h := ig h; rcases h with ⟨c6, c6a, h⟩ | ⟨c6, c6a, h⟩
 obtain rfl := si h
 rotate_left
 obtain rfl := si h
 rotate_left
 all_goals (go_enter Try.func80, Try.ntmps80; go_wp2_with (first | (go_at_call 88; refine (cmp_isNaN_int.calls _ ?_ _ ?h).mono ?_; (case h => exact zA); rintro e w1 ⟨rfl, hb⟩; have hd := hb; replace hb := hb.below; replace hb := aM hb; have HB : Below w.heap.size w w1 := zB)); go_ret; exact zE zD)

/-! ### slices_Compare_int_int: function 70 -/
def slices_Compare_int_int.l0 : Nat → List Int → List Int → List Int → Int → Int → Option (Int)
 | 0, _, _, _, _, _ => none
 | k + 1, x0, x1, x9, x10, x11 => if x11 < x10 then (if 0 ≤ x11 then (if x11 < (x9.length : Int) then (if x11 ≥ (x1.length : Int) then (some 1) else (if x11 < (x1.length : Int) then ((cmp_Compare_int.f (rd x9 x11) (rd x1 x11)).bind fun t213 => (if t213 = 0 then (slices_Compare_int_int.l0 k x0 x1 x9 x10 (wrap64 (x11 + 1))) else (some t213))) else (none))) else (none)) else (none)) else (if (x0.length : Int) < (x1.length : Int) then (some (-1)) else (some 0))
def slices_Compare_int_int.f (k : Nat) (l0 : List Int) (l1 : List Int) : Option (Int) := slices_Compare_int_int.l0 k l0 l1 l0 (l0.length : Int) 0
set_option maxHeartbeats 8000000 in
set_option maxRecDepth 100000 in
theorem slices_Compare_int_int.calls (k : Nat) (A0 : Option Addr) (c0 : Nat) (l0 : List Int) (A1 : Option Addr) (c1 : Nat) (l1 : List Int) (r : Int) (w : World) (hr0 : Kd.C (Kd.int .i64) w A0 l0.length l0) (hc0 : l0.length ≤ c0) (hr1 : Kd.C (Kd.int .i64) w A1 l1.length l1) (hc1 : l1.length ≤ c1) (h : slices_Compare_int_int.f k l0 l1 = some r) :
  Calls Try.prog 70 #[.slice A0 l0.length c0, .slice A1 l1.length c1] w fun e w' => e = .returned (.int .i64 r) ∧ Drawn0 w w' := by
 unfold slices_Compare_int_int.f at h
 ·go_enter Try.func70, Try.ntmps70
  go_wp2_with (first | (go_at_call 80; refine (cmp_Compare_int.calls _ _ ?_ _ ?h).mono ?_; (case h => exact zA); rintro e w1 ⟨rfl, hb⟩; have hd := hb; replace hb := hb.below; replace hb := aM hb; have HB : Below w.heap.size w w1 := zB))
  go_loopg [11] k (fun kq v11 w' => ∃ (x11_0 : Int), v11 = .int .i64 x11_0 ∧ slices_Compare_int_int.l0 kq l0 l1 l0 (l0.length : Int) x11_0 = some r ∧ Drawn0 w w')
  case atStart => exact ⟨_, zR, zA, zD⟩
  case round =>
   clear h
   obtain ⟨x11_0, rfl, h, hb⟩ := hrel
   have hd := hb
   replace hb := hb.below
   replace hb := aM hb
   have HB : Below w.heap.size w wr := zB
   rcases gk with _ | kk0
   exact absurd h (by simp [slices_Compare_int_int.l0])
   simp only [slices_Compare_int_int.l0] at h
   replace h := il h; rcases h with ⟨c1, c1a, h⟩ | ⟨c1, c1a, h⟩
   replace h := ie h; rcases h with ⟨c2, c2a, h⟩ | ⟨c2, c2a, h⟩
   replace h := il h; rcases h with ⟨c3, c3a, h⟩ | ⟨c3, c3a, h⟩
   replace h := ih h; rcases h with ⟨c4, c4a, h⟩ | ⟨c4, c4a, h⟩
   obtain rfl := si h
   obtain ⟨ad211, e211, hx211_0⟩ := Kd.at_int hr0 (x11_0 : Int) aD aD
   have p211 := eq_true (aD : 0 ≤ (x11_0 : Int))
   have q211 := eq_true (aD : x11_0 < (l0.length : Int))
   cases e211
   replace hx211_0 := qa hx211_0
   rotate_left
   replace h := il h; rcases h with ⟨c5, c5a, h⟩ | ⟨c5, c5a, h⟩
   replace h := bs h; obtain ⟨t213, B6, h⟩ := h
   replace h := iq h; rcases h with ⟨c7, ⟨c7a, c7b⟩, h⟩ | ⟨c7, ⟨c7a, c7b⟩, h⟩
   obtain ⟨kf, hkf⟩ : ∃ kf, kf = kk0 := ⟨_, rfl⟩; rw [← hkf] at h
   obtain ⟨ad211, e211, hx211_0⟩ := Kd.at_int hr0 (x11_0 : Int) aD aD
   have p211 := eq_true (aD : 0 ≤ (x11_0 : Int))
   have q211 := eq_true (aD : x11_0 < (l0.length : Int))
   cases e211
   replace hx211_0 := qa hx211_0
   obtain ⟨ad212, e212, hx212_0⟩ := Kd.at_int hr1 (x11_0 : Int) aD aD
   have p212 := eq_true (aD : 0 ≤ (x11_0 : Int))
   have q212 := eq_true (aD : x11_0 < (l1.length : Int))
   cases e212
   replace hx212_0 := qa hx212_0
   rotate_left
   obtain rfl := si h
   obtain ⟨ad211, e211, hx211_0⟩ := Kd.at_int hr0 (x11_0 : Int) aD aD
   have p211 := eq_true (aD : 0 ≤ (x11_0 : Int))
   have q211 := eq_true (aD : x11_0 < (l0.length : Int))
   cases e211
   replace hx211_0 := qa hx211_0
   obtain ⟨ad212, e212, hx212_0⟩ := Kd.at_int hr1 (x11_0 : Int) aD aD
   have p212 := eq_true (aD : 0 ≤ (x11_0 : Int))
   have q212 := eq_true (aD : x11_0 < (l1.length : Int))
   cases e212
   replace hx212_0 := qa hx212_0
   rotate_left
   exact absurd h (by simp)
   exact absurd h (by simp)
   exact absurd h (by simp)
   replace h := il h; rcases h with ⟨c8, c8a, h⟩ | ⟨c8, c8a, h⟩
   have cz := c8.out
   have c8x1 : decide (l0.length < l1.length) = true := decide_eq_true (Int.ofNat_lt.mp cz)
   clear cz
   obtain rfl := si h
   rotate_left
   have cz := c8.out
   have c8x1 : decide (l0.length < l1.length) = false := decide_eq_false (fun h => cz (Int.ofNat_lt.mpr h))
   clear cz
   obtain rfl := si h
   rotate_left
   all_goals (go_wp2_with (first | (go_at_call 80; refine (cmp_Compare_int.calls _ _ ?_ _ ?h).mono ?_; (case h => exact zA); rintro e w1 ⟨rfl, hb⟩; have hd := hb; replace hb := hb.below; replace hb := aM hb; have HB : Below w.heap.size w w1 := zB)); first | (go_ret; exact zE zD) | (go_roundg kf; (case measure => omega); (case rel => exact ⟨_, zR, zA, zD⟩)))

/-! ### impl_CompareFacts: function 51 -/
def impl_CompareFacts.f (k : Nat) (a0_0 : Int) (l0_1 : List Int) (a1_0 : Int) (l1_1 : List Int) : Option (Int) := if a0_0 = a1_0 then ((slices_Compare_int_int.f k l0_1 l1_1).bind fun t216 => (some t216)) else ((impl_compare.f a0_0 a1_0).bind fun t217 => (some t217))
set_option maxHeartbeats 8000000 in
set_option maxRecDepth 100000 in
theorem impl_CompareFacts.calls (k : Nat) (a0_0 : Int) (A0_1 : Option Addr) (c0_1 : Nat) (l0_1 : List Int) (a1_0 : Int) (A1_1 : Option Addr) (c1_1 : Nat) (l1_1 : List Int) (r : Int) (w : World) (hr0_1 : Kd.C (Kd.int .i64) w A0_1 l0_1.length l0_1) (hc0_1 : l0_1.length ≤ c0_1) (hr1_1 : Kd.C (Kd.int .i64) w A1_1 l1_1.length l1_1) (hc1_1 : l1_1.length ≤ c1_1) (h : impl_CompareFacts.f k a0_0 l0_1 a1_0 l1_1 = some r) :
  Calls Try.prog 51 #[.agg #[.int .i64 a0_0, .slice A0_1 l0_1.length c0_1], .agg #[.int .i64 a1_0, .slice A1_1 l1_1.length c1_1]] w fun e w' => e = .returned (.int .i64 r) ∧ Below w.heap.size w w' := by
 have hu45 := Try.underlying45
 obtain ⟨W, hW⟩ : ∃ W, (w.alloc (.cells #[.int .i64 a0_0, .slice A0_1 l0_1.length c0_1] 45)).alloc (.cells #[.int .i64 a1_0, .slice A1_1 l1_1.length c1_1] 45) = W := ⟨_, rfl⟩
 have q0 := qa (w := W) (p := ⟨w.heap.size, 0, none⟩) (v := .int .i64 a0_0) (by subst hW; go_simp)
 have q1 := qa (w := W) (p := ⟨w.heap.size, 1, none⟩) (v := .slice A0_1 l0_1.length c0_1) (by subst hW; go_simp)
 have q2 := qa (w := W) (p := ⟨w.heap.size + 1, 0, none⟩) (v := .int .i64 a1_0) (by subst hW; go_simp)
 have q3 := qa (w := W) (p := ⟨w.heap.size + 1, 1, none⟩) (v := .slice A1_1 l1_1.length c1_1) (by subst hW; go_simp)
 have HB : Below w.heap.size w W := by subst hW; exact zB
 have HW := Below.refl W.heap.size W
 have hb := aM HB
 unfold impl_CompareFacts.f at h
 replace h := iq h; rcases h with ⟨c0, ⟨c0a, c0b⟩, h⟩ | ⟨c0, ⟨c0a, c0b⟩, h⟩
 replace h := bs h; obtain ⟨t216, B1, h⟩ := h
 obtain rfl := si h
 rotate_left
 replace h := bs h; obtain ⟨t217, B2, h⟩ := h
 obtain rfl := si h
 rotate_left
 all_goals (go_enter Try.func51, Try.ntmps51; go_wp2_with (first | (go_at_call 69; refine (impl_compare.calls _ _ ?_ _ ?h).mono ?_; (case h => exact zA); rintro e w1 ⟨rfl, hb⟩; replace hb := hb.below; replace hb := aM hb; have HW : Below W.heap.size W w1 := zB; have HB : Below w.heap.size w w1 := zB) | (go_at_call 70; refine (slices_Compare_int_int.calls ?_ _ _ _ _ _ _ ?_ _ ?_ ?_ ?_ ?_ ?h).mono ?_; (case h => exact zA); (iterate 4 (first | exact zC | exact zA)); rintro e w1 ⟨rfl, hb⟩; replace hb := hb.below; replace hb := aM hb; have HW : Below W.heap.size W w1 := zB; have HB : Below w.heap.size w w1 := zB)); go_ret; exact zE zB)

/-! ### impl_AreValidRelations: function 56 -/

def impl_AreValidRelations.f (l0 : List S74) : Option Bool := some (vRels l0)
set_option maxHeartbeats 4000000 in
set_option maxRecDepth 100000 in
theorem impl_AreValidRelations.calls (A0 : Option Addr) (c0 : Nat) (l0 : List S74) (r : Bool) (w : World) (hr0 : Kd.C k74 w A0 l0.length l0) (hc0 : l0.length ≤ c0) (h : impl_AreValidRelations.f l0 = some r) :
  Calls Try.prog 56 #[.slice A0 l0.length c0] w fun e w' => e = .returned (.bool r) ∧ Below w.heap.size w w' := by
 obtain rfl := Option.some.inj h
 have hl : l0.length ≤ 9223372036854775807 := hr0.2.1
 have HR := aM hr0
 clear hr0 h
 go_enter Try.func56, Try.ntmps56
 go_wp2
 go_loopg [7] l0.length (fun gg s7 wr => ∃ i : Nat, i ≤ l0.length ∧ l0.length - i ≤ gg ∧ s7 = .int .i64 i ∧ Aside0 (Below w.heap.size w wr) ∧ Aside0 (vRelsFrom l0 (l0.length - i) i = vRels l0))
 case atStart => exact ⟨0, Nat.zero_le _, by omega, rfl, ⟨Below.refl _ _⟩, ⟨rfl⟩⟩
 case round =>
  obtain ⟨i, hi, hg, rfl, BW, HA⟩ := hrel
  by_cases hlt : i < l0.length
  ·have hltz : (i : Int) < (l0.length : Int) := by omega
   obtain ⟨ad, e, h0, h1, h2⟩ := at_T74 (Kd.C_below HR.out BW.out) (i : Int) (by omega) hltz
   rw [Int.toNat_natCast] at h0 h1 h2
   cases e
   have hrd : rd_T74 l0 (i : Int) = l0.getD i z74 := by unfold rd_T74; rw [Int.toNat_natCast]
   rw [hrd] at h0 h1 h2
   clear hrd
   have HX : Aside0 (vRelsFrom l0 (l0.length - i) i = (vRel (l0.getD i z74) && (decide (i = 0) || Op.bytesLess (l0.getD (i - 1) z74).f0.toList (l0.getD i z74).f0.toList) && vRelsFrom l0 (l0.length - (i + 1)) (i + 1))) := ⟨by
    rw [show l0.length - i = (l0.length - (i + 1)) + 1 by omega]; rfl⟩
   generalize l0.getD i z74 = x at h0 h1 h2 HX
   have F0 : Aside0 ((wr.alloc (.cells #[.string x.f0, .int .i64 x.f1, .int .i64 x.f2] 74)).cell? ⟨wr.heap.size, 0, none⟩ = some (.string x.f0)) := ⟨(blk_cell (heap_alloc_new wr _) 0).trans rfl⟩
   have F1 : Aside0 ((wr.alloc (.cells #[.string x.f0, .int .i64 x.f1, .int .i64 x.f2] 74)).cell? ⟨wr.heap.size, 1, none⟩ = some (.int .i64 x.f1)) := ⟨(blk_cell (heap_alloc_new wr _) 1).trans rfl⟩
   have F2 : Aside0 ((wr.alloc (.cells #[.string x.f0, .int .i64 x.f1, .int .i64 x.f2] 74)).cell? ⟨wr.heap.size, 2, none⟩ = some (.int .i64 x.f2)) := ⟨(blk_cell (heap_alloc_new wr _) 2).trans rfl⟩
   have B2 : Aside0 (Below w.heap.size w (wr.alloc (.cells #[.string x.f0, .int .i64 x.f1, .int .i64 x.f2] 74))) := ⟨below_alloc BW.out _⟩
   have HC : Aside0 (∀ (W : World) d os, Calls Try.prog 76 #[.agg #[.string x.f0, .int .i64 x.f1, .int .i64 x.f2]] (Go.Sort.grow (redrawn W d) os) fun e w'' => e = .returned (.bool (vRel x)) ∧ ∃ p : Regrown, w'' = Go.Sort.grow (redrawn W p.d) p.os) := ⟨fun W d os => Calls.regrown_of (impl_IsValidRelation.calls x.f0 x.f1 x.f2 (vRel x) _ (vRelI x))⟩
   by_cases hi0 : i = 0 ∨ vRel x = false
   ·have hd0 : vRel x = true → decide (0 < i) = false := fun hx => by
     rcases hi0 with h | h
     ·simp [h]
     ·rw [hx] at h; cases h
    have hX : vRelsFrom l0 (l0.length - i) i = (vRel x && vRelsFrom l0 (l0.length - (i + 1)) (i + 1)) := by
     rw [HX.out]
     rcases hi0 with h | h
     ·simp [h]
     ·simp [h]
    have HX := aM hX
    clear hX hi0
    cases hv : vRel x with
    | false =>
     have HV := aM hv
     clear hv hd0
     go_wp2_with fail
     clear h0 h1 h2
     generalize wr.alloc (.cells #[.string x.f0, .int .i64 x.f1, .int .i64 x.f2] 74) = w2 at F0 F1 F2 B2 ⊢
     generalize wr.heap.size = gb at F0 F1 F2 ⊢
     have f0 := cell_regrown F0.out
     have f1 := cell_regrown F1.out
     have f2 := cell_regrown F2.out
     have hc := HC.out w2
     rw [HV.out] at hc
     have HC := aM hc
     clear hc
     refine wp_region_quiet_below (by kernel_rfl) (by kernel_rfl) ?_
     repeat (go_big_quiet_step (exact HC.out _ _))
     refine wpQuiet_nil ?_
     intro _ hw'
     obtain ⟨⟨dq, osq⟩, hw''⟩ := hw'
     subst hw''
     go_wp2
     go_ret
     exact ⟨by rw [← HA.out, HX.out, HV.out]; rfl, below_then B2.out B2.out.size (below_regrown _ _ _)⟩
    | true =>
     have hd0 := hd0 hv
     have HV := aM hv
     clear hv
     go_wp2_with fail
     clear h0 h1 h2
     generalize wr.alloc (.cells #[.string x.f0, .int .i64 x.f1, .int .i64 x.f2] 74) = w2 at F0 F1 F2 B2 ⊢
     generalize wr.heap.size = gb at F0 F1 F2 ⊢
     have f0 := cell_regrown F0.out
     have f1 := cell_regrown F1.out
     have f2 := cell_regrown F2.out
     have hc := HC.out w2
     rw [HV.out] at hc
     have HC := aM hc
     clear hc
     refine wp_region_quiet_below (by kernel_rfl) (by kernel_rfl) ?_
     repeat (go_big_quiet_step (exact HC.out _ _))
     refine wpQuiet_nil ?_
     intro _ hw'
     obtain ⟨⟨dq, osq⟩, hw''⟩ := hw'
     subst hw''
     go_wp2
     go_roundg (l0.length - (i + 1))
     case measure => omega
     case rel => exact ⟨i + 1, by omega, by omega, by go_num, ⟨below_then B2.out B2.out.size (below_regrown _ _ _)⟩, ⟨by rw [← HA.out, HX.out, HV.out]; rfl⟩⟩
   ·have hi1 : i ≠ 0 := fun h => hi0 (.inl h)
    have hv : vRel x = true := by
     cases h : vRel x with
     | true => rfl
     | false => exact absurd (.inr h) hi0
    clear hi0
    obtain ⟨ad', e', k0, _, _⟩ := at_T74 (Kd.C_below HR.out BW.out) ((i - 1 : Nat) : Int) (by omega) (by omega)
    cases e'
    rw [Int.toNat_natCast] at k0
    have hrd : rd_T74 l0 ((i - 1 : Nat) : Int) = l0.getD (i - 1) z74 := by unfold rd_T74; rw [Int.toNat_natCast]
    rw [hrd] at k0
    clear hrd
    have hX : vRelsFrom l0 (l0.length - i) i = (Op.bytesLess (l0.getD (i - 1) z74).f0.toList x.f0.toList && vRelsFrom l0 (l0.length - (i + 1)) (i + 1)) := by
     rw [HX.out, hv]; simp [hi1]
    have HX := aM hX
    have HV := aM hv
    clear hX hv
    generalize (l0.getD (i - 1) z74).f0 = y at k0 HX
    have K0 : Aside0 ((wr.alloc (.cells #[.string x.f0, .int .i64 x.f1, .int .i64 x.f2] 74)).cell? (ad.add ((i - 1) * 3)) = some (.string y)) := ⟨(World.cell?_alloc_lt _ _ _ (World.block_lt_of_cell? wr _ k0)).trans k0⟩
    clear k0
    have e3 : IntKind.i64.wrap ((i : Int) - 1) = ((i - 1 : Nat) : Int) := by rw [IntKind.wrap_i64]; omega
    have hd0 : decide (0 < i) = true := by simp; omega
    have hm0 : (0 : Int) ≤ ((i - 1 : Nat) : Int) := by omega
    have hm1 : ((i - 1 : Nat) : Int) < (l0.length : Int) := by omega
    go_wp2_with fail
    clear h0 h1 h2
    generalize wr.alloc (.cells #[.string x.f0, .int .i64 x.f1, .int .i64 x.f2] 74) = w2 at F0 F1 F2 B2 K0 ⊢
    generalize wr.heap.size = gb at F0 F1 F2 ⊢
    have f0 := cell_regrown F0.out
    have f1 := cell_regrown F1.out
    have f2 := cell_regrown F2.out
    have f3 := cell_regrown K0.out
    have hc := HC.out w2
    rw [HV.out] at hc
    have HC := aM hc
    clear hc
    cases hb : Op.bytesLess y.toList x.f0.toList with
    | false =>
     refine wp_region_quiet_below (by kernel_rfl) (by kernel_rfl) ?_
     repeat (go_big_quiet_step (exact HC.out _ _))
     refine wpQuiet_nil ?_
     intro _ hw'
     obtain ⟨⟨dq, osq⟩, hw''⟩ := hw'
     subst hw''
     have HB := aM hb
     clear hb
     go_wp2
     go_ret
     exact ⟨by rw [← HA.out, HX.out, HB.out]; rfl, below_then B2.out B2.out.size (below_regrown _ _ _)⟩
    | true =>
     refine wp_region_quiet_below (by kernel_rfl) (by kernel_rfl) ?_
     repeat (go_big_quiet_step (exact HC.out _ _))
     refine wpQuiet_nil ?_
     intro _ hw'
     obtain ⟨⟨dq, osq⟩, hw''⟩ := hw'
     subst hw''
     have HB := aM hb
     clear hb
     go_wp2
     go_roundg (l0.length - (i + 1))
     case measure => omega
     case rel => exact ⟨i + 1, by omega, by omega, by go_num, ⟨below_then B2.out B2.out.size (below_regrown _ _ _)⟩, ⟨by rw [← HA.out, HX.out, HB.out]; rfl⟩⟩
  ·have hd : decide (i < l0.length) = false := decide_eq_false hlt
   have hle : l0.length ≤ i := by omega
   have HX : Aside0 (vRels l0 = decide (l0.length ≤ 4)) := ⟨by rw [← HA.out, show l0.length - i = 0 by omega]; exact decide_eq_decide.2 (by omega)⟩
   clear hlt
   go_wp2
   go_ret
   exact ⟨by rw [HX.out]; first | rfl | (simp; done) | (simp; omega), BW.out⟩


/-! ### impl_IsValidDatabase: function 27 -/
section
open Base
theorem cmp1 (x y : Int) : cmp_Compare_int.f x y = some (if x < y then -1 else if x > y then 1 else 0) := by
 unfold cmp_Compare_int.f cmp_isNaN_int.f
 simp only [Option.bind_some, bne_self_eq_false, Bool.false_eq_true, if_false]
 by_cases h1 : x < y
 ·rw [if_pos h1, if_pos h1]
 ·rw [if_neg h1, if_neg h1]
  by_cases h2 : x > y
  ·rw [if_pos h2, if_pos h2]
  ·rw [if_neg h2, if_neg h2]
theorem cmpIl (a b : List Int) (ha : a.length ≤ 9223372036854775807) (hb : b.length ≤ 9223372036854775807) (d : Nat) : ∀ (i : Nat), i + d = a.length → ∀ k, d < k → slices_Compare_int_int.l0 k a b a (a.length : Int) i = some (cmpI (a.drop i) (b.drop i)) ∨ b.length < i := by
 induction d with
 | zero =>
  intro i hd k hk
  by_cases hbi : b.length < i
  ·exact .inr hbi
  left
  obtain ⟨k, rfl, hk⟩ := fuel hk
  rw [slices_Compare_int_int.l0, if_neg (by omega), cmpI_end (.inl (List.drop_of_length_le (by omega))), List.length_drop, List.length_drop]
  by_cases h1 : (a.length : Int) < (b.length : Int)
  ·rw [if_pos h1, if_pos (show a.length - i < b.length - i by omega)]
  ·rw [if_neg h1, if_neg (show ¬ a.length - i < b.length - i by omega), if_neg (show ¬ a.length - i > b.length - i by omega)]
 | succ d ih =>
  intro i hd k hk
  by_cases hbi : b.length < i
  ·exact .inr hbi
  left
  obtain ⟨k, rfl, hk⟩ := fuel hk
  rw [slices_Compare_int_int.l0, if_pos (by omega), if_pos (by omega), if_pos (by omega)]
  by_cases hlt : i < b.length
  ·have e1 : wrap64 ((i : Int) + 1) = ((i + 1 : Nat) : Int) := by rw [w64 (by omega) (by omega)]; omega
   have e2 : rd a (i : Int) = a[i] := by unfold rd; rw [Int.toNat_natCast, getD_lt a _ i (by omega)]
   have e3 : rd b (i : Int) = b[i] := by unfold rd; rw [Int.toNat_natCast, getD_lt b _ i (by omega)]
   rw [if_neg (by omega), if_pos (by omega), e1, e2, e3, cmp1]
   simp only [Option.bind_some]
   rw [List.drop_eq_getElem_cons (i := i) (l := a) (by omega), List.drop_eq_getElem_cons (i := i) (l := b) (by omega), cmpI]
   by_cases h1 : a[i] < b[i]
   ·simp [h1]
   ·by_cases h2 : a[i] > b[i]
    ·simp [h1, h2]
    ·rw [if_neg h1, if_neg h2, if_pos rfl, if_neg h1, if_neg h2]
     rcases ih (i + 1) (by omega) k (by omega) with h | h
     ·exact h
     ·omega
  ·rw [if_pos (by omega), cmpI_end (.inr (List.drop_of_length_le (by omega))), List.length_drop, List.length_drop, if_neg (by omega), if_pos (by omega)]
theorem cmpIs (a b : List Int) (ha : a.length ≤ 9223372036854775807) (hb : b.length ≤ 9223372036854775807) (k : Nat) (hk : a.length < k) : slices_Compare_int_int.f k a b = some (cmpI a b) := by
 rcases cmpIl a b ha hb a.length 0 (by omega) k hk with h | h
 ·exact h
 ·omega
theorem cmpFI (x : Int) (a : List Int) (y : Int) (b : List Int) (ha : a.length ≤ 9223372036854775807) (hb : b.length ≤ 9223372036854775807) (k : Nat) (hk : a.length < k) : impl_CompareFacts.f k x a y b = some (cmpF x a y b) := by
 unfold impl_CompareFacts.f cmpF
 by_cases h0 : x = y
 ·subst h0
  rw [if_pos rfl, cmpIs a b ha hb k hk, if_neg (by omega), if_neg (by omega)]
  rfl
 ·rw [if_neg h0, impl_compare.f]
  by_cases h1 : x < y
  ·rw [if_pos h1, if_pos h1]; rfl
  ·rw [if_neg h1, if_neg h1, if_pos (by omega), if_pos (by omega)]; rfl
end

section
open Base
/-- A fact of these relations: its relation is one of them, it has vs many values vs that one asks, each a value. -/
def fits (l : List S74) (a : Int) (vs : List Int) : Bool := decide (0 ≤ a ∧ a < (l.length : Int) ∧ (vs.length : Int) = (rd_T74 l a).f1) && !vs.any noVal
def vFact (l : List S74) (a : Int) (vs : List Int) : Bool := vRels l && fits l a vs
theorem fitI (l : List S74) (hl : l.length ≤ 9223372036854775807) (a : Int) (vs : List Int) : impl_isFact.f l a vs = some (fits l a vs) := by
 unfold impl_isFact.f impl_areValues.f fits
 rw [inI, Option.bind_some, Option.bind_some, w64 (by omega) (by omega)]
 by_cases h1 : 0 ≤ a ∧ a < (l.length : Int)
 ·rw [if_pos (by unfold inB; simpa using (by omega : 0 ≤ a ∧ a ≤ (l.length : Int) - 1)), if_pos h1.1, if_pos h1.2]
  by_cases h2 : (vs.length : Int) = (rd_T74 l a).f1
  ·rw [if_pos h2, decide_eq_true (by exact ⟨h1.1, h1.2, h2⟩)]
   simp
  ·rw [if_neg h2, decide_eq_false (by intro h; exact h2 h.2.2)]
   simp
 ·rw [if_neg (by unfold inB; simpa using (by omega : 0 ≤ a → ¬ a ≤ (l.length : Int) - 1)), decide_eq_false (by intro h; exact h1 ⟨h.1, h.2.1⟩)]
  simp
/-- Facts i, i + 1, .. (d of them): each fits, each behind its forerunner. -/
def okFrom (l : List S74) (fs : List S45) : Nat → Nat → Bool
 | 0, _ => true
 | d + 1, i => fits l (fs.getD i z45).f0 (fs.getD i z45).f1 && (decide (i = 0) || decide (cmpF (fs.getD (i - 1) z45).f0 (fs.getD (i - 1) z45).f1 (fs.getD i z45).f0 (fs.getD i z45).f1 < 0)) && okFrom l fs d (i + 1)
def vDb (l : List S74) (fs : List S45) : Bool := vRels l && decide (fs.length ≤ 14) && okFrom l fs fs.length 0
end

section
open Base
def impl_IsValidDatabase.f (l0_0 : List S74) (l0_1 : List S45) : Option Bool := some (vDb l0_0 l0_1)
set_option maxHeartbeats 4000000 in
set_option maxRecDepth 100000 in
theorem impl_IsValidDatabase.calls (A0_0 : Option Addr) (c0_0 : Nat) (l0_0 : List S74) (A0_1 : Option Addr) (c0_1 : Nat) (l0_1 : List S45) (r : Bool) (w : World) (hr0_0 : Kd.C k74 w A0_0 l0_0.length l0_0) (hc0_0 : l0_0.length ≤ c0_0) (hr0_1 : Kd.C k45 w A0_1 l0_1.length l0_1) (hc0_1 : l0_1.length ≤ c0_1) (h : impl_IsValidDatabase.f l0_0 l0_1 = some r) :
  Calls Try.prog 27 #[.agg #[.slice A0_0 l0_0.length c0_0, .slice A0_1 l0_1.length c0_1]] w fun e w' => e = .returned (.bool r) ∧ Below w.heap.size w w' := by
 obtain rfl := Option.some.inj h
 have hlr : l0_0.length ≤ 9223372036854775807 := hr0_0.2.1
 have hlf : l0_1.length ≤ 9223372036854775807 := hr0_1.2.1
 have HRR := aM hr0_0
 have HRF := aM hr0_1
 have HA : Aside0 (∀ o, Calls Try.prog 56 #[.slice A0_0 l0_0.length c0_0] (w.alloc o) fun e w' => e = .returned (.bool (vRels l0_0)) ∧ Below (w.alloc o).heap.size (w.alloc o) w') :=
  ⟨fun o => impl_AreValidRelations.calls A0_0 c0_0 l0_0 _ _ (Kd.C_below hr0_0 (below_alloc (Below.refl _ _) _)) hc0_0 rfl⟩
 have F0 : Aside0 ((w.alloc (.cells #[.slice A0_0 l0_0.length c0_0, .slice A0_1 l0_1.length c0_1] 31)).cell? ⟨w.heap.size, 0, none⟩ = some (.slice A0_0 l0_0.length c0_0)) := ⟨(blk_cell (heap_alloc_new w _) 0).trans rfl⟩
 have F1 : Aside0 ((w.alloc (.cells #[.slice A0_0 l0_0.length c0_0, .slice A0_1 l0_1.length c0_1] 31)).cell? ⟨w.heap.size, 1, none⟩ = some (.slice A0_1 l0_1.length c0_1)) := ⟨(blk_cell (heap_alloc_new w _) 1).trans rfl⟩
 have B1 : Aside0 (Below w.heap.size w (w.alloc (.cells #[.slice A0_0 l0_0.length c0_0, .slice A0_1 l0_1.length c0_1] 31))) := ⟨below_alloc (Below.refl _ _) _⟩
 clear hr0_0 hr0_1 h
 by_cases h0 : vRels l0_0 = true ∧ l0_1.length ≤ 14
 ·obtain ⟨hv, hn⟩ := h0
  rw [hv] at HA
  have hd : decide ((14 : Int) < (l0_1.length : Int)) = false := decide_eq_false (by omega)
  have hd' : decide (14 < l0_1.length) = false := decide_eq_false (by omega)
  have HR : Aside0 (vDb l0_0 l0_1 = okFrom l0_0 l0_1 l0_1.length 0) := ⟨by unfold vDb; rw [hv, decide_eq_true hn]; rfl⟩
  clear hv hn
  go_enter Try.func27, Try.ntmps27
  go_wp2_with (go_at_call 56; refine (HA.out _).mono ?_; rintro e w1 ⟨rfl, hb1⟩; have k0 := pw_cell_below hb1 F0.out; have k1 := pw_cell_below hb1 F1.out; have K0 := aM k0; have K1 := aM k1; have BW1 := aM (below_then B1.out B1.out.size hb1))
  go_loopg [18] l0_1.length (fun gg s18 wr => ∃ i : Nat, i ≤ l0_1.length ∧ l0_1.length - i ≤ gg ∧ s18 = .int .i64 i ∧ Aside0 (Below w1.heap.size w1 wr) ∧ Aside0 (okFrom l0_0 l0_1 (l0_1.length - i) i = okFrom l0_0 l0_1 l0_1.length 0))
  case atStart => exact ⟨0, Nat.zero_le _, by omega, rfl, ⟨Below.refl _ _⟩, ⟨rfl⟩⟩
  case round =>
   obtain ⟨i, hi, hg, rfl, BW, HO⟩ := hrel
   by_cases hlt : i < l0_1.length
   ·have hltz : (i : Int) < (l0_1.length : Int) := by omega
    have BB : Aside0 (Below w.heap.size w wr) := ⟨below_then BW1.out BW1.out.size BW.out⟩
    obtain ⟨ad, A2, c2, e, h0, h1, h2, h3⟩ := at_T45 (Kd.C_below HRF.out BB.out) (i : Int) (by omega) hltz
    rw [Int.toNat_natCast] at h0 h1
    cases e
    have hrd : rd_T45 l0_1 (i : Int) = l0_1.getD i z45 := by unfold rd_T45; rw [Int.toNat_natCast]
    rw [hrd] at h0 h1 h2 h3
    clear hrd
    have HX : Aside0 (okFrom l0_0 l0_1 (l0_1.length - i) i = (fits l0_0 (l0_1.getD i z45).f0 (l0_1.getD i z45).f1 && (decide (i = 0) || decide (cmpF (l0_1.getD (i - 1) z45).f0 (l0_1.getD (i - 1) z45).f1 (l0_1.getD i z45).f0 (l0_1.getD i z45).f1 < 0)) && okFrom l0_0 l0_1 (l0_1.length - (i + 1)) (i + 1))) := ⟨by
     rw [show l0_1.length - i = (l0_1.length - (i + 1)) + 1 by omega]; rfl⟩
    generalize l0_1.getD i z45 = x at h0 h1 h2 h3 HX
    have B2 : Aside0 (Below w.heap.size w (wr.alloc (.cells #[.int .i64 x.f0, .slice A2 x.f1.length c2] 45))) := ⟨below_alloc BB.out _⟩
    have B3 : Aside0 (Below w1.heap.size w1 (wr.alloc (.cells #[.int .i64 x.f0, .slice A2 x.f1.length c2] 45))) := ⟨below_alloc BW.out _⟩
    have D0 : Aside0 ((wr.alloc (.cells #[.int .i64 x.f0, .slice A2 x.f1.length c2] 45)).cell? ⟨w.heap.size, 0, none⟩ = some (.slice A0_0 l0_0.length c0_0)) := ⟨pw_cell_below B3.out K0.out⟩
    have D1 : Aside0 ((wr.alloc (.cells #[.int .i64 x.f0, .slice A2 x.f1.length c2] 45)).cell? ⟨w.heap.size, 1, none⟩ = some (.slice (some ad) l0_1.length c0_1)) := ⟨pw_cell_below B3.out K1.out⟩
    have E0 : Aside0 ((wr.alloc (.cells #[.int .i64 x.f0, .slice A2 x.f1.length c2] 45)).cell? ⟨wr.heap.size, 0, none⟩ = some (.int .i64 x.f0)) := ⟨(blk_cell (heap_alloc_new wr _) 0).trans rfl⟩
    have E1 : Aside0 ((wr.alloc (.cells #[.int .i64 x.f0, .slice A2 x.f1.length c2] 45)).cell? ⟨wr.heap.size, 1, none⟩ = some (.slice A2 x.f1.length c2)) := ⟨(blk_cell (heap_alloc_new wr _) 1).trans rfl⟩
    have CX : Aside0 (Kd.C (Kd.int .i64) (wr.alloc (.cells #[.int .i64 x.f0, .slice A2 x.f1.length c2] 45)) A2 x.f1.length x.f1) := ⟨Kd.C_below h3 (below_alloc (Below.refl _ _) _)⟩
    have HCf : Aside0 (∀ d os, Calls Try.prog 50 #[.slice A0_0 l0_0.length c0_0, .agg #[.int .i64 x.f0, .slice A2 x.f1.length c2]] (Go.Sort.grow (redrawn (wr.alloc (.cells #[.int .i64 x.f0, .slice A2 x.f1.length c2] 45)) d) os) fun e w'' => e = .returned (.bool (fits l0_0 x.f0 x.f1)) ∧ ∃ p : Regrown, w'' = Go.Sort.grow (redrawn (wr.alloc (.cells #[.int .i64 x.f0, .slice A2 x.f1.length c2] 45)) p.d) p.os) :=
     ⟨fun d os => Calls.regrown_of (impl_isFact.calls A0_0 c0_0 l0_0 x.f0 A2 c2 x.f1 _ _ (Kd.C_below HRR.out (below_then B2.out B2.out.size (below_regrown _ d os))) hc0_0 (Kd.C_below CX.out (below_regrown _ d os)) h2 (fitI l0_0 hlr x.f0 x.f1))⟩
    have HL : Aside0 (x.f1.length ≤ 9223372036854775807) := ⟨h3.2.1⟩
    have HL2 := aM h2
    clear h3 h2
    by_cases hi0 : i = 0 ∨ fits l0_0 x.f0 x.f1 = false
    ·have hq0 : fits l0_0 x.f0 x.f1 = true → decide (0 < i) = false ∧ decide ((0 : Int) < (i : Int)) = false := fun hx => by
      rcases hi0 with h | h
      ·simp [h]
      ·rw [hx] at h; cases h
     have hX : okFrom l0_0 l0_1 (l0_1.length - i) i = (fits l0_0 x.f0 x.f1 && okFrom l0_0 l0_1 (l0_1.length - (i + 1)) (i + 1)) := by
      rw [HX.out]
      rcases hi0 with h | h
      ·simp [h]
      ·simp [h]
     have HX := aM hX
     clear hX hi0
     cases hv : fits l0_0 x.f0 x.f1 with
     | false =>
      rw [hv] at HCf
      have HV := aM hv
      clear hv hq0
      go_wp2_with fail
      clear h0 h1
      generalize wr.alloc (.cells #[.int .i64 x.f0, .slice A2 x.f1.length c2] 45) = w2 at D0 D1 E0 E1 B2 B3 CX HCf ⊢
      generalize wr.heap.size = gb at E0 E1 ⊢
      have f0 := cell_regrown D0.out
      have f1 := cell_regrown D1.out
      have f2 := cell_regrown E0.out
      have f3 := cell_regrown E1.out
      refine wp_region_quiet_below (by kernel_rfl) (by kernel_rfl) ?_
      repeat (go_big_quiet_step (exact HCf.out _ _))
      refine wpQuiet_nil ?_
      intro _ hw'
      obtain ⟨⟨dq, osq⟩, hw''⟩ := hw'
      subst hw''
      go_wp2
      go_ret
      exact ⟨by rw [HR.out, ← HO.out, HX.out, HV.out]; rfl, below_then B2.out B2.out.size (below_regrown _ _ _)⟩
     | true =>
      obtain ⟨hq1, hq2⟩ := hq0 hv
      rw [hv] at HCf
      have HV := aM hv
      clear hv hq0
      go_wp2_with fail
      clear h0 h1
      generalize wr.alloc (.cells #[.int .i64 x.f0, .slice A2 x.f1.length c2] 45) = w2 at D0 D1 E0 E1 B2 B3 CX HCf ⊢
      generalize wr.heap.size = gb at E0 E1 ⊢
      have f0 := cell_regrown D0.out
      have f1 := cell_regrown D1.out
      have f2 := cell_regrown E0.out
      have f3 := cell_regrown E1.out
      refine wp_region_quiet_below (by kernel_rfl) (by kernel_rfl) ?_
      repeat (go_big_quiet_step (exact HCf.out _ _))
      refine wpQuiet_nil ?_
      intro _ hw'
      obtain ⟨⟨dq, osq⟩, hw''⟩ := hw'
      subst hw''
      go_wp2
      go_roundg (l0_1.length - (i + 1))
      case measure => omega
      case rel => exact ⟨i + 1, by omega, by omega, by go_num, ⟨below_then B3.out B3.out.size (below_regrown _ _ _)⟩, ⟨by rw [← HO.out, HX.out, HV.out]; rfl⟩⟩
    ·have hi1 : i ≠ 0 := fun h => hi0 (.inl h)
     have hv : fits l0_0 x.f0 x.f1 = true := by
      cases h : fits l0_0 x.f0 x.f1 with
      | true => rfl
      | false => exact absurd (.inr h) hi0
     clear hi0
     obtain ⟨ad', A3, c3, e', g0, g1, g2, g3⟩ := at_T45 (Kd.C_below HRF.out BB.out) ((i - 1 : Nat) : Int) (by omega) (by omega)
     cases e'
     rw [Int.toNat_natCast] at g0 g1
     have hrd : rd_T45 l0_1 ((i - 1 : Nat) : Int) = l0_1.getD (i - 1) z45 := by unfold rd_T45; rw [Int.toNat_natCast]
     rw [hrd] at g0 g1 g2 g3
     clear hrd
     have hX : okFrom l0_0 l0_1 (l0_1.length - i) i = (decide (cmpF (l0_1.getD (i - 1) z45).f0 (l0_1.getD (i - 1) z45).f1 x.f0 x.f1 < 0) && okFrom l0_0 l0_1 (l0_1.length - (i + 1)) (i + 1)) := by
      rw [HX.out, hv]; simp [hi1]
     have HX := aM hX
     rw [hv] at HCf
     clear hX hv
     generalize l0_1.getD (i - 1) z45 = y at g0 g1 g2 g3 HX
     have G0 : Aside0 ((wr.alloc (.cells #[.int .i64 x.f0, .slice A2 x.f1.length c2] 45)).cell? (ad.add ((i - 1) * 2)) = some (.int .i64 y.f0)) := ⟨(World.cell?_alloc_lt _ _ _ (World.block_lt_of_cell? wr _ g0)).trans g0⟩
     have G1 : Aside0 ((wr.alloc (.cells #[.int .i64 x.f0, .slice A2 x.f1.length c2] 45)).cell? ⟨(ad.add ((i - 1) * 2)).block, (ad.add ((i - 1) * 2)).off + 1, none⟩ = some (.slice A3 y.f1.length c3)) := ⟨(World.cell?_alloc_lt _ _ _ (World.block_lt_of_cell? wr _ g1)).trans g1⟩
     have HCc : Aside0 (∀ d os, Calls Try.prog 51 #[.agg #[.int .i64 y.f0, .slice A3 y.f1.length c3], .agg #[.int .i64 x.f0, .slice A2 x.f1.length c2]] (Go.Sort.grow (redrawn (wr.alloc (.cells #[.int .i64 x.f0, .slice A2 x.f1.length c2] 45)) d) os) fun e w'' => e = .returned (.int .i64 (cmpF y.f0 y.f1 x.f0 x.f1)) ∧ ∃ p : Regrown, w'' = Go.Sort.grow (redrawn (wr.alloc (.cells #[.int .i64 x.f0, .slice A2 x.f1.length c2] 45)) p.d) p.os) :=
      ⟨fun d os => Calls.regrown_of (impl_CompareFacts.calls (y.f1.length + 1) y.f0 A3 c3 y.f1 x.f0 A2 c2 x.f1 _ _ (Kd.C_below (Kd.C_below g3 (below_alloc (Below.refl _ _) _)) (below_regrown _ d os)) g2 (Kd.C_below CX.out (below_regrown _ d os)) HL2.out (cmpFI y.f0 y.f1 x.f0 x.f1 g3.2.1 HL.out _ (Nat.lt_succ_self _)))⟩
     clear g0 g1 g2 g3
     have e3 : IntKind.i64.wrap ((i : Int) - 1) = ((i - 1 : Nat) : Int) := by rw [IntKind.wrap_i64]; omega
     have hq1 : decide (0 < i) = true := by simp; omega
     have hq2 : decide ((0 : Int) < (i : Int)) = true := by simp; omega
     have hm0 : (0 : Int) ≤ ((i - 1 : Nat) : Int) := by omega
     have hm1 : ((i - 1 : Nat) : Int) < (l0_1.length : Int) := by omega
     go_wp2_with fail
     clear h0 h1
     generalize wr.alloc (.cells #[.int .i64 x.f0, .slice A2 x.f1.length c2] 45) = w2 at D0 D1 E0 E1 B2 B3 CX HCf G0 G1 HCc ⊢
     generalize wr.heap.size = gb at E0 E1 ⊢
     have f0 := cell_regrown D0.out
     have f1 := cell_regrown D1.out
     have f2 := cell_regrown E0.out
     have f3 := cell_regrown E1.out
     have f4 := cell_regrown G0.out
     have f5 := cell_regrown G1.out
     generalize cmpF y.f0 y.f1 x.f0 x.f1 = z at HCc HX
     by_cases hz : z < 0
     ·have hz1 : decide (0 ≤ z) = false := decide_eq_false (by omega)
      have HX := aM (show okFrom l0_0 l0_1 (l0_1.length - i) i = okFrom l0_0 l0_1 (l0_1.length - (i + 1)) (i + 1) by rw [HX.out, decide_eq_true hz, Bool.true_and])
      clear hz
      refine wp_region_quiet_below (by kernel_rfl) (by kernel_rfl) ?_
      repeat (go_big_quiet_step (first | exact HCf.out _ _ | exact HCc.out _ _))
      refine wpQuiet_nil ?_
      intro _ hw'
      obtain ⟨⟨dq, osq⟩, hw''⟩ := hw'
      subst hw''
      go_wp2
      go_roundg (l0_1.length - (i + 1))
      case measure => omega
      case rel => exact ⟨i + 1, by omega, by omega, by go_num, ⟨below_then B3.out B3.out.size (below_regrown _ _ _)⟩, ⟨by rw [← HO.out, HX.out]⟩⟩
     ·have hz1 : decide (0 ≤ z) = true := decide_eq_true (by omega)
      have HX := aM (show okFrom l0_0 l0_1 (l0_1.length - i) i = false by rw [HX.out, decide_eq_false hz, Bool.false_and])
      clear hz
      refine wp_region_quiet_below (by kernel_rfl) (by kernel_rfl) ?_
      repeat (go_big_quiet_step (first | exact HCf.out _ _ | exact HCc.out _ _))
      refine wpQuiet_nil ?_
      intro _ hw'
      obtain ⟨⟨dq, osq⟩, hw''⟩ := hw'
      subst hw''
      go_wp2
      go_ret
      exact ⟨by rw [HR.out, ← HO.out, HX.out]; rfl, below_then B2.out B2.out.size (below_regrown _ _ _)⟩
   ·have hd2 : decide (i < l0_1.length) = false := decide_eq_false hlt
    have hle : l0_1.length ≤ i := by omega
    have HX : Aside0 (vDb l0_0 l0_1 = true) := ⟨by rw [HR.out, ← HO.out, show l0_1.length - i = 0 by omega]; rfl⟩
    clear hlt
    go_wp2
    go_ret
    exact ⟨by rw [HX.out]; rfl, below_then BW1.out BW1.out.size BW.out⟩
 ·have hd : (vRels l0_0 && decide (l0_1.length ≤ 14)) = false := by
   rw [Bool.eq_false_iff, ne_eq, Bool.and_eq_true, decide_eq_true_iff]; exact h0
  have HR : Aside0 (vDb l0_0 l0_1 = false) := ⟨by unfold vDb; rw [hd]; rfl⟩
  clear h0
  cases hv : vRels l0_0 with
  | false =>
   rw [hv] at HA
   clear hv hd
   go_enter Try.func27, Try.ntmps27
   go_wp2_with (go_at_call 56; refine (HA.out _).mono ?_; rintro e w1 ⟨rfl, hb1⟩; have k0 := pw_cell_below hb1 F0.out; have k1 := pw_cell_below hb1 F1.out)
   go_ret
   exact ⟨by rw [HR.out]; rfl, below_then B1.out B1.out.size hb1⟩
  | true =>
   rw [hv] at HA hd
   have hn : ¬ l0_1.length ≤ 14 := by simpa using hd
   have hd : decide ((14 : Int) < (l0_1.length : Int)) = true := decide_eq_true (by omega)
   have hd' : decide (14 < l0_1.length) = true := decide_eq_true (by omega)
   clear hv hn
   go_enter Try.func27, Try.ntmps27
   go_wp2_with (go_at_call 56; refine (HA.out _).mono ?_; rintro e w1 ⟨rfl, hb1⟩; have k0 := pw_cell_below hb1 F0.out; have k1 := pw_cell_below hb1 F1.out)
   go_ret
   exact ⟨by rw [HR.out]; rfl, below_then B1.out B1.out.size hb1⟩
theorem vDI (l : List S74) (_hl : l.length ≤ 1048576) (fs : List S45) (_hf : fs.length ≤ 1048576) (_hg : ∀ y ∈ fs, y.f1.length ≤ 1048576) (k : Nat) (_hk : 6000000 < k) : impl_IsValidDatabase.f l fs = some (vDb l fs) := rfl
end


end Go.Proofs.Yteddnlklfjpgoaa.PFnExactSelectFacts
