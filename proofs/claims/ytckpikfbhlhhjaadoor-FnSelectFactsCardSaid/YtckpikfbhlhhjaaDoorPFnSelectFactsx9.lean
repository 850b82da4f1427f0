import Derived.Test.YtckpikfbhlhhjaaDoorPFnSelectFactsx0
import Derived.Test.YtckpikfbhlhhjaaDoorPFnSelectFactsx3
import Derived.Test.YtckpikfbhlhhjaaDoorPFnSelectFactsx8
namespace Go.Proofs.YtckpikfbhlhhjaaDoor.PFnSelectFacts
open Go.RowKit Go.Proofs.YtckpikfbhlhhjaaDoorW.PrintWords Go.Proofs.YtckpikfbhlhhjaaDoorW.PrintLast Go.Proofs.YtckpikfbhlhhjaaDoorW.PrintMore
attribute [local go_sem] max2_int min2_int max_two min_two max_three min_three max_four min_four
set_option linter.unusedVariables false
set_option linter.unusedSimpArgs false

/-! ### impl_IsValidDatabase: function 34 -/
section
open Base
theorem cmp1 (x y : Int) : cmp_Compare_int.f x y = some (if x < y then -1 else if x > y then 1 else 0) := by
 unfold cmp_Compare_int.f cmp_isNaN_int.f
 simp only [Option.bind_some, bne_self_eq_false, Bool.false_eq_true, if_false]
 by_cases h1 : x < y
 ·rw [if_pos h1, if_pos h1]
 ·rw [if_neg h1, if_neg h1]
  by_cases h2 : x > y
  ·rw [if_pos h2, if_pos h2]
  ·rw [if_neg h2, if_neg h2]
theorem cmpIl (a b : List Int) (ha : a.length ≤ 9223372036854775807) (hb : b.length ≤ 9223372036854775807) (d : Nat) : ∀ (i : Nat), i + d = a.length → ∀ k, d < k → slices_Compare_int_int.l0 k a b a (a.length : Int) i = some (cmpI (a.drop i) (b.drop i)) ∨ b.length < i := by
 induction d with
 | zero =>
  intro i hd k hk
  by_cases hbi : b.length < i
  ·exact .inr hbi
  left
  obtain ⟨k, rfl, hk⟩ := fuel hk
  rw [slices_Compare_int_int.l0, if_neg (by omega), cmpI_end (.inl (List.drop_of_length_le (by omega))), List.length_drop, List.length_drop]
  by_cases h1 : (a.length : Int) < (b.length : Int)
  ·rw [if_pos h1, if_pos (show a.length - i < b.length - i by omega)]
  ·rw [if_neg h1, if_neg (show ¬ a.length - i < b.length - i by omega), if_neg (show ¬ a.length - i > b.length - i by omega)]
 | succ d ih =>
  intro i hd k hk
  by_cases hbi : b.length < i
  ·exact .inr hbi
  left
  obtain ⟨k, rfl, hk⟩ := fuel hk
  rw [slices_Compare_int_int.l0, if_pos (by omega), if_pos (by omega), if_pos (by omega)]
  by_cases hlt : i < b.length
  ·have e1 : wrap64 ((i : Int) + 1) = ((i + 1 : Nat) : Int) := by rw [w64 (by omega) (by omega)]; omega
   have e2 : rd a (i : Int) = a[i] := by unfold rd; rw [Int.toNat_natCast, getD_lt a _ i (by omega)]
   have e3 : rd b (i : Int) = b[i] := by unfold rd; rw [Int.toNat_natCast, getD_lt b _ i (by omega)]
   rw [if_neg (by omega), if_pos (by omega), e1, e2, e3, cmp1]
   simp only [Option.bind_some]
   rw [List.drop_eq_getElem_cons (i := i) (l := a) (by omega), List.drop_eq_getElem_cons (i := i) (l := b) (by omega), cmpI]
   by_cases h1 : a[i] < b[i]
   ·simp [h1]
   ·by_cases h2 : a[i] > b[i]
    ·simp [h1, h2]
    ·rw [if_neg h1, if_neg h2, if_pos rfl, if_neg h1, if_neg h2]
     rcases ih (i + 1) (by omega) k (by omega) with h | h
     ·exact h
     ·omega
  ·rw [if_pos (by omega), cmpI_end (.inr (List.drop_of_length_le (by omega))), List.length_drop, List.length_drop, if_neg (by omega), if_pos (by omega)]
theorem cmpIs (a b : List Int) (ha : a.length ≤ 9223372036854775807) (hb : b.length ≤ 9223372036854775807) (k : Nat) (hk : a.length < k) : slices_Compare_int_int.f k a b = some (cmpI a b) := by
 rcases cmpIl a b ha hb a.length 0 (by omega) k hk with h | h
 ·exact h
 ·omega
theorem cmpFI (x : Int) (a : List Int) (y : Int) (b : List Int) (ha : a.length ≤ 9223372036854775807) (hb : b.length ≤ 9223372036854775807) (k : Nat) (hk : a.length < k) : impl_CompareFacts.f k x a y b = some (cmpF x a y b) := by
 unfold impl_CompareFacts.f cmpF
 by_cases h0 : x = y
 ·subst h0
  rw [if_pos rfl, cmpIs a b ha hb k hk, if_neg (by omega), if_neg (by omega)]
  rfl
 ·rw [if_neg h0, impl_compare.f]
  by_cases h1 : x < y
  ·rw [if_pos h1, if_pos h1]; rfl
  ·rw [if_neg h1, if_neg h1, if_pos (by omega), if_pos (by omega)]; rfl
end

section
open Base
/-- A fact of these relations: its relation is one of them, it has vs many values vs that one asks, each a value. -/
def fits (l : List S68) (a : Int) (vs : List Int) : Bool := decide (0 ≤ a ∧ a < (l.length : Int) ∧ (vs.length : Int) = (rd_T68 l a).f1) && !vs.any noVal
def vFact (l : List S68) (a : Int) (vs : List Int) : Bool := vRels l && fits l a vs
theorem fitI (l : List S68) (hl : l.length ≤ 9223372036854775807) (a : Int) (vs : List Int) : impl_isFact.f l a vs = some (fits l a vs) := by
 unfold impl_isFact.f impl_areValues.f fits
 rw [inI, Option.bind_some, Option.bind_some, w64 (by omega) (by omega)]
 by_cases h1 : 0 ≤ a ∧ a < (l.length : Int)
 ·rw [if_pos (by unfold inB; simpa using (by omega : 0 ≤ a ∧ a ≤ (l.length : Int) - 1)), if_pos h1.1, if_pos h1.2]
  by_cases h2 : (vs.length : Int) = (rd_T68 l a).f1
  ·rw [if_pos h2, decide_eq_true (by exact ⟨h1.1, h1.2, h2⟩)]
   simp
  ·rw [if_neg h2, decide_eq_false (by intro h; exact h2 h.2.2)]
   simp
 ·rw [if_neg (by unfold inB; simpa using (by omega : 0 ≤ a → ¬ a ≤ (l.length : Int) - 1)), decide_eq_false (by intro h; exact h1 ⟨h.1, h.2.1⟩)]
  simp
/-- Facts i, i + 1, .. (d of them): each fits, each behind its forerunner. -/
def okFrom (l : List S68) (fs : List S39) : Nat → Nat → Bool
 | 0, _ => true
 | d + 1, i => fits l (fs.getD i z39).f0 (fs.getD i z39).f1 && (decide (i = 0) || decide (cmpF (fs.getD (i - 1) z39).f0 (fs.getD (i - 1) z39).f1 (fs.getD i z39).f0 (fs.getD i z39).f1 < 0)) && okFrom l fs d (i + 1)
def vDb (l : List S68) (fs : List S39) : Bool := vRels l && decide (fs.length ≤ 14) && okFrom l fs fs.length 0
end

section
open Base
def impl_IsValidDatabase.f (l0_0 : List S68) (l0_1 : List S39) : Option Bool := some (vDb l0_0 l0_1)
set_option maxHeartbeats 4000000 in
set_option maxRecDepth 100000 in
theorem impl_IsValidDatabase.calls (A0_0 : Option Addr) (c0_0 : Nat) (l0_0 : List S68) (A0_1 : Option Addr) (c0_1 : Nat) (l0_1 : List S39) (r : Bool) (w : World) (hr0_0 : Kd.C k68 w A0_0 l0_0.length l0_0) (hc0_0 : l0_0.length ≤ c0_0) (hr0_1 : Kd.C k39 w A0_1 l0_1.length l0_1) (hc0_1 : l0_1.length ≤ c0_1) (h : impl_IsValidDatabase.f l0_0 l0_1 = some r) :
  Calls Tryd.prog 34 #[.agg #[.slice A0_0 l0_0.length c0_0, .slice A0_1 l0_1.length c0_1]] w fun e w' => e = .returned (.bool r) ∧ Below w.heap.size w w' := by
 obtain rfl := Option.some.inj h
 have hlr : l0_0.length ≤ 9223372036854775807 := hr0_0.2.1
 have hlf : l0_1.length ≤ 9223372036854775807 := hr0_1.2.1
 have HRR := aM hr0_0
 have HRF := aM hr0_1
 have HA : Aside0 (∀ o, Calls Tryd.prog 76 #[.slice A0_0 l0_0.length c0_0] (w.alloc o) fun e w' => e = .returned (.bool (vRels l0_0)) ∧ Below (w.alloc o).heap.size (w.alloc o) w') :=
  ⟨fun o => impl_AreValidRelations.calls A0_0 c0_0 l0_0 _ _ (Kd.C_below hr0_0 (below_alloc (Below.refl _ _) _)) hc0_0 rfl⟩
 have F0 : Aside0 ((w.alloc (.cells #[.slice A0_0 l0_0.length c0_0, .slice A0_1 l0_1.length c0_1] 31)).cell? ⟨w.heap.size, 0, none⟩ = some (.slice A0_0 l0_0.length c0_0)) := ⟨(blk_cell (heap_alloc_new w _) 0).trans rfl⟩
 have F1 : Aside0 ((w.alloc (.cells #[.slice A0_0 l0_0.length c0_0, .slice A0_1 l0_1.length c0_1] 31)).cell? ⟨w.heap.size, 1, none⟩ = some (.slice A0_1 l0_1.length c0_1)) := ⟨(blk_cell (heap_alloc_new w _) 1).trans rfl⟩
 have B1 : Aside0 (Below w.heap.size w (w.alloc (.cells #[.slice A0_0 l0_0.length c0_0, .slice A0_1 l0_1.length c0_1] 31))) := ⟨below_alloc (Below.refl _ _) _⟩
 clear hr0_0 hr0_1 h
 by_cases h0 : vRels l0_0 = true ∧ l0_1.length ≤ 14
 ·obtain ⟨hv, hn⟩ := h0
  rw [hv] at HA
  have hd : decide ((14 : Int) < (l0_1.length : Int)) = false := decide_eq_false (by omega)
  have hd' : decide (14 < l0_1.length) = false := decide_eq_false (by omega)
  have HR : Aside0 (vDb l0_0 l0_1 = okFrom l0_0 l0_1 l0_1.length 0) := ⟨by unfold vDb; rw [hv, decide_eq_true hn]; rfl⟩
  clear hv hn
  go_enter Tryd.func34, Tryd.ntmps34
  go_wp2_with (go_at_call 76; refine (HA.out _).mono ?_; rintro e w1 ⟨rfl, hb1⟩; have k0 := pw_cell_below hb1 F0.out; have k1 := pw_cell_below hb1 F1.out; have K0 := aM k0; have K1 := aM k1; have BW1 := aM (below_then B1.out B1.out.size hb1))
  go_loopg [18] l0_1.length (fun gg s18 wr => ∃ i : Nat, i ≤ l0_1.length ∧ l0_1.length - i ≤ gg ∧ s18 = .int .i64 i ∧ Aside0 (Below w1.heap.size w1 wr) ∧ Aside0 (okFrom l0_0 l0_1 (l0_1.length - i) i = okFrom l0_0 l0_1 l0_1.length 0))
  case atStart => exact ⟨0, Nat.zero_le _, by omega, rfl, ⟨Below.refl _ _⟩, ⟨rfl⟩⟩
  case round =>
   obtain ⟨i, hi, hg, rfl, BW, HO⟩ := hrel
   by_cases hlt : i < l0_1.length
   ·have hltz : (i : Int) < (l0_1.length : Int) := by omega
    have BB : Aside0 (Below w.heap.size w wr) := ⟨below_then BW1.out BW1.out.size BW.out⟩
    obtain ⟨ad, A2, c2, e, h0, h1, h2, h3⟩ := at_T39 (Kd.C_below HRF.out BB.out) (i : Int) (by omega) hltz
    rw [Int.toNat_natCast] at h0 h1
    cases e
    have hrd : rd_T39 l0_1 (i : Int) = l0_1.getD i z39 := by unfold rd_T39; rw [Int.toNat_natCast]
    rw [hrd] at h0 h1 h2 h3
    clear hrd
    have HX : Aside0 (okFrom l0_0 l0_1 (l0_1.length - i) i = (fits l0_0 (l0_1.getD i z39).f0 (l0_1.getD i z39).f1 && (decide (i = 0) || decide (cmpF (l0_1.getD (i - 1) z39).f0 (l0_1.getD (i - 1) z39).f1 (l0_1.getD i z39).f0 (l0_1.getD i z39).f1 < 0)) && okFrom l0_0 l0_1 (l0_1.length - (i + 1)) (i + 1))) := ⟨by
     rw [show l0_1.length - i = (l0_1.length - (i + 1)) + 1 by omega]; rfl⟩
    generalize l0_1.getD i z39 = x at h0 h1 h2 h3 HX
    have B2 : Aside0 (Below w.heap.size w (wr.alloc (.cells #[.int .i64 x.f0, .slice A2 x.f1.length c2] 39))) := ⟨below_alloc BB.out _⟩
    have B3 : Aside0 (Below w1.heap.size w1 (wr.alloc (.cells #[.int .i64 x.f0, .slice A2 x.f1.length c2] 39))) := ⟨below_alloc BW.out _⟩
    have D0 : Aside0 ((wr.alloc (.cells #[.int .i64 x.f0, .slice A2 x.f1.length c2] 39)).cell? ⟨w.heap.size, 0, none⟩ = some (.slice A0_0 l0_0.length c0_0)) := ⟨pw_cell_below B3.out K0.out⟩
    have D1 : Aside0 ((wr.alloc (.cells #[.int .i64 x.f0, .slice A2 x.f1.length c2] 39)).cell? ⟨w.heap.size, 1, none⟩ = some (.slice (some ad) l0_1.length c0_1)) := ⟨pw_cell_below B3.out K1.out⟩
    have E0 : Aside0 ((wr.alloc (.cells #[.int .i64 x.f0, .slice A2 x.f1.length c2] 39)).cell? ⟨wr.heap.size, 0, none⟩ = some (.int .i64 x.f0)) := ⟨(blk_cell (heap_alloc_new wr _) 0).trans rfl⟩
    have E1 : Aside0 ((wr.alloc (.cells #[.int .i64 x.f0, .slice A2 x.f1.length c2] 39)).cell? ⟨wr.heap.size, 1, none⟩ = some (.slice A2 x.f1.length c2)) := ⟨(blk_cell (heap_alloc_new wr _) 1).trans rfl⟩
    have CX : Aside0 (Kd.C (Kd.int .i64) (wr.alloc (.cells #[.int .i64 x.f0, .slice A2 x.f1.length c2] 39)) A2 x.f1.length x.f1) := ⟨Kd.C_below h3 (below_alloc (Below.refl _ _) _)⟩
    have HCf : Aside0 (∀ d os, Calls Tryd.prog 77 #[.slice A0_0 l0_0.length c0_0, .agg #[.int .i64 x.f0, .slice A2 x.f1.length c2]] (Go.Sort.grow (redrawn (wr.alloc (.cells #[.int .i64 x.f0, .slice A2 x.f1.length c2] 39)) d) os) fun e w'' => e = .returned (.bool (fits l0_0 x.f0 x.f1)) ∧ ∃ p : Regrown, w'' = Go.Sort.grow (redrawn (wr.alloc (.cells #[.int .i64 x.f0, .slice A2 x.f1.length c2] 39)) p.d) p.os) :=
     ⟨fun d os => Calls.regrown_of (impl_isFact.calls A0_0 c0_0 l0_0 x.f0 A2 c2 x.f1 _ _ (Kd.C_below HRR.out (below_then B2.out B2.out.size (below_regrown _ d os))) hc0_0 (Kd.C_below CX.out (below_regrown _ d os)) h2 (fitI l0_0 hlr x.f0 x.f1))⟩
    have HL : Aside0 (x.f1.length ≤ 9223372036854775807) := ⟨h3.2.1⟩
    have HL2 := aM h2
    clear h3 h2
    by_cases hi0 : i = 0 ∨ fits l0_0 x.f0 x.f1 = false
    ·have hq0 : fits l0_0 x.f0 x.f1 = true → decide (0 < i) = false ∧ decide ((0 : Int) < (i : Int)) = false := fun hx => by
      rcases hi0 with h | h
      ·simp [h]
      ·rw [hx] at h; cases h
     have hX : okFrom l0_0 l0_1 (l0_1.length - i) i = (fits l0_0 x.f0 x.f1 && okFrom l0_0 l0_1 (l0_1.length - (i + 1)) (i + 1)) := by
      rw [HX.out]
      rcases hi0 with h | h
      ·simp [h]
      ·simp [h]
     have HX := aM hX
     clear hX hi0
     cases hv : fits l0_0 x.f0 x.f1 with
     | false =>
      rw [hv] at HCf
      have HV := aM hv
      clear hv hq0
      go_wp2_with fail
      clear h0 h1
      generalize wr.alloc (.cells #[.int .i64 x.f0, .slice A2 x.f1.length c2] 39) = w2 at D0 D1 E0 E1 B2 B3 CX HCf ⊢
      generalize wr.heap.size = gb at E0 E1 ⊢
      have f0 := cell_regrown D0.out
      have f1 := cell_regrown D1.out
      have f2 := cell_regrown E0.out
      have f3 := cell_regrown E1.out
      refine wp_region_quiet_below (by kernel_rfl) (by kernel_rfl) ?_
      repeat (go_big_quiet_step (exact HCf.out _ _))
      refine wpQuiet_nil ?_
      intro _ hw'
      obtain ⟨⟨dq, osq⟩, hw''⟩ := hw'
      subst hw''
      go_wp2
      go_ret
      exact ⟨by rw [HR.out, ← HO.out, HX.out, HV.out]; rfl, below_then B2.out B2.out.size (below_regrown _ _ _)⟩
     | true =>
      obtain ⟨hq1, hq2⟩ := hq0 hv
      rw [hv] at HCf
      have HV := aM hv
      clear hv hq0
      go_wp2_with fail
      clear h0 h1
      generalize wr.alloc (.cells #[.int .i64 x.f0, .slice A2 x.f1.length c2] 39) = w2 at D0 D1 E0 E1 B2 B3 CX HCf ⊢
      generalize wr.heap.size = gb at E0 E1 ⊢
      have f0 := cell_regrown D0.out
      have f1 := cell_regrown D1.out
      have f2 := cell_regrown E0.out
      have f3 := cell_regrown E1.out
      refine wp_region_quiet_below (by kernel_rfl) (by kernel_rfl) ?_
      repeat (go_big_quiet_step (exact HCf.out _ _))
      refine wpQuiet_nil ?_
      intro _ hw'
      obtain ⟨⟨dq, osq⟩, hw''⟩ := hw'
      subst hw''
      go_wp2
      go_roundg (l0_1.length - (i + 1))
      case measure => omega
      case rel => exact ⟨i + 1, by omega, by omega, by go_num, ⟨below_then B3.out B3.out.size (below_regrown _ _ _)⟩, ⟨by rw [← HO.out, HX.out, HV.out]; rfl⟩⟩
    ·have hi1 : i ≠ 0 := fun h => hi0 (.inl h)
     have hv : fits l0_0 x.f0 x.f1 = true := by
      cases h : fits l0_0 x.f0 x.f1 with
      | true => rfl
      | false => exact absurd (.inr h) hi0
     clear hi0
     obtain ⟨ad', A3, c3, e', g0, g1, g2, g3⟩ := at_T39 (Kd.C_below HRF.out BB.out) ((i - 1 : Nat) : Int) (by omega) (by omega)
     cases e'
     rw [Int.toNat_natCast] at g0 g1
     have hrd : rd_T39 l0_1 ((i - 1 : Nat) : Int) = l0_1.getD (i - 1) z39 := by unfold rd_T39; rw [Int.toNat_natCast]
     rw [hrd] at g0 g1 g2 g3
     clear hrd
     have hX : okFrom l0_0 l0_1 (l0_1.length - i) i = (decide (cmpF (l0_1.getD (i - 1) z39).f0 (l0_1.getD (i - 1) z39).f1 x.f0 x.f1 < 0) && okFrom l0_0 l0_1 (l0_1.length - (i + 1)) (i + 1)) := by
      rw [HX.out, hv]; simp [hi1]
     have HX := aM hX
     rw [hv] at HCf
     clear hX hv
     generalize l0_1.getD (i - 1) z39 = y at g0 g1 g2 g3 HX
     have G0 : Aside0 ((wr.alloc (.cells #[.int .i64 x.f0, .slice A2 x.f1.length c2] 39)).cell? (ad.add ((i - 1) * 2)) = some (.int .i64 y.f0)) := ⟨(World.cell?_alloc_lt _ _ _ (World.block_lt_of_cell? wr _ g0)).trans g0⟩
     have G1 : Aside0 ((wr.alloc (.cells #[.int .i64 x.f0, .slice A2 x.f1.length c2] 39)).cell? ⟨(ad.add ((i - 1) * 2)).block, (ad.add ((i - 1) * 2)).off + 1, none⟩ = some (.slice A3 y.f1.length c3)) := ⟨(World.cell?_alloc_lt _ _ _ (World.block_lt_of_cell? wr _ g1)).trans g1⟩
     have HCc : Aside0 (∀ d os, Calls Tryd.prog 21 #[.agg #[.int .i64 y.f0, .slice A3 y.f1.length c3], .agg #[.int .i64 x.f0, .slice A2 x.f1.length c2]] (Go.Sort.grow (redrawn (wr.alloc (.cells #[.int .i64 x.f0, .slice A2 x.f1.length c2] 39)) d) os) fun e w'' => e = .returned (.int .i64 (cmpF y.f0 y.f1 x.f0 x.f1)) ∧ ∃ p : Regrown, w'' = Go.Sort.grow (redrawn (wr.alloc (.cells #[.int .i64 x.f0, .slice A2 x.f1.length c2] 39)) p.d) p.os) :=
      ⟨fun d os => Calls.regrown_of (impl_CompareFacts.calls (y.f1.length + 1) y.f0 A3 c3 y.f1 x.f0 A2 c2 x.f1 _ _ (Kd.C_below (Kd.C_below g3 (below_alloc (Below.refl _ _) _)) (below_regrown _ d os)) g2 (Kd.C_below CX.out (below_regrown _ d os)) HL2.out (cmpFI y.f0 y.f1 x.f0 x.f1 g3.2.1 HL.out _ (Nat.lt_succ_self _)))⟩
     clear g0 g1 g2 g3
     have e3 : IntKind.i64.wrap ((i : Int) - 1) = ((i - 1 : Nat) : Int) := by rw [IntKind.wrap_i64]; omega
     have hq1 : decide (0 < i) = true := by simp; omega
     have hq2 : decide ((0 : Int) < (i : Int)) = true := by simp; omega
     have hm0 : (0 : Int) ≤ ((i - 1 : Nat) : Int) := by omega
     have hm1 : ((i - 1 : Nat) : Int) < (l0_1.length : Int) := by omega
     go_wp2_with fail
     clear h0 h1
     generalize wr.alloc (.cells #[.int .i64 x.f0, .slice A2 x.f1.length c2] 39) = w2 at D0 D1 E0 E1 B2 B3 CX HCf G0 G1 HCc ⊢
     generalize wr.heap.size = gb at E0 E1 ⊢
     have f0 := cell_regrown D0.out
     have f1 := cell_regrown D1.out
     have f2 := cell_regrown E0.out
     have f3 := cell_regrown E1.out
     have f4 := cell_regrown G0.out
     have f5 := cell_regrown G1.out
     generalize cmpF y.f0 y.f1 x.f0 x.f1 = z at HCc HX
     by_cases hz : z < 0
     ·have hz1 : decide (0 ≤ z) = false := decide_eq_false (by omega)
      have HX := aM (show okFrom l0_0 l0_1 (l0_1.length - i) i = okFrom l0_0 l0_1 (l0_1.length - (i + 1)) (i + 1) by rw [HX.out, decide_eq_true hz, Bool.true_and])
      clear hz
      refine wp_region_quiet_below (by kernel_rfl) (by kernel_rfl) ?_
      repeat (go_big_quiet_step (first | exact HCf.out _ _ | exact HCc.out _ _))
      refine wpQuiet_nil ?_
      intro _ hw'
      obtain ⟨⟨dq, osq⟩, hw''⟩ := hw'
      subst hw''
      go_wp2
      go_roundg (l0_1.length - (i + 1))
      case measure => omega
      case rel => exact ⟨i + 1, by omega, by omega, by go_num, ⟨below_then B3.out B3.out.size (below_regrown _ _ _)⟩, ⟨by rw [← HO.out, HX.out]⟩⟩
     ·have hz1 : decide (0 ≤ z) = true := decide_eq_true (by omega)
      have HX := aM (show okFrom l0_0 l0_1 (l0_1.length - i) i = false by rw [HX.out, decide_eq_false hz, Bool.false_and])
      clear hz
      refine wp_region_quiet_below (by kernel_rfl) (by kernel_rfl) ?_
      repeat (go_big_quiet_step (first | exact HCf.out _ _ | exact HCc.out _ _))
      refine wpQuiet_nil ?_
      intro _ hw'
      obtain ⟨⟨dq, osq⟩, hw''⟩ := hw'
      subst hw''
      go_wp2
      go_ret
      exact ⟨by rw [HR.out, ← HO.out, HX.out]; rfl, below_then B2.out B2.out.size (below_regrown _ _ _)⟩
   ·have hd2 : decide (i < l0_1.length) = false := decide_eq_false hlt
    have hle : l0_1.length ≤ i := by omega
    have HX : Aside0 (vDb l0_0 l0_1 = true) := ⟨by rw [HR.out, ← HO.out, show l0_1.length - i = 0 by omega]; rfl⟩
    clear hlt
    go_wp2
    go_ret
    exact ⟨by rw [HX.out]; rfl, below_then BW1.out BW1.out.size BW.out⟩
 ·have hd : (vRels l0_0 && decide (l0_1.length ≤ 14)) = false := by
   rw [Bool.eq_false_iff, ne_eq, Bool.and_eq_true, decide_eq_true_iff]; exact h0
  have HR : Aside0 (vDb l0_0 l0_1 = false) := ⟨by unfold vDb; rw [hd]; rfl⟩
  clear h0
  cases hv : vRels l0_0 with
  | false =>
   rw [hv] at HA
   clear hv hd
   go_enter Tryd.func34, Tryd.ntmps34
   go_wp2_with (go_at_call 76; refine (HA.out _).mono ?_; rintro e w1 ⟨rfl, hb1⟩; have k0 := pw_cell_below hb1 F0.out; have k1 := pw_cell_below hb1 F1.out)
   go_ret
   exact ⟨by rw [HR.out]; rfl, below_then B1.out B1.out.size hb1⟩
  | true =>
   rw [hv] at HA hd
   have hn : ¬ l0_1.length ≤ 14 := by simpa using hd
   have hd : decide ((14 : Int) < (l0_1.length : Int)) = true := decide_eq_true (by omega)
   have hd' : decide (14 < l0_1.length) = true := decide_eq_true (by omega)
   clear hv hn
   go_enter Tryd.func34, Tryd.ntmps34
   go_wp2_with (go_at_call 76; refine (HA.out _).mono ?_; rintro e w1 ⟨rfl, hb1⟩; have k0 := pw_cell_below hb1 F0.out; have k1 := pw_cell_below hb1 F1.out)
   go_ret
   exact ⟨by rw [HR.out]; rfl, below_then B1.out B1.out.size hb1⟩
theorem vDI (l : List S68) (_hl : l.length ≤ 1048576) (fs : List S39) (_hf : fs.length ≤ 1048576) (_hg : ∀ y ∈ fs, y.f1.length ≤ 1048576) (k : Nat) (_hk : 6000000 < k) : impl_IsValidDatabase.f l fs = some (vDb l fs) := rfl
end


/-! ### impl_areIndices: function 73 -/
def impl_areIndices.l0 : Nat → List Int → Int → List Int → Int → Int → Option (Bool)
 | 0, _, _, _, _, _ => none
 | k + 1, x0, x1, x7, x8, x9 => if x9 < x8 then (if 0 ≤ x9 then (if x9 < (x7.length : Int) then ((impl_within.f (rd x7 x9) 0 (wrap64 (x1 - 1))).bind fun t442 => (if t442 = true then (if x9 > 0 then (if 0 ≤ (wrap64 (x9 - 1)) then (if (wrap64 (x9 - 1)) < (x0.length : Int) then (if (rd x0 (wrap64 (x9 - 1))) ≥ (rd x7 x9) then (some false) else (impl_areIndices.l0 k x0 x1 x7 x8 (wrap64 (x9 + 1)))) else (none)) else (none)) else (impl_areIndices.l0 k x0 x1 x7 x8 (wrap64 (x9 + 1)))) else (some false))) else (none)) else (none)) else (some true)
def impl_areIndices.f (k : Nat) (l0 : List Int) (a1 : Int) : Option (Bool) := impl_areIndices.l0 k l0 a1 l0 (l0.length : Int) 0
set_option maxHeartbeats 8000000 in
set_option maxRecDepth 100000 in
theorem impl_areIndices.calls (k : Nat) (A0 : Option Addr) (c0 : Nat) (l0 : List Int) (a1 : Int) (r : Bool) (w : World) (hr0 : Kd.C (Kd.int .i64) w A0 l0.length l0) (hc0 : l0.length ≤ c0) (h : impl_areIndices.f k l0 a1 = some r) :
  Calls Tryd.prog 73 #[.slice A0 l0.length c0, .int .i64 a1] w fun e w' => e = .returned (.bool r) ∧ Drawn0 w w' := by
 unfold impl_areIndices.f at h
 ·go_enter Tryd.func73, Tryd.ntmps73
  go_wp2_with (first | (go_at_call 100; refine (impl_within.calls _ _ _ ?_ _ ?h).mono ?_; (case h => exact zA); rintro e w1 ⟨rfl, hb⟩; have hd := hb; replace hb := hb.below; replace hb := aM hb; have HB : Below w.heap.size w w1 := zB))
  go_loopg [9] k (fun kq v9 w' => ∃ (x9_0 : Int), v9 = .int .i64 x9_0 ∧ impl_areIndices.l0 kq l0 a1 l0 (l0.length : Int) x9_0 = some r ∧ Drawn0 w w')
  case atStart => exact ⟨_, zR, zA, zD⟩
  case round =>
   clear h
   obtain ⟨x9_0, rfl, h, hb⟩ := hrel
   have hd := hb
   replace hb := hb.below
   replace hb := aM hb
   have HB : Below w.heap.size w wr := zB
   rcases gk with _ | kk0
   exact absurd h (by simp [impl_areIndices.l0])
   simp only [impl_areIndices.l0] at h
   replace h := il h; rcases h with ⟨c1, c1a, h⟩ | ⟨c1, c1a, h⟩
   replace h := ie h; rcases h with ⟨c2, c2a, h⟩ | ⟨c2, c2a, h⟩
   replace h := il h; rcases h with ⟨c3, c3a, h⟩ | ⟨c3, c3a, h⟩
   replace h := bs h; obtain ⟨t442, B4, h⟩ := h
   replace h := ib h; rcases h with ⟨rfl, h⟩ | ⟨rfl, h⟩
   replace h := ig h; rcases h with ⟨c6, c6a, h⟩ | ⟨c6, c6a, h⟩
   replace h := ie h; rcases h with ⟨c7, c7a, h⟩ | ⟨c7, c7a, h⟩
   replace h := il h; rcases h with ⟨c8, c8a, h⟩ | ⟨c8, c8a, h⟩
   replace h := ih h; rcases h with ⟨c9, c9a, h⟩ | ⟨c9, c9a, h⟩
   obtain rfl := si h
   obtain ⟨ad441, e441, hx441_0⟩ := Kd.at_int hr0 (x9_0 : Int) aD aD
   have p441 := eq_true (aD : 0 ≤ (x9_0 : Int))
   have q441 := eq_true (aD : x9_0 < (l0.length : Int))
   cases e441
   replace hx441_0 := qa hx441_0
   obtain ⟨ad443, e443, hx443_0⟩ := Kd.at_int hr0 ((wrap64 (x9_0 - 1)) : Int) aD aD
   have p443 := eq_true (aD : 0 ≤ ((wrap64 (x9_0 - 1)) : Int))
   have q443 := eq_true (aD : (wrap64 (x9_0 - 1)) < (l0.length : Int))
   cases e443
   replace hx443_0 := qa hx443_0
   rotate_left
   obtain ⟨kf, hkf⟩ : ∃ kf, kf = kk0 := ⟨_, rfl⟩; rw [← hkf] at h
   obtain ⟨ad441, e441, hx441_0⟩ := Kd.at_int hr0 (x9_0 : Int) aD aD
   have p441 := eq_true (aD : 0 ≤ (x9_0 : Int))
   have q441 := eq_true (aD : x9_0 < (l0.length : Int))
   cases e441
   replace hx441_0 := qa hx441_0
   obtain ⟨ad443, e443, hx443_0⟩ := Kd.at_int hr0 ((wrap64 (x9_0 - 1)) : Int) aD aD
   have p443 := eq_true (aD : 0 ≤ ((wrap64 (x9_0 - 1)) : Int))
   have q443 := eq_true (aD : (wrap64 (x9_0 - 1)) < (l0.length : Int))
   cases e443
   replace hx443_0 := qa hx443_0
   rotate_left
   exact absurd h (by simp)
   exact absurd h (by simp)
   obtain ⟨kf, hkf⟩ : ∃ kf, kf = kk0 := ⟨_, rfl⟩; rw [← hkf] at h
   obtain ⟨ad441, e441, hx441_0⟩ := Kd.at_int hr0 (x9_0 : Int) aD aD
   have p441 := eq_true (aD : 0 ≤ (x9_0 : Int))
   have q441 := eq_true (aD : x9_0 < (l0.length : Int))
   cases e441
   replace hx441_0 := qa hx441_0
   rotate_left
   obtain rfl := si h
   obtain ⟨ad441, e441, hx441_0⟩ := Kd.at_int hr0 (x9_0 : Int) aD aD
   have p441 := eq_true (aD : 0 ≤ (x9_0 : Int))
   have q441 := eq_true (aD : x9_0 < (l0.length : Int))
   cases e441
   replace hx441_0 := qa hx441_0
   rotate_left
   exact absurd h (by simp)
   exact absurd h (by simp)
   obtain rfl := si h
   rotate_left
   all_goals (go_wp2_with (first | (go_at_call 100; refine (impl_within.calls _ _ _ ?_ _ ?h).mono ?_; (case h => exact zA); rintro e w1 ⟨rfl, hb⟩; have hd := hb; replace hb := hb.below; replace hb := aM hb; have HB : Below w.heap.size w w1 := zB)); first | (go_ret; exact zE zD) | (go_roundg kf; (case measure => omega); (case rel => exact ⟨_, zR, zA, zD⟩)))

/-! ### impl_copyDatabase: function 74 -/
def impl_copyDatabase.l0 : Nat → List (S39) → Int → Int → List (S68) → List (S39) → Option ((List (S68)) × (List (S39)))
 | 0, _, _, _, _, _ => none
 | k + 1, x13, x14, x15, x456000, x456001 => if x15 < x14 then (if 0 ≤ x15 then (if x15 < (x13.length : Int) then ((some (([] : List Int) : List Int)).bind fun y458 => (if y458.length + ((rd_T39 x13 x15).f1).length < 17592186044416 then (if x456001.length < 4398046511104 then (impl_copyDatabase.l0 k x13 x14 (wrap64 (x15 + 1)) x456000 (x456001 ++ [(⟨(rd_T39 x13 x15).f0, (y458 ++ ((rd_T39 x13 x15).f1))⟩ : S39)])) else (none)) else (none))) else (none)) else (none)) else (some (x456000, x456001))
def impl_copyDatabase.f (k : Nat) (l0_0 : List (S68)) (l0_1 : List (S39)) : Option ((List (S68)) × (List (S39))) := (some (([] : List (S68)) : List (S68))).bind fun y446 => (if y446.length + l0_0.length < 4398046511104 then (impl_copyDatabase.l0 k l0_1 (l0_1.length : Int) 0 (y446 ++ l0_0) (([] : List (S39)))) else (none))
def impl_copyDatabase.T5 : Bool × List (List Nat × List Nat) := (true, [([], []), ([0], [0]), ([], []), ([2], [2]), ([], []), ([], []), ([5], [5]), ([4, 6], [4, 6]), ([3, 7], [3, 7]), ([8], [8]), ([1, 9, 7], [1, 9]), ([0, 1, 2, 3, 4, 5, 6, 7, 8, 9, 10], []), ([11, 10, 10, 0, 1, 2, 3, 4, 5, 6, 7, 8, 9, 10], [10, 11])])
def impl_copyDatabase.B5 : List Nat := [0, 1, 0, 4, 0, 0, 32, 112, 252, 508, 1023, 2047, 4095]
theorem impl_copyDatabase.tab5 : rtab .any (opsOf Tryd.f74 5) = impl_copyDatabase.T5 := by kernel_rfl
theorem impl_copyDatabase.bits5 : waitsOk impl_copyDatabase.T5.2 impl_copyDatabase.B5 = true := by kernel_rfl
set_option maxHeartbeats 8000000 in
set_option maxRecDepth 100000 in
theorem impl_copyDatabase.calls (k : Nat) (A0_0 : Option Addr) (c0_0 : Nat) (l0_0 : List (S68)) (A0_1 : Option Addr) (c0_1 : Nat) (l0_1 : List (S39)) (r1 : List (S68)) (r2 : List (S39)) (w : World) (hr0_0 : Kd.C k68 w A0_0 l0_0.length l0_0) (hc0_0 : l0_0.length ≤ c0_0) (hr0_1 : Kd.C k39 w A0_1 l0_1.length l0_1) (hc0_1 : l0_1.length ≤ c0_1) (h : impl_copyDatabase.f k l0_0 l0_1 = some (r1, r2)) :
  Calls Tryd.prog 74 #[.agg #[.slice A0_0 l0_0.length c0_0, .slice A0_1 l0_1.length c0_1]] w fun e w' => ∃ v0_ v1_ : Value, e = .returned (.agg #[v0_, v1_]) ∧ Kd.R k68 68 w' w.heap.size (fun _ => True) v0_ r1 ∧ Kd.S k39 39 w' w.heap.size (fun _ => True) v1_ r2 ∧ Below w.heap.size w w' := by
 have hu31 := Tryd.underlying31
 have hu39 := Tryd.underlying39
 have HR0_0 := aM hr0_0
 have HC0_0 := aM hc0_0
 clear hr0_0 hc0_0
 have HR0_1 := aM hr0_1
 have HC0_1 := aM hc0_1
 clear hr0_1 hc0_1
 have HB := aM (Below.refl w.heap.size w)
 have H : ((some (([] : List (S68)) : List (S68))).bind fun y446 => (if y446.length + l0_0.length < 4398046511104 then (impl_copyDatabase.l0 k l0_1 (l0_1.length : Int) 0 (y446 ++ l0_0) (([] : List (S39)))) else (none))) = some (r1, r2) := h
 clear h
 obtain ⟨y446, hy446⟩ : ∃ y_ : List (S68), y_ = (([] : List (S68))) := ⟨_, rfl⟩
 first | replace H := bY hy446 H | rw [← hy446] at H
 have Ny446 := aM hy446
 clear hy446
 by_cases c2 : y446.length + l0_0.length < 4398046511104
 ·rw [if_pos c2] at H
  have LMc2 := aM c2
  clear c2
  obtain ⟨y449, hy449⟩ : ∃ y_ : List (S68), y_ = (y446 ++ l0_0) := ⟨_, rfl⟩
  first | replace H := bY hy449 H | rw [← hy449] at H
  have Ny449 := aM hy449
  clear hy449
  obtain ⟨y452, hy452⟩ : ∃ y_ : List (S39), y_ = (([] : List (S39))) := ⟨_, rfl⟩
  first | replace H := bY hy452 H | rw [← hy452] at H
  have Ny452 := aM hy452
  clear hy452
  have H' := aM H
  clear H
  go_enter Tryd.func74, Tryd.ntmps74
  go_wp2_with (first | ((with_reducible refine gate_dst (N := 1) rfl ?_); refine bE 1 (cs := #[.slice A0_0 l0_0.length c0_0, .slice A0_1 l0_1.length c0_1]) (t := 31) ?_; intro gb444 hg w3 hbox hb; have BK444 := aM (hbox); have GW444 := aM ((by rw [hg]; exact (below_size aB) : w.heap.size ≤ gb444)); have GE444 := aM ((by rw [hg]; exact (below_size aB) : w.heap.size ≤ gb444)); replace HB := aM (below_step aB hb); clear hb hbox hg) | ((with_reducible refine gate_dst (N := 2) rfl ?_); refine bE 2 (cs := #[.slice none 0 0, .slice none 0 0]) (t := 31) ?_; intro gb445 hg w4 hbox hb; have BK445 := aM (hbox); have GW445 := aM ((by rw [hg]; exact (below_size aG) : w.heap.size ≤ gb445)); have GE445 := aM ((by rw [hg]; exact (below_size aG) : w.heap.size ≤ gb445)); have NB444_445 := aM ((by rw [hg]; exact Nat.ne_of_lt (blk_lt (g := gb444) (o := .cells #[.slice A0_0 l0_0.length c0_0, .slice A0_1 l0_1.length c0_1] 31 (0, 0)) aK) : gb444 ≠ gb445)); have NB445_444 := aM ((by rw [hg]; exact Nat.ne_of_gt (blk_lt (g := gb444) (o := .cells #[.slice A0_0 l0_0.length c0_0, .slice A0_1 l0_1.length c0_1] 31 (0, 0)) aK) : gb445 ≠ gb444)); replace BK444 := aM (kB gb444 #[.slice A0_0 l0_0.length c0_0, .slice A0_1 l0_1.length c0_1] 31 hb); replace HB := aM (below_step aG hb); clear hb hbox hg) | ((with_reducible refine gate_dst (N := 6) rfl ?_); refine Kd.R_lit k68 _ 68 ?hg (N := 6) ?hd (xs := ([] : List (S68))) (inner := []) (ok := fun _ => True) (okp := fun _ => True) ?hr ?hp (fun _ hk => hk) trivial (Below.refl _ _) (Nat.le_refl _) (by simp) ?_; (case hd => rfl); (case hg => rfl); (case hr => first | (go_simp; done) | (go_simp; rfl)); (case hp => exact (Reps.none _ _)); intro v447 w5 ho6 hb hg_ hnew_; clear hg_ hnew_; (first | rw [← Ny446.out] at ho6 | (simp only [Int.reduceToNat] at ho6; rw [← Ny446.out] at ho6)); have n0_ := aM (Kd.R_lower ho6 (below_size aG)); have n1_ := aM (kB gb444 #[.slice A0_0 l0_0.length c0_0, .slice A0_1 l0_1.length c0_1] 31 hb); have n2_ := aM (kB gb445 #[.slice none 0 0, .slice none 0 0] 31 hb); have n3_ := aM (below_step aG hb); clear BK444; clear BK445; clear HB; have HO448 := n0_; have BK444 := n1_; have BK445 := n2_; have HB := n3_; clear n0_ n1_ n2_ n3_; clear hb ho6; have hnb7 := NB444_445.out; have hnc7 := NB445_444.out; have hcz8_0 : w5.cell? ⟨gb444, 0, none⟩ = some (.slice A0_0 l0_0.length c0_0) := (blk_cell BK444.out 0).trans rfl; have hcz8_1 : w5.cell? ⟨gb444, 1, none⟩ = some (.slice A0_1 l0_1.length c0_1) := (blk_cell BK444.out 1).trans rfl; have hfz8_0 := blk_frozen BK444.out 0; have hfz8_1 := blk_frozen BK444.out 1) | ((with_reducible refine gate_builtin (b := .append) (xs := #[.tmp 6, .tmp 8]) rfl ?_); at_builtin; refine Kd.R_append_rows k68 (w0 := w) w.heap.size rfl (.tmp 6) (.tmp 8) 28 68 (.agg #[(.string ⟨#[]⟩), (.int .i64 0), (.int .i64 0)]) 32 rfl Tryd.underlying28 info68 rfl (by decide) (by omega) v447 y446 l0_0 _ _ _ (fun _ => True) (fun _ => False) rfl rfl ?aO ?aR (fun _ _ h => h) (fun _ h => h.elim) ?aF ?aB ?aS ?aL ?_; (case aR => exact aC); (case aB => exact aG); (case aF => exact (fun _ _ => trivial)); (case aO => exact (aR HO448)); (case aS => exact (below_size aG)); (case aL => have := LMc2.out; omega); intro v450 w9 ho hb hg hat; rw [← Ny449.out] at ho; have n0_ := aM (blk_grown (g := gb444) (o := .cells #[.slice A0_0 l0_0.length c0_0, .slice A0_1 l0_1.length c0_1] 31 (0, 0)) aK hg (Kd.R_ne HO448.out BK444.out (by decide))); have n1_ := aM (blk_grown (g := gb445) (o := .cells #[.slice none 0 0, .slice none 0 0] 31 (0, 0)) aK hg (Kd.R_ne HO448.out BK445.out (by decide))); have n2_ := aM (hb); have n3_ := aM (ho); clear BK444; clear BK445; clear HB; clear HO448; have BK444 := n0_; have BK445 := n1_; have HB := n2_; have HO451 := n3_; clear n0_ n1_ n2_ n3_; clear ho hb hg hat) | ((with_reducible refine gate_dst (N := 10) rfl ?_); refine Kd.S_lit k39 _ 39 ?hg (N := 10) ?hd (xs := ([] : List (S39))) (inner := []) (ok := fun _ => True) (okp := fun _ => True) ?hr ?hp (fun _ hk => hk) trivial (Below.refl _ _) (Nat.le_refl _) (by simp) ?_; (case hd => rfl); (case hg => rfl); (case hr => first | (go_simp; done) | (go_simp; rfl)); (case hp => exact (Reps.none _ _)); intro v453 w10 ho11 hb hg_ hnew_; clear hg_ hnew_; (first | rw [← Ny452.out] at ho11 | (simp only [Int.reduceToNat] at ho11; rw [← Ny452.out] at ho11)); have n0_ := aM (Kd.R_below (aR HO451) hb); have n1_ := aM (Kd.S_lower ho11 (below_size aG)); have n2_ := aM (kB gb444 #[.slice A0_0 l0_0.length c0_0, .slice A0_1 l0_1.length c0_1] 31 hb); have n3_ := aM (kB gb445 #[.slice none 0 0, .slice none 0 0] 31 hb); have n4_ := aM (below_step aG hb); clear HO451; clear BK444; clear BK445; clear HB; have HO451 := n0_; have HO454 := n1_; have BK444 := n2_; have BK445 := n3_; have HB := n4_; clear n0_ n1_ n2_ n3_ n4_; clear hb ho11; obtain ⟨Ao12, co12, eo12⟩ := Kd.S_slice HO454.out; subst eo12; obtain ⟨Ao13, co13, eo13⟩ := Kd.R_slice HO451.out; subst eo13) | ((with_reducible refine gate_dst (N := 3) rfl ?_); refine bE 3 (cs := #[.slice none 0 0, .slice none 0 0]) (t := 31) ?_; intro gb455 hg w14 hbox hb; have n0_ := aM (Kd.R_below (aR HO451) hb); have n1_ := aM (Kd.S_below (aS HO454) hb); have n2_ := aM (kB gb444 #[.slice A0_0 l0_0.length c0_0, .slice A0_1 l0_1.length c0_1] 31 hb); have n3_ := aM (kB gb445 #[.slice none 0 0, .slice none 0 0] 31 hb); have n4_ := aM (below_step aG hb); have n5_ := aM (hbox); have n6_ := aM ((by rw [hg]; exact (below_size aG) : w.heap.size ≤ gb455)); have n7_ := aM ((by rw [hg]; exact (below_size aG) : w.heap.size ≤ gb455)); have n8_ := aM ((by rw [hg]; exact Nat.ne_of_lt (blk_lt (g := gb444) (o := .cells #[.slice A0_0 l0_0.length c0_0, .slice A0_1 l0_1.length c0_1] 31 (0, 0)) aK) : gb444 ≠ gb455)); have n9_ := aM ((by rw [hg]; exact Nat.ne_of_gt (blk_lt (g := gb444) (o := .cells #[.slice A0_0 l0_0.length c0_0, .slice A0_1 l0_1.length c0_1] 31 (0, 0)) aK) : gb455 ≠ gb444)); have n10_ := aM ((by rw [hg]; exact Nat.ne_of_lt (blk_lt (g := gb445) (o := .cells #[.slice none 0 0, .slice none 0 0] 31 (0, 0)) aK) : gb445 ≠ gb455)); have n11_ := aM ((by rw [hg]; exact Nat.ne_of_gt (blk_lt (g := gb445) (o := .cells #[.slice none 0 0, .slice none 0 0] 31 (0, 0)) aK) : gb455 ≠ gb445)); clear HO451; clear HO454; clear BK444; clear BK445; clear HB; have HO451 := n0_; have HO454 := n1_; have BK444 := n2_; have BK445 := n3_; have HB := n4_; have BK455 := n5_; have GW455 := n6_; have GE455 := n7_; have NB444_455 := n8_; have NB455_444 := n9_; have NB445_455 := n10_; have NB455_445 := n11_; clear n0_ n1_ n2_ n3_ n4_ n5_ n6_ n7_ n8_ n9_ n10_ n11_; clear hb hbox hg; have hnb15 := NB455_444.out; have hnc15 := NB444_455.out; have hnb16 := NB455_445.out; have hnc16 := NB445_455.out; have hcz17_0 : w14.cell? ⟨gb455, 0, none⟩ = some (.slice none 0 0) := (blk_cell BK455.out 0).trans rfl; have hcz17_1 : w14.cell? ⟨gb455, 1, none⟩ = some (.slice none 0 0) := (blk_cell BK455.out 1).trans rfl; have hfz17_0 := blk_frozen BK455.out 0; have hfz17_1 := blk_frozen BK455.out 1; have hcz18_0 : w14.cell? ⟨gb444, 0, none⟩ = some (.slice A0_0 l0_0.length c0_0) := (blk_cell BK444.out 0).trans rfl; have hcz18_1 : w14.cell? ⟨gb444, 1, none⟩ = some (.slice A0_1 l0_1.length c0_1) := (blk_cell BK444.out 1).trans rfl; have hfz18_0 := blk_frozen BK444.out 0; have hfz18_1 := blk_frozen BK444.out 1))
  go_loopg [15] k (fun kq v15 w' => ∃ (x15_1 : Int) (x456001_1 : List (S39)) (u456001 : Value), v15 = .int .i64 x15_1 ∧ Aside0 (impl_copyDatabase.l0 kq l0_1 (l0_1.length : Int) x15_1 y449 x456001_1 = some (r1, r2)) ∧ Aside0 (kq ≤ k) ∧ Aside0 (Kd.R k68 68 w' w.heap.size (fun _ => True) (.slice Ao13 y449.length co13) y449) ∧ Aside0 (Kd.S k39 39 w' w.heap.size (fun _ => True) u456001 x456001_1) ∧ Aside0 (w'.heap[gb444]? = some (.cells #[(.slice A0_0 l0_0.length c0_0), (.slice A0_1 l0_1.length c0_1)] 31 (0, 0))) ∧ Aside0 (w'.heap[gb445]? = some (.cells #[(.slice none 0 0), (.slice none 0 0)] 31 (0, 0))) ∧ Aside0 (w'.heap[gb455]? = some (.cells #[(.slice Ao13 y449.length co13), u456001] 31 (0, 0))) ∧ Aside0 (Below w.heap.size w w'))
  case atStart => exact ⟨(0), (y452), (.slice Ao12 y452.length co12), aX, H', ⟨Nat.le_refl _⟩, ⟨by (with_reducible repeat apply pR); exact Kd.R_mono (Kd.R_far (p := ⟨gb455, 1, none⟩) (Kd.R_far (p := ⟨gb455, 0, none⟩) (Kd.R_types HO451.out BK455.out (by decide)) (fun _ hk => hk.2) (.slice Ao13 y449.length co13)) (fun _ hk => hk.2) (.slice Ao12 y452.length co12)) (fun _ hk => trivial)⟩, ⟨by (with_reducible repeat apply pS); exact Kd.S_mono (Kd.S_far (p := ⟨gb455, 1, none⟩) (Kd.S_far (p := ⟨gb455, 0, none⟩) (Kd.S_types HO454.out BK455.out (by decide)) (fun _ hk => hk.2) (.slice Ao13 y449.length co13)) (fun _ hk => hk.2) (.slice Ao12 y452.length co12)) (fun _ hk => trivial)⟩, ⟨by (with_reducible repeat refine pB ?_); refine blk_far ?_ NB444_455.out _; (with_reducible repeat refine pB ?_); refine blk_far ?_ NB444_455.out _; (with_reducible repeat refine pB ?_); exact BK444.out⟩, ⟨by (with_reducible repeat refine pB ?_); refine blk_far ?_ NB445_455.out _; (with_reducible repeat refine pB ?_); refine blk_far ?_ NB445_455.out _; (with_reducible repeat refine pB ?_); exact BK445.out⟩, ⟨by (with_reducible repeat refine pB ?_); refine blk_put (cs := #[.slice Ao13 y449.length co13, .slice none 0 0]) ?_ 1 _ rfl; (with_reducible repeat refine pB ?_); refine blk_put (cs := #[.slice none 0 0, .slice none 0 0]) ?_ 0 _ rfl; (with_reducible repeat refine pB ?_); exact BK455.out⟩, ⟨aG⟩⟩
  case round =>
   clear H'
   try clear c1
   try clear c2
   try clear p2
   try clear c7
   try clear c15
   try clear c16
   try clear hcz17_0
   try clear hcz17_1
   try clear hcz18_0
   try clear hcz18_1
   try clear hcz8_0
   try clear hcz8_1
   try clear hfz17_0
   try clear hfz17_1
   try clear hfz18_0
   try clear hfz18_1
   try clear hfz8_0
   try clear hfz8_1
   obtain ⟨x15_1, x456001_1, u456001, rfl, HA, HK1, HO_456000, HO_456001, BK444, BK445, BK455, HB⟩ := hrel
   cases gk with
   | zero => exact absurd HA.out (by simp [impl_copyDatabase.l0])
   | succ k1 =>
    have H := HA.out
    clear HA
    simp only [impl_copyDatabase.l0] at H
    by_cases c19 : x15_1 < (l0_1.length : Int)
    ·rw [if_pos c19] at H
     have c19b0 : decide (x15_1 < (l0_1.length : Int)) = true := decide_eq_true c19
     clear c19
     by_cases c20 : 0 ≤ x15_1
     ·rw [if_pos c20] at H
      have c20b0 : decide (0 ≤ x15_1) = true := decide_eq_true c20
      clear c20
      by_cases c21 : x15_1 < (l0_1.length : Int)
      ·rw [if_pos c21] at H
       have c21b0 : decide (x15_1 < (l0_1.length : Int)) = true := decide_eq_true c21
       clear c21
       obtain ⟨y458, hy458⟩ : ∃ y_ : List Int, y_ = (([] : List Int)) := ⟨_, rfl⟩
       first | replace H := bY hy458 H | rw [← hy458] at H
       have Ny458 := aM hy458
       clear hy458
       by_cases c22 : y458.length + ((rd_T39 l0_1 x15_1).f1).length < 17592186044416
       ·rw [if_pos c22] at H
        have LMc22 := aM c22
        clear c22
        obtain ⟨y461, hy461⟩ : ∃ y_ : List Int, y_ = (y458 ++ ((rd_T39 l0_1 x15_1).f1)) := ⟨_, rfl⟩
        first | replace H := bY hy461 H | rw [← hy461] at H
        have Ny461 := aM hy461
        clear hy461
        by_cases c23 : x456001_1.length < 4398046511104
        ·rw [if_pos c23] at H
         have LMc23 := aM c23
         clear c23
         obtain ⟨y464, hy464⟩ : ∃ y_ : List (S39), y_ = (x456001_1 ++ [(⟨(rd_T39 l0_1 x15_1).f0, y461⟩ : S39)]) := ⟨_, rfl⟩
         first | replace H := bY hy464 H | rw [← hy464] at H
         have Ny464 := aM hy464
         clear hy464
         have H' := aM H
         clear H
         have p456 : 0 ≤ (x15_1 : Int) := aD
         have q456 : x15_1 < (l0_1.length : Int) := aD
         obtain ⟨ad456, A456_1, c456_1, e456, hx456_0, hx456_1, hl456_1, hi456_1⟩ := at_T39 HR0_1.out x15_1 p456 q456
         cases e456
         replace hx456_0 := (HB.out.cell (World.block_lt_of_cell? w _ hx456_0)).trans hx456_0
         replace hx456_1 := (HB.out.cell (World.block_lt_of_cell? w _ hx456_1)).trans hx456_1
         have HR456_1 := aM hi456_1
         have HC456_1 := aM hl456_1
         clear hi456_1 hl456_1
         replace p456 := eq_true p456
         replace q456 := eq_true q456
         try go_wp2_with (first | ((with_reducible refine gate_dst (N := 5) rfl ?_); refine bE 5 (cs := #[.int .i64 0, .slice none 0 0]) (t := 39) ?_; intro gb457 hg w24 hbox hb; have n0_ := aM (Kd.R_below (aR HO_456000) hb); have n1_ := aM (Kd.S_below (Kd.S_elderB (aS HO_456001) gb457 (Nat.le_of_eq hg.symm)) hb); have n2_ := aM (kB gb444 #[.slice A0_0 l0_0.length c0_0, .slice (some ad456) l0_1.length c0_1] 31 hb); have n3_ := aM (kB gb445 #[.slice none 0 0, .slice none 0 0] 31 hb); have n4_ := aM (kB gb455 #[.slice Ao13 y449.length co13, u456001] 31 hb); have n5_ := aM (below_step aG hb); have n6_ := aM (hbox); have n7_ := aM ((by rw [hg]; exact (below_size aG) : w.heap.size ≤ gb457)); have n8_ := aM ((by rw [hg]; exact (below_size aG) : w.heap.size ≤ gb457)); have n9_ := aM ((by rw [hg]; exact Nat.ne_of_lt (blk_lt (g := gb444) (o := .cells #[.slice A0_0 l0_0.length c0_0, .slice (some ad456) l0_1.length c0_1] 31 (0, 0)) aK) : gb444 ≠ gb457)); have n10_ := aM ((by rw [hg]; exact Nat.ne_of_gt (blk_lt (g := gb444) (o := .cells #[.slice A0_0 l0_0.length c0_0, .slice (some ad456) l0_1.length c0_1] 31 (0, 0)) aK) : gb457 ≠ gb444)); have n11_ := aM ((by rw [hg]; exact Nat.ne_of_lt (blk_lt (g := gb445) (o := .cells #[.slice none 0 0, .slice none 0 0] 31 (0, 0)) aK) : gb445 ≠ gb457)); have n12_ := aM ((by rw [hg]; exact Nat.ne_of_gt (blk_lt (g := gb445) (o := .cells #[.slice none 0 0, .slice none 0 0] 31 (0, 0)) aK) : gb457 ≠ gb445)); have n13_ := aM ((by rw [hg]; exact Nat.ne_of_lt (blk_lt (g := gb455) (o := .cells #[.slice Ao13 y449.length co13, u456001] 31 (0, 0)) aK) : gb455 ≠ gb457)); have n14_ := aM ((by rw [hg]; exact Nat.ne_of_gt (blk_lt (g := gb455) (o := .cells #[.slice Ao13 y449.length co13, u456001] 31 (0, 0)) aK) : gb457 ≠ gb455)); clear HO_456000; clear HO_456001; clear BK444; clear BK445; clear BK455; clear HB; have HO_456000 := n0_; have HO_456001 := n1_; have BK444 := n2_; have BK445 := n3_; have BK455 := n4_; have HB := n5_; have BK457 := n6_; have GW457 := n7_; have GE457 := n8_; have NB444_457 := n9_; have NB457_444 := n10_; have NB445_457 := n11_; have NB457_445 := n12_; have NB455_457 := n13_; have NB457_455 := n14_; clear n0_ n1_ n2_ n3_ n4_ n5_ n6_ n7_ n8_ n9_ n10_ n11_ n12_ n13_ n14_; clear hb hbox hg; have hnb25 := NB457_444.out; have hnc25 := NB444_457.out; have hnb26 := NB457_445.out; have hnc26 := NB445_457.out; have hnb27 := NB457_455.out; have hnc27 := NB455_457.out; have hcz28_0 : w24.cell? ⟨gb457, 0, none⟩ = some (.int .i64 0) := (blk_cell BK457.out 0).trans rfl; have hcz28_1 : w24.cell? ⟨gb457, 1, none⟩ = some (.slice none 0 0) := (blk_cell BK457.out 1).trans rfl; have hfz28_0 := blk_frozen BK457.out 0; have hfz28_1 := blk_frozen BK457.out 1))
         have n0_ : Aside0 (Kd.R k68 68 ((w24.setCell ⟨gb457, 0, none⟩ (.int .i64 ((rd_T39 l0_1 x15_1).f0))).setCell ⟨gb457, 1, none⟩ (.slice A456_1 ((rd_T39 l0_1 x15_1).f1).length c456_1)) w.heap.size (fun _ => True) (.slice Ao13 y449.length co13) y449) := ⟨by (with_reducible repeat apply pR); exact Kd.R_mono (Kd.R_far (p := ⟨gb457, 1, none⟩) (Kd.R_far (p := ⟨gb457, 0, none⟩) (Kd.R_types HO_456000.out BK457.out (by decide)) (fun _ hk => hk.2) (.int .i64 ((rd_T39 l0_1 x15_1).f0))) (fun _ hk => hk.2) (.slice A456_1 ((rd_T39 l0_1 x15_1).f1).length c456_1)) (fun _ hk => trivial)⟩
         have n1_ : Aside0 (Kd.S k39 39 ((w24.setCell ⟨gb457, 0, none⟩ (.int .i64 ((rd_T39 l0_1 x15_1).f0))).setCell ⟨gb457, 1, none⟩ (.slice A456_1 ((rd_T39 l0_1 x15_1).f1).length c456_1)) w.heap.size (fun k_ => k_ ≠ gb457) u456001 x456001_1) := ⟨by (with_reducible repeat apply pS); exact Kd.S_mono (Kd.S_far (p := ⟨gb457, 1, none⟩) (Kd.S_far (p := ⟨gb457, 0, none⟩) (Kd.S_mono HO_456001.out (fun k_ hk => (⟨hk, hk.2⟩ : _ ∧ k_ ≠ gb457))) (fun _ hk => hk.2) (.int .i64 ((rd_T39 l0_1 x15_1).f0))) (fun _ hk => hk.2) (.slice A456_1 ((rd_T39 l0_1 x15_1).f1).length c456_1)) (fun _ hk => hk.1.2)⟩
         have n2_ : Aside0 (((w24.setCell ⟨gb457, 0, none⟩ (.int .i64 ((rd_T39 l0_1 x15_1).f0))).setCell ⟨gb457, 1, none⟩ (.slice A456_1 ((rd_T39 l0_1 x15_1).f1).length c456_1)).heap[gb444]? = some (.cells #[.slice A0_0 l0_0.length c0_0, .slice (some ad456) l0_1.length c0_1] 31 (0, 0))) := ⟨by (with_reducible repeat refine pB ?_); refine blk_far ?_ NB444_457.out _; (with_reducible repeat refine pB ?_); refine blk_far ?_ NB444_457.out _; (with_reducible repeat refine pB ?_); exact BK444.out⟩
         have n3_ : Aside0 (((w24.setCell ⟨gb457, 0, none⟩ (.int .i64 ((rd_T39 l0_1 x15_1).f0))).setCell ⟨gb457, 1, none⟩ (.slice A456_1 ((rd_T39 l0_1 x15_1).f1).length c456_1)).heap[gb445]? = some (.cells #[.slice none 0 0, .slice none 0 0] 31 (0, 0))) := ⟨by (with_reducible repeat refine pB ?_); refine blk_far ?_ NB445_457.out _; (with_reducible repeat refine pB ?_); refine blk_far ?_ NB445_457.out _; (with_reducible repeat refine pB ?_); exact BK445.out⟩
         have n4_ : Aside0 (((w24.setCell ⟨gb457, 0, none⟩ (.int .i64 ((rd_T39 l0_1 x15_1).f0))).setCell ⟨gb457, 1, none⟩ (.slice A456_1 ((rd_T39 l0_1 x15_1).f1).length c456_1)).heap[gb455]? = some (.cells #[.slice Ao13 y449.length co13, u456001] 31 (0, 0))) := ⟨by (with_reducible repeat refine pB ?_); refine blk_far ?_ NB455_457.out _; (with_reducible repeat refine pB ?_); refine blk_far ?_ NB455_457.out _; (with_reducible repeat refine pB ?_); exact BK455.out⟩
         have n5_ : Aside0 (((w24.setCell ⟨gb457, 0, none⟩ (.int .i64 ((rd_T39 l0_1 x15_1).f0))).setCell ⟨gb457, 1, none⟩ (.slice A456_1 ((rd_T39 l0_1 x15_1).f1).length c456_1)).heap[gb457]? = some (.cells #[.int .i64 ((rd_T39 l0_1 x15_1).f0), .slice A456_1 ((rd_T39 l0_1 x15_1).f1).length c456_1] 39 (0, 0))) := ⟨by (with_reducible repeat refine pB ?_); refine blk_put (cs := #[.int .i64 ((rd_T39 l0_1 x15_1).f0), .slice none 0 0]) ?_ 1 _ rfl; (with_reducible repeat refine pB ?_); refine blk_put (cs := #[.int .i64 0, .slice none 0 0]) ?_ 0 _ rfl; (with_reducible repeat refine pB ?_); exact BK457.out⟩
         have n6_ : Aside0 (Below w.heap.size w ((w24.setCell ⟨gb457, 0, none⟩ (.int .i64 ((rd_T39 l0_1 x15_1).f0))).setCell ⟨gb457, 1, none⟩ (.slice A456_1 ((rd_T39 l0_1 x15_1).f1).length c456_1))) := ⟨aG⟩
         (try clear HO_456000)
         (try clear HO_456001)
         (try clear BK444)
         (try clear BK445)
         (try clear BK455)
         (try clear BK457)
         (try clear HB)
         generalize ((w24.setCell ⟨gb457, 0, none⟩ (.int .i64 ((rd_T39 l0_1 x15_1).f0))).setCell ⟨gb457, 1, none⟩ (.slice A456_1 ((rd_T39 l0_1 x15_1).f1).length c456_1)) = w29 at n0_ n1_ n2_ n3_ n4_ n5_ n6_ ⊢
         have HO_456000 := n0_
         have HO_456001 := n1_
         have BK444 := n2_
         have BK445 := n3_
         have BK455 := n4_
         have BK457 := n5_
         have HB := n6_
         clear n0_ n1_ n2_ n3_ n4_ n5_ n6_
         replace HO_456000 := aM (Kd.R_drew HO_456000.out)
         replace HO_456001 := aM (Kd.S_drew HO_456001.out)
         replace BK444 := aM (blk_drew BK444.out)
         replace BK445 := aM (blk_drew BK445.out)
         replace BK455 := aM (blk_drew BK455.out)
         replace BK457 := aM (blk_drew BK457.out)
         replace HB := aM (below_drew1 HB.out)
         refine start_ (n := 13) (S := fun w' => w'.cell? ⟨gb455, 0, none⟩ = some (.slice Ao13 y449.length co13) ∧ w'.cell? ⟨gb455, 1, none⟩ = some (u456001) ∧ w'.cell? ⟨gb457, 0, none⟩ = some (.int .i64 ((rd_T39 l0_1 x15_1).f0)) ∧ w'.cell? ⟨gb457, 1, none⟩ = some (.slice A456_1 ((rd_T39 l0_1 x15_1).f1).length c456_1)) (ds := [12]) #[false, false, false, false, false, false, false, false, false, false, false, false, false] (by kernel_rfl) rfl rfl ⟨(blk_cell BK455.out 0).trans rfl, (blk_cell BK455.out 1).trans rfl, (blk_cell BK457.out 0).trans rfl, (blk_cell BK457.out 1).trans rfl⟩ (fun hHeld => ?_); refine with_tabW impl_copyDatabase.tab5 impl_copyDatabase.bits5 (fun HT_ HW_ => ?_)
         generalize w29.drew = w30 at HO_456000 HO_456001 BK444 BK445 BK455 BK457 HB hHeld ⊢
         refine pU 0 19 ?_
         refine pU 2 21 ?_
         refine pU 5 24 ?_
         refine tU4 1 20 hHeld ?_
         refine tU4 3 22 hHeld ?_
         refine tU4 6 25 hHeld ?_
         refine oU 4 23 (fun K hK => ?_)
         refine Kd.R_lit_step (Kd.int .i64) _ 3 ?hg (N := 23) ?hd (xs := ([] : List Int)) (inner := []) (ok := fun _ => True) (okp := fun _ => True) ?hr ?hp (fun _ hk => hk) trivial (Below.refl _ _) (Nat.le_refl _) (by simp) ?_; (case hd => rfl); (case hg => rfl); (case hr => first | (go_simp; done) | (go_simp; rfl)); (case hp => exact (Reps.none _ _))
         intro v459 w31 ho32 hb hg_ hnew_
         clear hg_ hnew_
         (first | rw [← Ny458.out] at ho32 | (simp only [Int.reduceToNat] at ho32; rw [← Ny458.out] at ho32))
         have n0_ := aM (Kd.R_below (aR HO_456000) hb)
         have n1_ := aM (Kd.S_elder' (aS HO_456001) (Kd.R_base ho32) hb)
         have n2_ := aM (Kd.R_lower ho32 (below_size aG))
         have n3_ := aM (kB gb444 #[.slice A0_0 l0_0.length c0_0, .slice (some ad456) l0_1.length c0_1] 31 hb)
         have n4_ := aM (kB gb445 #[.slice none 0 0, .slice none 0 0] 31 hb)
         have n5_ := aM (kB gb455 #[.slice Ao13 y449.length co13, u456001] 31 hb)
         have n6_ := aM (kB gb457 #[.int .i64 ((rd_T39 l0_1 x15_1).f0), .slice A456_1 ((rd_T39 l0_1 x15_1).f1).length c456_1] 39 hb)
         have n7_ := aM (below_step aG hb)
         clear HO_456000
         clear HO_456001
         clear BK444
         clear BK445
         clear BK455
         clear BK457
         clear HB
         have HO_456000 := n0_
         have HO_456001 := n1_
         have HO460 := n2_
         have BK444 := n3_
         have BK445 := n4_
         have BK455 := n5_
         have BK457 := n6_
         have HB := n7_
         clear n0_ n1_ n2_ n3_ n4_ n5_ n6_ n7_
         clear hb ho32
         refine hK.out _ _ ⟨(blk_cell BK455.out 0).trans rfl, (blk_cell BK455.out 1).trans rfl, (blk_cell BK457.out 0).trans rfl, (blk_cell BK457.out 1).trans rfl⟩ (fun hHeld => ?_)
         clear hK K
         refine nU 23 ?_
         refine oU 7 26 (fun K hK => ?_)
         refine Kd.R_append_rows_step (Kd.int .i64) (w0 := w) w.heap.size (by rfl) (.tmp 23) (.tmp 25) 37 3 (.int .i64 0) 8 rfl Tryd.underlying37 info3 rfl (by decide) (by omega) v459 y458 ((rd_T39 l0_1 x15_1).f1) _ _ _ (fun _ => True) (fun _ => False) rfl rfl ?aO ?aR (fun _ _ h => h) (fun _ h => h.elim) ?aF ?aB ?aS ?aL ?_
         (case aR => exact aC)
         (case aB => exact aG)
         (case aF => exact (fun _ _ => trivial))
         (case aO => exact (aR HO460))
         (case aS => exact (below_size aG))
         (case aL => have := LMc22.out; omega)
         intro v462 w33 ho hb hg hat
         rw [← Ny461.out] at ho
         have n0_ := aM (Kd.R_over' (aR HO_456000) (Kd.R_typed (aR HO460)) (by decide) hg)
         have n1_ := aM (Kd.S_after (ok := (fun k_ => k_ ≠ gb457)) (aS HO_456001) hg hat)
         have n2_ := aM (blk_grown (g := gb444) (o := .cells #[.slice A0_0 l0_0.length c0_0, .slice (some ad456) l0_1.length c0_1] 31 (0, 0)) aK hg (Kd.R_ne HO460.out BK444.out (by decide)))
         have n3_ := aM (blk_grown (g := gb445) (o := .cells #[.slice none 0 0, .slice none 0 0] 31 (0, 0)) aK hg (Kd.R_ne HO460.out BK445.out (by decide)))
         have n4_ := aM (blk_grown (g := gb455) (o := .cells #[.slice Ao13 y449.length co13, u456001] 31 (0, 0)) aK hg (Kd.R_ne HO460.out BK455.out (by decide)))
         have n5_ := aM (blk_grown (g := gb457) (o := .cells #[.int .i64 ((rd_T39 l0_1 x15_1).f0), .slice A456_1 ((rd_T39 l0_1 x15_1).f1).length c456_1] 39 (0, 0)) aK hg (Kd.R_ne HO460.out BK457.out (by decide)))
         have n6_ := aM (hb)
         have n7_ := aM (ho)
         clear HO_456000
         clear HO_456001
         clear BK444
         clear BK445
         clear BK455
         clear BK457
         clear HB
         clear HO460
         have HO_456000 := n0_
         have HO_456001 := n1_
         have BK444 := n2_
         have BK445 := n3_
         have BK455 := n4_
         have BK457 := n5_
         have HB := n6_
         have HO463 := n7_
         clear n0_ n1_ n2_ n3_ n4_ n5_ n6_ n7_
         clear ho hb hg hat
         obtain ⟨Ao34, co34, eo34⟩ := Kd.R_slice HO463.out
         (first | subst eo34 | (injection eo34 with f1_ f2_ f3_; have f4_ := f1_.symm; have f5_ := f3_.symm; clear f1_ f2_ f3_; subst f4_; subst f5_))
         refine hK.out _ _ ⟨(blk_cell BK455.out 0).trans rfl, (blk_cell BK455.out 1).trans rfl, (blk_cell BK457.out 0).trans rfl, (blk_cell BK457.out 1).trans rfl⟩ (fun hHeld => ?_)
         clear hK K
         refine nU 26 ?_
         refine pU 8 27 ?_
         refine oU 9 28 (fun K hK => ?_)
         refine value_ (w1 := ?_) (v := ?_) (by rfl) rfl ?_ ?_
         rotate_left 2
         ·go_simp
          constructor
          ·rfl
          ·rfl
         refine hK.out _ _ ⟨(blk_cell (blk_alloc BK455.out _) 0).trans rfl, (blk_cell (blk_alloc BK455.out _) 1).trans rfl, (blk_cell (blk_alloc BK457.out _) 0).trans rfl, (blk_cell (blk_alloc BK457.out _) 1).trans rfl⟩ (fun hHeld => ?_)
         clear hK K
         refine nU 28 ?_
         refine oU 10 29 (fun K hK => ?_)
         refine Kd.S_append_step k39 (w0 := w) w.heap.size (by rfl) (.tmp 20) (.tmp 28) 29 39 (.agg #[(.int .i64 0), (.slice none 0 0)]) 32 rfl Tryd.underlying29 info39 rfl (by decide) (by omega) u456001 x456001_1 (⟨(rd_T39 l0_1 x15_1).f0, y461⟩ : S39) [.int .i64 ((rd_T39 l0_1 x15_1).f0), .slice Ao34 y461.length co34] (fun k_ => k_ ≠ gb457) (fun k_ => some k_ = (.slice Ao34 y461.length co34 : Value).ownBlock) rfl rfl ?aP (fun k_ hk_ => ((Kd.R_mono (ok' := fun k_ => ((fun k_ => k_ ≠ gb457)) k_ ∧ some k_ ≠ (u456001 : Value).ownBlock) (Kd.R_types (Kd.R_apart' (HO463.out) (Kd.S_typed HO_456001.out) (by decide)) BK457.out (by decide)) (fun k_ hk => ⟨hk.2, hk.1.2⟩))).1 k_ hk_.symm) ?aF ?aO ?aB ?aS ?aL ?_
         (case aP => exact k39_mkM _ _ _ (⟨(rd_T39 l0_1 x15_1).f0, y461⟩ : S39) (Kd.R_mono (Kd.R_tight rfl (Kd.R_mono (ok' := fun k_ => ((fun k_ => k_ ≠ gb457)) k_ ∧ some k_ ≠ (u456001 : Value).ownBlock) (Kd.R_types (Kd.R_apart' (HO463.out) (Kd.S_typed HO_456001.out) (by decide)) BK457.out (by decide)) (fun k_ hk => ⟨hk.2, hk.1.2⟩))) (fun _ h_ => h_)))
         (case aB => exact aG)
         (case aF => exact (fun k_ hk => Kd.freshB (g := gb457) (o := .cells #[.int .i64 ((rd_T39 l0_1 x15_1).f0), .slice A456_1 ((rd_T39 l0_1 x15_1).f1).length c456_1] 39 (0, 0)) aK k_ hk))
         (case aO => exact (by (with_reducible repeat apply pS); exact Kd.S_mono HO_456001.out (fun k_ hk => ⟨hk.1, fun e_ => hk.2 e_⟩)))
         (case aS => exact (below_size aG))
         (case aL => have := LMc23.out; omega)
         intro v465 w35 ho hb hg hat
         rw [← Ny464.out] at ho
         have n0_ := aM (Kd.R_over' (aR HO_456000) (Kd.S_typed (aS HO_456001)) (by decide) hg)
         have n1_ := aM (blk_grown (g := gb444) (o := .cells #[.slice A0_0 l0_0.length c0_0, .slice (some ad456) l0_1.length c0_1] 31 (0, 0)) aK hg (Kd.S_ne HO_456001.out BK444.out (by decide)))
         have n2_ := aM (blk_grown (g := gb445) (o := .cells #[.slice none 0 0, .slice none 0 0] 31 (0, 0)) aK hg (Kd.S_ne HO_456001.out BK445.out (by decide)))
         have n3_ := aM (blk_grown (g := gb455) (o := .cells #[.slice Ao13 y449.length co13, u456001] 31 (0, 0)) aK hg (Kd.S_ne HO_456001.out BK455.out (by decide)))
         have n4_ := aM (blk_grown (g := gb457) (o := .cells #[.int .i64 ((rd_T39 l0_1 x15_1).f0), .slice A456_1 ((rd_T39 l0_1 x15_1).f1).length c456_1] 39 (0, 0)) aK hg (Kd.S_away HO_456001.out (fun _ hk => hk.1)))
         have n5_ := aM (hb)
         have n6_ := aM (ho)
         clear HO_456000
         clear BK444
         clear BK445
         clear BK455
         clear BK457
         clear HB
         clear HO_456001
         clear HO463
         have HO_456000 := n0_
         have BK444 := n1_
         have BK445 := n2_
         have BK455 := n3_
         have BK457 := n4_
         have HB := n5_
         have HO466 := n6_
         clear n0_ n1_ n2_ n3_ n4_ n5_ n6_
         clear ho hb hg hat
         obtain ⟨Ao36, co36, eo36⟩ := Kd.S_slice HO466.out
         (first | subst eo36 | (injection eo36 with f1_ f2_ f3_; have f4_ := f1_.symm; have f5_ := f3_.symm; clear f1_ f2_ f3_; subst f4_; subst f5_))
         refine hK.out _ _ ⟨(blk_cell BK455.out 0).trans rfl, (blk_cell BK455.out 1).trans rfl, (blk_cell BK457.out 0).trans rfl, (blk_cell BK457.out 1).trans rfl⟩ (fun hHeld => ?_)
         clear hK K
         refine nU 29 ?_
         refine pU 11 30 ?_
         refine last_ (i := 12) (N := none) #[true, true, true, true, true, true, true, true, true, true, true, true, true] rfl rfl (one_of HT_.out (by kernel_rfl)) (by decide) (fun K hK => ?_)
         have hs37 : w35.cell? ⟨gb455, 1, none⟩ = some (u456001) := (blk_cell BK455.out 1).trans rfl
         have hfs37 := blk_frozen BK455.out 1
         have hns37_0 := NB444_455.out
         have hns37_1 := NB445_455.out
         have hns37_3 := NB457_455.out
         have hms37_0 := NB455_444.out
         have hms37_1 := NB455_445.out
         have hms37_3 := NB455_457.out
         refine skip_ (w1 := ?_) (by rfl) rfl ?_ ?_
         rotate_left
         ·go_simp
          rfl
         refine hK.out _ _ ?_
         clear hK K
         refine done_ (done_of HT_.out (by kernel_rfl)) ?_
         try go_wp2
         go_roundg k1
         case measure => have := HK1.out; omega
         case rel => exact ⟨(wrap64 (x15_1 + 1)), (y464), (.slice Ao36 y464.length co36), aX, H', ⟨by have := HK1.out; omega⟩, ⟨by (with_reducible repeat apply pR); exact Kd.R_mono (Kd.R_far (p := ⟨gb455, 1, none⟩) (Kd.R_types HO_456000.out BK455.out (by decide)) (fun _ hk => hk.2) (.slice Ao36 y464.length co36)) (fun _ hk => trivial)⟩, ⟨by (with_reducible repeat apply pS); exact Kd.S_mono (Kd.S_far (p := ⟨gb455, 1, none⟩) (Kd.S_types HO466.out BK455.out (by decide)) (fun _ hk => hk.2) (.slice Ao36 y464.length co36)) (fun _ hk => trivial)⟩, ⟨by (with_reducible repeat refine pB ?_); refine blk_far ?_ NB444_455.out _; (with_reducible repeat refine pB ?_); exact BK444.out⟩, ⟨by (with_reducible repeat refine pB ?_); refine blk_far ?_ NB445_455.out _; (with_reducible repeat refine pB ?_); exact BK445.out⟩, ⟨by (with_reducible repeat refine pB ?_); refine blk_put (cs := #[.slice Ao13 y449.length co13, u456001]) ?_ 1 _ rfl; (with_reducible repeat refine pB ?_); exact BK455.out⟩, ⟨aG⟩⟩
        ·rw [if_neg c23] at H
         exact absurd H (by simp)
       ·rw [if_neg c22] at H
        exact absurd H (by simp)
      ·rw [if_neg c21] at H
       exact absurd H (by simp)
     ·rw [if_neg c20] at H
      exact absurd H (by simp)
    ·rw [if_neg c19] at H
     have c19b0 : decide (x15_1 < (l0_1.length : Int)) = false := decide_eq_false c19
     clear c19
     simp only [Option.some.injEq, Prod.mk.injEq] at H
     obtain ⟨rfl, rfl⟩ := H
     have hnb38 := NB455_444.out
     have hnc38 := NB444_455.out
     have hnb39 := NB455_445.out
     have hnc39 := NB445_455.out
     have hcz40_0 : wr.cell? ⟨gb455, 0, none⟩ = some (.slice Ao13 y449.length co13) := (blk_cell BK455.out 0).trans rfl
     have hcz40_1 : wr.cell? ⟨gb455, 1, none⟩ = some (u456001) := (blk_cell BK455.out 1).trans rfl
     have hfz40_0 := blk_frozen BK455.out 0
     have hfz40_1 := blk_frozen BK455.out 1
     have hnb41 := NB445_444.out
     have hnc41 := NB444_445.out
     have hcz42_0 : wr.cell? ⟨gb445, 0, none⟩ = some (.slice none 0 0) := (blk_cell BK445.out 0).trans rfl
     have hcz42_1 : wr.cell? ⟨gb445, 1, none⟩ = some (.slice none 0 0) := (blk_cell BK445.out 1).trans rfl
     have hfz42_0 := blk_frozen BK445.out 0
     have hfz42_1 := blk_frozen BK445.out 1
     obtain ⟨Ao43, co43, eo43⟩ := Kd.S_slice HO_456001.out
     subst eo43
     go_wp2
     refine bodyPost_ret (results_cell_row rfl _ _ gb445 31 #[.slice Ao13 y449.length co13, .slice Ao43 x456001_1.length co43] (0, 0) _ rfl (by (with_reducible repeat refine pB ?_); refine blk_put (cs := #[.slice Ao13 y449.length co13, .slice none 0 0]) ?_ 1 _ rfl; (with_reducible repeat refine pB ?_); refine blk_put (cs := #[.slice none 0 0, .slice none 0 0]) ?_ 0 _ rfl; (with_reducible repeat refine pB ?_); exact BK445.out) Tryd.underlying31 rfl (by kernel_rfl)) rfl ?_
     exact ⟨_, _, aE, by (with_reducible repeat apply pR); exact Kd.R_mono (Kd.R_far (p := ⟨gb445, 1, none⟩) (Kd.R_far (p := ⟨gb445, 0, none⟩) (Kd.R_types HO_456000.out BK445.out (by decide)) (fun _ hk => hk.2) (.slice Ao13 y449.length co13)) (fun _ hk => hk.2) (.slice Ao43 x456001_1.length co43)) (fun _ hk => trivial), by (with_reducible repeat apply pS); exact Kd.S_mono (Kd.S_far (p := ⟨gb445, 1, none⟩) (Kd.S_far (p := ⟨gb445, 0, none⟩) (Kd.S_types HO_456001.out BK445.out (by decide)) (fun _ hk => hk.2) (.slice Ao13 y449.length co13)) (fun _ hk => hk.2) (.slice Ao43 x456001_1.length co43)) (fun _ hk => trivial), aG⟩
 ·rw [if_neg c2] at H
  exact absurd H (by simp)

end Go.Proofs.YtckpikfbhlhhjaaDoor.PFnSelectFacts
