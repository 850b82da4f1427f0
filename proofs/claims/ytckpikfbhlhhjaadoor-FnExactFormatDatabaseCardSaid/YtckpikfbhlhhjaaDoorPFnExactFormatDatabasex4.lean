-- Laid by a program of this claim: what the functions come to, some of them proved by hand.
import Derived.Test.YtckpikfbhlhhjaaDoorPFnExactFormatDatabasex0
import Derived.Test.YtckpikfbhlhhjaaDoorPFnExactFormatDatabasex1
import Derived.Test.YtckpikfbhlhhjaaDoorPFnExactFormatDatabasex3
namespace Go.Proofs.YtckpikfbhlhhjaaDoor.PFnExactFormatDatabase
open Go.RowKit Go.Proofs.YtckpikfbhlhhjaaDoorW.PrintWords Go.Proofs.YtckpikfbhlhhjaaDoorW.PrintLast Go.Proofs.YtckpikfbhlhhjaaDoorW.PrintMore
attribute [local go_sem] max2_int min2_int max_two min_two max_three min_three max_four min_four   -- for this text's walks alone
set_option linter.unusedVariables false
set_option linter.unusedSimpArgs false

/-! ### impl_IsValidDatabase: function 34 -/
section
open Base
theorem cmp1 (x y : Int) : cmp_Compare_int.f x y = some (if x < y then -1 else if x > y then 1 else 0) := by
 unfold cmp_Compare_int.f cmp_isNaN_int.f
 simp only [Option.bind_some, bne_self_eq_false, Bool.false_eq_true, if_false]
 by_cases h1 : x < y
 ·rw [if_pos h1, if_pos h1]
 ·rw [if_neg h1, if_neg h1]
  by_cases h2 : x > y
  ·rw [if_pos h2, if_pos h2]
  ·rw [if_neg h2, if_neg h2]
theorem cmpIl (a b : List Int) (ha : a.length ≤ 9223372036854775807) (hb : b.length ≤ 9223372036854775807) (d : Nat) : ∀ (i : Nat), i + d = a.length → ∀ k, d < k → slices_Compare_int_int.l0 k a b a (a.length : Int) i = some (cmpI (a.drop i) (b.drop i)) ∨ b.length < i := by
 induction d with
 | zero =>
  intro i hd k hk
  by_cases hbi : b.length < i
  ·exact .inr hbi
  left
  obtain ⟨k, rfl, hk⟩ := fuel hk
  rw [slices_Compare_int_int.l0, if_neg (by omega), cmpI_end (.inl (List.drop_of_length_le (by omega))), List.length_drop, List.length_drop]
  by_cases h1 : (a.length : Int) < (b.length : Int)
  ·rw [if_pos h1, if_pos (show a.length - i < b.length - i by omega)]
  ·rw [if_neg h1, if_neg (show ¬ a.length - i < b.length - i by omega), if_neg (show ¬ a.length - i > b.length - i by omega)]
 | succ d ih =>
  intro i hd k hk
  by_cases hbi : b.length < i
  ·exact .inr hbi
  left
  obtain ⟨k, rfl, hk⟩ := fuel hk
  rw [slices_Compare_int_int.l0, if_pos (by omega), if_pos (by omega), if_pos (by omega)]
  by_cases hlt : i < b.length
  ·have e1 : wrap64 ((i : Int) + 1) = ((i + 1 : Nat) : Int) := by rw [w64 (by omega) (by omega)]; omega
   have e2 : rd a (i : Int) = a[i] := by unfold rd; rw [Int.toNat_natCast, getD_lt a _ i (by omega)]
   have e3 : rd b (i : Int) = b[i] := by unfold rd; rw [Int.toNat_natCast, getD_lt b _ i (by omega)]
   rw [if_neg (by omega), if_pos (by omega), e1, e2, e3, cmp1]
   simp only [Option.bind_some]
   rw [List.drop_eq_getElem_cons (i := i) (l := a) (by omega), List.drop_eq_getElem_cons (i := i) (l := b) (by omega), cmpI]
   by_cases h1 : a[i] < b[i]
   ·simp [h1]
   ·by_cases h2 : a[i] > b[i]
    ·simp [h1, h2]
    ·rw [if_neg h1, if_neg h2, if_pos rfl, if_neg h1, if_neg h2]
     rcases ih (i + 1) (by omega) k (by omega) with h | h
     ·exact h
     ·omega
  ·rw [if_pos (by omega), cmpI_end (.inr (List.drop_of_length_le (by omega))), List.length_drop, List.length_drop, if_neg (by omega), if_pos (by omega)]
theorem cmpIs (a b : List Int) (ha : a.length ≤ 9223372036854775807) (hb : b.length ≤ 9223372036854775807) (k : Nat) (hk : a.length < k) : slices_Compare_int_int.f k a b = some (cmpI a b) := by
 rcases cmpIl a b ha hb a.length 0 (by omega) k hk with h | h
 ·exact h
 ·omega
theorem cmpFI (x : Int) (a : List Int) (y : Int) (b : List Int) (ha : a.length ≤ 9223372036854775807) (hb : b.length ≤ 9223372036854775807) (k : Nat) (hk : a.length < k) : impl_CompareFacts.f k x a y b = some (cmpF x a y b) := by
 unfold impl_CompareFacts.f cmpF
 by_cases h0 : x = y
 ·subst h0
  rw [if_pos rfl, cmpIs a b ha hb k hk, if_neg (by omega), if_neg (by omega)]
  rfl
 ·rw [if_neg h0, impl_compare.f]
  by_cases h1 : x < y
  ·rw [if_pos h1, if_pos h1]; rfl
  ·rw [if_neg h1, if_neg h1, if_pos (by omega), if_pos (by omega)]; rfl
end

section
open Base
/-- A fact of these relations: its relation is one of them, it has vs many values vs that one asks, each a value. -/
def fits (l : List S68) (a : Int) (vs : List Int) : Bool := decide (0 ≤ a ∧ a < (l.length : Int) ∧ (vs.length : Int) = (rd_T68 l a).f1) && !vs.any noVal
def vFact (l : List S68) (a : Int) (vs : List Int) : Bool := vRels l && fits l a vs
theorem fitI (l : List S68) (hl : l.length ≤ 9223372036854775807) (a : Int) (vs : List Int) : impl_isFact.f l a vs = some (fits l a vs) := by
 unfold impl_isFact.f impl_areValues.f fits
 rw [inI, Option.bind_some, Option.bind_some, w64 (by omega) (by omega)]
 by_cases h1 : 0 ≤ a ∧ a < (l.length : Int)
 ·rw [if_pos (by unfold inB; simpa using (by omega : 0 ≤ a ∧ a ≤ (l.length : Int) - 1)), if_pos h1.1, if_pos h1.2]
  by_cases h2 : (vs.length : Int) = (rd_T68 l a).f1
  ·rw [if_pos h2, decide_eq_true (by exact ⟨h1.1, h1.2, h2⟩)]
   simp
  ·rw [if_neg h2, decide_eq_false (by intro h; exact h2 h.2.2)]
   simp
 ·rw [if_neg (by unfold inB; simpa using (by omega : 0 ≤ a → ¬ a ≤ (l.length : Int) - 1)), decide_eq_false (by intro h; exact h1 ⟨h.1, h.2.1⟩)]
  simp
/-- Facts i, i + 1, .. (d of them): each fits, each behind its forerunner. -/
def okFrom (l : List S68) (fs : List S39) : Nat → Nat → Bool
 | 0, _ => true
 | d + 1, i => fits l (fs.getD i z39).f0 (fs.getD i z39).f1 && (decide (i = 0) || decide (cmpF (fs.getD (i - 1) z39).f0 (fs.getD (i - 1) z39).f1 (fs.getD i z39).f0 (fs.getD i z39).f1 < 0)) && okFrom l fs d (i + 1)
def vDb (l : List S68) (fs : List S39) : Bool := vRels l && decide (fs.length ≤ 14) && okFrom l fs fs.length 0
end

section
open Base
def impl_IsValidDatabase.f (l0_0 : List S68) (l0_1 : List S39) : Option Bool := some (vDb l0_0 l0_1)
set_option maxHeartbeats 4000000 in
set_option maxRecDepth 100000 in
theorem impl_IsValidDatabase.calls (A0_0 : Option Addr) (c0_0 : Nat) (l0_0 : List S68) (A0_1 : Option Addr) (c0_1 : Nat) (l0_1 : List S39) (r : Bool) (w : World) (hr0_0 : Kd.C k68 w A0_0 l0_0.length l0_0) (hc0_0 : l0_0.length ≤ c0_0) (hr0_1 : Kd.C k39 w A0_1 l0_1.length l0_1) (hc0_1 : l0_1.length ≤ c0_1) (h : impl_IsValidDatabase.f l0_0 l0_1 = some r) :
  Calls Tryd.prog 34 #[.agg #[.slice A0_0 l0_0.length c0_0, .slice A0_1 l0_1.length c0_1]] w fun e w' => e = .returned (.bool r) ∧ Below w.heap.size w w' := by
 obtain rfl := Option.some.inj h
 have hlr : l0_0.length ≤ 9223372036854775807 := hr0_0.2.1
 have hlf : l0_1.length ≤ 9223372036854775807 := hr0_1.2.1
 have HRR := aM hr0_0
 have HRF := aM hr0_1
 have HA : Aside0 (∀ o, Calls Tryd.prog 76 #[.slice A0_0 l0_0.length c0_0] (w.alloc o) fun e w' => e = .returned (.bool (vRels l0_0)) ∧ Below (w.alloc o).heap.size (w.alloc o) w') :=
  ⟨fun o => impl_AreValidRelations.calls A0_0 c0_0 l0_0 _ _ (Kd.C_below hr0_0 (below_alloc (Below.refl _ _) _)) hc0_0 rfl⟩
 have F0 : Aside0 ((w.alloc (.cells #[.slice A0_0 l0_0.length c0_0, .slice A0_1 l0_1.length c0_1] 31)).cell? ⟨w.heap.size, 0, none⟩ = some (.slice A0_0 l0_0.length c0_0)) := ⟨(blk_cell (heap_alloc_new w _) 0).trans rfl⟩
 have F1 : Aside0 ((w.alloc (.cells #[.slice A0_0 l0_0.length c0_0, .slice A0_1 l0_1.length c0_1] 31)).cell? ⟨w.heap.size, 1, none⟩ = some (.slice A0_1 l0_1.length c0_1)) := ⟨(blk_cell (heap_alloc_new w _) 1).trans rfl⟩
 have B1 : Aside0 (Below w.heap.size w (w.alloc (.cells #[.slice A0_0 l0_0.length c0_0, .slice A0_1 l0_1.length c0_1] 31))) := ⟨below_alloc (Below.refl _ _) _⟩
 clear hr0_0 hr0_1 h
 by_cases h0 : vRels l0_0 = true ∧ l0_1.length ≤ 14
 ·obtain ⟨hv, hn⟩ := h0
  rw [hv] at HA
  have hd : decide ((14 : Int) < (l0_1.length : Int)) = false := decide_eq_false (by omega)
  have hd' : decide (14 < l0_1.length) = false := decide_eq_false (by omega)
  have HR : Aside0 (vDb l0_0 l0_1 = okFrom l0_0 l0_1 l0_1.length 0) := ⟨by unfold vDb; rw [hv, decide_eq_true hn]; rfl⟩
  clear hv hn
  go_enter Tryd.func34, Tryd.ntmps34
  go_wp2_with (go_at_call 76; refine (HA.out _).mono ?_; rintro e w1 ⟨rfl, hb1⟩; have k0 := pw_cell_below hb1 F0.out; have k1 := pw_cell_below hb1 F1.out; have K0 := aM k0; have K1 := aM k1; have BW1 := aM (below_then B1.out B1.out.size hb1))
  go_loopg [18] l0_1.length (fun gg s18 wr => ∃ i : Nat, i ≤ l0_1.length ∧ l0_1.length - i ≤ gg ∧ s18 = .int .i64 i ∧ Aside0 (Below w1.heap.size w1 wr) ∧ Aside0 (okFrom l0_0 l0_1 (l0_1.length - i) i = okFrom l0_0 l0_1 l0_1.length 0))
  case atStart => exact ⟨0, Nat.zero_le _, by omega, rfl, ⟨Below.refl _ _⟩, ⟨rfl⟩⟩
  case round =>
   obtain ⟨i, hi, hg, rfl, BW, HO⟩ := hrel
   by_cases hlt : i < l0_1.length
   ·have hltz : (i : Int) < (l0_1.length : Int) := by omega
    have BB : Aside0 (Below w.heap.size w wr) := ⟨below_then BW1.out BW1.out.size BW.out⟩
    obtain ⟨ad, A2, c2, e, h0, h1, h2, h3⟩ := at_T39 (Kd.C_below HRF.out BB.out) (i : Int) (by omega) hltz
    rw [Int.toNat_natCast] at h0 h1
    cases e
    have hrd : rd_T39 l0_1 (i : Int) = l0_1.getD i z39 := by unfold rd_T39; rw [Int.toNat_natCast]
    rw [hrd] at h0 h1 h2 h3
    clear hrd
    have HX : Aside0 (okFrom l0_0 l0_1 (l0_1.length - i) i = (fits l0_0 (l0_1.getD i z39).f0 (l0_1.getD i z39).f1 && (decide (i = 0) || decide (cmpF (l0_1.getD (i - 1) z39).f0 (l0_1.getD (i - 1) z39).f1 (l0_1.getD i z39).f0 (l0_1.getD i z39).f1 < 0)) && okFrom l0_0 l0_1 (l0_1.length - (i + 1)) (i + 1))) := ⟨by
     rw [show l0_1.length - i = (l0_1.length - (i + 1)) + 1 by omega]; rfl⟩
    generalize l0_1.getD i z39 = x at h0 h1 h2 h3 HX
    have B2 : Aside0 (Below w.heap.size w (wr.alloc (.cells #[.int .i64 x.f0, .slice A2 x.f1.length c2] 39))) := ⟨below_alloc BB.out _⟩
    have B3 : Aside0 (Below w1.heap.size w1 (wr.alloc (.cells #[.int .i64 x.f0, .slice A2 x.f1.length c2] 39))) := ⟨below_alloc BW.out _⟩
    have D0 : Aside0 ((wr.alloc (.cells #[.int .i64 x.f0, .slice A2 x.f1.length c2] 39)).cell? ⟨w.heap.size, 0, none⟩ = some (.slice A0_0 l0_0.length c0_0)) := ⟨pw_cell_below B3.out K0.out⟩
    have D1 : Aside0 ((wr.alloc (.cells #[.int .i64 x.f0, .slice A2 x.f1.length c2] 39)).cell? ⟨w.heap.size, 1, none⟩ = some (.slice (some ad) l0_1.length c0_1)) := ⟨pw_cell_below B3.out K1.out⟩
    have E0 : Aside0 ((wr.alloc (.cells #[.int .i64 x.f0, .slice A2 x.f1.length c2] 39)).cell? ⟨wr.heap.size, 0, none⟩ = some (.int .i64 x.f0)) := ⟨(blk_cell (heap_alloc_new wr _) 0).trans rfl⟩
    have E1 : Aside0 ((wr.alloc (.cells #[.int .i64 x.f0, .slice A2 x.f1.length c2] 39)).cell? ⟨wr.heap.size, 1, none⟩ = some (.slice A2 x.f1.length c2)) := ⟨(blk_cell (heap_alloc_new wr _) 1).trans rfl⟩
    have CX : Aside0 (Kd.C (Kd.int .i64) (wr.alloc (.cells #[.int .i64 x.f0, .slice A2 x.f1.length c2] 39)) A2 x.f1.length x.f1) := ⟨Kd.C_below h3 (below_alloc (Below.refl _ _) _)⟩
    have HCf : Aside0 (∀ d os, Calls Tryd.prog 77 #[.slice A0_0 l0_0.length c0_0, .agg #[.int .i64 x.f0, .slice A2 x.f1.length c2]] (Go.Sort.grow (redrawn (wr.alloc (.cells #[.int .i64 x.f0, .slice A2 x.f1.length c2] 39)) d) os) fun e w'' => e = .returned (.bool (fits l0_0 x.f0 x.f1)) ∧ ∃ p : Regrown, w'' = Go.Sort.grow (redrawn (wr.alloc (.cells #[.int .i64 x.f0, .slice A2 x.f1.length c2] 39)) p.d) p.os) :=
     ⟨fun d os => Calls.regrown_of (impl_isFact.calls A0_0 c0_0 l0_0 x.f0 A2 c2 x.f1 _ _ (Kd.C_below HRR.out (below_then B2.out B2.out.size (below_regrown _ d os))) hc0_0 (Kd.C_below CX.out (below_regrown _ d os)) h2 (fitI l0_0 hlr x.f0 x.f1))⟩
    have HL : Aside0 (x.f1.length ≤ 9223372036854775807) := ⟨h3.2.1⟩
    have HL2 := aM h2
    clear h3 h2
    by_cases hi0 : i = 0 ∨ fits l0_0 x.f0 x.f1 = false
    ·have hq0 : fits l0_0 x.f0 x.f1 = true → decide (0 < i) = false ∧ decide ((0 : Int) < (i : Int)) = false := fun hx => by
      rcases hi0 with h | h
      ·simp [h]
      ·rw [hx] at h; cases h
     have hX : okFrom l0_0 l0_1 (l0_1.length - i) i = (fits l0_0 x.f0 x.f1 && okFrom l0_0 l0_1 (l0_1.length - (i + 1)) (i + 1)) := by
      rw [HX.out]
      rcases hi0 with h | h
      ·simp [h]
      ·simp [h]
     have HX := aM hX
     clear hX hi0
     cases hv : fits l0_0 x.f0 x.f1 with
     | false =>
      rw [hv] at HCf
      have HV := aM hv
      clear hv hq0
      go_wp2_with fail
      clear h0 h1
      generalize wr.alloc (.cells #[.int .i64 x.f0, .slice A2 x.f1.length c2] 39) = w2 at D0 D1 E0 E1 B2 B3 CX HCf ⊢
      generalize wr.heap.size = gb at E0 E1 ⊢
      have f0 := cell_regrown D0.out
      have f1 := cell_regrown D1.out
      have f2 := cell_regrown E0.out
      have f3 := cell_regrown E1.out
      refine wp_region_quiet_below (by kernel_rfl) (by kernel_rfl) ?_
      repeat (go_big_quiet_step (exact HCf.out _ _))
      refine wpQuiet_nil ?_
      intro _ hw'
      obtain ⟨⟨dq, osq⟩, hw''⟩ := hw'
      subst hw''
      go_wp2
      go_ret
      exact ⟨by rw [HR.out, ← HO.out, HX.out, HV.out]; rfl, below_then B2.out B2.out.size (below_regrown _ _ _)⟩
     | true =>
      obtain ⟨hq1, hq2⟩ := hq0 hv
      rw [hv] at HCf
      have HV := aM hv
      clear hv hq0
      go_wp2_with fail
      clear h0 h1
      generalize wr.alloc (.cells #[.int .i64 x.f0, .slice A2 x.f1.length c2] 39) = w2 at D0 D1 E0 E1 B2 B3 CX HCf ⊢
      generalize wr.heap.size = gb at E0 E1 ⊢
      have f0 := cell_regrown D0.out
      have f1 := cell_regrown D1.out
      have f2 := cell_regrown E0.out
      have f3 := cell_regrown E1.out
      refine wp_region_quiet_below (by kernel_rfl) (by kernel_rfl) ?_
      repeat (go_big_quiet_step (exact HCf.out _ _))
      refine wpQuiet_nil ?_
      intro _ hw'
      obtain ⟨⟨dq, osq⟩, hw''⟩ := hw'
      subst hw''
      go_wp2
      go_roundg (l0_1.length - (i + 1))
      case measure => omega
      case rel => exact ⟨i + 1, by omega, by omega, by go_num, ⟨below_then B3.out B3.out.size (below_regrown _ _ _)⟩, ⟨by rw [← HO.out, HX.out, HV.out]; rfl⟩⟩
    ·have hi1 : i ≠ 0 := fun h => hi0 (.inl h)
     have hv : fits l0_0 x.f0 x.f1 = true := by
      cases h : fits l0_0 x.f0 x.f1 with
      | true => rfl
      | false => exact absurd (.inr h) hi0
     clear hi0
     obtain ⟨ad', A3, c3, e', g0, g1, g2, g3⟩ := at_T39 (Kd.C_below HRF.out BB.out) ((i - 1 : Nat) : Int) (by omega) (by omega)
     cases e'
     rw [Int.toNat_natCast] at g0 g1
     have hrd : rd_T39 l0_1 ((i - 1 : Nat) : Int) = l0_1.getD (i - 1) z39 := by unfold rd_T39; rw [Int.toNat_natCast]
     rw [hrd] at g0 g1 g2 g3
     clear hrd
     have hX : okFrom l0_0 l0_1 (l0_1.length - i) i = (decide (cmpF (l0_1.getD (i - 1) z39).f0 (l0_1.getD (i - 1) z39).f1 x.f0 x.f1 < 0) && okFrom l0_0 l0_1 (l0_1.length - (i + 1)) (i + 1)) := by
      rw [HX.out, hv]; simp [hi1]
     have HX := aM hX
     rw [hv] at HCf
     clear hX hv
     generalize l0_1.getD (i - 1) z39 = y at g0 g1 g2 g3 HX
     have G0 : Aside0 ((wr.alloc (.cells #[.int .i64 x.f0, .slice A2 x.f1.length c2] 39)).cell? (ad.add ((i - 1) * 2)) = some (.int .i64 y.f0)) := ⟨(World.cell?_alloc_lt _ _ _ (World.block_lt_of_cell? wr _ g0)).trans g0⟩
     have G1 : Aside0 ((wr.alloc (.cells #[.int .i64 x.f0, .slice A2 x.f1.length c2] 39)).cell? ⟨(ad.add ((i - 1) * 2)).block, (ad.add ((i - 1) * 2)).off + 1, none⟩ = some (.slice A3 y.f1.length c3)) := ⟨(World.cell?_alloc_lt _ _ _ (World.block_lt_of_cell? wr _ g1)).trans g1⟩
     have HCc : Aside0 (∀ d os, Calls Tryd.prog 21 #[.agg #[.int .i64 y.f0, .slice A3 y.f1.length c3], .agg #[.int .i64 x.f0, .slice A2 x.f1.length c2]] (Go.Sort.grow (redrawn (wr.alloc (.cells #[.int .i64 x.f0, .slice A2 x.f1.length c2] 39)) d) os) fun e w'' => e = .returned (.int .i64 (cmpF y.f0 y.f1 x.f0 x.f1)) ∧ ∃ p : Regrown, w'' = Go.Sort.grow (redrawn (wr.alloc (.cells #[.int .i64 x.f0, .slice A2 x.f1.length c2] 39)) p.d) p.os) :=
      ⟨fun d os => Calls.regrown_of (impl_CompareFacts.calls (y.f1.length + 1) y.f0 A3 c3 y.f1 x.f0 A2 c2 x.f1 _ _ (Kd.C_below (Kd.C_below g3 (below_alloc (Below.refl _ _) _)) (below_regrown _ d os)) g2 (Kd.C_below CX.out (below_regrown _ d os)) HL2.out (cmpFI y.f0 y.f1 x.f0 x.f1 g3.2.1 HL.out _ (Nat.lt_succ_self _)))⟩
     clear g0 g1 g2 g3
     have e3 : IntKind.i64.wrap ((i : Int) - 1) = ((i - 1 : Nat) : Int) := by rw [IntKind.wrap_i64]; omega
     have hq1 : decide (0 < i) = true := by simp; omega
     have hq2 : decide ((0 : Int) < (i : Int)) = true := by simp; omega
     have hm0 : (0 : Int) ≤ ((i - 1 : Nat) : Int) := by omega
     have hm1 : ((i - 1 : Nat) : Int) < (l0_1.length : Int) := by omega
     go_wp2_with fail
     clear h0 h1
     generalize wr.alloc (.cells #[.int .i64 x.f0, .slice A2 x.f1.length c2] 39) = w2 at D0 D1 E0 E1 B2 B3 CX HCf G0 G1 HCc ⊢
     generalize wr.heap.size = gb at E0 E1 ⊢
     have f0 := cell_regrown D0.out
     have f1 := cell_regrown D1.out
     have f2 := cell_regrown E0.out
     have f3 := cell_regrown E1.out
     have f4 := cell_regrown G0.out
     have f5 := cell_regrown G1.out
     generalize cmpF y.f0 y.f1 x.f0 x.f1 = z at HCc HX
     by_cases hz : z < 0
     ·have hz1 : decide (0 ≤ z) = false := decide_eq_false (by omega)
      have HX := aM (show okFrom l0_0 l0_1 (l0_1.length - i) i = okFrom l0_0 l0_1 (l0_1.length - (i + 1)) (i + 1) by rw [HX.out, decide_eq_true hz, Bool.true_and])
      clear hz
      refine wp_region_quiet_below (by kernel_rfl) (by kernel_rfl) ?_
      repeat (go_big_quiet_step (first | exact HCf.out _ _ | exact HCc.out _ _))
      refine wpQuiet_nil ?_
      intro _ hw'
      obtain ⟨⟨dq, osq⟩, hw''⟩ := hw'
      subst hw''
      go_wp2
      go_roundg (l0_1.length - (i + 1))
      case measure => omega
      case rel => exact ⟨i + 1, by omega, by omega, by go_num, ⟨below_then B3.out B3.out.size (below_regrown _ _ _)⟩, ⟨by rw [← HO.out, HX.out]⟩⟩
     ·have hz1 : decide (0 ≤ z) = true := decide_eq_true (by omega)
      have HX := aM (show okFrom l0_0 l0_1 (l0_1.length - i) i = false by rw [HX.out, decide_eq_false hz, Bool.false_and])
      clear hz
      refine wp_region_quiet_below (by kernel_rfl) (by kernel_rfl) ?_
      repeat (go_big_quiet_step (first | exact HCf.out _ _ | exact HCc.out _ _))
      refine wpQuiet_nil ?_
      intro _ hw'
      obtain ⟨⟨dq, osq⟩, hw''⟩ := hw'
      subst hw''
      go_wp2
      go_ret
      exact ⟨by rw [HR.out, ← HO.out, HX.out]; rfl, below_then B2.out B2.out.size (below_regrown _ _ _)⟩
   ·have hd2 : decide (i < l0_1.length) = false := decide_eq_false hlt
    have hle : l0_1.length ≤ i := by omega
    have HX : Aside0 (vDb l0_0 l0_1 = true) := ⟨by rw [HR.out, ← HO.out, show l0_1.length - i = 0 by omega]; rfl⟩
    clear hlt
    go_wp2
    go_ret
    exact ⟨by rw [HX.out]; rfl, below_then BW1.out BW1.out.size BW.out⟩
 ·have hd : (vRels l0_0 && decide (l0_1.length ≤ 14)) = false := by
   rw [Bool.eq_false_iff, ne_eq, Bool.and_eq_true, decide_eq_true_iff]; exact h0
  have HR : Aside0 (vDb l0_0 l0_1 = false) := ⟨by unfold vDb; rw [hd]; rfl⟩
  clear h0
  cases hv : vRels l0_0 with
  | false =>
   rw [hv] at HA
   clear hv hd
   go_enter Tryd.func34, Tryd.ntmps34
   go_wp2_with (go_at_call 76; refine (HA.out _).mono ?_; rintro e w1 ⟨rfl, hb1⟩; have k0 := pw_cell_below hb1 F0.out; have k1 := pw_cell_below hb1 F1.out)
   go_ret
   exact ⟨by rw [HR.out]; rfl, below_then B1.out B1.out.size hb1⟩
  | true =>
   rw [hv] at HA hd
   have hn : ¬ l0_1.length ≤ 14 := by simpa using hd
   have hd : decide ((14 : Int) < (l0_1.length : Int)) = true := decide_eq_true (by omega)
   have hd' : decide (14 < l0_1.length) = true := decide_eq_true (by omega)
   clear hv hn
   go_enter Tryd.func34, Tryd.ntmps34
   go_wp2_with (go_at_call 76; refine (HA.out _).mono ?_; rintro e w1 ⟨rfl, hb1⟩; have k0 := pw_cell_below hb1 F0.out; have k1 := pw_cell_below hb1 F1.out)
   go_ret
   exact ⟨by rw [HR.out]; rfl, below_then B1.out B1.out.size hb1⟩
theorem vDI (l : List S68) (_hl : l.length ≤ 1048576) (fs : List S39) (_hf : fs.length ≤ 1048576) (_hg : ∀ y ∈ fs, y.f1.length ≤ 1048576) (k : Nat) (_hk : 6000000 < k) : impl_IsValidDatabase.f l fs = some (vDb l fs) := rfl
end


/-! ### strconv_Itoa_92: function 92 -/
def strconv_Itoa_92.f (a0 : Int) : Option (ByteArray) := if -9223372036854775808 ≤ a0 then (if a0 ≤ 9223372036854775807 then (some (⟨(Lib.itoa a0).toArray⟩ : ByteArray)) else (none)) else (none)
theorem strconv_Itoa_92.calls (a0 : Int) (r : ByteArray) (w : World) (h : strconv_Itoa_92.f a0 = some r) (hp_ : Go.Proofs.YtckpikfbhlhhjaaDoor.Shelf.Pow w) :
 Calls Tryd.prog 92 #[.int .i64 a0] w fun e w' => e = .returned (.string r) ∧ Below w.heap.size w w' := by
 unfold strconv_Itoa_92.f at h
 replace h := ie h; rcases h with ⟨c0, c0a, h⟩ | ⟨c0, c0a, h⟩
 replace h := ie h; rcases h with ⟨c1, c1a, h⟩ | ⟨c1, c1a, h⟩
 obtain rfl := si h
 exact Shelf.Itoa a0 c0.out c1.out w hp_
 exact absurd h (by simp)
 exact absurd h (by simp)


/-! ### impl_FormatInt: function 51 -/
def impl_FormatInt.f (a0 : Int) : Option (ByteArray) := (strconv_Itoa_92.f a0).bind fun t256 => (some t256)
set_option maxHeartbeats 8000000 in
set_option maxRecDepth 100000 in
theorem impl_FormatInt.calls (a0 : Int) (r : ByteArray) (w : World) (h : impl_FormatInt.f a0 = some r) (hp_ : Go.Proofs.YtckpikfbhlhhjaaDoor.Shelf.Pow w) :
  Calls Tryd.prog 51 #[.int .i64 a0] w fun e w' => e = .returned (.string r) ∧ Below w.heap.size w w' := by
 unfold impl_FormatInt.f at h
 replace h := bs h; obtain ⟨t256, B0, h⟩ := h
 obtain rfl := si h
 rotate_left
 all_goals (go_enter Tryd.func51, Tryd.ntmps51; go_wp2_with (first | (go_at_call 92; refine (strconv_Itoa_92.calls _ ?_ _ ?h ?hp).mono ?_; (case h => exact zA); (case hp => exact hp_.on zB); rintro e w1 ⟨rfl, hb⟩; replace hb := aM hb; have HB : Below w.heap.size w w1 := zB)); go_ret; exact zE zB)

/-! ### impl_FormatRelation: function 43 -/
def impl_FormatRelation.f (a0_0 : ByteArray) (a0_1 : Int) (a0_2 : Int) : Option (ByteArray) := (impl_IsValidRelation.f a0_0 a0_1 a0_2).bind fun t258 => (if t258 = true then ((impl_FormatInt.f a0_2).bind fun t259 => (if a0_0.size + t259.size ≤ 9223372036854775807 then (if (a0_0 ++ t259).size + 1 ≤ 9223372036854775807 then ((impl_FormatInt.f a0_1).bind fun t260 => (if ((a0_0 ++ t259) ++ (⟨#[47]⟩ : ByteArray)).size + t260.size ≤ 9223372036854775807 then (some (((a0_0 ++ t259) ++ (⟨#[47]⟩ : ByteArray)) ++ t260)) else (none))) else (none)) else (none))) else (some (⟨#[]⟩ : ByteArray)))
set_option maxHeartbeats 8000000 in
set_option maxRecDepth 100000 in
theorem impl_FormatRelation.calls (a0_0 : ByteArray) (a0_1 : Int) (a0_2 : Int) (r : ByteArray) (w : World) (h : impl_FormatRelation.f a0_0 a0_1 a0_2 = some r) (hp_ : Go.Proofs.YtckpikfbhlhhjaaDoor.Shelf.Pow w) :
  Calls Tryd.prog 43 #[.agg #[.string a0_0, .int .i64 a0_1, .int .i64 a0_2]] w fun e w' => e = .returned (.string r) ∧ Below w.heap.size w w' := by
 have hu68 := Tryd.underlying68
 obtain ⟨W, hW⟩ : ∃ W, w.alloc (.cells #[.string a0_0, .int .i64 a0_1, .int .i64 a0_2] 68) = W := ⟨_, rfl⟩
 have q0 := qa (w := W) (p := ⟨w.heap.size, 0, none⟩) (v := .string a0_0) (by subst hW; go_simp)
 have q1 := qa (w := W) (p := ⟨w.heap.size, 1, none⟩) (v := .int .i64 a0_1) (by subst hW; go_simp)
 have q2 := qa (w := W) (p := ⟨w.heap.size, 2, none⟩) (v := .int .i64 a0_2) (by subst hW; go_simp)
 have HB : Below w.heap.size w W := by subst hW; exact zB
 have HW := Below.refl W.heap.size W
 have hb := aM HB
 have rg_ := @bcl w
 have rd_ := @bdr w
 have rG_ := @bcl W
 have rD_ := @bdr W
 unfold impl_FormatRelation.f at h
 replace h := bs h; obtain ⟨t258, B0, h⟩ := h
 replace h := ib h; rcases h with ⟨rfl, h⟩ | ⟨rfl, h⟩
 replace h := bs h; obtain ⟨t259, B2, h⟩ := h
 replace h := ieN h; rcases h with ⟨c3, c3a, h⟩ | ⟨c3, c3a, h⟩
 have c3x0 : decide (a0_0.size + t259.size ≤ 9223372036854775807) = true := decide_eq_true (of_eq_true c3a)
 have c3x1 : (9223372036854775807 < a0_0.size + t259.size) = False := eq_false (Nat.not_lt.2 (of_eq_true c3a))
 replace h := ieN h; rcases h with ⟨c4, c4a, h⟩ | ⟨c4, c4a, h⟩
 have c4x0 : decide ((a0_0 ++ t259).size + 1 ≤ 9223372036854775807) = true := decide_eq_true (of_eq_true c4a)
 have c4x1 : (9223372036854775807 < (a0_0 ++ t259).size + 1) = False := eq_false (Nat.not_lt.2 (of_eq_true c4a))
 have c4y := c4a; simp only [ByteArray.size_append] at c4y; have c4y0 := decide_eq_true (of_eq_true c4y); have c4y1 := eq_false (Nat.not_lt.2 (of_eq_true c4y))
 replace h := bs h; obtain ⟨t260, B5, h⟩ := h
 replace h := ieN h; rcases h with ⟨c6, c6a, h⟩ | ⟨c6, c6a, h⟩
 have c6x0 : decide (((a0_0 ++ t259) ++ (⟨#[47]⟩ : ByteArray)).size + t260.size ≤ 9223372036854775807) = true := decide_eq_true (of_eq_true c6a)
 have c6x1 : (9223372036854775807 < ((a0_0 ++ t259) ++ (⟨#[47]⟩ : ByteArray)).size + t260.size) = False := eq_false (Nat.not_lt.2 (of_eq_true c6a))
 have c6y := c6a; simp only [ByteArray.size_append, (show (⟨#[47]⟩ : ByteArray).size = 1 from rfl)] at c6y; have c6y0 := decide_eq_true (of_eq_true c6y); have c6y1 := eq_false (Nat.not_lt.2 (of_eq_true c6y))
 obtain rfl := si h
 rotate_left
 exact absurd h (by simp)
 exact absurd h (by simp)
 exact absurd h (by simp)
 obtain rfl := si h
 rotate_left
 all_goals (go_enter Tryd.func43, Tryd.ntmps43; go_wp2_with (first | (go_at_call 84; refine (impl_IsValidRelation.calls _ _ _ ?_ _ ?h).mono ?_; (case h => exact zA); rintro e w1 ⟨rfl, hb⟩; replace hb := aM hb; have HW : Below W.heap.size W w1 := zB; have HB : Below w.heap.size w w1 := zB)); (repeat ((refine nw (w0 := w) zB ?_; intro W1 HB hb hd; have HW : Below W.heap.size W W1 := zB; (first | (refine Txt.rg (id := 3) [0, 1, 2, 3, 7, 8, 4, 5, 6, 9, 10, 11] (by kernel_rfl) (by kernel_rfl) ?_; simp only [List.map_cons, List.map_nil, List.getD_cons_zero, List.getD_cons_succ])); (repeat (first | (refine Txt.off rfl ?_; simp only [Act.put, List.setIfInBounds_toArray, List.set_cons_zero, List.set_cons_succ]) | (refine Txt.take rfl rfl ?_; intro K hK; go_big_quiet_op; go_big_quiet_on) | (refine Txt.call rfl rfl Tryd.func51 (by kernel_rfl) rfl (impl_FormatInt.calls _ ?_ _ ?h ?hp) rfl ?_; (case h => exact zA); (case hp => exact hp_.on zB); rintro e w1 ⟨rfl, hb⟩; replace hb := aM hb; have HW : Below W.heap.size W w1 := zB; have HB : Below w.heap.size w w1 := zB; refine ⟨_, rfl, zS, ?_⟩; simp only [Act.put, List.setIfInBounds_toArray, List.set_cons_zero, List.set_cons_succ]))); refine Txt.nil ?_); (try go_wp2_with (first | (go_at_call 84; refine (impl_IsValidRelation.calls _ _ _ ?_ _ ?h).mono ?_; (case h => exact zA); rintro e w1 ⟨rfl, hb⟩; replace hb := aM hb; have HW : Below W.heap.size W w1 := zB; have HB : Below w.heap.size w w1 := zB))))); go_ret; exact zE zB)

-- NOT PRINTED: function 110 (abi_NoEscape)

-- NOT PRINTED: function 103 (strings_Builder_copyCheck)

-- NOT PRINTED: function 111 (bytealg_MakeNoZero)

-- NOT PRINTED: function 104 (strings_Builder_grow)

-- NOT PRINTED: function 85 (strings_Builder_Grow)

-- NOT PRINTED: function 86 (strings_Builder_WriteString)

-- NOT PRINTED: function 87 (strings_Builder_String)

/-! ### strings_Join: function 44 -/
def strings_Join.f (l0 : List ByteArray) (a1 : ByteArray) : Option (ByteArray) := if l0.length ≤ 1000000000 ∧ (Shelf.jn_ l0 a1).length ≤ 1000000000 then some (⟨(Shelf.jn_ l0 a1).toArray⟩ : ByteArray) else none
set_option maxHeartbeats 2000000 in
set_option maxRecDepth 100000 in
theorem strings_Join.calls (A0 : Option Addr) (c0 : Nat) (l0 : List ByteArray) (a1 : ByteArray) (r : ByteArray) (w : World) (hr0 : Kd.C Kd.string w A0 l0.length l0) (hc0 : l0.length ≤ c0) (h : strings_Join.f l0 a1 = some r) :
 Calls Tryd.prog 44 #[.slice A0 l0.length c0, .string a1] w fun e w' => e = .returned (.string r) ∧ Below w.heap.size w w' := by
 unfold strings_Join.f at h
 by_cases h2 : l0.length ≤ 1000000000 ∧ (Shelf.jn_ l0 a1).length ≤ 1000000000
 ·rw [if_pos h2] at h
  replace h := Option.some.inj h
  subst h
  exact Shelf.JoinS A0 l0 c0 a1 w hc0 hr0 (by omega) (by omega)
 ·rw [if_neg h2] at h; exact absurd h (by simp)


/-! ### impl_IsValidFact: function 50 -/
def impl_IsValidFact.f (l0 : List (S68)) (a1_0 : Int) (l1_1 : List Int) : Option (Bool) := (impl_AreValidRelations.f l0).bind fun t262 => (if t262 = true then ((impl_isFact.f l0 a1_0 l1_1).bind fun t263 => (some t263)) else (some false))
set_option maxHeartbeats 8000000 in
set_option maxRecDepth 100000 in
theorem impl_IsValidFact.calls (A0 : Option Addr) (c0 : Nat) (l0 : List (S68)) (a1_0 : Int) (A1_1 : Option Addr) (c1_1 : Nat) (l1_1 : List Int) (r : Bool) (w : World) (hr0 : Kd.C k68 w A0 l0.length l0) (hc0 : l0.length ≤ c0) (hr1_1 : Kd.C (Kd.int .i64) w A1_1 l1_1.length l1_1) (hc1_1 : l1_1.length ≤ c1_1) (h : impl_IsValidFact.f l0 a1_0 l1_1 = some r) :
  Calls Tryd.prog 50 #[.slice A0 l0.length c0, .agg #[.int .i64 a1_0, .slice A1_1 l1_1.length c1_1]] w fun e w' => e = .returned (.bool r) ∧ Below w.heap.size w w' := by
 have hu39 := Tryd.underlying39
 obtain ⟨W, hW⟩ : ∃ W, w.alloc (.cells #[.int .i64 a1_0, .slice A1_1 l1_1.length c1_1] 39) = W := ⟨_, rfl⟩
 have q0 := qa (w := W) (p := ⟨w.heap.size, 0, none⟩) (v := .int .i64 a1_0) (by subst hW; go_simp)
 have q1 := qa (w := W) (p := ⟨w.heap.size, 1, none⟩) (v := .slice A1_1 l1_1.length c1_1) (by subst hW; go_simp)
 have HB : Below w.heap.size w W := by subst hW; exact zB
 have HW := Below.refl W.heap.size W
 have hb := aM HB
 unfold impl_IsValidFact.f at h
 replace h := bs h; obtain ⟨t262, B0, h⟩ := h
 replace h := ib h; rcases h with ⟨rfl, h⟩ | ⟨rfl, h⟩
 replace h := bs h; obtain ⟨t263, B2, h⟩ := h
 obtain rfl := si h
 rotate_left
 obtain rfl := si h
 rotate_left
 all_goals (go_enter Tryd.func50, Tryd.ntmps50; go_wp2_with (first | (go_at_call 76; refine (impl_AreValidRelations.calls _ _ _ ?_ _ ?_ ?_ ?h).mono ?_; (case h => exact zA); (iterate 2 (first | exact zC | exact zA)); rintro e w1 ⟨rfl, hb⟩; replace hb := aM hb; have HW : Below W.heap.size W w1 := zB; have HB : Below w.heap.size w w1 := zB) | (go_at_call 77; refine (impl_isFact.calls _ _ _ _ _ _ _ ?_ _ ?_ ?_ ?_ ?_ ?h).mono ?_; (case h => exact zA); (iterate 4 (first | exact zC | exact zA)); rintro e w1 ⟨rfl, hb⟩; replace hb := aM hb; have HW : Below W.heap.size W w1 := zB; have HB : Below w.heap.size w w1 := zB)); go_ret; exact zE zB)

/-! ### impl_barred: function 52 -/
def impl_barred.f (l0 : List ByteArray) (a1 : Int) : Option (ByteArray) := if 0 ≤ a1 ∧ a1 ≤ (l0.length : Int) then (if l0.length ≤ 1000000000 ∧ (Shelf.cat_ l0).length ≤ 1000000000 then some (if a1 < (l0.length : Int) then (⟨(Shelf.cat_ (l0.take a1.toNat)).toArray⟩ : ByteArray) ++ ((⟨#[124]⟩ : ByteArray) ++ (⟨(Shelf.cat_ (l0.drop a1.toNat)).toArray⟩ : ByteArray)) else (⟨(Shelf.cat_ (l0.take a1.toNat)).toArray⟩ : ByteArray)) else none) else none
set_option maxHeartbeats 2000000 in
set_option maxRecDepth 100000 in
theorem impl_barred.calls (A0 : Option Addr) (c0 : Nat) (l0 : List ByteArray) (a1 : Int) (r : ByteArray) (w : World) (hr0 : Kd.C Kd.string w A0 l0.length l0) (hc0 : l0.length ≤ c0) (h : impl_barred.f l0 a1 = some r) :
 Calls Tryd.prog 52 #[.slice A0 l0.length c0, .int .i64 a1] w fun e w' => e = .returned (.string r) ∧ Below w.heap.size w w' := by
 unfold impl_barred.f at h
 by_cases h1 : 0 ≤ a1 ∧ a1 ≤ (l0.length : Int)
 ·rw [if_pos h1] at h
  by_cases h2 : l0.length ≤ 1000000000 ∧ (Shelf.cat_ l0).length ≤ 1000000000
  ·rw [if_pos h2] at h
   replace h := Option.some.inj h
   obtain ⟨i, hi, hsz⟩ : ∃ i, Tryd.prog.info? 9 = some i ∧ i.size = 1 := by
    have e : (Tryd.prog.info? 9).map (fun x => x.size) = some 1 := by kernel_rfl
    exact Option.map_eq_some_iff.1 e
   have hR : ReadsOf Value.string ByteArray.empty w A0 l0.length l0 := Kd.reads_of_C hr0
   obtain ⟨T1, T2, T3⟩ := print_take_of Value.string ByteArray.empty 72 9 .i64 Tryd.underlying72 hi hsz A0 c0 l0 a1 h1.1 h1.2 hc0
   obtain ⟨A', D1, D2, D3⟩ := print_drop_of Value.string ByteArray.empty 72 9 .i64 Tryd.underlying72 hi hsz A0 c0 l0 a1 h1.1 h1.2 hc0
   have lt := Shelf.cat_len l0 a1.toNat
   have CT : Kd.C Kd.string w A0 (l0.take a1.toNat).length (l0.take a1.toNat) := Kd.C_of_reads (T2 w hR)
   have CD : Kd.C Kd.string w A' (l0.drop a1.toNat).length (l0.drop a1.toNat) := Kd.C_of_reads (D2 w hR)
   have JT := Shelf.Join A0 (l0.take a1.toNat) c0 w T3 CT (by rw [List.length_take]; omega) (by omega)
   have JD := fun W hW => Shelf.Join A' (l0.drop a1.toNat) (c0 - a1.toNat) W D3 (Kd.C_below CD hW) (by rw [List.length_drop]; omega) (by omega)
   have z1 : (⟨(Shelf.cat_ (l0.take a1.toNat)).toArray⟩ : ByteArray).size ≤ 1000000000 := by rw [show (⟨(Shelf.cat_ (l0.take a1.toNat)).toArray⟩ : ByteArray).size = (Shelf.cat_ (l0.take a1.toNat)).toArray.size from rfl, List.size_toArray]; omega
   have z2 : (⟨(Shelf.cat_ (l0.drop a1.toNat)).toArray⟩ : ByteArray).size ≤ 1000000000 := by rw [show (⟨(Shelf.cat_ (l0.drop a1.toNat)).toArray⟩ : ByteArray).size = (Shelf.cat_ (l0.drop a1.toNat)).toArray.size from rfl, List.size_toArray]; omega
   generalize (⟨(Shelf.cat_ (l0.take a1.toNat)).toArray⟩ : ByteArray) = s1 at h JT z1
   generalize (⟨(Shelf.cat_ (l0.drop a1.toNat)).toArray⟩ : ByteArray) = s2 at h JD z2
   rw [List.length_take] at JT
   simp only [List.length_drop] at JD
   have l1 : (⟨#[124]⟩ : ByteArray).size = 1 := rfl
   have y1 : (1 + s2.size ≤ 9223372036854775807) = True := eq_true (by omega)
   have y2 : decide (1 + s2.size ≤ 9223372036854775807) = true := decide_eq_true (by omega)
   have y3 : (9223372036854775807 < 1 + s2.size) = False := eq_false (by omega)
   have y4 : (s1.size + (1 + s2.size) ≤ 9223372036854775807) = True := eq_true (by omega)
   have y5 : decide (s1.size + (1 + s2.size) ≤ 9223372036854775807) = true := decide_eq_true (by omega)
   have y6 : (9223372036854775807 < s1.size + (1 + s2.size)) = False := eq_false (by omega)
   clear z1 z2 lt T2 D2 hR CT CD h2 T3 D3 l1
   by_cases c : a1 < (l0.length : Int)
   ·rw [if_pos c] at h
    subst h
    have cx : decide (a1 < (l0.length : Int)) = true := decide_eq_true c
    clear c h1
    go_enter Tryd.func52, Tryd.ntmps52
    go_wp2_with (first | (go_at_call 44; first | (refine (JD _ hb).mono ?_; rintro e w2 ⟨rfl, hc⟩) | (refine JT.mono ?_; rintro e w1 ⟨rfl, hb⟩)))
    go_ret
    exact ⟨rfl, below_then hb hb.size hc⟩
   ·rw [if_neg c] at h
    subst h
    have cx : decide (a1 < (l0.length : Int)) = false := decide_eq_false c
    clear c h1
    go_enter Tryd.func52, Tryd.ntmps52
    go_wp2_with (go_at_call 44; refine JT.mono ?_; rintro e w1 ⟨rfl, hb⟩)
    go_ret
    exact ⟨rfl, hb⟩
  ·rw [if_neg h2] at h; exact absurd h (by simp)
 ·rw [if_neg h1] at h; exact absurd h (by simp)


/-! ### impl_FormatFact: function 15 -/
def impl_FormatFact.l0 : Nat → List (S68) → List ByteArray → List Int → Int → Int → Int → List Int → Option (ByteArray)
 | 0, _, _, _, _, _, _, _ => none
 | k + 1, x0, x5, x15, x16, x17, x265000, x265001 => if x17 < x16 then (if 0 ≤ x17 then (if x17 < (x15.length : Int) then ((impl_FormatInt.f (rd x15 x17)).bind fun t270 => (if x5.length < 8796093022208 then (impl_FormatFact.l0 k x0 (x5 ++ [t270]) x15 x16 (wrap64 (x17 + 1)) x265000 x265001) else (none))) else (none)) else (none)) else (if 0 ≤ x265000 then (if x265000 < (x0.length : Int) then ((impl_barred.f x5 ((rd_T68 x0 x265000).f2)).bind fun t276 => (if ((rd_T68 x0 x265000).f0).size + t276.size ≤ 9223372036854775807 then (some (((rd_T68 x0 x265000).f0) ++ t276)) else (none))) else (none)) else (none))
def impl_FormatFact.f (k : Nat) (l0 : List (S68)) (a1_0 : Int) (l1_1 : List Int) : Option (ByteArray) := (impl_IsValidFact.f l0 a1_0 l1_1).bind fun t265 => (if t265 = true then (impl_FormatFact.l0 k l0 (([] : List ByteArray)) l1_1 (l1_1.length : Int) 0 a1_0 l1_1) else (some (⟨#[]⟩ : ByteArray)))
def impl_FormatFact.T10 : Bool × List (List Nat × List Nat) := (true, [([], []), ([0], [0]), ([], []), ([], []), ([3], [3]), ([2, 4], [2, 4]), ([1, 5], [1, 5]), ([6, 5, 0, 1, 2, 3, 4, 5, 6], [6])])
def impl_FormatFact.B10 : List Nat := [0, 1, 0, 0, 8, 28, 63, 127]
theorem impl_FormatFact.tab10 : rtab .any (opsOf Tryd.f15 10) = impl_FormatFact.T10 := by kernel_rfl
theorem impl_FormatFact.bits10 : waitsOk impl_FormatFact.T10.2 impl_FormatFact.B10 = true := by kernel_rfl
set_option maxHeartbeats 8000000 in
set_option maxRecDepth 100000 in
theorem impl_FormatFact.calls (k : Nat) (A0 : Option Addr) (c0 : Nat) (l0 : List (S68)) (a1_0 : Int) (A1_1 : Option Addr) (c1_1 : Nat) (l1_1 : List Int) (r : ByteArray) (w : World) (hr0 : Kd.C k68 w A0 l0.length l0) (hc0 : l0.length ≤ c0) (hr1_1 : Kd.C (Kd.int .i64) w A1_1 l1_1.length l1_1) (hc1_1 : l1_1.length ≤ c1_1) (h : impl_FormatFact.f k l0 a1_0 l1_1 = some r) (hp_ : Go.Proofs.YtckpikfbhlhhjaaDoor.Shelf.Pow w) :
  Calls Tryd.prog 15 #[.slice A0 l0.length c0, .agg #[.int .i64 a1_0, .slice A1_1 l1_1.length c1_1]] w fun e w' => e = .returned (.string r) ∧ Below w.heap.size w w' := by
 have hu39 := Tryd.underlying39
 have hu68 := Tryd.underlying68
 have HR0 := aM hr0
 have HC0 := aM hc0
 clear hr0 hc0
 have HR1_1 := aM hr1_1
 have HC1_1 := aM hc1_1
 clear hr1_1 hc1_1
 have HB := aM (Below.refl w.heap.size w)
 have H : ((impl_IsValidFact.f l0 a1_0 l1_1).bind fun t265 => (if t265 = true then (impl_FormatFact.l0 k l0 (([] : List ByteArray)) l1_1 (l1_1.length : Int) 0 a1_0 l1_1) else (some (⟨#[]⟩ : ByteArray)))) = some r := h
 clear h
 replace H := Option.bind_eq_some_iff.mp H
 obtain ⟨t265, A30, H⟩ := H
 replace H : (if t265 = true then (impl_FormatFact.l0 k l0 (([] : List ByteArray)) l1_1 (l1_1.length : Int) 0 a1_0 l1_1) else (some (⟨#[]⟩ : ByteArray))) = some r := H
 have A3 := aM A30
 clear A30
 by_cases c4 : t265 = true
 ·subst c4
  have H1 : (impl_FormatFact.l0 k l0 (([] : List ByteArray)) l1_1 (l1_1.length : Int) 0 a1_0 l1_1) = some r := by rw [if_pos rfl] at H; exact H
  clear H
  have H := H1
  clear H1
  obtain ⟨y266, hy266⟩ : ∃ y_ : List ByteArray, y_ = (([] : List ByteArray)) := ⟨_, rfl⟩
  replace H : (impl_FormatFact.l0 k l0 y266 l1_1 (l1_1.length : Int) 0 a1_0 l1_1) = some r := by first | (rw [hy266]; with_reducible exact H) | (have H2_ := (Option.bind_some _ _).symm.trans H; rw [hy266]; with_reducible exact H2_) | (have H2_ := (Option.bind_some _ _).symm.trans H; with_reducible exact H2_) | with_reducible exact H | (rw [hy266]; exact H) | exact H
  have Ny266 := aM hy266
  clear hy266
  have H' := aM H
  clear H
  go_enter Tryd.func15, Tryd.ntmps15
  go_wp2_with (first | ((with_reducible refine gate_dst (N := 3) rfl ?_); refine box_event ?hg (N := 3) ?hd (cs := #[.int .i64 a1_0, .slice A1_1 l1_1.length c1_1]) (t := 39) ?hr ?_; (case hd => rfl); (case hg => rfl); (case hr => first | (go_simp; done) | (go_simp; rfl)); intro gb264 hg w5 hbox hb; have n0_ := aM (below_step aB hb); have n1_ := aM (hbox); have n2_ := aM ((by rw [hg]; exact (below_size aB) : w.heap.size ≤ gb264)); have n3_ := aM ((by rw [hg]; exact (below_size aB) : w.heap.size ≤ gb264)); clear HB; have HB := n0_; have BK264 := n1_; have GW264 := n2_; have GE264 := n3_; clear n0_ n1_ n2_ n3_; clear hb hbox hg; have hcz6_0 : w5.cell? ⟨gb264, 0, none⟩ = some (.int .i64 a1_0) := (blk_cell BK264.out 0).trans rfl; have hcz6_1 : w5.cell? ⟨gb264, 1, none⟩ = some (.slice A1_1 l1_1.length c1_1) := (blk_cell BK264.out 1).trans rfl; have hfz6_0 := blk_frozen BK264.out 0; have hfz6_1 := blk_frozen BK264.out 1) | ((with_reducible refine gate_callee (f := 50) rfl ?_); refine goesL_ (some 11) rfl rfl Tryd.func50 (by kernel_rfl) rfl #[.slice A0 l0.length c0, .agg #[.int .i64 a1_0, .slice A1_1 l1_1.length c1_1]] rfl (by (try simp only [List.map_toArray, List.map_cons, List.map_nil]); first | done | rfl | (simp only [List.length_drop, List.length_take]; rfl)) ?_; (with_reducible refine (impl_IsValidFact.calls _ _ l0 a1_0 _ _ l1_1 true _ ?side1 ?side2 ?side3 ?side4 A3.out).mono ?_); (case side1 => exact aC); (case side2 => exact HC0.out); (case side3 => exact aC); (case side4 => exact HC1_1.out); rintro e w7 ⟨rfl, hb⟩; refine ⟨_, rfl, ?_⟩; have n0_ := aM (blk_below (g := gb264) (o := .cells #[.int .i64 a1_0, .slice A1_1 l1_1.length c1_1] 39 (0, 0)) aK hb); have n1_ := aM (below_step aG hb); clear BK264; clear HB; have BK264 := n0_; have HB := n1_; clear n0_ n1_; (try clear hb); (try clear hb2); (try clear hk); (try clear hi)) | ((with_reducible refine gate_dst (N := 13) rfl ?_); refine Kd.R_lit Kd.string _ 9 ?hg (N := 13) ?hd (xs := ([] : List ByteArray)) (inner := []) (ok := fun _ => True) (okp := fun _ => True) ?hr ?hp (fun _ hk => hk) trivial (Below.refl _ _) (Nat.le_refl _) (by simp) ?_; (case hd => rfl); (case hg => rfl); (case hr => first | (go_simp; done) | (go_simp; rfl)); (case hp => exact (Reps.none _ _)); intro v267 w8 ho9 hb hg_ hnew_; clear hg_ hnew_; (first | rw [← Ny266.out] at ho9 | (simp only [Int.reduceToNat] at ho9; rw [← Ny266.out] at ho9)); have n0_ := aM (Kd.R_lower ho9 (below_size aG)); have n1_ := aM (blk_below (g := gb264) (o := .cells #[.int .i64 a1_0, .slice A1_1 l1_1.length c1_1] 39 (0, 0)) aK hb); have n2_ := aM (below_step aG hb); clear BK264; clear HB; have HO268 := n0_; have BK264 := n1_; have HB := n2_; clear n0_ n1_ n2_; clear hb ho9; have hcz10_0 : w8.cell? ⟨gb264, 0, none⟩ = some (.int .i64 a1_0) := (blk_cell BK264.out 0).trans rfl; have hcz10_1 : w8.cell? ⟨gb264, 1, none⟩ = some (.slice A1_1 l1_1.length c1_1) := (blk_cell BK264.out 1).trans rfl; have hfz10_0 := blk_frozen BK264.out 0; have hfz10_1 := blk_frozen BK264.out 1))
  go_loopg [5, 17] k (fun kq v5 v17 w' => ∃ (x5_1 : List ByteArray) (x17_1 : Int), v17 = .int .i64 x17_1 ∧ Aside0 (impl_FormatFact.l0 kq l0 x5_1 l1_1 (l1_1.length : Int) x17_1 a1_0 l1_1 = some r) ∧ Aside0 (kq ≤ k) ∧ Aside0 (Kd.R Kd.string 9 w' w.heap.size (fun _ => True) v5 x5_1) ∧ Aside0 (w'.heap[gb264]? = some (.cells #[.int .i64 a1_0, (.slice A1_1 l1_1.length c1_1)] 39 (0, 0))) ∧ Aside0 (Below w.heap.size w w'))
  case atStart => exact ⟨(y266), (0), (by first | rfl | (simp; done) | (simp [*]; done)), H', ⟨Nat.le_refl _⟩, ⟨aR HO268⟩, ⟨by (with_reducible repeat (first | refine blk_drewN ?_ _ | refine blk_drew ?_ | refine blk_alloc ?_ _)); exact BK264.out⟩, ⟨by repeat (first | (with_reducible first | exact HB.out | apply below_alloc | apply pw_below_drewN | apply below_drew1 | refine below_set ?_ GE264.out) | exact HB.out)⟩⟩
  case round =>
   clear H'
   try clear c1
   try clear p2
   try clear c4
   try clear c5
   try clear hcz10_0
   try clear hcz10_1
   try clear hcz6_0
   try clear hcz6_1
   try clear hfz10_0
   try clear hfz10_1
   try clear hfz6_0
   try clear hfz6_1
   obtain ⟨x5_1, x17_1, rfl, HA, HK1, HO_5, BK264, HB⟩ := hrel
   cases gk with
   | zero => exact absurd HA.out (by simp [impl_FormatFact.l0])
   | succ k1 =>
    have H := HA.out
    clear HA
    simp only [impl_FormatFact.l0] at H
    by_cases c11 : x17_1 < (l1_1.length : Int)
    ·rw [if_pos c11] at H
     have c11b0 : decide (x17_1 < (l1_1.length : Int)) = true := decide_eq_true c11
     clear c11
     by_cases c12 : 0 ≤ x17_1
     ·rw [if_pos c12] at H
      have c12b0 : decide (0 ≤ x17_1) = true := decide_eq_true c12
      clear c12
      by_cases c13 : x17_1 < (l1_1.length : Int)
      ·rw [if_pos c13] at H
       have c13b0 : decide (x17_1 < (l1_1.length : Int)) = true := decide_eq_true c13
       clear c13
       replace H := Option.bind_eq_some_iff.mp H
       obtain ⟨t270, A140, H⟩ := H
       replace H : (if x5_1.length < 8796093022208 then (impl_FormatFact.l0 k1 l0 (x5_1 ++ [t270]) l1_1 (l1_1.length : Int) (wrap64 (x17_1 + 1)) a1_0 l1_1) else (none)) = some r := H
       have A14 := aM A140
       clear A140
       by_cases c15 : x5_1.length < 8796093022208
       ·rw [if_pos c15] at H
        have LMc15 := aM c15
        clear c15
        obtain ⟨y271, hy271⟩ : ∃ y_ : List ByteArray, y_ = (x5_1 ++ [t270]) := ⟨_, rfl⟩
        replace H : (impl_FormatFact.l0 k1 l0 y271 l1_1 (l1_1.length : Int) (wrap64 (x17_1 + 1)) a1_0 l1_1) = some r := by first | (rw [hy271]; with_reducible exact H) | (have H2_ := (Option.bind_some _ _).symm.trans H; rw [hy271]; with_reducible exact H2_) | (have H2_ := (Option.bind_some _ _).symm.trans H; with_reducible exact H2_) | with_reducible exact H | (rw [hy271]; exact H) | exact H
        have Ny271 := aM hy271
        clear hy271
        have H' := aM H
        clear H
        have p269 : 0 ≤ (x17_1 : Int) := aD
        have q269 : x17_1 < (l1_1.length : Int) := aD
        obtain ⟨ad269, e269, hx269_0⟩ := Kd.at_int HR1_1.out x17_1 p269 q269
        cases e269
        replace hx269_0 := (HB.out.cell (World.block_lt_of_cell? w _ hx269_0)).trans hx269_0
        replace p269 := eq_true p269
        replace q269 := eq_true q269
        go_wp2_with (first | ((with_reducible refine gate_callee (f := 51) rfl ?_); refine goesL_ (some 23) rfl rfl Tryd.func51 (by kernel_rfl) rfl #[.int .i64 (rd l1_1 x17_1)] rfl (by (try simp only [List.map_toArray, List.map_cons, List.map_nil]); first | done | rfl | (simp only [List.length_drop, List.length_take]; rfl)) ?_; (with_reducible refine (impl_FormatInt.calls (rd l1_1 x17_1) t270 _ A14.out (hp_.on (by repeat (first | (with_reducible first | exact HB.out | apply below_alloc | apply pw_below_drewN | apply below_drew1 | refine below_set ?_ GE264.out | refine below_set ?_ GE275.out) | exact HB.out)))).mono ?_); rintro e w16 ⟨rfl, hb⟩; refine ⟨_, rfl, ?_⟩; have n0_ := aM (Kd.R_below (aR HO_5) hb); have n1_ := aM (blk_below (g := gb264) (o := .cells #[.int .i64 a1_0, .slice (some ad269) l1_1.length c1_1] 39 (0, 0)) aK hb); have n2_ := aM (below_step aG hb); clear HO_5; clear BK264; clear HB; have HO_5 := n0_; have BK264 := n1_; have HB := n2_; clear n0_ n1_ n2_; (try clear hb); (try clear hb2); (try clear hk); (try clear hi)) | ((with_reducible refine gate_builtin (b := .append) (xs := #[.tmp 21, .tmp 24]) rfl ?_); at_builtin; refine Kd.R_append Kd.string (w0 := w) w.heap.size rfl (.tmp 21) (.tmp 24) 72 9 (.string ⟨#[]⟩) 16 rfl Tryd.underlying72 info9 rfl (by decide) (by omega) u5 x5_1 t270 [.string t270] (fun _ => True) (fun _ => False) rfl rfl ?aP (fun _ hk => hk.elim) ?aF ?aO ?aB ?aS ?aL ?_; (case aP => exact rfl); (case aB => exact aG); (case aF => exact (fun _ _ => trivial)); (case aO => exact (aR HO_5)); (case aS => exact (below_size aG)); (case aL => have := LMc15.out; omega); intro v272 w17 ho hb hg hat; rw [← Ny271.out] at ho; have n0_ := aM (blk_grown (g := gb264) (o := .cells #[.int .i64 a1_0, .slice (some ad269) l1_1.length c1_1] 39 (0, 0)) aK hg (Kd.R_ne HO_5.out BK264.out (by decide))); have n1_ := aM (hb); have n2_ := aM (ho); clear BK264; clear HB; clear HO_5; have BK264 := n0_; have HB := n1_; have HO273 := n2_; clear n0_ n1_ n2_; clear ho hb hg hat))
        go_roundg k1
        case measure => have := HK1.out; omega
        case rel => exact ⟨(y271), (wrap64 (x17_1 + 1)), (by first | rfl | (simp; done) | (simp [*]; done)), H', ⟨by have := HK1.out; omega⟩, ⟨aR HO273⟩, ⟨by (with_reducible repeat (first | refine blk_drewN ?_ _ | refine blk_drew ?_ | refine blk_alloc ?_ _)); exact BK264.out⟩, ⟨by repeat (first | (with_reducible first | exact HB.out | apply below_alloc | apply pw_below_drewN | apply below_drew1 | refine below_set ?_ GE264.out) | exact HB.out)⟩⟩
       ·rw [if_neg c15] at H
        exact absurd H (by simp)
      ·rw [if_neg c13] at H
       exact absurd H (by simp)
     ·rw [if_neg c12] at H
      exact absurd H (by simp)
    ·rw [if_neg c11] at H
     have c11b0 : decide (x17_1 < (l1_1.length : Int)) = false := decide_eq_false c11
     clear c11
     by_cases c18 : 0 ≤ a1_0
     ·rw [if_pos c18] at H
      have c18b0 : decide (0 ≤ a1_0) = true := decide_eq_true c18
      clear c18
      by_cases c19 : a1_0 < (l0.length : Int)
      ·rw [if_pos c19] at H
       have c19b0 : decide (a1_0 < (l0.length : Int)) = true := decide_eq_true c19
       clear c19
       replace H := Option.bind_eq_some_iff.mp H
       obtain ⟨t276, A200, H⟩ := H
       replace H : (if ((rd_T68 l0 a1_0).f0).size + t276.size ≤ 9223372036854775807 then (some (((rd_T68 l0 a1_0).f0) ++ t276)) else (none)) = some r := H
       have A20 := aM A200
       clear A200
       by_cases c21 : ((rd_T68 l0 a1_0).f0).size + t276.size ≤ 9223372036854775807
       ·rw [if_pos c21] at H
        have c21b0 := eq_true c21
        have c21b1 : decide (((rd_T68 l0 a1_0).f0).size + t276.size ≤ 9223372036854775807) = true := decide_eq_true c21
        try have c21b2 : (9223372036854775807 < ((rd_T68 l0 a1_0).f0).size + t276.size) = False := eq_false (Nat.not_lt.2 c21)
        obtain rfl := Option.some.inj H
        have hcz22_0 : wr.cell? ⟨gb264, 0, none⟩ = some (.int .i64 a1_0) := (blk_cell BK264.out 0).trans rfl
        have hcz22_1 : wr.cell? ⟨gb264, 1, none⟩ = some (.slice A1_1 l1_1.length c1_1) := (blk_cell BK264.out 1).trans rfl
        have hfz22_0 := blk_frozen BK264.out 0
        have hfz22_1 := blk_frozen BK264.out 1
        have p274 : 0 ≤ (a1_0 : Int) := aD
        have q274 : a1_0 < (l0.length : Int) := aD
        obtain ⟨ad274, e274, hx274_0, hx274_1, hx274_2⟩ := at_T68 HR0.out a1_0 p274 q274
        cases e274
        replace hx274_0 := (HB.out.cell (World.block_lt_of_cell? w _ hx274_0)).trans hx274_0
        replace hx274_1 := (HB.out.cell (World.block_lt_of_cell? w _ hx274_1)).trans hx274_1
        replace hx274_2 := (HB.out.cell (World.block_lt_of_cell? w _ hx274_2)).trans hx274_2
        replace p274 := eq_true p274
        replace q274 := eq_true q274
        try go_wp2_with (first | ((with_reducible refine gate_dst (N := 8) rfl ?_); refine box_event ?hg (N := 8) ?hd (cs := #[.string (⟨#[]⟩ : ByteArray), .int .i64 0, .int .i64 0]) (t := 68) ?hr ?_; (case hd => rfl); (case hg => rfl); (case hr => first | (go_simp; done) | (go_simp; rfl)); intro gb275 hg w23 hbox hb; have n0_ := aM (Kd.R_below (aR HO_5) hb); have n1_ := aM (blk_below (g := gb264) (o := .cells #[.int .i64 a1_0, .slice A1_1 l1_1.length c1_1] 39 (0, 0)) aK hb); have n2_ := aM (below_step aG hb); have n3_ := aM (hbox); have n4_ := aM ((by rw [hg]; exact (below_size aG) : w.heap.size ≤ gb275)); have n5_ := aM ((by rw [hg]; exact (below_size aG) : w.heap.size ≤ gb275)); have n6_ := aM ((by rw [hg]; exact Nat.ne_of_lt (blk_lt (g := gb264) (o := .cells #[.int .i64 a1_0, .slice A1_1 l1_1.length c1_1] 39 (0, 0)) aK) : gb264 ≠ gb275)); have n7_ := aM ((by rw [hg]; exact Nat.ne_of_gt (blk_lt (g := gb264) (o := .cells #[.int .i64 a1_0, .slice A1_1 l1_1.length c1_1] 39 (0, 0)) aK) : gb275 ≠ gb264)); clear HO_5; clear BK264; clear HB; have HO_5 := n0_; have BK264 := n1_; have HB := n2_; have BK275 := n3_; have GW275 := n4_; have GE275 := n5_; have NB264_275 := n6_; have NB275_264 := n7_; clear n0_ n1_ n2_ n3_ n4_ n5_ n6_ n7_; clear hb hbox hg; have hnb24 := NB275_264.out; have hnc24 := NB264_275.out; have hcz25_0 : w23.cell? ⟨gb275, 0, none⟩ = some (.string (⟨#[]⟩ : ByteArray)) := (blk_cell BK275.out 0).trans rfl; have hcz25_1 : w23.cell? ⟨gb275, 1, none⟩ = some (.int .i64 0) := (blk_cell BK275.out 1).trans rfl; have hcz25_2 : w23.cell? ⟨gb275, 2, none⟩ = some (.int .i64 0) := (blk_cell BK275.out 2).trans rfl; have hfz25_0 := blk_frozen BK275.out 0; have hfz25_1 := blk_frozen BK275.out 1; have hfz25_2 := blk_frozen BK275.out 2))
        have n0_ : Aside0 (Kd.R Kd.string 9 (((w23.setCell ⟨gb275, 0, none⟩ (.string ((rd_T68 l0 a1_0).f0))).setCell ⟨gb275, 1, none⟩ (.int .i64 ((rd_T68 l0 a1_0).f1))).setCell ⟨gb275, 2, none⟩ (.int .i64 ((rd_T68 l0 a1_0).f2))) w.heap.size (fun _ => True) u5 x5_1) := ⟨by (with_reducible repeat (first | apply Kd.R_alloc | apply Kd.R_drewN | apply Kd.R_drew)); exact Kd.R_mono (Kd.R_far (p := ⟨gb275, 2, none⟩) (Kd.R_far (p := ⟨gb275, 1, none⟩) (Kd.R_far (p := ⟨gb275, 0, none⟩) (Kd.R_types HO_5.out BK275.out (by decide)) (fun _ hk => hk.2) (.string ((rd_T68 l0 a1_0).f0))) (fun _ hk => hk.2) (.int .i64 ((rd_T68 l0 a1_0).f1))) (fun _ hk => hk.2) (.int .i64 ((rd_T68 l0 a1_0).f2))) (fun _ hk => trivial)⟩
        have n1_ : Aside0 ((((w23.setCell ⟨gb275, 0, none⟩ (.string ((rd_T68 l0 a1_0).f0))).setCell ⟨gb275, 1, none⟩ (.int .i64 ((rd_T68 l0 a1_0).f1))).setCell ⟨gb275, 2, none⟩ (.int .i64 ((rd_T68 l0 a1_0).f2))).heap[gb264]? = some (.cells #[.int .i64 a1_0, .slice A1_1 l1_1.length c1_1] 39 (0, 0))) := ⟨by (with_reducible repeat (first | refine blk_drewN ?_ _ | refine blk_drew ?_ | refine blk_alloc ?_ _)); refine blk_far ?_ NB264_275.out _; (with_reducible repeat (first | refine blk_drewN ?_ _ | refine blk_drew ?_ | refine blk_alloc ?_ _)); refine blk_far ?_ NB264_275.out _; (with_reducible repeat (first | refine blk_drewN ?_ _ | refine blk_drew ?_ | refine blk_alloc ?_ _)); refine blk_far ?_ NB264_275.out _; (with_reducible repeat (first | refine blk_drewN ?_ _ | refine blk_drew ?_ | refine blk_alloc ?_ _)); exact BK264.out⟩
        have n2_ : Aside0 ((((w23.setCell ⟨gb275, 0, none⟩ (.string ((rd_T68 l0 a1_0).f0))).setCell ⟨gb275, 1, none⟩ (.int .i64 ((rd_T68 l0 a1_0).f1))).setCell ⟨gb275, 2, none⟩ (.int .i64 ((rd_T68 l0 a1_0).f2))).heap[gb275]? = some (.cells #[.string ((rd_T68 l0 a1_0).f0), .int .i64 ((rd_T68 l0 a1_0).f1), .int .i64 ((rd_T68 l0 a1_0).f2)] 68 (0, 0))) := ⟨by (with_reducible repeat (first | refine blk_drewN ?_ _ | refine blk_drew ?_ | refine blk_alloc ?_ _)); refine blk_put (cs := #[.string ((rd_T68 l0 a1_0).f0), .int .i64 ((rd_T68 l0 a1_0).f1), .int .i64 0]) ?_ 2 _ rfl; (with_reducible repeat (first | refine blk_drewN ?_ _ | refine blk_drew ?_ | refine blk_alloc ?_ _)); refine blk_put (cs := #[.string ((rd_T68 l0 a1_0).f0), .int .i64 0, .int .i64 0]) ?_ 1 _ rfl; (with_reducible repeat (first | refine blk_drewN ?_ _ | refine blk_drew ?_ | refine blk_alloc ?_ _)); refine blk_put (cs := #[.string (⟨#[]⟩ : ByteArray), .int .i64 0, .int .i64 0]) ?_ 0 _ rfl; (with_reducible repeat (first | refine blk_drewN ?_ _ | refine blk_drew ?_ | refine blk_alloc ?_ _)); exact BK275.out⟩
        have n3_ : Aside0 (Below w.heap.size w (((w23.setCell ⟨gb275, 0, none⟩ (.string ((rd_T68 l0 a1_0).f0))).setCell ⟨gb275, 1, none⟩ (.int .i64 ((rd_T68 l0 a1_0).f1))).setCell ⟨gb275, 2, none⟩ (.int .i64 ((rd_T68 l0 a1_0).f2)))) := ⟨by repeat (first | (with_reducible first | exact HB.out | apply below_alloc | apply pw_below_drewN | apply below_drew1 | refine below_set ?_ GE264.out | refine below_set ?_ GE275.out) | exact HB.out)⟩
        (try clear HO_5)
        (try clear BK264)
        (try clear BK275)
        (try clear HB)
        generalize (((w23.setCell ⟨gb275, 0, none⟩ (.string ((rd_T68 l0 a1_0).f0))).setCell ⟨gb275, 1, none⟩ (.int .i64 ((rd_T68 l0 a1_0).f1))).setCell ⟨gb275, 2, none⟩ (.int .i64 ((rd_T68 l0 a1_0).f2))) = w26 at n0_ n1_ n2_ n3_ ⊢
        have HO_5 := n0_
        have BK264 := n1_
        have BK275 := n2_
        have HB := n3_
        clear n0_ n1_ n2_ n3_
        have n0_ := aM (Kd.R_drew HO_5.out)
        have n1_ := aM (blk_drew BK264.out)
        have n2_ := aM (blk_drew BK275.out)
        have n3_ := aM (below_drew1 HB.out)
        clear HO_5
        clear BK264
        clear BK275
        clear HB
        have HO_5 := n0_
        have BK264 := n1_
        have BK275 := n2_
        have HB := n3_
        clear n0_ n1_ n2_ n3_
        obtain ⟨Ao28, co28, eo28⟩ := Kd.R_slice HO_5.out
        (first | subst eo28 | (injection eo28 with f1_ f2_ f3_; have f4_ := f1_.symm; have f5_ := f3_.symm; clear f1_ f2_ f3_; subst f4_; subst f5_))
        refine start_ (n := 8) (S := fun w' => w'.cell? ⟨gb275, 0, none⟩ = some (.string ((rd_T68 l0 a1_0).f0)) ∧ w'.cell? ⟨gb275, 1, none⟩ = some (.int .i64 ((rd_T68 l0 a1_0).f1)) ∧ w'.cell? ⟨gb275, 2, none⟩ = some (.int .i64 ((rd_T68 l0 a1_0).f2))) (ds := []) #[false, false, false, false, false, false, false, false] (by kernel_rfl) rfl rfl ⟨(blk_cell BK275.out 0).trans rfl, (blk_cell BK275.out 1).trans rfl, (blk_cell BK275.out 2).trans rfl⟩ (fun hHeld => ?_); refine with_tabW impl_FormatFact.tab10 impl_FormatFact.bits10 (fun HT_ HW_ => ?_)
        generalize w26.drew = w27 at HO_5 BK264 BK275 HB hHeld ⊢
        refine pure_ (i := 0) (N := some 32) (v := ?_) (a' := ?_) #[true, false, false, false, false, false, false, false] rfl rfl (any_of HT_.out (by kernel_rfl)) (fun _ _ _ h => h) (Or.inl ⟨by rfl, ?_⟩) ?_ ?_
        rotate_left
        ·exact aI
        rotate_left
        ·exact aP
        refine pure_ (i := 2) (N := some 34) (v := ?_) (a' := ?_) #[true, false, true, false, false, false, false, false] rfl rfl (any_of HT_.out (by kernel_rfl)) (fun _ _ _ h => h) (Or.inl ⟨by rfl, ?_⟩) ?_ ?_
        rotate_left
        ·exact aI
        rotate_left
        ·exact aP
        refine pure_ (i := 3) (N := some 35) (v := ?_) (a' := ?_) #[true, false, true, true, false, false, false, false] rfl rfl (any_of HT_.out (by kernel_rfl)) (fun _ _ _ h => h) (Or.inl ⟨by rfl, ?_⟩) ?_ ?_
        rotate_left
        ·exact aI
        rotate_left
        ·exact aP
        refine take_ (i := 1) (N := some 33) (v := ?_) (a' := ?_) #[true, true, true, true, false, false, false, false] rfl rfl (take_ofW HT_.out HW_.out (by kernel_rfl)) (fun _ _ _ h => h) (Or.inl ⟨by rfl, ?_⟩) hHeld ?_ ?_
        rotate_left
        ·rintro w' ⟨s0, s1, s2⟩
         go_simp
         with_reducible rfl
        rotate_left
        ·exact aP
        refine take_ (i := 4) (N := some 36) (v := ?_) (a' := ?_) #[true, true, true, true, true, false, false, false] rfl rfl (take_ofW HT_.out HW_.out (by kernel_rfl)) (fun _ _ _ h => h) (Or.inl ⟨by rfl, ?_⟩) hHeld ?_ ?_
        rotate_left
        ·rintro w' ⟨s0, s1, s2⟩
         go_simp
         with_reducible rfl
        rotate_left
        ·exact aP
        refine one_ (i := 5) (N := some 37) #[true, true, true, true, true, true, false, false] rfl rfl (one_of HT_.out (by kernel_rfl)) (by decide) (fun K hK => ?_)
        refine goes_ Tryd.func52 (by kernel_rfl) rfl #[.slice Ao28 x5_1.length co28, .int .i64 ((rd_T68 l0 a1_0).f2)] (by rfl) rfl rfl (by (try simp only [List.map_toArray, List.map_cons, List.map_nil]); first | done | rfl | (simp only [List.length_drop, List.length_take]; rfl)) ?_
        with_reducible refine (impl_barred.calls _ _ x5_1 ((rd_T68 l0 a1_0).f2) t276 _ ?side1 ?side2 A20.out).mono ?_
        (case side1 => repeat (first | exact (Kd.R_reads' HO_5.out).2.2 | (with_reducible refine Kd.C_alloc ?_ _) | (with_reducible refine Kd.C_drewN ?_ _) | (with_reducible refine Kd.C_drew ?_)))
        (case side2 => exact (Kd.R_reads' HO_5.out).2.1)
        rintro e w29 ⟨rfl, hb⟩
        refine ⟨_, rfl, ?_⟩
        have n0_ := aM (Kd.R_below (aR HO_5) hb)
        have n1_ := aM (blk_below (g := gb264) (o := .cells #[.int .i64 a1_0, .slice A1_1 l1_1.length c1_1] 39 (0, 0)) aK hb)
        have n2_ := aM (blk_below (g := gb275) (o := .cells #[.string ((rd_T68 l0 a1_0).f0), .int .i64 ((rd_T68 l0 a1_0).f1), .int .i64 ((rd_T68 l0 a1_0).f2)] 68 (0, 0)) aK hb)
        have n3_ := aM (below_step aG hb)
        clear HO_5
        clear BK264
        clear BK275
        clear HB
        have HO_5 := n0_
        have BK264 := n1_
        have BK275 := n2_
        have HB := n3_
        clear n0_ n1_ n2_ n3_
        (try clear hb)
        (try clear hb2)
        (try clear hk)
        (try clear hi)
        refine hK.out _ _ ⟨(blk_cell BK275.out 0).trans rfl, (blk_cell BK275.out 1).trans rfl, (blk_cell BK275.out 2).trans rfl⟩ (fun hHeld => ?_)
        clear hK K
        refine norm_ (a' := ?_) ?_ ?_
        rotate_left
        ·show Act.put _ (some 37) _ = _
         simp only [Act.put, List.setIfInBounds_toArray, List.set_cons_zero, List.set_cons_succ, i64_w, i32_w]
         rfl
        refine pure_ (i := 6) (N := some 38) (v := ?_) (a' := ?_) #[true, true, true, true, true, true, true, false] rfl rfl (any_of HT_.out (by kernel_rfl)) (fun _ _ _ h => h) (Or.inl ⟨by rfl, ?_⟩) ?_ ?_
        rotate_left
        ·exact aI
        rotate_left
        ·exact aP
        refine pure_ (i := 7) (N := some 4) (v := ?_) (a' := ?_) #[true, true, true, true, true, true, true, true] rfl rfl (any_of HT_.out (by kernel_rfl)) (fun _ _ _ h => h) (Or.inl ⟨by rfl, ?_⟩) ?_ ?_
        rotate_left
        ·exact aI
        rotate_left
        ·exact aP
        refine done_ (done_of HT_.out (by kernel_rfl)) ?_
        try go_wp2
        go_ret
        exact ⟨by first | rfl | (simp [errW_none, errW_some] <;> rfl) | (simp [*, errW_none, errW_some] <;> rfl), by repeat (first | (with_reducible first | exact HB.out | apply below_alloc | apply pw_below_drewN | apply below_drew1 | refine below_set ?_ GE264.out | refine below_set ?_ GE275.out) | exact HB.out)⟩
       ·rw [if_neg c21] at H
        exact absurd H (by simp)
      ·rw [if_neg c19] at H
       exact absurd H (by simp)
     ·rw [if_neg c18] at H
      exact absurd H (by simp)
 ·replace c4 := Bool.eq_false_iff.mpr c4
  subst c4
  have H1 : (some (⟨#[]⟩ : ByteArray)) = some r := by rw [if_neg (show ¬ (false = true) by decide)] at H; exact H
  clear H
  have H := H1
  clear H1
  obtain rfl := Option.some.inj H
  go_enter Tryd.func15, Tryd.ntmps15
  go_wp2_with (first | ((with_reducible refine gate_dst (N := 3) rfl ?_); refine box_event ?hg (N := 3) ?hd (cs := #[.int .i64 a1_0, .slice A1_1 l1_1.length c1_1]) (t := 39) ?hr ?_; (case hd => rfl); (case hg => rfl); (case hr => first | (go_simp; done) | (go_simp; rfl)); intro gb264 hg w30 hbox hb; have n0_ := aM (below_step aB hb); have n1_ := aM (hbox); have n2_ := aM ((by rw [hg]; exact (below_size aB) : w.heap.size ≤ gb264)); have n3_ := aM ((by rw [hg]; exact (below_size aB) : w.heap.size ≤ gb264)); clear HB; have HB := n0_; have BK264 := n1_; have GW264 := n2_; have GE264 := n3_; clear n0_ n1_ n2_ n3_; clear hb hbox hg; have hcz31_0 : w30.cell? ⟨gb264, 0, none⟩ = some (.int .i64 a1_0) := (blk_cell BK264.out 0).trans rfl; have hcz31_1 : w30.cell? ⟨gb264, 1, none⟩ = some (.slice A1_1 l1_1.length c1_1) := (blk_cell BK264.out 1).trans rfl; have hfz31_0 := blk_frozen BK264.out 0; have hfz31_1 := blk_frozen BK264.out 1) | ((with_reducible refine gate_callee (f := 50) rfl ?_); refine goesL_ (some 11) rfl rfl Tryd.func50 (by kernel_rfl) rfl #[.slice A0 l0.length c0, .agg #[.int .i64 a1_0, .slice A1_1 l1_1.length c1_1]] rfl (by (try simp only [List.map_toArray, List.map_cons, List.map_nil]); first | done | rfl | (simp only [List.length_drop, List.length_take]; rfl)) ?_; (with_reducible refine (impl_IsValidFact.calls _ _ l0 a1_0 _ _ l1_1 false _ ?side1 ?side2 ?side3 ?side4 A3.out).mono ?_); (case side1 => exact aC); (case side2 => exact HC0.out); (case side3 => exact aC); (case side4 => exact HC1_1.out); rintro e w32 ⟨rfl, hb⟩; refine ⟨_, rfl, ?_⟩; have n0_ := aM (blk_below (g := gb264) (o := .cells #[.int .i64 a1_0, .slice A1_1 l1_1.length c1_1] 39 (0, 0)) aK hb); have n1_ := aM (below_step aG hb); clear BK264; clear HB; have BK264 := n0_; have HB := n1_; clear n0_ n1_; (try clear hb); (try clear hb2); (try clear hk); (try clear hi)))
  go_ret
  exact ⟨by first | rfl | (simp [errW_none, errW_some] <;> rfl) | (simp [*, errW_none, errW_some] <;> rfl), by repeat (first | (with_reducible first | exact HB.out | apply below_alloc | apply pw_below_drewN | apply below_drew1 | refine below_set ?_ GE264.out) | exact HB.out)⟩

end Go.Proofs.YtckpikfbhlhhjaaDoor.PFnExactFormatDatabase
