import Derived.Test.YteddnlklfjpgoaaPFnInsertDeletex0
import Derived.Test.YteddnlklfjpgoaaPFnInsertDeletex2
import Derived.Test.YteddnlklfjpgoaaPFnInsertDeletex6
namespace Go.Proofs.Yteddnlklfjpgoaa.PFnInsertDelete
open Go.RowKit Go.Proofs.YteddnlklfjpgoaaW.PrintWords Go.Proofs.YteddnlklfjpgoaaW.PrintLast Go.Proofs.YteddnlklfjpgoaaW.PrintMore
attribute [local go_sem] max2_int min2_int max_two min_two max_three min_three max_four min_four
set_option linter.unusedVariables false
set_option linter.unusedSimpArgs false

/-! ### impl_IsValidDatabase: function 27 -/
section
open Base
theorem cmp1 (x y : Int) : cmp_Compare_int.f x y = some (if x < y then -1 else if x > y then 1 else 0) := by
 unfold cmp_Compare_int.f cmp_isNaN_int.f
 simp only [Option.bind_some, bne_self_eq_false, Bool.false_eq_true, if_false]
 by_cases h1 : x < y
 ·rw [if_pos h1, if_pos h1]
 ·rw [if_neg h1, if_neg h1]
  by_cases h2 : x > y
  ·rw [if_pos h2, if_pos h2]
  ·rw [if_neg h2, if_neg h2]
theorem cmpIl (a b : List Int) (ha : a.length ≤ 9223372036854775807) (hb : b.length ≤ 9223372036854775807) (d : Nat) : ∀ (i : Nat), i + d = a.length → ∀ k, d < k → slices_Compare_int_int.l0 k a b a (a.length : Int) i = some (cmpI (a.drop i) (b.drop i)) ∨ b.length < i := by
 induction d with
 | zero =>
  intro i hd k hk
  by_cases hbi : b.length < i
  ·exact .inr hbi
  left
  obtain ⟨k, rfl, hk⟩ := fuel hk
  rw [slices_Compare_int_int.l0, if_neg (by omega), cmpI_end (.inl (List.drop_of_length_le (by omega))), List.length_drop, List.length_drop]
  by_cases h1 : (a.length : Int) < (b.length : Int)
  ·rw [if_pos h1, if_pos (show a.length - i < b.length - i by omega)]
  ·rw [if_neg h1, if_neg (show ¬ a.length - i < b.length - i by omega), if_neg (show ¬ a.length - i > b.length - i by omega)]
 | succ d ih =>
  intro i hd k hk
  by_cases hbi : b.length < i
  ·exact .inr hbi
  left
  obtain ⟨k, rfl, hk⟩ := fuel hk
  rw [slices_Compare_int_int.l0, if_pos (by omega), if_pos (by omega), if_pos (by omega)]
  by_cases hlt : i < b.length
  ·have e1 : wrap64 ((i : Int) + 1) = ((i + 1 : Nat) : Int) := by rw [w64 (by omega) (by omega)]; omega
   have e2 : rd a (i : Int) = a[i] := by unfold rd; rw [Int.toNat_natCast, getD_lt a _ i (by omega)]
   have e3 : rd b (i : Int) = b[i] := by unfold rd; rw [Int.toNat_natCast, getD_lt b _ i (by omega)]
   rw [if_neg (by omega), if_pos (by omega), e1, e2, e3, cmp1]
   simp only [Option.bind_some]
   rw [List.drop_eq_getElem_cons (i := i) (l := a) (by omega), List.drop_eq_getElem_cons (i := i) (l := b) (by omega), cmpI]
   by_cases h1 : a[i] < b[i]
   ·simp [h1]
   ·by_cases h2 : a[i] > b[i]
    ·simp [h1, h2]
    ·rw [if_neg h1, if_neg h2, if_pos rfl, if_neg h1, if_neg h2]
     rcases ih (i + 1) (by omega) k (by omega) with h | h
     ·exact h
     ·omega
  ·rw [if_pos (by omega), cmpI_end (.inr (List.drop_of_length_le (by omega))), List.length_drop, List.length_drop, if_neg (by omega), if_pos (by omega)]
theorem cmpIs (a b : List Int) (ha : a.length ≤ 9223372036854775807) (hb : b.length ≤ 9223372036854775807) (k : Nat) (hk : a.length < k) : slices_Compare_int_int.f k a b = some (cmpI a b) := by
 rcases cmpIl a b ha hb a.length 0 (by omega) k hk with h | h
 ·exact h
 ·omega
theorem cmpFI (x : Int) (a : List Int) (y : Int) (b : List Int) (ha : a.length ≤ 9223372036854775807) (hb : b.length ≤ 9223372036854775807) (k : Nat) (hk : a.length < k) : impl_CompareFacts.f k x a y b = some (cmpF x a y b) := by
 unfold impl_CompareFacts.f cmpF
 by_cases h0 : x = y
 ·subst h0
  rw [if_pos rfl, cmpIs a b ha hb k hk, if_neg (by omega), if_neg (by omega)]
  rfl
 ·rw [if_neg h0, impl_compare.f]
  by_cases h1 : x < y
  ·rw [if_pos h1, if_pos h1]; rfl
  ·rw [if_neg h1, if_neg h1, if_pos (by omega), if_pos (by omega)]; rfl
end

section
open Base
/-- A fact of these relations: its relation is one of them, it has vs many values vs that one asks, each a value. -/
def fits (l : List S74) (a : Int) (vs : List Int) : Bool := decide (0 ≤ a ∧ a < (l.length : Int) ∧ (vs.length : Int) = (rd_T74 l a).f1) && !vs.any noVal
def vFact (l : List S74) (a : Int) (vs : List Int) : Bool := vRels l && fits l a vs
theorem fitI (l : List S74) (hl : l.length ≤ 9223372036854775807) (a : Int) (vs : List Int) : impl_isFact.f l a vs = some (fits l a vs) := by
 unfold impl_isFact.f impl_areValues.f fits
 rw [inI, Option.bind_some, Option.bind_some, w64 (by omega) (by omega)]
 by_cases h1 : 0 ≤ a ∧ a < (l.length : Int)
 ·rw [if_pos (by unfold inB; simpa using (by omega : 0 ≤ a ∧ a ≤ (l.length : Int) - 1)), if_pos h1.1, if_pos h1.2]
  by_cases h2 : (vs.length : Int) = (rd_T74 l a).f1
  ·rw [if_pos h2, decide_eq_true (by exact ⟨h1.1, h1.2, h2⟩)]
   simp
  ·rw [if_neg h2, decide_eq_false (by intro h; exact h2 h.2.2)]
   simp
 ·rw [if_neg (by unfold inB; simpa using (by omega : 0 ≤ a → ¬ a ≤ (l.length : Int) - 1)), decide_eq_false (by intro h; exact h1 ⟨h.1, h.2.1⟩)]
  simp
/-- Facts i, i + 1, .. (d of them): each fits, each behind its forerunner. -/
def okFrom (l : List S74) (fs : List S45) : Nat → Nat → Bool
 | 0, _ => true
 | d + 1, i => fits l (fs.getD i z45).f0 (fs.getD i z45).f1 && (decide (i = 0) || decide (cmpF (fs.getD (i - 1) z45).f0 (fs.getD (i - 1) z45).f1 (fs.getD i z45).f0 (fs.getD i z45).f1 < 0)) && okFrom l fs d (i + 1)
def vDb (l : List S74) (fs : List S45) : Bool := vRels l && decide (fs.length ≤ 14) && okFrom l fs fs.length 0
end

section
open Base
def impl_IsValidDatabase.f (l0_0 : List S74) (l0_1 : List S45) : Option Bool := some (vDb l0_0 l0_1)
set_option maxHeartbeats 4000000 in
set_option maxRecDepth 100000 in
theorem impl_IsValidDatabase.calls (A0_0 : Option Addr) (c0_0 : Nat) (l0_0 : List S74) (A0_1 : Option Addr) (c0_1 : Nat) (l0_1 : List S45) (r : Bool) (w : World) (hr0_0 : Kd.C k74 w A0_0 l0_0.length l0_0) (hc0_0 : l0_0.length ≤ c0_0) (hr0_1 : Kd.C k45 w A0_1 l0_1.length l0_1) (hc0_1 : l0_1.length ≤ c0_1) (h : impl_IsValidDatabase.f l0_0 l0_1 = some r) :
  Calls Try.prog 27 #[.agg #[.slice A0_0 l0_0.length c0_0, .slice A0_1 l0_1.length c0_1]] w fun e w' => e = .returned (.bool r) ∧ Below w.heap.size w w' := by
 obtain rfl := Option.some.inj h
 have hlr : l0_0.length ≤ 9223372036854775807 := hr0_0.2.1
 have hlf : l0_1.length ≤ 9223372036854775807 := hr0_1.2.1
 have HRR := aM hr0_0
 have HRF := aM hr0_1
 have HA : Aside0 (∀ o, Calls Try.prog 56 #[.slice A0_0 l0_0.length c0_0] (w.alloc o) fun e w' => e = .returned (.bool (vRels l0_0)) ∧ Below (w.alloc o).heap.size (w.alloc o) w') :=
  ⟨fun o => impl_AreValidRelations.calls A0_0 c0_0 l0_0 _ _ (Kd.C_below hr0_0 (below_alloc (Below.refl _ _) _)) hc0_0 rfl⟩
 have F0 : Aside0 ((w.alloc (.cells #[.slice A0_0 l0_0.length c0_0, .slice A0_1 l0_1.length c0_1] 31)).cell? ⟨w.heap.size, 0, none⟩ = some (.slice A0_0 l0_0.length c0_0)) := ⟨(blk_cell (heap_alloc_new w _) 0).trans rfl⟩
 have F1 : Aside0 ((w.alloc (.cells #[.slice A0_0 l0_0.length c0_0, .slice A0_1 l0_1.length c0_1] 31)).cell? ⟨w.heap.size, 1, none⟩ = some (.slice A0_1 l0_1.length c0_1)) := ⟨(blk_cell (heap_alloc_new w _) 1).trans rfl⟩
 have B1 : Aside0 (Below w.heap.size w (w.alloc (.cells #[.slice A0_0 l0_0.length c0_0, .slice A0_1 l0_1.length c0_1] 31))) := ⟨below_alloc (Below.refl _ _) _⟩
 clear hr0_0 hr0_1 h
 by_cases h0 : vRels l0_0 = true ∧ l0_1.length ≤ 14
 ·obtain ⟨hv, hn⟩ := h0
  rw [hv] at HA
  have hd : decide ((14 : Int) < (l0_1.length : Int)) = false := decide_eq_false (by omega)
  have hd' : decide (14 < l0_1.length) = false := decide_eq_false (by omega)
  have HR : Aside0 (vDb l0_0 l0_1 = okFrom l0_0 l0_1 l0_1.length 0) := ⟨by unfold vDb; rw [hv, decide_eq_true hn]; rfl⟩
  clear hv hn
  go_enter Try.func27, Try.ntmps27
  go_wp2_with (go_at_call 56; refine (HA.out _).mono ?_; rintro e w1 ⟨rfl, hb1⟩; have k0 := pw_cell_below hb1 F0.out; have k1 := pw_cell_below hb1 F1.out; have K0 := aM k0; have K1 := aM k1; have BW1 := aM (below_then B1.out B1.out.size hb1))
  go_loopg [18] l0_1.length (fun gg s18 wr => ∃ i : Nat, i ≤ l0_1.length ∧ l0_1.length - i ≤ gg ∧ s18 = .int .i64 i ∧ Aside0 (Below w1.heap.size w1 wr) ∧ Aside0 (okFrom l0_0 l0_1 (l0_1.length - i) i = okFrom l0_0 l0_1 l0_1.length 0))
  case atStart => exact ⟨0, Nat.zero_le _, by omega, rfl, ⟨Below.refl _ _⟩, ⟨rfl⟩⟩
  case round =>
   obtain ⟨i, hi, hg, rfl, BW, HO⟩ := hrel
   by_cases hlt : i < l0_1.length
   ·have hltz : (i : Int) < (l0_1.length : Int) := by omega
    have BB : Aside0 (Below w.heap.size w wr) := ⟨below_then BW1.out BW1.out.size BW.out⟩
    obtain ⟨ad, A2, c2, e, h0, h1, h2, h3⟩ := at_T45 (Kd.C_below HRF.out BB.out) (i : Int) (by omega) hltz
    rw [Int.toNat_natCast] at h0 h1
    cases e
    have hrd : rd_T45 l0_1 (i : Int) = l0_1.getD i z45 := by unfold rd_T45; rw [Int.toNat_natCast]
    rw [hrd] at h0 h1 h2 h3
    clear hrd
    have HX : Aside0 (okFrom l0_0 l0_1 (l0_1.length - i) i = (fits l0_0 (l0_1.getD i z45).f0 (l0_1.getD i z45).f1 && (decide (i = 0) || decide (cmpF (l0_1.getD (i - 1) z45).f0 (l0_1.getD (i - 1) z45).f1 (l0_1.getD i z45).f0 (l0_1.getD i z45).f1 < 0)) && okFrom l0_0 l0_1 (l0_1.length - (i + 1)) (i + 1))) := ⟨by
     rw [show l0_1.length - i = (l0_1.length - (i + 1)) + 1 by omega]; rfl⟩
    generalize l0_1.getD i z45 = x at h0 h1 h2 h3 HX
    have B2 : Aside0 (Below w.heap.size w (wr.alloc (.cells #[.int .i64 x.f0, .slice A2 x.f1.length c2] 45))) := ⟨below_alloc BB.out _⟩
    have B3 : Aside0 (Below w1.heap.size w1 (wr.alloc (.cells #[.int .i64 x.f0, .slice A2 x.f1.length c2] 45))) := ⟨below_alloc BW.out _⟩
    have D0 : Aside0 ((wr.alloc (.cells #[.int .i64 x.f0, .slice A2 x.f1.length c2] 45)).cell? ⟨w.heap.size, 0, none⟩ = some (.slice A0_0 l0_0.length c0_0)) := ⟨pw_cell_below B3.out K0.out⟩
    have D1 : Aside0 ((wr.alloc (.cells #[.int .i64 x.f0, .slice A2 x.f1.length c2] 45)).cell? ⟨w.heap.size, 1, none⟩ = some (.slice (some ad) l0_1.length c0_1)) := ⟨pw_cell_below B3.out K1.out⟩
    have E0 : Aside0 ((wr.alloc (.cells #[.int .i64 x.f0, .slice A2 x.f1.length c2] 45)).cell? ⟨wr.heap.size, 0, none⟩ = some (.int .i64 x.f0)) := ⟨(blk_cell (heap_alloc_new wr _) 0).trans rfl⟩
    have E1 : Aside0 ((wr.alloc (.cells #[.int .i64 x.f0, .slice A2 x.f1.length c2] 45)).cell? ⟨wr.heap.size, 1, none⟩ = some (.slice A2 x.f1.length c2)) := ⟨(blk_cell (heap_alloc_new wr _) 1).trans rfl⟩
    have CX : Aside0 (Kd.C (Kd.int .i64) (wr.alloc (.cells #[.int .i64 x.f0, .slice A2 x.f1.length c2] 45)) A2 x.f1.length x.f1) := ⟨Kd.C_below h3 (below_alloc (Below.refl _ _) _)⟩
    have HCf : Aside0 (∀ d os, Calls Try.prog 50 #[.slice A0_0 l0_0.length c0_0, .agg #[.int .i64 x.f0, .slice A2 x.f1.length c2]] (Go.Sort.grow (redrawn (wr.alloc (.cells #[.int .i64 x.f0, .slice A2 x.f1.length c2] 45)) d) os) fun e w'' => e = .returned (.bool (fits l0_0 x.f0 x.f1)) ∧ ∃ p : Regrown, w'' = Go.Sort.grow (redrawn (wr.alloc (.cells #[.int .i64 x.f0, .slice A2 x.f1.length c2] 45)) p.d) p.os) :=
     ⟨fun d os => Calls.regrown_of (impl_isFact.calls A0_0 c0_0 l0_0 x.f0 A2 c2 x.f1 _ _ (Kd.C_below HRR.out (below_then B2.out B2.out.size (below_regrown _ d os))) hc0_0 (Kd.C_below CX.out (below_regrown _ d os)) h2 (fitI l0_0 hlr x.f0 x.f1))⟩
    have HL : Aside0 (x.f1.length ≤ 9223372036854775807) := ⟨h3.2.1⟩
    have HL2 := aM h2
    clear h3 h2
    by_cases hi0 : i = 0 ∨ fits l0_0 x.f0 x.f1 = false
    ·have hq0 : fits l0_0 x.f0 x.f1 = true → decide (0 < i) = false ∧ decide ((0 : Int) < (i : Int)) = false := fun hx => by
      rcases hi0 with h | h
      ·simp [h]
      ·rw [hx] at h; cases h
     have hX : okFrom l0_0 l0_1 (l0_1.length - i) i = (fits l0_0 x.f0 x.f1 && okFrom l0_0 l0_1 (l0_1.length - (i + 1)) (i + 1)) := by
      rw [HX.out]
      rcases hi0 with h | h
      ·simp [h]
      ·simp [h]
     have HX := aM hX
     clear hX hi0
     cases hv : fits l0_0 x.f0 x.f1 with
     | false =>
      rw [hv] at HCf
      have HV := aM hv
      clear hv hq0
      go_wp2_with fail
      clear h0 h1
      generalize wr.alloc (.cells #[.int .i64 x.f0, .slice A2 x.f1.length c2] 45) = w2 at D0 D1 E0 E1 B2 B3 CX HCf ⊢
      generalize wr.heap.size = gb at E0 E1 ⊢
      have f0 := cell_regrown D0.out
      have f1 := cell_regrown D1.out
      have f2 := cell_regrown E0.out
      have f3 := cell_regrown E1.out
      refine wp_region_quiet_below (by kernel_rfl) (by kernel_rfl) ?_
      repeat (go_big_quiet_step (exact HCf.out _ _))
      refine wpQuiet_nil ?_
      intro _ hw'
      obtain ⟨⟨dq, osq⟩, hw''⟩ := hw'
      subst hw''
      go_wp2
      go_ret
      exact ⟨by rw [HR.out, ← HO.out, HX.out, HV.out]; rfl, below_then B2.out B2.out.size (below_regrown _ _ _)⟩
     | true =>
      obtain ⟨hq1, hq2⟩ := hq0 hv
      rw [hv] at HCf
      have HV := aM hv
      clear hv hq0
      go_wp2_with fail
      clear h0 h1
      generalize wr.alloc (.cells #[.int .i64 x.f0, .slice A2 x.f1.length c2] 45) = w2 at D0 D1 E0 E1 B2 B3 CX HCf ⊢
      generalize wr.heap.size = gb at E0 E1 ⊢
      have f0 := cell_regrown D0.out
      have f1 := cell_regrown D1.out
      have f2 := cell_regrown E0.out
      have f3 := cell_regrown E1.out
      refine wp_region_quiet_below (by kernel_rfl) (by kernel_rfl) ?_
      repeat (go_big_quiet_step (exact HCf.out _ _))
      refine wpQuiet_nil ?_
      intro _ hw'
      obtain ⟨⟨dq, osq⟩, hw''⟩ := hw'
      subst hw''
      go_wp2
      go_roundg (l0_1.length - (i + 1))
      case measure => omega
      case rel => exact ⟨i + 1, by omega, by omega, by go_num, ⟨below_then B3.out B3.out.size (below_regrown _ _ _)⟩, ⟨by rw [← HO.out, HX.out, HV.out]; rfl⟩⟩
    ·have hi1 : i ≠ 0 := fun h => hi0 (.inl h)
     have hv : fits l0_0 x.f0 x.f1 = true := by
      cases h : fits l0_0 x.f0 x.f1 with
      | true => rfl
      | false => exact absurd (.inr h) hi0
     clear hi0
     obtain ⟨ad', A3, c3, e', g0, g1, g2, g3⟩ := at_T45 (Kd.C_below HRF.out BB.out) ((i - 1 : Nat) : Int) (by omega) (by omega)
     cases e'
     rw [Int.toNat_natCast] at g0 g1
     have hrd : rd_T45 l0_1 ((i - 1 : Nat) : Int) = l0_1.getD (i - 1) z45 := by unfold rd_T45; rw [Int.toNat_natCast]
     rw [hrd] at g0 g1 g2 g3
     clear hrd
     have hX : okFrom l0_0 l0_1 (l0_1.length - i) i = (decide (cmpF (l0_1.getD (i - 1) z45).f0 (l0_1.getD (i - 1) z45).f1 x.f0 x.f1 < 0) && okFrom l0_0 l0_1 (l0_1.length - (i + 1)) (i + 1)) := by
      rw [HX.out, hv]; simp [hi1]
     have HX := aM hX
     rw [hv] at HCf
     clear hX hv
     generalize l0_1.getD (i - 1) z45 = y at g0 g1 g2 g3 HX
     have G0 : Aside0 ((wr.alloc (.cells #[.int .i64 x.f0, .slice A2 x.f1.length c2] 45)).cell? (ad.add ((i - 1) * 2)) = some (.int .i64 y.f0)) := ⟨(World.cell?_alloc_lt _ _ _ (World.block_lt_of_cell? wr _ g0)).trans g0⟩
     have G1 : Aside0 ((wr.alloc (.cells #[.int .i64 x.f0, .slice A2 x.f1.length c2] 45)).cell? ⟨(ad.add ((i - 1) * 2)).block, (ad.add ((i - 1) * 2)).off + 1, none⟩ = some (.slice A3 y.f1.length c3)) := ⟨(World.cell?_alloc_lt _ _ _ (World.block_lt_of_cell? wr _ g1)).trans g1⟩
     have HCc : Aside0 (∀ d os, Calls Try.prog 51 #[.agg #[.int .i64 y.f0, .slice A3 y.f1.length c3], .agg #[.int .i64 x.f0, .slice A2 x.f1.length c2]] (Go.Sort.grow (redrawn (wr.alloc (.cells #[.int .i64 x.f0, .slice A2 x.f1.length c2] 45)) d) os) fun e w'' => e = .returned (.int .i64 (cmpF y.f0 y.f1 x.f0 x.f1)) ∧ ∃ p : Regrown, w'' = Go.Sort.grow (redrawn (wr.alloc (.cells #[.int .i64 x.f0, .slice A2 x.f1.length c2] 45)) p.d) p.os) :=
      ⟨fun d os => Calls.regrown_of (impl_CompareFacts.calls (y.f1.length + 1) y.f0 A3 c3 y.f1 x.f0 A2 c2 x.f1 _ _ (Kd.C_below (Kd.C_below g3 (below_alloc (Below.refl _ _) _)) (below_regrown _ d os)) g2 (Kd.C_below CX.out (below_regrown _ d os)) HL2.out (cmpFI y.f0 y.f1 x.f0 x.f1 g3.2.1 HL.out _ (Nat.lt_succ_self _)))⟩
     clear g0 g1 g2 g3
     have e3 : IntKind.i64.wrap ((i : Int) - 1) = ((i - 1 : Nat) : Int) := by rw [IntKind.wrap_i64]; omega
     have hq1 : decide (0 < i) = true := by simp; omega
     have hq2 : decide ((0 : Int) < (i : Int)) = true := by simp; omega
     have hm0 : (0 : Int) ≤ ((i - 1 : Nat) : Int) := by omega
     have hm1 : ((i - 1 : Nat) : Int) < (l0_1.length : Int) := by omega
     go_wp2_with fail
     clear h0 h1
     generalize wr.alloc (.cells #[.int .i64 x.f0, .slice A2 x.f1.length c2] 45) = w2 at D0 D1 E0 E1 B2 B3 CX HCf G0 G1 HCc ⊢
     generalize wr.heap.size = gb at E0 E1 ⊢
     have f0 := cell_regrown D0.out
     have f1 := cell_regrown D1.out
     have f2 := cell_regrown E0.out
     have f3 := cell_regrown E1.out
     have f4 := cell_regrown G0.out
     have f5 := cell_regrown G1.out
     generalize cmpF y.f0 y.f1 x.f0 x.f1 = z at HCc HX
     by_cases hz : z < 0
     ·have hz1 : decide (0 ≤ z) = false := decide_eq_false (by omega)
      have HX := aM (show okFrom l0_0 l0_1 (l0_1.length - i) i = okFrom l0_0 l0_1 (l0_1.length - (i + 1)) (i + 1) by rw [HX.out, decide_eq_true hz, Bool.true_and])
      clear hz
      refine wp_region_quiet_below (by kernel_rfl) (by kernel_rfl) ?_
      repeat (go_big_quiet_step (first | exact HCf.out _ _ | exact HCc.out _ _))
      refine wpQuiet_nil ?_
      intro _ hw'
      obtain ⟨⟨dq, osq⟩, hw''⟩ := hw'
      subst hw''
      go_wp2
      go_roundg (l0_1.length - (i + 1))
      case measure => omega
      case rel => exact ⟨i + 1, by omega, by omega, by go_num, ⟨below_then B3.out B3.out.size (below_regrown _ _ _)⟩, ⟨by rw [← HO.out, HX.out]⟩⟩
     ·have hz1 : decide (0 ≤ z) = true := decide_eq_true (by omega)
      have HX := aM (show okFrom l0_0 l0_1 (l0_1.length - i) i = false by rw [HX.out, decide_eq_false hz, Bool.false_and])
      clear hz
      refine wp_region_quiet_below (by kernel_rfl) (by kernel_rfl) ?_
      repeat (go_big_quiet_step (first | exact HCf.out _ _ | exact HCc.out _ _))
      refine wpQuiet_nil ?_
      intro _ hw'
      obtain ⟨⟨dq, osq⟩, hw''⟩ := hw'
      subst hw''
      go_wp2
      go_ret
      exact ⟨by rw [HR.out, ← HO.out, HX.out]; rfl, below_then B2.out B2.out.size (below_regrown _ _ _)⟩
   ·have hd2 : decide (i < l0_1.length) = false := decide_eq_false hlt
    have hle : l0_1.length ≤ i := by omega
    have HX : Aside0 (vDb l0_0 l0_1 = true) := ⟨by rw [HR.out, ← HO.out, show l0_1.length - i = 0 by omega]; rfl⟩
    clear hlt
    go_wp2
    go_ret
    exact ⟨by rw [HX.out]; rfl, below_then BW1.out BW1.out.size BW.out⟩
 ·have hd : (vRels l0_0 && decide (l0_1.length ≤ 14)) = false := by
   rw [Bool.eq_false_iff, ne_eq, Bool.and_eq_true, decide_eq_true_iff]; exact h0
  have HR : Aside0 (vDb l0_0 l0_1 = false) := ⟨by unfold vDb; rw [hd]; rfl⟩
  clear h0
  cases hv : vRels l0_0 with
  | false =>
   rw [hv] at HA
   clear hv hd
   go_enter Try.func27, Try.ntmps27
   go_wp2_with (go_at_call 56; refine (HA.out _).mono ?_; rintro e w1 ⟨rfl, hb1⟩; have k0 := pw_cell_below hb1 F0.out; have k1 := pw_cell_below hb1 F1.out)
   go_ret
   exact ⟨by rw [HR.out]; rfl, below_then B1.out B1.out.size hb1⟩
  | true =>
   rw [hv] at HA hd
   have hn : ¬ l0_1.length ≤ 14 := by simpa using hd
   have hd : decide ((14 : Int) < (l0_1.length : Int)) = true := decide_eq_true (by omega)
   have hd' : decide (14 < l0_1.length) = true := decide_eq_true (by omega)
   clear hv hn
   go_enter Try.func27, Try.ntmps27
   go_wp2_with (go_at_call 56; refine (HA.out _).mono ?_; rintro e w1 ⟨rfl, hb1⟩; have k0 := pw_cell_below hb1 F0.out; have k1 := pw_cell_below hb1 F1.out)
   go_ret
   exact ⟨by rw [HR.out]; rfl, below_then B1.out B1.out.size hb1⟩
theorem vDI (l : List S74) (_hl : l.length ≤ 1048576) (fs : List S45) (_hf : fs.length ≤ 1048576) (_hg : ∀ y ∈ fs, y.f1.length ≤ 1048576) (k : Nat) (_hk : 6000000 < k) : impl_IsValidDatabase.f l fs = some (vDb l fs) := rfl
end


-- NOT PRINTED: function 58 (impl_Fact_58)

/-! ### impl_FactIndex: function 31 -/

section
open Base
def factIs (b : Int) (lb : List Int) (x : S45) : Bool := cmpF x.f0 x.f1 b lb == 0
set_option maxHeartbeats 4000000 in
set_option maxRecDepth 100000 in
theorem factIs_calls (b : Int) (lb : List Int) (Ab : Option Addr) (cb : Nat) (g : Nat) (x : S45) (Ax : Option Addr) (cx : Nat) (w : World) (hx : Kd.C (Kd.int .i64) w Ax x.f1.length x.f1) (hxc : x.f1.length ≤ cx)
  (hb0 : w.cell? ⟨g, 0, none⟩ = some (.int .i64 b)) (hb1 : w.cell? ⟨g, 1, none⟩ = some (.slice Ab lb.length cb)) (hC : Kd.C (Kd.int .i64) w Ab lb.length lb) (hc : lb.length ≤ cb) :
  Calls Try.prog 59 #[.agg #[.int .i64 x.f0, .slice Ax x.f1.length cx], .pointer (some ⟨g, 0, none⟩)] w fun e w' => e = .returned (.bool (factIs b lb x)) ∧ Below w.heap.size w w' := by
 have hu := Try.underlying45
 have hlt := World.block_lt_of_cell? w _ hb0
 have ha0 : ∀ o, (w.alloc o).cell? ⟨g, 0, none⟩ = some (.int .i64 b) := fun o => (World.cell?_alloc_lt _ _ _ hlt).trans hb0
 have ha1 : ∀ o, (w.alloc o).cell? ⟨g, 1, none⟩ = some (.slice Ab lb.length cb) := fun o => (World.cell?_alloc_lt _ _ _ (World.block_lt_of_cell? w _ hb1)).trans hb1
 have HC : Aside0 (∀ o, Calls Try.prog 51 #[.agg #[.int .i64 x.f0, .slice Ax x.f1.length cx], .agg #[.int .i64 b, .slice Ab lb.length cb]] (w.alloc o) fun e w' => e = .returned (.int .i64 (cmpF x.f0 x.f1 b lb)) ∧ Below (w.alloc o).heap.size (w.alloc o) w') := ⟨fun o =>
  have hB : Below w.heap.size w (w.alloc o) := below_alloc (Below.refl _ _) _
  impl_CompareFacts.calls (x.f1.length + 1) x.f0 Ax cx x.f1 b Ab cb lb _ _ (Kd.C_below hx hB) hxc (Kd.C_below hC hB) hc (cmpFI x.f0 x.f1 b lb hx.2.1 hC.2.1 _ (Nat.lt_succ_self _))⟩
 clear hx hC hxc hc hlt hb0 hb1
 have e0 : factIs b lb x = (cmpF x.f0 x.f1 b lb == 0) := rfl
 rw [e0]
 generalize cmpF x.f0 x.f1 b lb = z at HC ⊢
 go_enter Try.func59, Try.ntmps59
 go_wp2_with (go_at_call 51; refine (HC.out _).mono ?_; rintro e w' ⟨rfl, hb'⟩)
 go_ret
 exact ⟨rfl, below_then (below_alloc (Below.refl _ _) _) (below_alloc (Below.refl w.heap.size w) _).size hb'⟩
set_option maxHeartbeats 4000000 in
set_option maxRecDepth 100000 in
theorem factIdx_calls (b : Int) (lb : List Int) (Ab : Option Addr) (cb : Nat) (g : Nat) (A0 : Option Addr) (c0 : Nat) (l : List S45) (w : World) (hr : Kd.C k45 w A0 l.length l)
  (hb0 : w.cell? ⟨g, 0, none⟩ = some (.int .i64 b)) (hb1 : w.cell? ⟨g, 1, none⟩ = some (.slice Ab lb.length cb)) (hC : Kd.C (Kd.int .i64) w Ab lb.length lb) (hc : lb.length ≤ cb) :
  Calls Try.prog 58 #[.slice A0 l.length c0, .func (.func 59) #[] #[.pointer (some ⟨g, 0, none⟩)]] w fun e w' => e = .returned (.int .i64 (idxW (factIs b lb) l 0)) ∧ Below w.heap.size w w' := by
 have hl : l.length ≤ 9223372036854775807 := hr.2.1
 have HR := aM hr
 have H0 := aM hb0
 have H1 := aM hb1
 have HL := aM hC
 clear hr hb0 hb1 hC
 go_enter Try.func58, Try.ntmps58
 go_wp2
 go_loopg [5, 8] l.length (fun gg _ s8 wr => ∃ kk : Nat, kk ≤ l.length ∧ l.length - kk ≤ gg ∧ s8 = .int .i64 kk ∧ Aside0 (Below w.heap.size w wr) ∧ Aside0 (∀ j, j < kk → factIs b lb (l.getD j z45) = false))
 case atStart => exact ⟨0, Nat.zero_le _, by omega, rfl, ⟨Below.refl _ _⟩, ⟨fun j hj => absurd hj (Nat.not_lt_zero _)⟩⟩
 case round =>
  obtain ⟨kk, hkk, hg, rfl, BW, HA⟩ := hrel
  by_cases hltk : kk < l.length
  ·have hltz : (kk : Int) < (l.length : Int) := by omega
   obtain ⟨ad, A1, c1, e, h0, h1, h2, h3⟩ := at_T45 (Kd.C_below HR.out BW.out) (kk : Int) (by omega) hltz
   rw [Int.toNat_natCast] at h0 h1
   cases e
   have hcall := factIs_calls b lb Ab cb g (rd_T45 l (kk : Int)) A1 c1 wr h3 h2 (pw_cell_below BW.out H0.out) (pw_cell_below BW.out H1.out) (Kd.C_below HL.out BW.out) hc
   clear h2 h3
   have hrd : rd_T45 l (kk : Int) = l.getD kk z45 := by unfold rd_T45; rw [Int.toNat_natCast]
   cases hq : factIs b lb (rd_T45 l (kk : Int)) with
   | true =>
    rw [hq] at hcall
    have HQ := aM hq
    have HRD := aM hrd
    have HCL := aM hcall
    clear hq hrd hcall
    go_wp2_with (go_at_call 59; refine HCL.out.mono ?_; rintro e w' ⟨rfl, hb'⟩)
    go_ret
    refine ⟨?_, below_then BW.out BW.out.size hb'⟩
    rw [idxW_hit (factIs b lb) z45 l kk 0 hltk HA.out (by rw [← HRD.out]; exact HQ.out)]
    simp
   | false =>
    rw [hq] at hcall
    have HQ := aM hq
    have HRD := aM hrd
    have HCL := aM hcall
    clear hq hrd hcall
    go_wp2_with (go_at_call 59; refine HCL.out.mono ?_; rintro e w' ⟨rfl, hb'⟩)
    go_roundg (l.length - (kk + 1))
    case measure => omega
    case rel =>
     refine ⟨kk + 1, by omega, by omega, by go_num, ⟨below_then BW.out BW.out.size hb'⟩, ⟨fun j hj => ?_⟩⟩
     by_cases e : j = kk
     ·subst e
      rw [← HRD.out]; exact HQ.out
     ·exact HA.out j (by omega)
  ·have hltz : ¬ (kk : Int) < (l.length : Int) := by omega
   have hd : decide (kk < l.length) = false := decide_eq_false hltk
   have HK := aM (show l.length ≤ kk by omega)
   clear hltk hltz
   go_wp2
   go_ret
   refine ⟨?_, BW.out⟩
   have HA := fun j (hj : j < l.length) => HA.out j (Nat.lt_of_lt_of_le hj HK.out)
   rw [idxW_miss (factIs b lb) z45 l 0 HA]
   rfl
def impl_FactIndex.f (l0_0 : List S74) (l0_1 : List S45) (a1_0 : Int) (l1_1 : List Int) : Option Int := some (idxW (factIs a1_0 l1_1) l0_1 0)
set_option maxHeartbeats 4000000 in
set_option maxRecDepth 100000 in
theorem impl_FactIndex.calls (A0_0 : Option Addr) (c0_0 : Nat) (l0_0 : List S74) (A0_1 : Option Addr) (c0_1 : Nat) (l0_1 : List S45) (a1_0 : Int) (A1_1 : Option Addr) (c1_1 : Nat) (l1_1 : List Int) (r : Int) (w : World) (hr0_0 : Kd.C k74 w A0_0 l0_0.length l0_0) (hc0_0 : l0_0.length ≤ c0_0) (hr0_1 : Kd.C k45 w A0_1 l0_1.length l0_1) (hc0_1 : l0_1.length ≤ c0_1) (hr1_1 : Kd.C (Kd.int .i64) w A1_1 l1_1.length l1_1) (hc1_1 : l1_1.length ≤ c1_1) (h : impl_FactIndex.f l0_0 l0_1 a1_0 l1_1 = some r) :
  Calls Try.prog 31 #[.agg #[.slice A0_0 l0_0.length c0_0, .slice A0_1 l0_1.length c0_1], .agg #[.int .i64 a1_0, .slice A1_1 l1_1.length c1_1]] w fun e w' => e = .returned (.int .i64 r) ∧ Below w.heap.size w w' := by
 obtain rfl := Option.some.inj h
 have hz : ∀ o : Obj, (w.alloc o).heap.size = w.heap.size + 1 := fun o => by show (Array.push _ _).size = _; exact Array.size_push ..
 have hk : ∀ o o' : Obj, ((w.alloc o).alloc o').heap[w.heap.size + 1]? = some o' := fun o o' => by
  have := heap_alloc_new (w.alloc o) o'
  rw [hz] at this
  exact this
 have HC : Aside0 (∀ (o : Obj) (c : Nat), Calls Try.prog 58 #[.slice A0_1 l0_1.length c, .func (.func 59) #[] #[.pointer (some ⟨w.heap.size + 1, 0, none⟩)]] ((w.alloc o).alloc (.cells #[.int .i64 a1_0, .slice A1_1 l1_1.length c1_1] 45)) fun e w' => e = .returned (.int .i64 (idxW (factIs a1_0 l1_1) l0_1 0)) ∧ Below ((w.alloc o).alloc (.cells #[.int .i64 a1_0, .slice A1_1 l1_1.length c1_1] 45)).heap.size ((w.alloc o).alloc (.cells #[.int .i64 a1_0, .slice A1_1 l1_1.length c1_1] 45)) w') := ⟨fun o c =>
  have hB : Below w.heap.size w ((w.alloc o).alloc (.cells #[.int .i64 a1_0, .slice A1_1 l1_1.length c1_1] 45)) := below_alloc (below_alloc (Below.refl _ _) _) _
  factIdx_calls a1_0 l1_1 A1_1 c1_1 (w.heap.size + 1) A0_1 c l0_1 _ (Kd.C_below hr0_1 hB) ((blk_cell (hk _ _) 0).trans rfl) ((blk_cell (hk _ _) 1).trans rfl) (Kd.C_below hr1_1 hB) hc1_1⟩
 clear hr0_0 hr0_1 hr1_1 h hk
 go_enter Try.func31, Try.ntmps31
 go_wp2_with (go_at_call 58; refine (HC.out _ _).mono ?_; rintro e w' ⟨rfl, hb'⟩)
 go_ret
 exact ⟨rfl, below_then (below_alloc (below_alloc (Below.refl _ _) _) _) (below_alloc (below_alloc (Below.refl w.heap.size w) _) _).size hb'⟩
end


end Go.Proofs.Yteddnlklfjpgoaa.PFnInsertDelete
