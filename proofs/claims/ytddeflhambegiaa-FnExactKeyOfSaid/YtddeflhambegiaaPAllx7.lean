-- Laid by a program of this claim: what the functions come to, some of them proved by hand.
import Derived.Test.YtddeflhambegiaaPAllx0
import Derived.Test.YtddeflhambegiaaPAllx5
namespace Go.Proofs.Ytddeflhambegiaa.PAll
open Go.RowKit Go.Proofs.YtddeflhambegiaaW.PrintWords Go.Proofs.YtddeflhambegiaaW.PrintLast Go.Proofs.YtddeflhambegiaaW.PrintMore
attribute [local go_sem] max2_int min2_int max_two min_two max_three min_three max_four min_four   -- for this text's walks alone
set_option linter.unusedVariables false
set_option linter.unusedSimpArgs false

/-! ### impl_AreValidRelations: function 69 -/

def impl_AreValidRelations.f (l0 : List S81) : Option Bool := some (vRels l0)
set_option maxHeartbeats 4000000 in
set_option maxRecDepth 100000 in
theorem impl_AreValidRelations.calls (A0 : Option Addr) (c0 : Nat) (l0 : List S81) (r : Bool) (w : World) (hr0 : Kd.C k81 w A0 l0.length l0) (hc0 : l0.length ≤ c0) (h : impl_AreValidRelations.f l0 = some r) :
    Calls Try.prog 69 #[.slice A0 l0.length c0] w fun e w' => e = .returned (.bool r) ∧ Below w.heap.size w w' := by
  obtain rfl := Option.some.inj h
  have hl : l0.length ≤ 9223372036854775807 := hr0.2.1
  have HR := Aside0.mk hr0
  clear hr0 h
  go_enter Try.func69, Try.ntmps69
  go_wp2
  go_loopg [7] l0.length (fun gg s7 wr => ∃ i : Nat, i ≤ l0.length ∧ l0.length - i ≤ gg ∧ s7 = .int .i64 i ∧ Aside0 (Below w.heap.size w wr) ∧ Aside0 (vRelsFrom l0 (l0.length - i) i = vRels l0))
  case atStart => exact ⟨0, Nat.zero_le _, by omega, rfl, ⟨Below.refl _ _⟩, ⟨rfl⟩⟩
  case round =>
    obtain ⟨i, hi, hg, rfl, BW, HA⟩ := hrel
    by_cases hlt : i < l0.length
    · have hltz : (i : Int) < (l0.length : Int) := by omega
      obtain ⟨ad, e, h0, h1, h2⟩ := at_T81 (Kd.C_below HR.out BW.out) (i : Int) (by omega) hltz
      rw [Int.toNat_natCast] at h0 h1 h2
      cases e
      have hrd : rd_T81 l0 (i : Int) = l0.getD i z81 := by unfold rd_T81; rw [Int.toNat_natCast]
      rw [hrd] at h0 h1 h2
      clear hrd
      have HX : Aside0 (vRelsFrom l0 (l0.length - i) i = (vRel (l0.getD i z81) && (decide (i = 0) || Op.bytesLess (l0.getD (i - 1) z81).f0.toList (l0.getD i z81).f0.toList) && vRelsFrom l0 (l0.length - (i + 1)) (i + 1))) := ⟨by
        rw [show l0.length - i = (l0.length - (i + 1)) + 1 by omega]; rfl⟩
      generalize l0.getD i z81 = x at h0 h1 h2 HX
      have F0 : Aside0 ((wr.alloc (.cells #[.string x.f0, .int .i64 x.f1, .int .i64 x.f2] 81)).cell? ⟨wr.heap.size, 0, none⟩ = some (.string x.f0)) := ⟨(blk_cell (heap_alloc_new wr _) 0).trans rfl⟩
      have F1 : Aside0 ((wr.alloc (.cells #[.string x.f0, .int .i64 x.f1, .int .i64 x.f2] 81)).cell? ⟨wr.heap.size, 1, none⟩ = some (.int .i64 x.f1)) := ⟨(blk_cell (heap_alloc_new wr _) 1).trans rfl⟩
      have F2 : Aside0 ((wr.alloc (.cells #[.string x.f0, .int .i64 x.f1, .int .i64 x.f2] 81)).cell? ⟨wr.heap.size, 2, none⟩ = some (.int .i64 x.f2)) := ⟨(blk_cell (heap_alloc_new wr _) 2).trans rfl⟩
      have B2 : Aside0 (Below w.heap.size w (wr.alloc (.cells #[.string x.f0, .int .i64 x.f1, .int .i64 x.f2] 81))) := ⟨below_alloc BW.out _⟩
      have HC : Aside0 (∀ (W : World) d os, Calls Try.prog 99 #[.agg #[.string x.f0, .int .i64 x.f1, .int .i64 x.f2]] (Go.Sort.grow (redrawn W d) os) fun e w'' => e = .returned (.bool (vRel x)) ∧ ∃ p : Regrown, w'' = Go.Sort.grow (redrawn W p.d) p.os) := ⟨fun W d os => Calls.regrown_of (impl_IsValidRelation.calls x.f0 x.f1 x.f2 (vRel x) _ (vRelI x))⟩
      by_cases hi0 : i = 0 ∨ vRel x = false
      · have hd0 : vRel x = true → decide (0 < i) = false := fun hx => by
          rcases hi0 with h | h
          · simp [h]
          · rw [hx] at h; cases h
        have hX : vRelsFrom l0 (l0.length - i) i = (vRel x && vRelsFrom l0 (l0.length - (i + 1)) (i + 1)) := by
          rw [HX.out]
          rcases hi0 with h | h
          · simp [h]
          · simp [h]
        have HX := Aside0.mk hX
        clear hX hi0
        cases hv : vRel x with
        | false =>
          have HV := Aside0.mk hv
          clear hv hd0
          go_wp2_with fail
          clear h0 h1 h2
          generalize wr.alloc (.cells #[.string x.f0, .int .i64 x.f1, .int .i64 x.f2] 81) = w2 at F0 F1 F2 B2 ⊢
          generalize wr.heap.size = gb at F0 F1 F2 ⊢
          have f0 := cell_regrown F0.out
          have f1 := cell_regrown F1.out
          have f2 := cell_regrown F2.out
          have hc := HC.out w2
          rw [HV.out] at hc
          have HC := Aside0.mk hc
          clear hc
          refine wp_region_quiet_below (by kernel_rfl) (by kernel_rfl) ?_
          repeat (go_big_quiet_step (exact HC.out _ _))
          refine wpQuiet_nil ?_
          intro _ hw'
          obtain ⟨⟨dq, osq⟩, hw''⟩ := hw'
          subst hw''
          go_wp2
          go_ret
          exact ⟨by rw [← HA.out, HX.out, HV.out]; rfl, below_then B2.out B2.out.size (below_regrown _ _ _)⟩
        | true =>
          have hd0 := hd0 hv
          have HV := Aside0.mk hv
          clear hv
          go_wp2_with fail
          clear h0 h1 h2
          generalize wr.alloc (.cells #[.string x.f0, .int .i64 x.f1, .int .i64 x.f2] 81) = w2 at F0 F1 F2 B2 ⊢
          generalize wr.heap.size = gb at F0 F1 F2 ⊢
          have f0 := cell_regrown F0.out
          have f1 := cell_regrown F1.out
          have f2 := cell_regrown F2.out
          have hc := HC.out w2
          rw [HV.out] at hc
          have HC := Aside0.mk hc
          clear hc
          refine wp_region_quiet_below (by kernel_rfl) (by kernel_rfl) ?_
          repeat (go_big_quiet_step (exact HC.out _ _))
          refine wpQuiet_nil ?_
          intro _ hw'
          obtain ⟨⟨dq, osq⟩, hw''⟩ := hw'
          subst hw''
          go_wp2
          go_roundg (l0.length - (i + 1))
          case measure => omega
          case rel => exact ⟨i + 1, by omega, by omega, by go_num, ⟨below_then B2.out B2.out.size (below_regrown _ _ _)⟩, ⟨by rw [← HA.out, HX.out, HV.out]; rfl⟩⟩
      · have hi1 : i ≠ 0 := fun h => hi0 (.inl h)
        have hv : vRel x = true := by
          cases h : vRel x with
          | true => rfl
          | false => exact absurd (.inr h) hi0
        clear hi0
        obtain ⟨ad', e', k0, _, _⟩ := at_T81 (Kd.C_below HR.out BW.out) ((i - 1 : Nat) : Int) (by omega) (by omega)
        cases e'
        rw [Int.toNat_natCast] at k0
        have hrd : rd_T81 l0 ((i - 1 : Nat) : Int) = l0.getD (i - 1) z81 := by unfold rd_T81; rw [Int.toNat_natCast]
        rw [hrd] at k0
        clear hrd
        have hX : vRelsFrom l0 (l0.length - i) i = (Op.bytesLess (l0.getD (i - 1) z81).f0.toList x.f0.toList && vRelsFrom l0 (l0.length - (i + 1)) (i + 1)) := by
          rw [HX.out, hv]; simp [hi1]
        have HX := Aside0.mk hX
        have HV := Aside0.mk hv
        clear hX hv
        generalize (l0.getD (i - 1) z81).f0 = y at k0 HX
        have K0 : Aside0 ((wr.alloc (.cells #[.string x.f0, .int .i64 x.f1, .int .i64 x.f2] 81)).cell? (ad.add ((i - 1) * 3)) = some (.string y)) := ⟨(World.cell?_alloc_lt _ _ _ (World.block_lt_of_cell? wr _ k0)).trans k0⟩
        clear k0
        have e3 : IntKind.i64.wrap ((i : Int) - 1) = ((i - 1 : Nat) : Int) := by rw [IntKind.wrap_i64]; omega
        have hd0 : decide (0 < i) = true := by simp; omega
        have hm0 : (0 : Int) ≤ ((i - 1 : Nat) : Int) := by omega
        have hm1 : ((i - 1 : Nat) : Int) < (l0.length : Int) := by omega
        go_wp2_with fail
        clear h0 h1 h2
        generalize wr.alloc (.cells #[.string x.f0, .int .i64 x.f1, .int .i64 x.f2] 81) = w2 at F0 F1 F2 B2 K0 ⊢
        generalize wr.heap.size = gb at F0 F1 F2 ⊢
        have f0 := cell_regrown F0.out
        have f1 := cell_regrown F1.out
        have f2 := cell_regrown F2.out
        have f3 := cell_regrown K0.out
        have hc := HC.out w2
        rw [HV.out] at hc
        have HC := Aside0.mk hc
        clear hc
        cases hb : Op.bytesLess y.toList x.f0.toList with
        | false =>
          refine wp_region_quiet_below (by kernel_rfl) (by kernel_rfl) ?_
          repeat (go_big_quiet_step (exact HC.out _ _))
          refine wpQuiet_nil ?_
          intro _ hw'
          obtain ⟨⟨dq, osq⟩, hw''⟩ := hw'
          subst hw''
          have HB := Aside0.mk hb
          clear hb
          go_wp2
          go_ret
          exact ⟨by rw [← HA.out, HX.out, HB.out]; rfl, below_then B2.out B2.out.size (below_regrown _ _ _)⟩
        | true =>
          refine wp_region_quiet_below (by kernel_rfl) (by kernel_rfl) ?_
          repeat (go_big_quiet_step (exact HC.out _ _))
          refine wpQuiet_nil ?_
          intro _ hw'
          obtain ⟨⟨dq, osq⟩, hw''⟩ := hw'
          subst hw''
          have HB := Aside0.mk hb
          clear hb
          go_wp2
          go_roundg (l0.length - (i + 1))
          case measure => omega
          case rel => exact ⟨i + 1, by omega, by omega, by go_num, ⟨below_then B2.out B2.out.size (below_regrown _ _ _)⟩, ⟨by rw [← HA.out, HX.out, HB.out]; rfl⟩⟩
    · have hd : decide (i < l0.length) = false := decide_eq_false hlt
      have hle : l0.length ≤ i := by omega
      have HX : Aside0 (vRels l0 = decide (l0.length ≤ 4)) := ⟨by rw [← HA.out, show l0.length - i = 0 by omega]; exact decide_eq_decide.2 (by omega)⟩
      clear hlt
      go_wp2
      go_ret
      exact ⟨by rw [HX.out]; first | rfl | (simp; done) | (simp; omega), BW.out⟩


-- NOT PRINTED: function 113 (slices_IndexFunc_int_int)

-- NOT PRINTED: function 110 (slices_ContainsFunc_int_int)

/-! ### impl_areValues: function 101 -/
/-- No value: what the literal in areValues asks. -/
def noVal (v : Int) : Bool := !(decide (0 ≤ v) && decide (v ≤ 9))
set_option maxHeartbeats 8000000 in
theorem noVal_calls (v : Int) (w : World) : Calls Try.prog 111 #[.int .i64 v] w fun e w' => e = .returned (.bool (noVal v)) ∧ Below w.heap.size w w' := by
  have hw : ∃ b, impl_within.f v 0 9 = some b ∧ b = (decide (0 ≤ v) && decide (v ≤ 9)) := by
    unfold impl_within.f
    by_cases h : 0 ≤ v
    · exact ⟨_, if_pos h, by simp [h]⟩
    · exact ⟨_, if_neg h, by simp [h]⟩
  obtain ⟨b, hb, hv⟩ := hw
  have HB := Aside0.mk hb
  have HV := Aside0.mk hv
  clear hb hv
  go_enter Try.func111, Try.ntmps111
  go_wp2_with (go_at_call 100; refine (impl_within.calls v 0 9 b _ HB.out).mono ?_; rintro e w' ⟨rfl, ⟨nd, rfl⟩⟩)
  go_ret
  refine ⟨?_, pw_below_drewN (Below.refl _ _) _⟩
  unfold noVal
  rw [← HV.out]
  rfl
/-- The place of the first number of which p holds, counted from i on; -1 if there is none. -/
def idxI (p : Int → Bool) : List Int → Int → Int
  | [], _ => -1
  | x :: xs, i => if p x = true then i else idxI p xs (i + 1)
theorem idxI_hit (p : Int → Bool) : ∀ (l : List Int) (k : Nat) (i : Int), k < l.length → (∀ j, j < k → p (l.getD j 0) = false) → p (l.getD k 0) = true → idxI p l i = i + k
  | [], k, _, h, _, _ => absurd h (Nat.not_lt_zero _)
  | x :: xs, 0, i, _, _, h => by
    have h' : p x = true := h
    simp [idxI, h']
  | x :: xs, k + 1, i, hk, ha, h => by
    have h0 : p x = false := ha 0 (by omega)
    have := idxI_hit p xs k (i + 1) (by simpa using hk) (fun j hj => by simpa using ha (j + 1) (by omega)) (by simpa using h)
    simp only [idxI, h0, Bool.false_eq_true, if_false, this]
    omega
theorem idxI_miss (p : Int → Bool) : ∀ (l : List Int) (i : Int), (∀ j, j < l.length → p (l.getD j 0) = false) → idxI p l i = -1
  | [], _, _ => rfl
  | x :: xs, i, h => by
    have h0 : p x = false := h 0 (by simp)
    simp only [idxI, h0, Bool.false_eq_true, if_false]
    exact idxI_miss p xs (i + 1) fun j hj => by simpa using h (j + 1) (by simpa using hj)
theorem idxI_any (p : Int → Bool) : ∀ (l : List Int) (i : Int), 0 ≤ i → decide (0 ≤ idxI p l i) = l.any p
  | [], _, _ => rfl
  | x :: xs, i, h => by
    by_cases hp : p x = true
    · simp [idxI, hp, h]
    · simp only [idxI, if_neg hp, List.any_cons]
      rw [Bool.eq_false_iff.mpr hp, Bool.false_or]
      exact idxI_any p xs (i + 1) (by omega)
set_option maxHeartbeats 8000000 in
set_option maxRecDepth 100000 in
theorem noValIdx_calls (A0 : Option Addr) (c0 : Nat) (l : List Int) (w : World) (hr : Kd.C (Kd.int .i64) w A0 l.length l) :
    Calls Try.prog 113 #[.slice A0 l.length c0, .func (.func 111) #[] #[]] w fun e w' => e = .returned (.int .i64 (idxI noVal l 0)) ∧ Below w.heap.size w w' := by
  have hl : l.length ≤ 9223372036854775807 := hr.2.1
  have HR := Aside0.mk hr
  clear hr
  go_enter Try.func113, Try.ntmps113
  go_wp2
  go_loopg [5, 8] l.length (fun gg _ s8 wr => ∃ kk : Nat, kk ≤ l.length ∧ l.length - kk ≤ gg ∧ s8 = .int .i64 kk ∧ Aside0 (Below w.heap.size w wr) ∧ Aside0 (∀ j, j < kk → noVal (l.getD j 0) = false))
  case atStart => exact ⟨0, Nat.zero_le _, by omega, rfl, ⟨Below.refl _ _⟩, ⟨fun j hj => absurd hj (Nat.not_lt_zero _)⟩⟩
  case round =>
    obtain ⟨kk, hkk, hg, rfl, BW, HA⟩ := hrel
    by_cases hltk : kk < l.length
    · have hltz : (kk : Int) < (l.length : Int) := by omega
      obtain ⟨ad, e, h0⟩ := Kd.at_int (Kd.C_below HR.out BW.out) (kk : Int) (by omega) hltz
      rw [Int.toNat_natCast] at h0
      cases e
      have hcall := noVal_calls (rd l (kk : Int)) wr
      have hrd : rd l (kk : Int) = l.getD kk 0 := by unfold rd; rw [Int.toNat_natCast]
      cases hq : noVal (rd l (kk : Int)) with
      | true =>
        rw [hq] at hcall
        have HQ := Aside0.mk hq
        have HRD := Aside0.mk hrd
        clear hq hrd
        go_wp2_with (go_at_call 111; refine hcall.mono ?_; rintro e w' ⟨rfl, hb'⟩)
        go_ret
        refine ⟨?_, below_then BW.out BW.out.size hb'⟩
        rw [idxI_hit noVal l kk 0 hltk HA.out (by rw [← HRD.out]; exact HQ.out)]
        simp
      | false =>
        rw [hq] at hcall
        have HQ := Aside0.mk hq
        have HRD := Aside0.mk hrd
        clear hq hrd
        go_wp2_with (go_at_call 111; refine hcall.mono ?_; rintro e w' ⟨rfl, hb'⟩)
        go_roundg (l.length - (kk + 1))
        case measure => omega
        case rel =>
          refine ⟨kk + 1, by omega, by omega, by go_num, ⟨below_then BW.out BW.out.size hb'⟩, ⟨fun j hj => ?_⟩⟩
          by_cases e : j = kk
          · subst e
            rw [← HRD.out]; exact HQ.out
          · exact HA.out j (by omega)
    · have hd : decide (kk < l.length) = false := decide_eq_false hltk
      have HK := Aside0.mk (show l.length ≤ kk by omega)
      clear hltk
      go_wp2
      go_ret
      refine ⟨?_, BW.out⟩
      have HA := fun j (hj : j < l.length) => HA.out j (Nat.lt_of_lt_of_le hj HK.out)
      rw [idxI_miss noVal l 0 HA]
      rfl
set_option maxHeartbeats 8000000 in
theorem noValAny_calls (A0 : Option Addr) (c0 : Nat) (l : List Int) (w : World) (hr : Kd.C (Kd.int .i64) w A0 l.length l) :
    Calls Try.prog 110 #[.slice A0 l.length c0, .func (.func 111) #[] #[]] w fun e w' => e = .returned (.bool (l.any noVal)) ∧ Below w.heap.size w w' := by
  rw [← idxI_any noVal l 0 (Int.le_refl _)]
  have HR := Aside0.mk hr
  clear hr
  generalize hx : idxI noVal l 0 = x
  have HX := Aside0.mk hx
  clear hx
  go_enter Try.func110, Try.ntmps110
  go_wp2_with (go_at_call 113; refine (noValIdx_calls A0 c0 l _ HR.out).mono ?_; rw [HX.out]; rintro e w' ⟨rfl, hb'⟩)
  go_ret
  exact ⟨rfl, hb'⟩
def impl_areValues.f (l0 : List Int) : Option Bool := some (!l0.any noVal)
set_option maxHeartbeats 8000000 in
set_option maxRecDepth 100000 in
theorem impl_areValues.calls (A0 : Option Addr) (c0 : Nat) (l0 : List Int) (r : Bool) (w : World) (hr0 : Kd.C (Kd.int .i64) w A0 l0.length l0) (hc0 : l0.length ≤ c0) (h : impl_areValues.f l0 = some r) :
    Calls Try.prog 101 #[.slice A0 l0.length c0] w fun e w' => e = .returned (.bool r) ∧ Below w.heap.size w w' := by
  obtain rfl := Option.some.inj h
  have HR := Aside0.mk hr0
  clear hr0 h
  generalize hx : l0.any noVal = x
  have HX := Aside0.mk hx
  clear hx
  go_enter Try.func101, Try.ntmps101
  go_wp2_with (go_at_call 110; refine (noValAny_calls A0 c0 l0 _ HR.out).mono ?_; rw [HX.out]; rintro e w' ⟨rfl, hb'⟩)
  go_ret
  exact ⟨rfl, hb'⟩


end Go.Proofs.Ytddeflhambegiaa.PAll
