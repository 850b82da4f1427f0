-- Laid by a program of this claim: what the functions come to, some of them proved by hand.
import Derived.Test.YtbdeimhlohhhiaaPFnBlocksx0
import Derived.Test.YtbdeimhlohhhiaaPFnBlocksx1
import Derived.Test.YtbdeimhlohhhiaaPFnBlocksx9
namespace Go.Proofs.Ytbdeimhlohhhiaa.PFnBlocks
open Go.RowKit Go.Proofs.YtbdeimhlohhhiaaW.PrintWords Go.Proofs.YtbdeimhlohhhiaaW.PrintLast Go.Proofs.YtbdeimhlohhhiaaW.PrintMore
attribute [local go_sem] max2_int min2_int max_two min_two max_three min_three max_four min_four   -- for this text's walks alone
set_option linter.unusedVariables false
set_option linter.unusedSimpArgs false

/-! ### spec_l1New: function 43 -/
def spec_l1New.l0 : Nat → List Int → Int → Int → Option (List Int × Int × Int)
 | 0, _, _, _ => none
 | k + 1, x0, x3, x4 => if x4 < (x0.length : Int) then (if x4 < 4000 then (if 0 ≤ x4 then (spec_l1New.l0 k x0 (Go.bits .and .i64 (wrap64 ((wrap64 ((wrap64 (x3 * 131)) + (wrap64 (rd x0 x4)))) + 7)) 1073741823) (wrap64 (x4 + 1))) else (none)) else (some (x0, 0, x3))) else (some (x0, 0, x3))
def spec_l1New.f (k : Nat) (l0 : List Int) : Option (List Int × Int × Int) := spec_l1New.l0 k l0 (wrap64 (10101 + (l0.length : Int))) 0
set_option maxHeartbeats 8000000 in
set_option maxRecDepth 100000 in
theorem spec_l1New.calls (k : Nat) (A0 : Option Addr) (c0 : Nat) (l0 : List Int) (r1 : List Int) (r2 : Int) (r3 : Int) (w0 w : World) (hB : Below w0.heap.size w0 w) (hr0 : Kd.C (Kd.int .u8) w0 A0 l0.length l0) (hc0 : l0.length ≤ c0) (h : spec_l1New.f k l0 = some (r1, r2, r3)) :
  Calls Try.prog 43 #[.slice A0 l0.length c0] w fun e w' => ∃ g_ : Nat, e = .returned (.pointer (some ⟨g_, 0, none⟩)) ∧ IsS83 w0 w' g_ r1 r2 r3 ∧ Below w0.heap.size w0 w' ∧ Below w.heap.size w w' := by
 have hu83 := Try.underlying83
 have HR0 := aM hr0
 have HC0 := aM hc0
 clear hr0 hc0
 have HBW := aM (Below.refl w.heap.size w)
 have HW0 := aM hB.size
 have HB := aM hB
 clear hB
 have H : (spec_l1New.l0 k l0 (wrap64 (10101 + (l0.length : Int))) 0) = some (r1, r2, r3) := h
 clear h
 have H' := aM H
 clear H
 go_enter Try.func43, Try.ntmps43
 go_wp2
 go_loopg [3, 4] k (fun kq v3 v4 w' => ∃ (x3_1 : Int) (x4_1 : Int), v3 = .int .i64 x3_1 ∧ v4 = .int .i64 x4_1 ∧ Aside0 (spec_l1New.l0 kq l0 x3_1 x4_1 = some (r1, r2, r3)) ∧ Aside0 (kq ≤ k) ∧ Aside0 (Below w0.heap.size w0 w') ∧ Aside0 (Below w.heap.size w w'))
 case atStart => exact ⟨(wrap64 (10101 + (l0.length : Int))), (0), aX, aX, H', ⟨Nat.le_refl _⟩, ⟨aB⟩, HBW⟩
 case round =>
  clear H'
  obtain ⟨x3_1, x4_1, rfl, rfl, HA, HK1, HB, HBW⟩ := hrel
  cases gk with
  | zero => exact absurd HA.out (by simp [spec_l1New.l0])
  | succ k1 =>
   have H := HA.out
   clear HA
   simp only [spec_l1New.l0] at H
   by_cases c2 : x4_1 < (l0.length : Int)
   ·rw [if_pos c2] at H
    have c2b0 : decide (x4_1 < (l0.length : Int)) = true := decide_eq_true c2
    clear c2
    by_cases c3 : x4_1 < 4000
    ·rw [if_pos c3] at H
     have c3b0 : decide (x4_1 < 4000) = true := decide_eq_true c3
     clear c3
     by_cases c4 : 0 ≤ x4_1
     ·rw [if_pos c4] at H
      have c4b0 : decide (0 ≤ x4_1) = true := decide_eq_true c4
      clear c4
      have H' := aM H
      clear H
      have p383 : 0 ≤ (x4_1 : Int) := aD
      have q383 : x4_1 < (l0.length : Int) := aD
      obtain ⟨ad383, e383, hx383_0⟩ := Kd.at_int HR0.out x4_1 p383 q383
      cases e383
      replace hx383_0 := pw_cell_below HB.out hx383_0
      replace p383 := eq_true p383
      replace q383 := eq_true q383
      go_wp2
      go_roundg k1
      case measure => have := HK1.out; omega
      case rel => exact ⟨(Go.bits .and .i64 (wrap64 ((wrap64 ((wrap64 (x3_1 * 131)) + (wrap64 (rd l0 x4_1)))) + 7)) 1073741823), (wrap64 (x4_1 + 1)), aX, aX, H', ⟨by have := HK1.out; omega⟩, ⟨aB⟩, HBW⟩
     ·rw [if_neg c4] at H
      exact absurd H (by simp)
    ·rw [if_neg c3] at H
     have c3b0 : decide (x4_1 < 4000) = false := decide_eq_false c3
     clear c3
     simp only [Option.some.injEq, Prod.mk.injEq] at H
     obtain ⟨rfl, rfl, rfl⟩ := H
     go_wp2_with (first | ((with_reducible refine gate_dst (N := 31) rfl ?_); refine bE 31 (cs := #[.slice A0 l0.length c0, .int .i64 0, .int .i64 x3_1]) (t := 83) ?_; intro gb384 hg w5 hbox hb; have BK384 := aM (hbox); have GW384 := aM ((by rw [hg]; exact (below_size (by repeat (first | (with_reducible first | exact HBW.out | apply below_alloc | apply pw_below_drewN | apply below_drew1) | exact HBW.out))) : w.heap.size ≤ gb384)); have GE384 := aM ((Nat.le_trans HW0.out (by rw [hg]; exact (below_size (by repeat (first | (with_reducible first | exact HBW.out | apply below_alloc | apply pw_below_drewN | apply below_drew1) | exact HBW.out))) : w.heap.size ≤ gb384) : w0.heap.size ≤ gb384)); replace HBW := aM (below_step HBW.out hb); replace HB := aM (below_step aB hb); clear hb hbox hg))
     go_ret
     exact ⟨_, rfl, (show IsS83 w0 _ gb384 l0 0 x3_1 from ⟨_, _, aK, GE384.out, HR0.out⟩), aG, by repeat (first | (with_reducible first | exact HBW.out | apply below_alloc | apply pw_below_drewN | apply below_drew1 | refine below_set ?_ GW384.out) | exact HBW.out)⟩
   ·rw [if_neg c2] at H
    have c2b0 : decide (x4_1 < (l0.length : Int)) = false := decide_eq_false c2
    clear c2
    simp only [Option.some.injEq, Prod.mk.injEq] at H
    obtain ⟨rfl, rfl, rfl⟩ := H
    go_wp2_with (first | ((with_reducible refine gate_dst (N := 31) rfl ?_); refine bE 31 (cs := #[.slice A0 l0.length c0, .int .i64 0, .int .i64 x3_1]) (t := 83) ?_; intro gb385 hg w6 hbox hb; have BK385 := aM (hbox); have GW385 := aM ((by rw [hg]; exact (below_size (by repeat (first | (with_reducible first | exact HBW.out | apply below_alloc | apply pw_below_drewN | apply below_drew1) | exact HBW.out))) : w.heap.size ≤ gb385)); have GE385 := aM ((Nat.le_trans HW0.out (by rw [hg]; exact (below_size (by repeat (first | (with_reducible first | exact HBW.out | apply below_alloc | apply pw_below_drewN | apply below_drew1) | exact HBW.out))) : w.heap.size ≤ gb385) : w0.heap.size ≤ gb385)); replace HBW := aM (below_step HBW.out hb); replace HB := aM (below_step aB hb); clear hb hbox hg))
    go_ret
    exact ⟨_, rfl, (show IsS83 w0 _ gb385 l0 0 x3_1 from ⟨_, _, aK, GE385.out, HR0.out⟩), aG, by repeat (first | (with_reducible first | exact HBW.out | apply below_alloc | apply pw_below_drewN | apply below_drew1 | refine below_set ?_ GW385.out) | exact HBW.out)⟩

/-! ### spec_DrawBlocks: function 8 -/
def spec_DrawBlocks.f (k : Nat) (l0 : List Int) : Option ((List (S70)) × (List (S35))) := (spec_l1New.f k l0).bind fun bt387 => ((spec_l4Any.f k bt387.1 bt387.2.1 bt387.2.2).bind fun bt391 => (some (bt391.1, bt391.2.1)))
set_option maxHeartbeats 8000000 in
set_option maxRecDepth 100000 in
theorem spec_DrawBlocks.calls (k : Nat) (A0 : Option Addr) (c0 : Nat) (l0 : List Int) (r1 : List (S70)) (r2 : List (S35)) (w : World) (hr0 : Kd.C (Kd.int .u8) w A0 l0.length l0) (hc0 : l0.length ≤ c0) (h : spec_DrawBlocks.f k l0 = some (r1, r2)) :
  Calls Try.prog 8 #[.slice A0 l0.length c0] w fun e w' => ∃ v0_ v1_ : Value, e = .returned (.agg #[v0_, v1_]) ∧ Kd.R k70 70 w' w.heap.size (fun k_ => (w.heap.size ≤ k_)) v0_ r1 ∧ Kd.N k35 35 w' w.heap.size (fun k_ => (w.heap.size ≤ k_) ∧ some k_ ≠ (v0_ : Value).ownBlock) v1_ r2 ∧ Below w.heap.size w w' := by
 have hu27 := Try.underlying27
 have HR0 := aM hr0
 have HC0 := aM hc0
 clear hr0 hc0
 have HB := aM (Below.refl w.heap.size w)
 have H : ((spec_l1New.f k l0).bind fun bt387 => ((spec_l4Any.f k bt387.1 bt387.2.1 bt387.2.2).bind fun bt391 => (some (bt391.1, bt391.2.1)))) = some (r1, r2) := h
 clear h
 replace H := bM H
 obtain ⟨⟨t387, t388, t389⟩, A20, H⟩ := H
 dsimp only at H
 have A2 := aM A20
 clear A20
 replace H := bM H
 obtain ⟨⟨t391, t394, t397, t398⟩, A30, H⟩ := H
 dsimp only at H
 have A3 := aM A30
 clear A30
 simp only [Option.some.injEq, Prod.mk.injEq] at H
 obtain ⟨rfl, rfl⟩ := H
 go_enter Try.func8, Try.ntmps8
 go_wp2_with (first | ((with_reducible refine gate_dst (N := 2) rfl ?_); refine bE 2 (cs := #[.slice none 0 0, .slice none 0 0]) (t := 27) ?_; intro gb386 hg w4 hbox hb; have BK386 := aM (hbox); have GW386 := aM ((by rw [hg]; exact (below_size aB) : w.heap.size ≤ gb386)); have GE386 := aM ((by rw [hg]; exact (below_size aB) : w.heap.size ≤ gb386)); replace HB := aM (below_step aB hb); clear hb hbox hg) | ((with_reducible refine gate_callee (f := 43) rfl ?_); refine goesL_ (some 4) rfl rfl Try.func43 (by kernel_rfl) rfl #[.slice A0 l0.length c0] rfl aA ?_; (with_reducible refine (spec_l1New.calls k _ _ l0 t387 t388 t389 w _ ?side1 ?side2 ?side3 A2.out).mono ?_); (case side1 => exact aG); (case side2 => exact HR0.out); (case side3 => exact HC0.out); rintro e w5 ⟨g390, rfl, hi, hb, hb2⟩; refine ⟨_, rfl, ?_⟩; have HI390 := aM (hi); have NB390_386 := aM (IsS83.ne_blk hi (blk_below (g := gb386) (o := .cells #[.slice none 0 0, .slice none 0 0] 27 (0, 0)) aK hb2) (by decide)); have NB386_390 := aM (Ne.symm (IsS83.ne_blk hi (blk_below (g := gb386) (o := .cells #[.slice none 0 0, .slice none 0 0] 27 (0, 0)) aK hb2) (by decide))); replace BK386 := aM (blk_below (g := gb386) (o := .cells #[.slice none 0 0, .slice none 0 0] 27 (0, 0)) aK hb2); replace HB := aM (hb); (try clear hb); (try clear hb2); (try clear hk); (try clear hi)) | ((with_reducible refine gate_callee (f := 42) rfl ?_); refine goesL_ (some 5) rfl rfl Try.func42 (by kernel_rfl) rfl #[.pointer (some ⟨g390, 0, none⟩)] rfl aA ?_; (with_reducible refine (spec_l4Any.calls k g390 t387 t388 t389 t391 t394 t397 t398 w _ ?side1 ?side2 A3.out).mono ?_); (case side1 => repeat (first | (with_reducible first | exact HI390.out | apply IsS83.alloc | apply IsS83.drewN | apply IsS83.drew | apply IsS83.set_1 | apply IsS83.set_2 | refine IsS83.far ?_ NB390_386.out _) | exact HI390.out)); (case side2 => repeat (first | (with_reducible first | exact HB.out | apply below_alloc | apply pw_below_drewN | apply below_drew1 | refine below_set ?_ (IsS83.ge HI390.out) | refine below_set ?_ GE386.out) | exact HB.out)); rintro e w6 ⟨v392, v395, rfl, ho0, ho1, hi, hb, hk⟩; refine ⟨_, rfl, ?_⟩; have HO393 := aM (Kd.R_lower (Kd.R_newM (M := fun k_ => (w.heap.size ≤ k_)) (Kd.R_mono (ok' := fun k_ => True) ho0 (fun _ hk_ => trivial)) (below_size (by repeat (first | (with_reducible first | exact HB.out | apply below_alloc | apply pw_below_drewN | apply below_drew1 | refine below_set ?_ (IsS83.ge HI390.out) | refine below_set ?_ GE386.out) | exact HB.out))) (fun k_ h_ => h_)) (below_size (by repeat (first | (with_reducible first | exact HB.out | apply below_alloc | apply pw_below_drewN | apply below_drew1 | refine below_set ?_ (IsS83.ge HI390.out) | refine below_set ?_ GE386.out) | exact HB.out)))); have HO396 := aM (Kd.N_lower (Kd.N_mono (ok' := fun k_ => (w.heap.size ≤ k_) ∧ some k_ ≠ (v392 : Value).ownBlock ∧ k_ ≠ gb386 ∧ k_ ≠ g390) ho1 (fun k_ hk_ => ⟨(Nat.le_trans (below_size (by repeat (first | (with_reducible first | exact HB.out | apply below_alloc | apply pw_below_drewN | apply below_drew1 | refine below_set ?_ (IsS83.ge HI390.out) | refine below_set ?_ GE386.out) | exact HB.out))) hk_.1), hk_.2, (Kd.freshB (g := gb386) (o := .cells #[.slice none 0 0, .slice none 0 0] 27 (0, 0)) aK k_ hk_.1), (IsS83.fresh (by repeat (first | (with_reducible first | exact HI390.out | apply IsS83.alloc | apply IsS83.drewN | apply IsS83.drew | apply IsS83.set_1 | apply IsS83.set_2 | refine IsS83.far ?_ NB390_386.out _) | exact HI390.out)) k_ hk_.1)⟩)) (below_size (by repeat (first | (with_reducible first | exact HB.out | apply below_alloc | apply pw_below_drewN | apply below_drew1 | refine below_set ?_ (IsS83.ge HI390.out) | refine below_set ?_ GE386.out) | exact HB.out)))); replace BK386 := aM (KeepBut.blk hk (g' := gb386) (o := .cells #[.slice none 0 0, .slice none 0 0] 27 (0, 0)) aK NB386_390.out (by simp)); replace HB := aM (hb); replace HI390 := aM (hi); (try clear hb); (try clear hb2); (try clear hk); (try clear hi); (try clear ho0); (try clear ho1); obtain ⟨Ao7, co7, eo7⟩ := Kd.R_slice HO393.out; subst eo7; have hnb8 := NB386_390.out; have hnc8 := NB390_386.out; have hcz9_0 : w6.cell? ⟨gb386, 0, none⟩ = some (.slice none 0 0) := (blk_cell BK386.out 0).trans rfl; have hcz9_1 : w6.cell? ⟨gb386, 1, none⟩ = some (.slice none 0 0) := (blk_cell BK386.out 1).trans rfl; have hfz9_0 := blk_frozen BK386.out 0; have hfz9_1 := blk_frozen BK386.out 1; obtain ⟨Ao10, co10, eo10⟩ := Kd.N_slice HO396.out; subst eo10))
 refine bodyPost_ret (results_cell_row rfl _ _ gb386 27 #[.slice Ao7 t391.length co7, .slice Ao10 t394.length co10] (0, 0) _ rfl (by (with_reducible repeat (first | refine blk_drewN ?_ _ | refine blk_drew ?_ | refine blk_alloc ?_ _)); refine blk_put (cs := #[.slice Ao7 t391.length co7, .slice none 0 0]) ?_ 1 _ rfl; (with_reducible repeat (first | refine blk_drewN ?_ _ | refine blk_drew ?_ | refine blk_alloc ?_ _)); refine blk_put (cs := #[.slice none 0 0, .slice none 0 0]) ?_ 0 _ rfl; (with_reducible repeat (first | refine blk_drewN ?_ _ | refine blk_drew ?_ | refine blk_alloc ?_ _)); exact BK386.out) Try.underlying27 rfl (by kernel_rfl)) rfl ?_
 exact ⟨_, _, aE, by (with_reducible repeat (first | apply Kd.R_alloc | apply Kd.R_drewN | apply Kd.R_drew)); exact Kd.R_mono (Kd.R_far (p := ⟨gb386, 1, none⟩) (Kd.R_far (p := ⟨gb386, 0, none⟩) (Kd.R_types HO393.out BK386.out (by decide)) (fun _ hk => hk.2) (.slice Ao7 t391.length co7)) (fun _ hk => hk.2) (.slice Ao10 t394.length co10)) (fun _ hk => hk.1.1), by (with_reducible repeat (first | apply Kd.N_alloc | apply Kd.N_drewN | apply Kd.N_drew)); exact Kd.N_mono (Kd.N_far (p := ⟨gb386, 1, none⟩) (Kd.N_far (p := ⟨gb386, 0, none⟩) (Kd.N_mono HO396.out (fun k_ hk => (⟨hk, hk.2.2.1⟩ : _ ∧ k_ ≠ gb386))) (fun _ hk => hk.2) (.slice Ao7 t391.length co7)) (fun _ hk => hk.2) (.slice Ao10 t394.length co10)) (fun _ hk => ⟨hk.1.1, hk.1.2.1⟩), by repeat (first | (with_reducible first | exact HB.out | apply below_alloc | apply pw_below_drewN | apply below_drew1 | refine below_set ?_ (IsS83.ge HI390.out) | refine below_set ?_ GE386.out) | exact HB.out)⟩

-- NOT PRINTED: function 102 (slices_IndexFunc_int_int)

-- NOT PRINTED: function 98 (slices_ContainsFunc_int_int)

/-! ### impl_areValues: function 81 -/
/-- No value: what the literal in areValues asks. -/
def noVal (v : Int) : Bool := !(decide (0 ≤ v) && decide (v ≤ 9))
set_option maxHeartbeats 8000000 in
theorem noVal_calls (v : Int) (w : World) : Calls Try.prog 99 #[.int .i64 v] w fun e w' => e = .returned (.bool (noVal v)) ∧ Below w.heap.size w w' := by
 have hw : ∃ b, impl_within.f v 0 9 = some b ∧ b = (decide (0 ≤ v) && decide (v ≤ 9)) := by
  unfold impl_within.f
  by_cases h : 0 ≤ v
  ·exact ⟨_, if_pos h, by simp [h]⟩
  ·exact ⟨_, if_neg h, by simp [h]⟩
 obtain ⟨b, hb, hv⟩ := hw
 have HB := aM hb
 have HV := aM hv
 clear hb hv
 go_enter Try.func99, Try.ntmps99
 go_wp2_with (go_at_call 68; refine (impl_within.calls v 0 9 b _ HB.out).mono ?_; rintro e w' ⟨rfl, ⟨nd, rfl⟩⟩)
 go_ret
 refine ⟨?_, pw_below_drewN (Below.refl _ _) _⟩
 unfold noVal
 rw [← HV.out]
 rfl
/-- The place of the first number of which p holds, counted from i on; -1 if there is none. -/
def idxI (p : Int → Bool) : List Int → Int → Int
 | [], _ => -1
 | x :: xs, i => if p x = true then i else idxI p xs (i + 1)
theorem idxI_hit (p : Int → Bool) : ∀ (l : List Int) (k : Nat) (i : Int), k < l.length → (∀ j, j < k → p (l.getD j 0) = false) → p (l.getD k 0) = true → idxI p l i = i + k
 | [], k, _, h, _, _ => absurd h (Nat.not_lt_zero _)
 | x :: xs, 0, i, _, _, h => by
  have h' : p x = true := h
  simp [idxI, h']
 | x :: xs, k + 1, i, hk, ha, h => by
  have h0 : p x = false := ha 0 (by omega)
  have := idxI_hit p xs k (i + 1) (by simpa using hk) (fun j hj => by simpa using ha (j + 1) (by omega)) (by simpa using h)
  simp only [idxI, h0, Bool.false_eq_true, if_false, this]
  omega
theorem idxI_miss (p : Int → Bool) : ∀ (l : List Int) (i : Int), (∀ j, j < l.length → p (l.getD j 0) = false) → idxI p l i = -1
 | [], _, _ => rfl
 | x :: xs, i, h => by
  have h0 : p x = false := h 0 (by simp)
  simp only [idxI, h0, Bool.false_eq_true, if_false]
  exact idxI_miss p xs (i + 1) fun j hj => by simpa using h (j + 1) (by simpa using hj)
theorem idxI_any (p : Int → Bool) : ∀ (l : List Int) (i : Int), 0 ≤ i → decide (0 ≤ idxI p l i) = l.any p
 | [], _, _ => rfl
 | x :: xs, i, h => by
  by_cases hp : p x = true
  ·simp [idxI, hp, h]
  ·simp only [idxI, if_neg hp, List.any_cons]
   rw [Bool.eq_false_iff.mpr hp, Bool.false_or]
   exact idxI_any p xs (i + 1) (by omega)
set_option maxHeartbeats 8000000 in
set_option maxRecDepth 100000 in
theorem noValIdx_calls (A0 : Option Addr) (c0 : Nat) (l : List Int) (w : World) (hr : Kd.C (Kd.int .i64) w A0 l.length l) :
  Calls Try.prog 102 #[.slice A0 l.length c0, .func (.func 99) #[] #[]] w fun e w' => e = .returned (.int .i64 (idxI noVal l 0)) ∧ Below w.heap.size w w' := by
 have hl : l.length ≤ 9223372036854775807 := hr.2.1
 have HR := aM hr
 clear hr
 go_enter Try.func102, Try.ntmps102
 go_wp2
 go_loopg [5, 8] l.length (fun gg _ s8 wr => ∃ kk : Nat, kk ≤ l.length ∧ l.length - kk ≤ gg ∧ s8 = .int .i64 kk ∧ Aside0 (Below w.heap.size w wr) ∧ Aside0 (∀ j, j < kk → noVal (l.getD j 0) = false))
 case atStart => exact ⟨0, Nat.zero_le _, by omega, rfl, ⟨Below.refl _ _⟩, ⟨fun j hj => absurd hj (Nat.not_lt_zero _)⟩⟩
 case round =>
  obtain ⟨kk, hkk, hg, rfl, BW, HA⟩ := hrel
  by_cases hltk : kk < l.length
  ·have hltz : (kk : Int) < (l.length : Int) := by omega
   obtain ⟨ad, e, h0⟩ := Kd.at_int (Kd.C_below HR.out BW.out) (kk : Int) (by omega) hltz
   rw [Int.toNat_natCast] at h0
   cases e
   have hcall := noVal_calls (rd l (kk : Int)) wr
   have hrd : rd l (kk : Int) = l.getD kk 0 := by unfold rd; rw [Int.toNat_natCast]
   cases hq : noVal (rd l (kk : Int)) with
   | true =>
    rw [hq] at hcall
    have HQ := aM hq
    have HRD := aM hrd
    clear hq hrd
    go_wp2_with (go_at_call 99; refine hcall.mono ?_; rintro e w' ⟨rfl, hb'⟩)
    go_ret
    refine ⟨?_, below_then BW.out BW.out.size hb'⟩
    rw [idxI_hit noVal l kk 0 hltk HA.out (by rw [← HRD.out]; exact HQ.out)]
    simp
   | false =>
    rw [hq] at hcall
    have HQ := aM hq
    have HRD := aM hrd
    clear hq hrd
    go_wp2_with (go_at_call 99; refine hcall.mono ?_; rintro e w' ⟨rfl, hb'⟩)
    go_roundg (l.length - (kk + 1))
    case measure => omega
    case rel =>
     refine ⟨kk + 1, by omega, by omega, by go_num, ⟨below_then BW.out BW.out.size hb'⟩, ⟨fun j hj => ?_⟩⟩
     by_cases e : j = kk
     ·subst e
      rw [← HRD.out]; exact HQ.out
     ·exact HA.out j (by omega)
  ·have hd : decide (kk < l.length) = false := decide_eq_false hltk
   have HK := aM (show l.length ≤ kk by omega)
   clear hltk
   go_wp2
   go_ret
   refine ⟨?_, BW.out⟩
   have HA := fun j (hj : j < l.length) => HA.out j (Nat.lt_of_lt_of_le hj HK.out)
   rw [idxI_miss noVal l 0 HA]
   rfl
set_option maxHeartbeats 8000000 in
theorem noValAny_calls (A0 : Option Addr) (c0 : Nat) (l : List Int) (w : World) (hr : Kd.C (Kd.int .i64) w A0 l.length l) :
  Calls Try.prog 98 #[.slice A0 l.length c0, .func (.func 99) #[] #[]] w fun e w' => e = .returned (.bool (l.any noVal)) ∧ Below w.heap.size w w' := by
 rw [← idxI_any noVal l 0 (Int.le_refl _)]
 have HR := aM hr
 clear hr
 generalize hx : idxI noVal l 0 = x
 have HX := aM hx
 clear hx
 go_enter Try.func98, Try.ntmps98
 go_wp2_with (go_at_call 102; refine (noValIdx_calls A0 c0 l _ HR.out).mono ?_; rw [HX.out]; rintro e w' ⟨rfl, hb'⟩)
 go_ret
 exact ⟨rfl, hb'⟩
def impl_areValues.f (l0 : List Int) : Option Bool := some (!l0.any noVal)
set_option maxHeartbeats 8000000 in
set_option maxRecDepth 100000 in
theorem impl_areValues.calls (A0 : Option Addr) (c0 : Nat) (l0 : List Int) (r : Bool) (w : World) (hr0 : Kd.C (Kd.int .i64) w A0 l0.length l0) (hc0 : l0.length ≤ c0) (h : impl_areValues.f l0 = some r) :
  Calls Try.prog 81 #[.slice A0 l0.length c0] w fun e w' => e = .returned (.bool r) ∧ Below w.heap.size w w' := by
 obtain rfl := Option.some.inj h
 have HR := aM hr0
 clear hr0 h
 generalize hx : l0.any noVal = x
 have HX := aM hx
 clear hx
 go_enter Try.func81, Try.ntmps81
 go_wp2_with (go_at_call 98; refine (noValAny_calls A0 c0 l0 _ HR.out).mono ?_; rw [HX.out]; rintro e w' ⟨rfl, hb'⟩)
 go_ret
 exact ⟨rfl, hb'⟩


/-! ### impl_isFact: function 53 -/
def impl_isFact.f (l0 : List (S70)) (a1_0 : Int) (l1_1 : List Int) : Option (Bool) := (impl_within.f a1_0 0 (wrap64 ((l0.length : Int) - 1))).bind fun t400 => (if t400 = true then (if 0 ≤ a1_0 then (if a1_0 < (l0.length : Int) then (if (l1_1.length : Int) = ((rd_T70 l0 a1_0).f1) then ((impl_areValues.f l1_1).bind fun t402 => (some t402)) else (some false)) else (none)) else (none)) else (some false))
set_option maxHeartbeats 8000000 in
set_option maxRecDepth 100000 in
theorem impl_isFact.calls (A0 : Option Addr) (c0 : Nat) (l0 : List (S70)) (a1_0 : Int) (A1_1 : Option Addr) (c1_1 : Nat) (l1_1 : List Int) (r : Bool) (w : World) (hr0 : Kd.C k70 w A0 l0.length l0) (hc0 : l0.length ≤ c0) (hr1_1 : Kd.C (Kd.int .i64) w A1_1 l1_1.length l1_1) (hc1_1 : l1_1.length ≤ c1_1) (h : impl_isFact.f l0 a1_0 l1_1 = some r) :
  Calls Try.prog 53 #[.slice A0 l0.length c0, .agg #[.int .i64 a1_0, .slice A1_1 l1_1.length c1_1]] w fun e w' => e = .returned (.bool r) ∧ Below w.heap.size w w' := by
 have hu35 := Try.underlying35
 obtain ⟨W, hW⟩ : ∃ W, w.alloc (.cells #[.int .i64 a1_0, .slice A1_1 l1_1.length c1_1] 35) = W := ⟨_, rfl⟩
 have q0 := qa (w := W) (p := ⟨w.heap.size, 0, none⟩) (v := .int .i64 a1_0) (by subst hW; go_simp)
 have q1 := qa (w := W) (p := ⟨w.heap.size, 1, none⟩) (v := .slice A1_1 l1_1.length c1_1) (by subst hW; go_simp)
 have HB : Below w.heap.size w W := by subst hW; exact zB
 have HW := Below.refl W.heap.size W
 have hb := aM HB
 have rg_ := @bcl w
 have rd_ := @bdr w
 have rG_ := @bcl W
 have rD_ := @bdr W
 unfold impl_isFact.f at h
 replace h := bs h; obtain ⟨t400, B0, h⟩ := h
 replace h := ib h; rcases h with ⟨rfl, h⟩ | ⟨rfl, h⟩
 replace h := ie h; rcases h with ⟨c2, c2a, h⟩ | ⟨c2, c2a, h⟩
 replace h := il h; rcases h with ⟨c3, c3a, h⟩ | ⟨c3, c3a, h⟩
 replace h := iq h; rcases h with ⟨c4, ⟨c4a, c4b⟩, h⟩ | ⟨c4, ⟨c4a, c4b⟩, h⟩
 replace h := bs h; obtain ⟨t402, B5, h⟩ := h
 obtain rfl := si h
 obtain ⟨ad401, e401, hx401_0, hx401_1, hx401_2⟩ := at_T70 hr0 (a1_0 : Int) aD aD
 have p401 := eq_true (aD : 0 ≤ (a1_0 : Int))
 have q401 := eq_true (aD : a1_0 < (l0.length : Int))
 cases e401
 replace hx401_0 := qa hx401_0
 replace hx401_1 := qa hx401_1
 replace hx401_2 := qa hx401_2
 rotate_left
 obtain rfl := si h
 obtain ⟨ad401, e401, hx401_0, hx401_1, hx401_2⟩ := at_T70 hr0 (a1_0 : Int) aD aD
 have p401 := eq_true (aD : 0 ≤ (a1_0 : Int))
 have q401 := eq_true (aD : a1_0 < (l0.length : Int))
 cases e401
 replace hx401_0 := qa hx401_0
 replace hx401_1 := qa hx401_1
 replace hx401_2 := qa hx401_2
 rotate_left
 exact absurd h (by simp)
 exact absurd h (by simp)
 obtain rfl := si h
 rotate_left
 all_goals (go_enter Try.func53, Try.ntmps53; go_wp2; (repeat ((refine nw (w0 := w) zB ?_; intro W1 HB hb hd; have HW : Below W.heap.size W W1 := zB; (first | (refine Txt.rg (id := 1) [0, 1, 2, 3, 4, 5, 6, 7, 8, 9, 10, 11, 12, 13, 14, 15, 16, 17, 18, 19, 20, 21, 22, 23] (by kernel_rfl) (by kernel_rfl) ?_; simp only [List.map_cons, List.map_nil, List.getD_cons_zero, List.getD_cons_succ])); (repeat (first | (refine Txt.off rfl ?_; simp only [Act.put, List.setIfInBounds_toArray, List.set_cons_zero, List.set_cons_succ]) | (refine Txt.take rfl rfl ?_; intro K hK; go_big_quiet_op; go_big_quiet_on) | (refine Txt.call rfl rfl Try.func68 (by kernel_rfl) rfl (impl_within.calls _ _ _ ?_ _ ?h) rfl ?_; (case h => exact zA); rintro e w1 ⟨rfl, hb⟩; replace hb := hb.below; replace hb := aM hb; have HW : Below W.heap.size W w1 := zB; have HB : Below w.heap.size w w1 := zB; refine ⟨_, rfl, zS, ?_⟩; simp only [Act.put, List.setIfInBounds_toArray, List.set_cons_zero, List.set_cons_succ]) | (refine Txt.call rfl rfl Try.func81 (by kernel_rfl) rfl (impl_areValues.calls _ _ _ ?_ _ ?_ ?_ ?h) rfl ?_; (case h => exact zA); (iterate 2 (first | exact zC | exact zA)); rintro e w1 ⟨rfl, hb⟩; replace hb := aM hb; have HW : Below W.heap.size W w1 := zB; have HB : Below w.heap.size w w1 := zB; refine ⟨_, rfl, zS, ?_⟩; simp only [Act.put, List.setIfInBounds_toArray, List.set_cons_zero, List.set_cons_succ]))); refine Txt.nil ?_); (try go_wp2))); go_ret; exact zE zB)

/-! ### impl_compare: function 82 -/
def impl_compare.f (a0 : Int) (a1 : Int) : Option (Int) := if a0 < a1 then (some (-1)) else (if a0 > a1 then (some 1) else (some 0))
set_option maxHeartbeats 8000000 in
set_option maxRecDepth 100000 in
theorem impl_compare.calls (a0 : Int) (a1 : Int) (r : Int) (w : World) (h : impl_compare.f a0 a1 = some r) :
  Calls Try.prog 82 #[.int .i64 a0, .int .i64 a1] w fun e w' => e = .returned (.int .i64 r) ∧ Drawn0 w w' := by
 unfold impl_compare.f at h
 replace h := il h; rcases h with ⟨c0, c0a, h⟩ | ⟨c0, c0a, h⟩
 obtain rfl := si h
 rotate_left
 replace h := ig h; rcases h with ⟨c1, c1a, h⟩ | ⟨c1, c1a, h⟩
 obtain rfl := si h
 rotate_left
 obtain rfl := si h
 rotate_left
 all_goals (go_enter Try.func82, Try.ntmps82; go_wp2; go_ret; exact zE zD)

/-! ### cmp_isNaN_int: function 103 -/
def cmp_isNaN_int.f (a0 : Int) : Option (Bool) := some (a0 != a0)
set_option maxHeartbeats 8000000 in
set_option maxRecDepth 100000 in
theorem cmp_isNaN_int.calls (a0 : Int) (r : Bool) (w : World) (h : cmp_isNaN_int.f a0 = some r) :
  Calls Try.prog 103 #[.int .i64 a0] w fun e w' => e = .returned (.bool r) ∧ Drawn0 w w' := by
 unfold cmp_isNaN_int.f at h
 obtain rfl := si h
 rotate_left
 all_goals (go_enter Try.func103, Try.ntmps103; go_wp2; go_ret; exact zE zD)

/-! ### cmp_Compare_int: function 100 -/
def cmp_Compare_int.f (a0 : Int) (a1 : Int) : Option (Int) := (cmp_isNaN_int.f a0).bind fun t403 => ((cmp_isNaN_int.f a1).bind fun t404 => (if t403 = true then (if t404 = true then (some 0) else (some (-1))) else (if t404 = true then (some 1) else (if a0 < a1 then (some (-1)) else (if a0 > a1 then (some 1) else (some 0))))))
set_option maxHeartbeats 8000000 in
set_option maxRecDepth 100000 in
theorem cmp_Compare_int.calls (a0 : Int) (a1 : Int) (r : Int) (w : World) (h : cmp_Compare_int.f a0 a1 = some r) :
  Calls Try.prog 100 #[.int .i64 a0, .int .i64 a1] w fun e w' => e = .returned (.int .i64 r) ∧ Drawn0 w w' := by
 unfold cmp_Compare_int.f at h
 replace h := bs h; obtain ⟨t403, B0, h⟩ := h
 replace h := bs h; obtain ⟨t404, B1, h⟩ := h
 replace h := ib h; rcases h with ⟨rfl, h⟩ | ⟨rfl, h⟩
 replace h := ib h; rcases h with ⟨rfl, h⟩ | ⟨rfl, h⟩
 obtain rfl := si h
 rotate_left
 obtain rfl := si h
 rotate_left
 replace h := ib h; rcases h with ⟨rfl, h⟩ | ⟨rfl, h⟩
 obtain rfl := si h
 rotate_left
 replace h := il h; rcases h with ⟨c5, c5a, h⟩ | ⟨c5, c5a, h⟩
 obtain rfl := si h
 rotate_left
 replace h := ig h; rcases h with ⟨c6, c6a, h⟩ | ⟨c6, c6a, h⟩
 obtain rfl := si h
 rotate_left
 obtain rfl := si h
 rotate_left
 all_goals (go_enter Try.func100, Try.ntmps100; go_wp2_with (first | (go_at_call 103; refine (cmp_isNaN_int.calls _ ?_ _ ?h).mono ?_; (case h => exact zA); rintro e w1 ⟨rfl, hb⟩; have hd := hb; replace hb := hb.below; replace hb := aM hb; have HB : Below w.heap.size w w1 := zB)); go_ret; exact zE zD)

/-! ### slices_Compare_int_int: function 83 -/
def slices_Compare_int_int.l0 : Nat → List Int → List Int → List Int → Int → Int → Option (Int)
 | 0, _, _, _, _, _ => none
 | k + 1, x0, x1, x9, x10, x11 => if x11 < x10 then (if 0 ≤ x11 then (if x11 < (x9.length : Int) then (if x11 ≥ (x1.length : Int) then (some 1) else (if x11 < (x1.length : Int) then ((cmp_Compare_int.f (rd x9 x11) (rd x1 x11)).bind fun t407 => (if t407 = 0 then (slices_Compare_int_int.l0 k x0 x1 x9 x10 (wrap64 (x11 + 1))) else (some t407))) else (none))) else (none)) else (none)) else (if (x0.length : Int) < (x1.length : Int) then (some (-1)) else (some 0))
def slices_Compare_int_int.f (k : Nat) (l0 : List Int) (l1 : List Int) : Option (Int) := slices_Compare_int_int.l0 k l0 l1 l0 (l0.length : Int) 0
set_option maxHeartbeats 8000000 in
set_option maxRecDepth 100000 in
theorem slices_Compare_int_int.calls (k : Nat) (A0 : Option Addr) (c0 : Nat) (l0 : List Int) (A1 : Option Addr) (c1 : Nat) (l1 : List Int) (r : Int) (w : World) (hr0 : Kd.C (Kd.int .i64) w A0 l0.length l0) (hc0 : l0.length ≤ c0) (hr1 : Kd.C (Kd.int .i64) w A1 l1.length l1) (hc1 : l1.length ≤ c1) (h : slices_Compare_int_int.f k l0 l1 = some r) :
  Calls Try.prog 83 #[.slice A0 l0.length c0, .slice A1 l1.length c1] w fun e w' => e = .returned (.int .i64 r) ∧ Drawn0 w w' := by
 unfold slices_Compare_int_int.f at h
 ·go_enter Try.func83, Try.ntmps83
  go_wp2_with (first | (go_at_call 100; refine (cmp_Compare_int.calls _ _ ?_ _ ?h).mono ?_; (case h => exact zA); rintro e w1 ⟨rfl, hb⟩; have hd := hb; replace hb := hb.below; replace hb := aM hb; have HB : Below w.heap.size w w1 := zB))
  go_loopg [11] k (fun kq v11 w' => ∃ (x11_0 : Int), v11 = .int .i64 x11_0 ∧ slices_Compare_int_int.l0 kq l0 l1 l0 (l0.length : Int) x11_0 = some r ∧ Drawn0 w w')
  case atStart => exact ⟨_, zR, zA, zD⟩
  case round =>
   clear h
   obtain ⟨x11_0, rfl, h, hb⟩ := hrel
   have hd := hb
   replace hb := hb.below
   replace hb := aM hb
   have HB : Below w.heap.size w wr := zB
   rcases gk with _ | kk0
   exact absurd h (by simp [slices_Compare_int_int.l0])
   simp only [slices_Compare_int_int.l0] at h
   replace h := il h; rcases h with ⟨c1, c1a, h⟩ | ⟨c1, c1a, h⟩
   replace h := ie h; rcases h with ⟨c2, c2a, h⟩ | ⟨c2, c2a, h⟩
   replace h := il h; rcases h with ⟨c3, c3a, h⟩ | ⟨c3, c3a, h⟩
   replace h := ih h; rcases h with ⟨c4, c4a, h⟩ | ⟨c4, c4a, h⟩
   obtain rfl := si h
   obtain ⟨ad405, e405, hx405_0⟩ := Kd.at_int hr0 (x11_0 : Int) aD aD
   have p405 := eq_true (aD : 0 ≤ (x11_0 : Int))
   have q405 := eq_true (aD : x11_0 < (l0.length : Int))
   cases e405
   replace hx405_0 := qa hx405_0
   rotate_left
   replace h := il h; rcases h with ⟨c5, c5a, h⟩ | ⟨c5, c5a, h⟩
   replace h := bs h; obtain ⟨t407, B6, h⟩ := h
   replace h := iq h; rcases h with ⟨c7, ⟨c7a, c7b⟩, h⟩ | ⟨c7, ⟨c7a, c7b⟩, h⟩
   obtain ⟨kf, hkf⟩ : ∃ kf, kf = kk0 := ⟨_, rfl⟩; rw [← hkf] at h
   obtain ⟨ad405, e405, hx405_0⟩ := Kd.at_int hr0 (x11_0 : Int) aD aD
   have p405 := eq_true (aD : 0 ≤ (x11_0 : Int))
   have q405 := eq_true (aD : x11_0 < (l0.length : Int))
   cases e405
   replace hx405_0 := qa hx405_0
   obtain ⟨ad406, e406, hx406_0⟩ := Kd.at_int hr1 (x11_0 : Int) aD aD
   have p406 := eq_true (aD : 0 ≤ (x11_0 : Int))
   have q406 := eq_true (aD : x11_0 < (l1.length : Int))
   cases e406
   replace hx406_0 := qa hx406_0
   rotate_left
   obtain rfl := si h
   obtain ⟨ad405, e405, hx405_0⟩ := Kd.at_int hr0 (x11_0 : Int) aD aD
   have p405 := eq_true (aD : 0 ≤ (x11_0 : Int))
   have q405 := eq_true (aD : x11_0 < (l0.length : Int))
   cases e405
   replace hx405_0 := qa hx405_0
   obtain ⟨ad406, e406, hx406_0⟩ := Kd.at_int hr1 (x11_0 : Int) aD aD
   have p406 := eq_true (aD : 0 ≤ (x11_0 : Int))
   have q406 := eq_true (aD : x11_0 < (l1.length : Int))
   cases e406
   replace hx406_0 := qa hx406_0
   rotate_left
   exact absurd h (by simp)
   exact absurd h (by simp)
   exact absurd h (by simp)
   replace h := il h; rcases h with ⟨c8, c8a, h⟩ | ⟨c8, c8a, h⟩
   have cz := c8.out
   have c8x1 : decide (l0.length < l1.length) = true := decide_eq_true (Int.ofNat_lt.mp cz)
   clear cz
   obtain rfl := si h
   rotate_left
   have cz := c8.out
   have c8x1 : decide (l0.length < l1.length) = false := decide_eq_false (fun h => cz (Int.ofNat_lt.mpr h))
   clear cz
   obtain rfl := si h
   rotate_left
   all_goals (go_wp2_with (first | (go_at_call 100; refine (cmp_Compare_int.calls _ _ ?_ _ ?h).mono ?_; (case h => exact zA); rintro e w1 ⟨rfl, hb⟩; have hd := hb; replace hb := hb.below; replace hb := aM hb; have HB : Below w.heap.size w w1 := zB)); first | (go_ret; exact zE zD) | (go_roundg kf; (case measure => omega); (case rel => exact ⟨_, zR, zA, zD⟩)))

/-! ### impl_CompareFacts: function 54 -/
def impl_CompareFacts.f (k : Nat) (a0_0 : Int) (l0_1 : List Int) (a1_0 : Int) (l1_1 : List Int) : Option (Int) := if a0_0 = a1_0 then ((slices_Compare_int_int.f k l0_1 l1_1).bind fun t410 => (some t410)) else ((impl_compare.f a0_0 a1_0).bind fun t411 => (some t411))
set_option maxHeartbeats 8000000 in
set_option maxRecDepth 100000 in
theorem impl_CompareFacts.calls (k : Nat) (a0_0 : Int) (A0_1 : Option Addr) (c0_1 : Nat) (l0_1 : List Int) (a1_0 : Int) (A1_1 : Option Addr) (c1_1 : Nat) (l1_1 : List Int) (r : Int) (w : World) (hr0_1 : Kd.C (Kd.int .i64) w A0_1 l0_1.length l0_1) (hc0_1 : l0_1.length ≤ c0_1) (hr1_1 : Kd.C (Kd.int .i64) w A1_1 l1_1.length l1_1) (hc1_1 : l1_1.length ≤ c1_1) (h : impl_CompareFacts.f k a0_0 l0_1 a1_0 l1_1 = some r) :
  Calls Try.prog 54 #[.agg #[.int .i64 a0_0, .slice A0_1 l0_1.length c0_1], .agg #[.int .i64 a1_0, .slice A1_1 l1_1.length c1_1]] w fun e w' => e = .returned (.int .i64 r) ∧ Below w.heap.size w w' := by
 have hu35 := Try.underlying35
 obtain ⟨W, hW⟩ : ∃ W, (w.alloc (.cells #[.int .i64 a0_0, .slice A0_1 l0_1.length c0_1] 35)).alloc (.cells #[.int .i64 a1_0, .slice A1_1 l1_1.length c1_1] 35) = W := ⟨_, rfl⟩
 have q0 := qa (w := W) (p := ⟨w.heap.size, 0, none⟩) (v := .int .i64 a0_0) (by subst hW; go_simp)
 have q1 := qa (w := W) (p := ⟨w.heap.size, 1, none⟩) (v := .slice A0_1 l0_1.length c0_1) (by subst hW; go_simp)
 have q2 := qa (w := W) (p := ⟨w.heap.size + 1, 0, none⟩) (v := .int .i64 a1_0) (by subst hW; go_simp)
 have q3 := qa (w := W) (p := ⟨w.heap.size + 1, 1, none⟩) (v := .slice A1_1 l1_1.length c1_1) (by subst hW; go_simp)
 have HB : Below w.heap.size w W := by subst hW; exact zB
 have HW := Below.refl W.heap.size W
 have hb := aM HB
 unfold impl_CompareFacts.f at h
 replace h := iq h; rcases h with ⟨c0, ⟨c0a, c0b⟩, h⟩ | ⟨c0, ⟨c0a, c0b⟩, h⟩
 replace h := bs h; obtain ⟨t410, B1, h⟩ := h
 obtain rfl := si h
 rotate_left
 replace h := bs h; obtain ⟨t411, B2, h⟩ := h
 obtain rfl := si h
 rotate_left
 all_goals (go_enter Try.func54, Try.ntmps54; go_wp2_with (first | (go_at_call 82; refine (impl_compare.calls _ _ ?_ _ ?h).mono ?_; (case h => exact zA); rintro e w1 ⟨rfl, hb⟩; replace hb := hb.below; replace hb := aM hb; have HW : Below W.heap.size W w1 := zB; have HB : Below w.heap.size w w1 := zB) | (go_at_call 83; refine (slices_Compare_int_int.calls ?_ _ _ _ _ _ _ ?_ _ ?_ ?_ ?_ ?_ ?h).mono ?_; (case h => exact zA); (iterate 4 (first | exact zC | exact zA)); rintro e w1 ⟨rfl, hb⟩; replace hb := hb.below; replace hb := aM hb; have HW : Below W.heap.size W w1 := zB; have HB : Below w.heap.size w w1 := zB)); go_ret; exact zE zB)

end Go.Proofs.Ytbdeimhlohhhiaa.PFnBlocks
