-- Laid by a program of this claim: what the functions come to, some of them proved by hand.
import Derived.Test.YtehlhbidmanbmaaPFnExactRepairRankx0
namespace Go.Proofs.Ytehlhbidmanbmaa.PFnExactRepairRank
open Go.RowKit Go.Proofs.YtehlhbidmanbmaaW.PrintWords Go.Proofs.YtehlhbidmanbmaaW.PrintLast Go.Proofs.YtehlhbidmanbmaaW.PrintMore
attribute [local go_sem] max2_int min2_int max_two min_two max_three min_three max_four min_four   -- for this text's walks alone
set_option linter.unusedVariables false
set_option linter.unusedSimpArgs false

/-! ### slices_Equal_int_int: function 113 -/
def slices_Equal_int_int.l0 : Nat → List Int → List Int → Int → Int → Option (Bool)
 | 0, _, _, _, _ => none
 | k + 1, x0, x1, x12, x13 => if x13 < x12 then (if 0 ≤ x13 then (if x13 < (x0.length : Int) then (if x13 < (x1.length : Int) then (if (rd x0 x13) = (rd x1 x13) then (slices_Equal_int_int.l0 k x0 x1 x12 (wrap64 (x13 + 1))) else (some false)) else (none)) else (none)) else (none)) else (some true)
def slices_Equal_int_int.f (k : Nat) (l0 : List Int) (l1 : List Int) : Option (Bool) := if (l0.length : Int) = (l1.length : Int) then (slices_Equal_int_int.l0 k l0 l1 (l0.length : Int) 0) else (some false)
theorem slices_Equal_int_int.mono_l : ∀ k, (∀ y0 y1 y2 y3, LeO (slices_Equal_int_int.l0 k y0 y1 y2 y3) (slices_Equal_int_int.l0 (k + 1) y0 y1 y2 y3))
 | 0 => fun _ _ _ _ r h => by simp [slices_Equal_int_int.l0] at h
 | k + 1 => by
  have ih0 := slices_Equal_int_int.mono_l k
  ·intro y0 y1 y2 y3
   unfold slices_Equal_int_int.l0
   repeat' first
   | (with_reducible exact ih0 _ _ _ _)
   | (with_reducible exact LeO.refl _)
   | (with_reducible exact LeO.none _)
   | (with_reducible refine LeO.ite ?_ ?_)
   | (with_reducible refine LeO.bind ?_ (fun _ => ?_))
   | exact ih0 _ _ _ _
   | exact LeO.none _
   | refine LeO.ite ?_ ?_
   | refine LeO.bind ?_ (fun _ => ?_)
theorem slices_Equal_int_int.mono : ∀ a0 a1 k, LeO (slices_Equal_int_int.f k a0 a1) (slices_Equal_int_int.f (k + 1) a0 a1) := by
 intro a0 a1 k
 have ih0 := slices_Equal_int_int.mono_l k
 unfold slices_Equal_int_int.f
 repeat' first
   | (with_reducible exact ih0 _ _ _ _)
   | (with_reducible exact LeO.refl _)
   | (with_reducible exact LeO.none _)
   | (with_reducible refine LeO.ite ?_ ?_)
   | (with_reducible refine LeO.bind ?_ (fun _ => ?_))
   | exact ih0 _ _ _ _
   | exact LeO.none _
   | refine LeO.ite ?_ ?_
   | refine LeO.bind ?_ (fun _ => ?_)
set_option maxHeartbeats 8000000 in
set_option maxRecDepth 100000 in
theorem slices_Equal_int_int.calls (k : Nat) (A0 : Option Addr) (c0 : Nat) (l0 : List Int) (A1 : Option Addr) (c1 : Nat) (l1 : List Int) (r : Bool) (w : World) (hr0 : Kd.C (Kd.int .i64) w A0 l0.length l0) (hc0 : l0.length ≤ c0) (hr1 : Kd.C (Kd.int .i64) w A1 l1.length l1) (hc1 : l1.length ≤ c1) (h : slices_Equal_int_int.f k l0 l1 = some r) :
  Calls Try.prog 113 #[.slice A0 l0.length c0, .slice A1 l1.length c1] w fun e w' => e = .returned (.bool r) ∧ Drawn0 w w' := by
 have HR0 := aM hr0
 have HC0 := aM hc0
 clear hr0 hc0
 have HR1 := aM hr1
 have HC1 := aM hc1
 clear hr1 hc1
 have H : (if (l0.length : Int) = (l1.length : Int) then (slices_Equal_int_int.l0 k l0 l1 (l0.length : Int) 0) else (some false)) = some r := h
 clear h
 by_cases c3 : (l0.length : Int) = (l1.length : Int)
 ·rw [if_pos c3] at H
  have c3b0 : ((l0.length : Int) == (l1.length : Int)) = true := beq_iff_eq.mpr c3
  have c3b1 : ((l0.length : Int) != (l1.length : Int)) = false := bne_eq_false_iff_eq.mpr c3
  have c3b2 : (l0.length == l1.length) = true := by first | simpa using c3 | (simp at c3 ⊢; omega)
  clear c3
  have H' := aM H
  clear H
  go_enter Try.func113, Try.ntmps113
  go_wp2
  repeat (go_quiet (fail); try go_wp2)
  go_loopg [13] k (fun kq v13 w' => ∃ (x13_1 : Int), v13 = .int .i64 x13_1 ∧ Aside0 (slices_Equal_int_int.l0 kq l0 l1 (l0.length : Int) x13_1 = some r) ∧ Aside0 (kq ≤ k) ∧ Drawn0 w w')
  case atStart => exact ⟨(0), (by first | rfl | (simp; done) | (simp [*]; done)), H', ⟨Nat.le_refl _⟩, by repeat (first | exact Drawn0.refl _ | apply Drawn0.step)⟩
  case round =>
   clear H'
   try clear c1
   try clear p2
   try clear c3
   try clear c3b0
   try clear c3b1
   try clear c3b2
   obtain ⟨x13_1, rfl, HA, HK1, ⟨m1, rfl⟩⟩ := hrel
   cases gk with
   | zero => exact absurd HA.out (by simp [slices_Equal_int_int.l0])
   | succ k1 =>
    have H := HA.out
    clear HA
    simp only [slices_Equal_int_int.l0] at H
    by_cases c4 : x13_1 < (l0.length : Int)
    ·rw [if_pos c4] at H
     have c4b0 : decide (x13_1 < (l0.length : Int)) = true := decide_eq_true c4
     clear c4
     by_cases c5 : 0 ≤ x13_1
     ·rw [if_pos c5] at H
      have c5b0 : decide (0 ≤ x13_1) = true := decide_eq_true c5
      clear c5
      by_cases c6 : x13_1 < (l0.length : Int)
      ·rw [if_pos c6] at H
       have c6b0 : decide (x13_1 < (l0.length : Int)) = true := decide_eq_true c6
       clear c6
       by_cases c7 : x13_1 < (l1.length : Int)
       ·rw [if_pos c7] at H
        have c7b0 : decide (x13_1 < (l1.length : Int)) = true := decide_eq_true c7
        clear c7
        by_cases c8 : (rd l0 x13_1) = (rd l1 x13_1)
        ·rw [if_pos c8] at H
         have c8b0 : ((rd l0 x13_1) == (rd l1 x13_1)) = true := beq_iff_eq.mpr c8
         have c8b1 : ((rd l0 x13_1) != (rd l1 x13_1)) = false := bne_eq_false_iff_eq.mpr c8
         clear c8
         have H' := aM H
         clear H
         have p357 : 0 ≤ (x13_1 : Int) := aD
         have q357 : x13_1 < (l0.length : Int) := aD
         obtain ⟨ad357, e357, hx357_0⟩ := Kd.at_int HR0.out x13_1 p357 q357
         cases e357
         replace p357 := eq_true p357
         replace q357 := eq_true q357
         have p358 : 0 ≤ (x13_1 : Int) := aD
         have q358 : x13_1 < (l1.length : Int) := aD
         obtain ⟨ad358, e358, hx358_0⟩ := Kd.at_int HR1.out x13_1 p358 q358
         cases e358
         replace p358 := eq_true p358
         replace q358 := eq_true q358
         go_wp2
         repeat (go_quiet (fail); try go_wp2)
         go_roundg k1
         case measure => have := HK1.out; omega
         case rel => exact ⟨(wrap64 (x13_1 + 1)), (by first | rfl | (simp; done) | (simp [*]; done)), H', ⟨by have := HK1.out; omega⟩, by repeat (first | exact Drawn0.refl _ | apply Drawn0.step)⟩
        ·rw [if_neg c8] at H
         have c8b0 : ((rd l0 x13_1) == (rd l1 x13_1)) = false := beq_eq_false_iff_ne.mpr c8
         have c8b1 : ((rd l0 x13_1) != (rd l1 x13_1)) = true := bne_iff_ne.mpr c8
         obtain rfl := Option.some.inj H
         have p357 : 0 ≤ (x13_1 : Int) := aD
         have q357 : x13_1 < (l0.length : Int) := aD
         obtain ⟨ad357, e357, hx357_0⟩ := Kd.at_int HR0.out x13_1 p357 q357
         cases e357
         replace p357 := eq_true p357
         replace q357 := eq_true q357
         have p358 : 0 ≤ (x13_1 : Int) := aD
         have q358 : x13_1 < (l1.length : Int) := aD
         obtain ⟨ad358, e358, hx358_0⟩ := Kd.at_int HR1.out x13_1 p358 q358
         cases e358
         replace p358 := eq_true p358
         replace q358 := eq_true q358
         go_wp2
         repeat (go_quiet (fail); try go_wp2)
         go_ret
         exact ⟨by first | rfl | (simp; done) | (simp [*]; done), by repeat (first | exact Drawn0.refl _ | apply Drawn0.step)⟩
       ·rw [if_neg c7] at H
        exact absurd H (by simp)
      ·rw [if_neg c6] at H
       exact absurd H (by simp)
     ·rw [if_neg c5] at H
      exact absurd H (by simp)
    ·rw [if_neg c4] at H
     have c4b0 : decide (x13_1 < (l0.length : Int)) = false := decide_eq_false c4
     clear c4
     obtain rfl := Option.some.inj H
     go_wp2
     repeat (go_quiet (fail); try go_wp2)
     go_ret
     exact ⟨by first | rfl | (simp; done) | (simp [*]; done), by repeat (first | exact Drawn0.refl _ | apply Drawn0.step)⟩
 ·rw [if_neg c3] at H
  have c3b0 : ((l0.length : Int) == (l1.length : Int)) = false := beq_eq_false_iff_ne.mpr c3
  have c3b1 : ((l0.length : Int) != (l1.length : Int)) = true := bne_iff_ne.mpr c3
  have c3b2 : (l0.length == l1.length) = false := by first | simpa using c3 | (simp at c3 ⊢; omega)
  obtain rfl := Option.some.inj H
  go_enter Try.func113, Try.ntmps113
  go_wp2
  repeat (go_quiet (fail); try go_wp2)
  go_ret
  exact ⟨by first | rfl | (simp; done) | (simp [*]; done), by repeat (first | exact Drawn0.refl _ | apply Drawn0.step)⟩

/-! ### impl_sameKey: function 104 -/
theorem eqInts_go (x y : List Int) (hx : x.length ≤ 9223372036854775807) (hl : y.length = x.length) (d : Nat) : ∀ (i : Nat), i + d = x.length → slices_Equal_int_int.l0 (d + 1) x y x.length i = some (decide (x.drop i = y.drop i)) := by
 induction d with
 | zero =>
  intro i hd
  rw [slices_Equal_int_int.l0, if_neg (by omega), List.drop_of_length_le (by omega), List.drop_of_length_le (by omega)]
  rfl
 | succ d ih =>
  intro i hd
  rw [slices_Equal_int_int.l0, if_pos (by omega), if_pos (by omega), if_pos (by omega), if_pos (by omega), List.drop_eq_getElem_cons (i := i) (l := x) (by omega), List.drop_eq_getElem_cons (i := i) (l := y) (by omega)]
  have e1 : rd x (i : Int) = x[i] := by unfold rd; rw [Int.toNat_natCast, List.getD_eq_getElem?_getD, List.getElem?_eq_getElem (by omega)]; rfl
  have e2 : rd y (i : Int) = y[i] := by unfold rd; rw [Int.toNat_natCast, List.getD_eq_getElem?_getD, List.getElem?_eq_getElem (by omega)]; rfl
  rw [e1, e2, show wrap64 ((i : Int) + 1) = ((i + 1 : Nat) : Int) by unfold wrap64; omega]
  by_cases h : x[i] = y[i]
  ·rw [if_pos h, ih (i + 1) (by omega)]
   exact congrArg some (decide_eq_decide.2 ⟨fun e => by rw [h, e], fun e => (List.cons.inj e).2⟩)
  ·rw [if_neg h]
   exact congrArg some (decide_eq_false fun e => h (List.cons.inj e).1).symm
theorem eqInts (x y : List Int) (hx : x.length ≤ 9223372036854775807) : slices_Equal_int_int.f (x.length + 1) x y = some (decide (x = y)) := by
 unfold slices_Equal_int_int.f
 by_cases h : x.length = y.length
 ·rw [if_pos (by omega)]
  exact eqInts_go x y hx h.symm x.length 0 (by omega)
 ·rw [if_neg (by omega), decide_eq_false]
  rintro rfl
  exact h rfl
/-- The two facts' keys are one. -/
def impl_sameKey.f (l0 : List S86) (a1_0 : Int) (l1_1 : List Int) (a2_0 : Int) (l2_1 : List Int) : Option Bool :=
 if a1_0 = a2_0 then
  (if 0 ≤ a1_0 ∧ a1_0 < (l0.length : Int) ∧ 0 ≤ (rd_T86 l0 a1_0).f2 ∧ (rd_T86 l0 a1_0).f2 ≤ (l1_1.length : Int) ∧ (rd_T86 l0 a1_0).f2 ≤ (l2_1.length : Int) then
   some (decide (l1_1.take ((rd_T86 l0 a1_0).f2).toNat = l2_1.take ((rd_T86 l0 a1_0).f2).toNat)) else none)
 else some false
set_option maxHeartbeats 4000000 in
set_option maxRecDepth 100000 in
theorem impl_sameKey.calls (A0 : Option Addr) (c0 : Nat) (l0 : List S86) (a1_0 : Int) (A1_1 : Option Addr) (c1_1 : Nat) (l1_1 : List Int) (a2_0 : Int) (A2_1 : Option Addr) (c2_1 : Nat) (l2_1 : List Int) (r : Bool) (w : World) (hr0 : Kd.C k86 w A0 l0.length l0) (hc0 : l0.length ≤ c0) (hr1_1 : Kd.C (Kd.int .i64) w A1_1 l1_1.length l1_1) (hc1_1 : l1_1.length ≤ c1_1) (hr2_1 : Kd.C (Kd.int .i64) w A2_1 l2_1.length l2_1) (hc2_1 : l2_1.length ≤ c2_1) (h : impl_sameKey.f l0 a1_0 l1_1 a2_0 l2_1 = some r) :
  Calls Try.prog 104 #[.slice A0 l0.length c0, .agg #[.int .i64 a1_0, .slice A1_1 l1_1.length c1_1], .agg #[.int .i64 a2_0, .slice A2_1 l2_1.length c2_1]] w fun e w' => e = .returned (.bool r) ∧ Below w.heap.size w w' := by
 have hu := Try.underlying50
 unfold impl_sameKey.f at h
 by_cases c1 : a1_0 = a2_0
 ·rw [if_pos c1] at h
  by_cases c2 : 0 ≤ a1_0 ∧ a1_0 < (l0.length : Int) ∧ 0 ≤ (rd_T86 l0 a1_0).f2 ∧ (rd_T86 l0 a1_0).f2 ≤ (l1_1.length : Int) ∧ (rd_T86 l0 a1_0).f2 ≤ (l2_1.length : Int)
  ·rw [if_pos c2] at h
   obtain rfl := Option.some.inj h
   subst c1
   obtain ⟨p0, p1, p2, p3, p4⟩ := c2
   obtain ⟨ad, e, h0, h1, h2⟩ := at_T86 hr0 a1_0 p0 p1
   cases e
   generalize (rd_T86 l0 a1_0).f2 = n at *
   clear h0 h1 h
   obtain ⟨i0, hi, _, hsz, _⟩ := info_parts info3
   obtain ⟨hcA, hRA, hCA⟩ := print_take_of (P := Try.prog) (Value.int .i64) 0 26 3 .i64 Try.underlying26 hi hsz A1_1 c1_1 l1_1 n p2 p3 hc1_1
   obtain ⟨hcB, hRB, hCB⟩ := print_take_of (P := Try.prog) (Value.int .i64) 0 26 3 .i64 Try.underlying26 hi hsz A2_1 c2_1 l2_1 n p2 p4 hc2_1
   have CA : Kd.C (Kd.int .i64) w A1_1 (l1_1.take n.toNat).length (l1_1.take n.toNat) := Kd.C_of_reads (h1 := fun _ => rfl) (hRA _ (Kd.reads_of_C hr1_1))
   have CB : Kd.C (Kd.int .i64) w A2_1 (l2_1.take n.toNat).length (l2_1.take n.toNat) := Kd.C_of_reads (h1 := fun _ => rfl) (hRB _ (Kd.reads_of_C hr2_1))
   have hle : (l1_1.take n.toNat).length ≤ 9223372036854775807 := CA.2.1
   have HE := aM (eqInts (l1_1.take n.toNat) (l2_1.take n.toNat) hle)
   have CA := aM CA
   have CB := aM CB
   have HCA := aM hCA
   have HCB := aM hCB
   clear hRA hRB hCA hCB hle hr0 hr1_1 hr2_1 hi hsz hc0 hc1_1 hc2_1
   have HN : Aside0 (∀ W : World, Below w.heap.size w W → ∀ d os, Calls Try.prog 113 #[.slice A1_1 (l1_1.take n.toNat).length c1_1, .slice A2_1 (l2_1.take n.toNat).length c2_1] (Go.Sort.grow (redrawn W d) os) fun e w'' => e = .returned (.bool (decide (l1_1.take n.toNat = l2_1.take n.toNat))) ∧ ∃ p : Regrown, w'' = Go.Sort.grow (redrawn W p.d) p.os) :=
    ⟨fun W hb d os => Calls.regrown_of (calls_below_of_drawn (slices_Equal_int_int.calls ((l1_1.take n.toNat).length + 1) A1_1 c1_1 (l1_1.take n.toNat) A2_1 c2_1 (l2_1.take n.toNat) _ _ (Kd.C_below CA.out (below_then hb hb.size (below_regrown W d os))) HCA.out (Kd.C_below CB.out (below_then hb hb.size (below_regrown W d os))) HCB.out HE.out))⟩
   clear CA CB HCA HCB HE
   generalize decide (l1_1.take n.toNat = l2_1.take n.toNat) = bb at HN ⊢
   generalize (l1_1.take n.toNat).length = nA at HN hcA
   generalize (l2_1.take n.toNat).length = nB at HN hcB
   have F0 : Aside0 (((w.alloc (.cells #[.int .i64 a1_0, .slice A1_1 l1_1.length c1_1] 50)).alloc (.cells #[.int .i64 a1_0, .slice A2_1 l2_1.length c2_1] 50)).cell? ⟨w.heap.size, 1, none⟩ = some (.slice A1_1 l1_1.length c1_1)) :=
    ⟨have hk := (blk_cell (heap_alloc_new w (.cells #[.int .i64 a1_0, .slice A1_1 l1_1.length c1_1] 50)) 1).trans rfl; (World.cell?_alloc_lt _ _ _ (World.block_lt_of_cell? _ _ hk)).trans hk⟩
   have F1 : Aside0 (((w.alloc (.cells #[.int .i64 a1_0, .slice A1_1 l1_1.length c1_1] 50)).alloc (.cells #[.int .i64 a1_0, .slice A2_1 l2_1.length c2_1] 50)).cell? ⟨w.heap.size + 1, 1, none⟩ = some (.slice A2_1 l2_1.length c2_1)) :=
    ⟨by
     have hz : (w.alloc (.cells #[.int .i64 a1_0, .slice A1_1 l1_1.length c1_1] 50)).heap.size = w.heap.size + 1 := by show (Array.push _ _).size = _; exact Array.size_push ..
     have hk := heap_alloc_new (w.alloc (.cells #[.int .i64 a1_0, .slice A1_1 l1_1.length c1_1] 50)) (.cells #[.int .i64 a1_0, .slice A2_1 l2_1.length c2_1] 50)
     rw [hz] at hk
     exact (blk_cell hk 1).trans rfl⟩
   have B2 : Aside0 (Below w.heap.size w ((w.alloc (.cells #[.int .i64 a1_0, .slice A1_1 l1_1.length c1_1] 50)).alloc (.cells #[.int .i64 a1_0, .slice A2_1 l2_1.length c2_1] 50))) := ⟨below_alloc (below_alloc (Below.refl _ _) _) _⟩
   have H2 : ((w.alloc (.cells #[.int .i64 a1_0, .slice A1_1 l1_1.length c1_1] 50)).alloc (.cells #[.int .i64 a1_0, .slice A2_1 l2_1.length c2_1] 50)).cell? ⟨(ad.add (a1_0.toNat * 3)).block, (ad.add (a1_0.toNat * 3)).off + 2, none⟩ = some (.int .i64 n) :=
    have hk := (World.cell?_alloc_lt _ _ _ (World.block_lt_of_cell? _ _ h2)).trans h2
    (World.cell?_alloc_lt _ _ _ (World.block_lt_of_cell? _ _ hk)).trans hk
   clear h2
   have q0 : decide (0 ≤ a1_0) = true := decide_eq_true p0
   have q1 : decide (a1_0 < (l0.length : Int)) = true := decide_eq_true p1
   go_enter Try.func104, Try.ntmps104
   go_wp2_with fail
   clear H2
   generalize (w.alloc (.cells #[.int .i64 a1_0, .slice A1_1 l1_1.length c1_1] 50)).alloc (.cells #[.int .i64 a1_0, .slice A2_1 l2_1.length c2_1] 50) = w2 at F0 F1 B2 ⊢
   have f0 := cell_regrown F0.out
   have f1 := cell_regrown F1.out
   have HC := aM (HN.out w2 B2.out)
   clear F0 F1 HN
   refine wp_region_quiet_below (by kernel_rfl) (by kernel_rfl) ?_
   repeat (go_big_quiet_step (exact HC.out _ _))
   refine wpQuiet_nil ?_
   intro _ hw'
   obtain ⟨⟨dq, osq⟩, hw''⟩ := hw'
   subst hw''
   go_wp2
   go_ret
   exact ⟨rfl, below_then B2.out B2.out.size (below_regrown _ _ _)⟩
  ·rw [if_neg c2] at h
   exact absurd h (by simp)
 ·rw [if_neg c1] at h
  obtain rfl := Option.some.inj h
  have b0 : (a1_0 == a2_0) = false := by simpa using c1
  have b1 : (a1_0 != a2_0) = true := by simpa using c1
  go_enter Try.func104, Try.ntmps104
  go_wp2
  go_ret
  exact ⟨rfl, below_alloc (below_alloc (Below.refl _ _) _) _⟩


end Go.Proofs.Ytehlhbidmanbmaa.PFnExactRepairRank
