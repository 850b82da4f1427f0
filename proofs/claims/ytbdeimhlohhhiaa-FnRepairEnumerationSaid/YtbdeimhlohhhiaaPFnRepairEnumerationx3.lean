import Derived.Test.YtbdeimhlohhhiaaPFnRepairEnumerationx0
import Derived.Test.YtbdeimhlohhhiaaPFnRepairEnumerationx2
namespace Go.Proofs.Ytbdeimhlohhhiaa.PFnRepairEnumeration
open Go.RowKit Go.Proofs.YtbdeimhlohhhiaaW.PrintWords Go.Proofs.YtbdeimhlohhhiaaW.PrintLast Go.Proofs.YtbdeimhlohhhiaaW.PrintMore
attribute [local go_sem] max2_int min2_int max_two min_two max_three min_three max_four min_four
set_option linter.unusedVariables false
set_option linter.unusedSimpArgs false

/-! ### impl_sameKey: function 78 -/
theorem eqInts_go (x y : List Int) (hx : x.length ≤ 9223372036854775807) (hl : y.length = x.length) (d : Nat) : ∀ (i : Nat), i + d = x.length → slices_Equal_int_int.l0 (d + 1) x y x.length i = some (decide (x.drop i = y.drop i)) := by
 induction d with
 | zero =>
  intro i hd
  rw [slices_Equal_int_int.l0, if_neg (by omega), List.drop_of_length_le (by omega), List.drop_of_length_le (by omega)]
  rfl
 | succ d ih =>
  intro i hd
  rw [slices_Equal_int_int.l0, if_pos (by omega), if_pos (by omega), if_pos (by omega), if_pos (by omega), List.drop_eq_getElem_cons (i := i) (l := x) (by omega), List.drop_eq_getElem_cons (i := i) (l := y) (by omega)]
  have e1 : rd x (i : Int) = x[i] := by unfold rd; rw [Int.toNat_natCast, List.getD_eq_getElem?_getD, List.getElem?_eq_getElem (by omega)]; rfl
  have e2 : rd y (i : Int) = y[i] := by unfold rd; rw [Int.toNat_natCast, List.getD_eq_getElem?_getD, List.getElem?_eq_getElem (by omega)]; rfl
  rw [e1, e2, show wrap64 ((i : Int) + 1) = ((i + 1 : Nat) : Int) by unfold wrap64; omega]
  by_cases h : x[i] = y[i]
  ·rw [if_pos h, ih (i + 1) (by omega)]
   exact congrArg some (decide_eq_decide.2 ⟨fun e => by rw [h, e], fun e => (List.cons.inj e).2⟩)
  ·rw [if_neg h]
   exact congrArg some (decide_eq_false fun e => h (List.cons.inj e).1).symm
theorem eqInts (x y : List Int) (hx : x.length ≤ 9223372036854775807) : slices_Equal_int_int.f (x.length + 1) x y = some (decide (x = y)) := by
 unfold slices_Equal_int_int.f
 by_cases h : x.length = y.length
 ·rw [if_pos (by omega)]
  exact eqInts_go x y hx h.symm x.length 0 (by omega)
 ·rw [if_neg (by omega), decide_eq_false]
  rintro rfl
  exact h rfl
/-- The two facts' keys are one. -/
def impl_sameKey.f (l0 : List S70) (a1_0 : Int) (l1_1 : List Int) (a2_0 : Int) (l2_1 : List Int) : Option Bool :=
 if a1_0 = a2_0 then
  (if 0 ≤ a1_0 ∧ a1_0 < (l0.length : Int) ∧ 0 ≤ (rd_T70 l0 a1_0).f2 ∧ (rd_T70 l0 a1_0).f2 ≤ (l1_1.length : Int) ∧ (rd_T70 l0 a1_0).f2 ≤ (l2_1.length : Int) then
   some (decide (l1_1.take ((rd_T70 l0 a1_0).f2).toNat = l2_1.take ((rd_T70 l0 a1_0).f2).toNat)) else none)
 else some false
set_option maxHeartbeats 4000000 in
set_option maxRecDepth 100000 in
theorem impl_sameKey.calls (A0 : Option Addr) (c0 : Nat) (l0 : List S70) (a1_0 : Int) (A1_1 : Option Addr) (c1_1 : Nat) (l1_1 : List Int) (a2_0 : Int) (A2_1 : Option Addr) (c2_1 : Nat) (l2_1 : List Int) (r : Bool) (w : World) (hr0 : Kd.C k70 w A0 l0.length l0) (hc0 : l0.length ≤ c0) (hr1_1 : Kd.C (Kd.int .i64) w A1_1 l1_1.length l1_1) (hc1_1 : l1_1.length ≤ c1_1) (hr2_1 : Kd.C (Kd.int .i64) w A2_1 l2_1.length l2_1) (hc2_1 : l2_1.length ≤ c2_1) (h : impl_sameKey.f l0 a1_0 l1_1 a2_0 l2_1 = some r) :
  Calls Try.prog 78 #[.slice A0 l0.length c0, .agg #[.int .i64 a1_0, .slice A1_1 l1_1.length c1_1], .agg #[.int .i64 a2_0, .slice A2_1 l2_1.length c2_1]] w fun e w' => e = .returned (.bool r) ∧ Below w.heap.size w w' := by
 have hu := Try.underlying35
 unfold impl_sameKey.f at h
 by_cases c1 : a1_0 = a2_0
 ·rw [if_pos c1] at h
  by_cases c2 : 0 ≤ a1_0 ∧ a1_0 < (l0.length : Int) ∧ 0 ≤ (rd_T70 l0 a1_0).f2 ∧ (rd_T70 l0 a1_0).f2 ≤ (l1_1.length : Int) ∧ (rd_T70 l0 a1_0).f2 ≤ (l2_1.length : Int)
  ·rw [if_pos c2] at h
   obtain rfl := Option.some.inj h
   subst c1
   obtain ⟨p0, p1, p2, p3, p4⟩ := c2
   obtain ⟨ad, e, h0, h1, h2⟩ := at_T70 hr0 a1_0 p0 p1
   cases e
   generalize (rd_T70 l0 a1_0).f2 = n at *
   clear h0 h1 h
   obtain ⟨i0, hi, _, hsz, _⟩ := info_parts info3
   obtain ⟨hcA, hRA, hCA⟩ := print_take_of (P := Try.prog) (Value.int .i64) 0 32 3 .i64 Try.underlying32 hi hsz A1_1 c1_1 l1_1 n p2 p3 hc1_1
   obtain ⟨hcB, hRB, hCB⟩ := print_take_of (P := Try.prog) (Value.int .i64) 0 32 3 .i64 Try.underlying32 hi hsz A2_1 c2_1 l2_1 n p2 p4 hc2_1
   have CA : Kd.C (Kd.int .i64) w A1_1 (l1_1.take n.toNat).length (l1_1.take n.toNat) := Kd.C_of_reads (h1 := fun _ => rfl) (hRA _ (Kd.reads_of_C hr1_1))
   have CB : Kd.C (Kd.int .i64) w A2_1 (l2_1.take n.toNat).length (l2_1.take n.toNat) := Kd.C_of_reads (h1 := fun _ => rfl) (hRB _ (Kd.reads_of_C hr2_1))
   have hle : (l1_1.take n.toNat).length ≤ 9223372036854775807 := CA.2.1
   have HE := aM (eqInts (l1_1.take n.toNat) (l2_1.take n.toNat) hle)
   have CA := aM CA
   have CB := aM CB
   have HCA := aM hCA
   have HCB := aM hCB
   clear hRA hRB hCA hCB hle hr0 hr1_1 hr2_1 hi hsz hc0 hc1_1 hc2_1
   have HN : Aside0 (∀ W : World, Below w.heap.size w W → ∀ d os, Calls Try.prog 97 #[.slice A1_1 (l1_1.take n.toNat).length c1_1, .slice A2_1 (l2_1.take n.toNat).length c2_1] (Go.Sort.grow (redrawn W d) os) fun e w'' => e = .returned (.bool (decide (l1_1.take n.toNat = l2_1.take n.toNat))) ∧ ∃ p : Regrown, w'' = Go.Sort.grow (redrawn W p.d) p.os) :=
    ⟨fun W hb d os => Calls.regrown_of (calls_below_of_drawn (slices_Equal_int_int.calls ((l1_1.take n.toNat).length + 1) A1_1 c1_1 (l1_1.take n.toNat) A2_1 c2_1 (l2_1.take n.toNat) _ _ (Kd.C_below CA.out (below_then hb hb.size (below_regrown W d os))) HCA.out (Kd.C_below CB.out (below_then hb hb.size (below_regrown W d os))) HCB.out HE.out))⟩
   clear CA CB HCA HCB HE
   generalize decide (l1_1.take n.toNat = l2_1.take n.toNat) = bb at HN ⊢
   generalize (l1_1.take n.toNat).length = nA at HN hcA
   generalize (l2_1.take n.toNat).length = nB at HN hcB
   have F0 : Aside0 (((w.alloc (.cells #[.int .i64 a1_0, .slice A1_1 l1_1.length c1_1] 35)).alloc (.cells #[.int .i64 a1_0, .slice A2_1 l2_1.length c2_1] 35)).cell? ⟨w.heap.size, 1, none⟩ = some (.slice A1_1 l1_1.length c1_1)) :=
    ⟨have hk := (blk_cell (heap_alloc_new w (.cells #[.int .i64 a1_0, .slice A1_1 l1_1.length c1_1] 35)) 1).trans rfl; (World.cell?_alloc_lt _ _ _ (World.block_lt_of_cell? _ _ hk)).trans hk⟩
   have F1 : Aside0 (((w.alloc (.cells #[.int .i64 a1_0, .slice A1_1 l1_1.length c1_1] 35)).alloc (.cells #[.int .i64 a1_0, .slice A2_1 l2_1.length c2_1] 35)).cell? ⟨w.heap.size + 1, 1, none⟩ = some (.slice A2_1 l2_1.length c2_1)) :=
    ⟨by
     have hz : (w.alloc (.cells #[.int .i64 a1_0, .slice A1_1 l1_1.length c1_1] 35)).heap.size = w.heap.size + 1 := by show (Array.push _ _).size = _; exact Array.size_push ..
     have hk := heap_alloc_new (w.alloc (.cells #[.int .i64 a1_0, .slice A1_1 l1_1.length c1_1] 35)) (.cells #[.int .i64 a1_0, .slice A2_1 l2_1.length c2_1] 35)
     rw [hz] at hk
     exact (blk_cell hk 1).trans rfl⟩
   have B2 : Aside0 (Below w.heap.size w ((w.alloc (.cells #[.int .i64 a1_0, .slice A1_1 l1_1.length c1_1] 35)).alloc (.cells #[.int .i64 a1_0, .slice A2_1 l2_1.length c2_1] 35))) := ⟨below_alloc (below_alloc (Below.refl _ _) _) _⟩
   have H2 : ((w.alloc (.cells #[.int .i64 a1_0, .slice A1_1 l1_1.length c1_1] 35)).alloc (.cells #[.int .i64 a1_0, .slice A2_1 l2_1.length c2_1] 35)).cell? ⟨(ad.add (a1_0.toNat * 3)).block, (ad.add (a1_0.toNat * 3)).off + 2, none⟩ = some (.int .i64 n) :=
    have hk := (World.cell?_alloc_lt _ _ _ (World.block_lt_of_cell? _ _ h2)).trans h2
    (World.cell?_alloc_lt _ _ _ (World.block_lt_of_cell? _ _ hk)).trans hk
   clear h2
   have q0 : decide (0 ≤ a1_0) = true := decide_eq_true p0
   have q1 : decide (a1_0 < (l0.length : Int)) = true := decide_eq_true p1
   go_enter Try.func78, Try.ntmps78
   go_wp2_with fail
   clear H2
   generalize (w.alloc (.cells #[.int .i64 a1_0, .slice A1_1 l1_1.length c1_1] 35)).alloc (.cells #[.int .i64 a1_0, .slice A2_1 l2_1.length c2_1] 35) = w2 at F0 F1 B2 ⊢
   have f0 := cell_regrown F0.out
   have f1 := cell_regrown F1.out
   have HC := aM (HN.out w2 B2.out)
   clear F0 F1 HN
   refine wp_region_quiet_below (by kernel_rfl) (by kernel_rfl) ?_
   repeat (go_big_quiet_step (exact HC.out _ _))
   refine wpQuiet_nil ?_
   intro _ hw'
   obtain ⟨⟨dq, osq⟩, hw''⟩ := hw'
   subst hw''
   go_wp2
   go_ret
   exact ⟨rfl, below_then B2.out B2.out.size (below_regrown _ _ _)⟩
  ·rw [if_neg c2] at h
   exact absurd h (by simp)
 ·rw [if_neg c1] at h
  obtain rfl := Option.some.inj h
  have b0 : (a1_0 == a2_0) = false := by simpa using c1
  have b1 : (a1_0 != a2_0) = true := by simpa using c1
  go_enter Try.func78, Try.ntmps78
  go_wp2
  go_ret
  exact ⟨rfl, below_alloc (below_alloc (Below.refl _ _) _) _⟩


end Go.Proofs.Ytbdeimhlohhhiaa.PFnRepairEnumeration
