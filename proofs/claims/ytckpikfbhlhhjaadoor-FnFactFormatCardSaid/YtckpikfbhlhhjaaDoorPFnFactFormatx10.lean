import Derived.Test.YtckpikfbhlhhjaaDoorPFnFactFormatx0
import Derived.Test.YtckpikfbhlhhjaaDoorPFnFactFormatx3
import Derived.Test.YtckpikfbhlhhjaaDoorPFnFactFormatx9
namespace Go.Proofs.YtckpikfbhlhhjaaDoor.PFnFactFormat
open Go.RowKit Go.Proofs.YtckpikfbhlhhjaaDoorW.PrintWords Go.Proofs.YtckpikfbhlhhjaaDoorW.PrintLast Go.Proofs.YtckpikfbhlhhjaaDoorW.PrintMore
attribute [local go_sem] max2_int min2_int max_two min_two max_three min_three max_four min_four
set_option linter.unusedVariables false
set_option linter.unusedSimpArgs false

/-! ### impl_KeyOf: function 26 -/
def impl_KeyOf.f (l0 : List (S68)) (a1_0 : Int) (l1_1 : List Int) : Option (List Int) := (impl_IsValidFact.f l0 a1_0 l1_1).bind fun t473 => (if t473 = true then (if 0 ≤ a1_0 then (if a1_0 < (l0.length : Int) then (if 0 ≤ ((rd_T68 l0 a1_0).f2) then (if ((rd_T68 l0 a1_0).f2) ≤ (l1_1.length : Int) then ((slices_Clone_int_int.f (l1_1.take (((rd_T68 l0 a1_0).f2) : Int).toNat)).bind fun t476 => (some t476)) else (none)) else (none)) else (none)) else (none)) else (some ([] : List Int)))
def impl_KeyOf.T3 : Bool × List (List Nat × List Nat) := (true, [([], []), ([0], [0]), ([], []), ([], []), ([3], [3]), ([2, 4], [2, 4]), ([5], [5]), ([6], [6]), ([1, 7], [1, 7]), ([8], [8]), ([9, 9, 0, 1, 2, 3, 4, 5, 6, 7, 8, 9], [9])])
def impl_KeyOf.B3 : List Nat := [0, 1, 0, 0, 8, 28, 60, 124, 255, 511, 1023]
theorem impl_KeyOf.tab3 : rtab .any (opsOf Tryd.f26 3) = impl_KeyOf.T3 := by kernel_rfl
theorem impl_KeyOf.bits3 : waitsOk impl_KeyOf.T3.2 impl_KeyOf.B3 = true := by kernel_rfl
set_option maxHeartbeats 8000000 in
set_option maxRecDepth 100000 in
theorem impl_KeyOf.calls (A0 : Option Addr) (c0 : Nat) (l0 : List (S68)) (a1_0 : Int) (A1_1 : Option Addr) (c1_1 : Nat) (l1_1 : List Int) (r : List Int) (w : World) (hr0 : Kd.C k68 w A0 l0.length l0) (hc0 : l0.length ≤ c0) (hr1_1 : Kd.C (Kd.int .i64) w A1_1 l1_1.length l1_1) (hc1_1 : l1_1.length ≤ c1_1) (h : impl_KeyOf.f l0 a1_0 l1_1 = some r) :
  Calls Tryd.prog 26 #[.slice A0 l0.length c0, .agg #[.int .i64 a1_0, .slice A1_1 l1_1.length c1_1]] w fun e w' => ∃ v0_ : Value, e = .returned (v0_) ∧ Kd.R (Kd.int .i64) 3 w' w.heap.size (fun _ => True) v0_ r ∧ Below w.heap.size w w' := by
 have hu39 := Tryd.underlying39
 have HR0 := aM hr0
 have HC0 := aM hc0
 clear hr0 hc0
 have HR1_1 := aM hr1_1
 have HC1_1 := aM hc1_1
 clear hr1_1 hc1_1
 have HB := aM (Below.refl w.heap.size w)
 have H : ((impl_IsValidFact.f l0 a1_0 l1_1).bind fun t473 => (if t473 = true then (if 0 ≤ a1_0 then (if a1_0 < (l0.length : Int) then (if 0 ≤ ((rd_T68 l0 a1_0).f2) then (if ((rd_T68 l0 a1_0).f2) ≤ (l1_1.length : Int) then ((slices_Clone_int_int.f (l1_1.take (((rd_T68 l0 a1_0).f2) : Int).toNat)).bind fun t476 => (some t476)) else (none)) else (none)) else (none)) else (none)) else (some ([] : List Int)))) = some r := h
 clear h
 replace H := bM H
 obtain ⟨t473, A30, H⟩ := H
 have A3 := aM A30
 clear A30
 by_cases c4 : t473 = true
 ·subst c4
  replace H := iT H
  by_cases c5 : 0 ≤ a1_0
  ·rw [if_pos c5] at H
   have c5b0 : decide (0 ≤ a1_0) = true := decide_eq_true c5
   clear c5
   by_cases c6 : a1_0 < (l0.length : Int)
   ·rw [if_pos c6] at H
    have c6b0 : decide (a1_0 < (l0.length : Int)) = true := decide_eq_true c6
    clear c6
    by_cases c7 : 0 ≤ ((rd_T68 l0 a1_0).f2)
    ·rw [if_pos c7] at H
     have c7b0 := eq_true c7
     have c7b1 : decide (0 ≤ ((rd_T68 l0 a1_0).f2)) = true := decide_eq_true c7
     clear c7
     by_cases c8 : ((rd_T68 l0 a1_0).f2) ≤ (l1_1.length : Int)
     ·rw [if_pos c8] at H
      have c8b0 := eq_true c8
      have c8b1 : decide (((rd_T68 l0 a1_0).f2) ≤ (l1_1.length : Int)) = true := decide_eq_true c8
      clear c8
      replace H := bM H
      obtain ⟨t476, A90, H⟩ := H
      have A9 := aM A90
      clear A90
      obtain rfl := Option.some.inj H
      go_enter Tryd.func26, Tryd.ntmps26
      try go_wp2_with (first | ((with_reducible refine gate_dst (N := 3) rfl ?_); refine bE 3 (cs := #[.int .i64 a1_0, .slice A1_1 l1_1.length c1_1]) (t := 39) ?_; intro gb472 hg w10 hbox hb; have BK472 := aM (hbox); have GW472 := aM ((by rw [hg]; exact (below_size aB) : w.heap.size ≤ gb472)); have GE472 := aM ((by rw [hg]; exact (below_size aB) : w.heap.size ≤ gb472)); replace HB := aM (below_step aB hb); clear hb hbox hg; have hcz11_0 : w10.cell? ⟨gb472, 0, none⟩ = some (.int .i64 a1_0) := (blk_cell BK472.out 0).trans rfl; have hcz11_1 : w10.cell? ⟨gb472, 1, none⟩ = some (.slice A1_1 l1_1.length c1_1) := (blk_cell BK472.out 1).trans rfl; have hfz11_0 := blk_frozen BK472.out 0; have hfz11_1 := blk_frozen BK472.out 1) | ((with_reducible refine gate_callee (f := 50) rfl ?_); refine goesL_ (some 7) rfl rfl Tryd.func50 (by kernel_rfl) rfl #[.slice A0 l0.length c0, .agg #[.int .i64 a1_0, .slice A1_1 l1_1.length c1_1]] rfl aA ?_; (with_reducible refine (impl_IsValidFact.calls _ _ l0 a1_0 _ _ l1_1 true _ ?side1 ?side2 ?side3 ?side4 A3.out).mono ?_); (case side1 => exact aC); (case side2 => exact HC0.out); (case side3 => exact aC); (case side4 => exact HC1_1.out); rintro e w12 ⟨rfl, hb⟩; refine ⟨_, rfl, ?_⟩; replace BK472 := aM (kB gb472 #[.int .i64 a1_0, .slice A1_1 l1_1.length c1_1] 39 hb); replace HB := aM (below_step aG hb); (try clear hb); (try clear hb2); (try clear hk); (try clear hi)))
      replace BK472 := aM (blk_drew BK472.out)
      replace HB := aM (below_drew1 HB.out)
      have p474 : 0 ≤ (a1_0 : Int) := aD
      have q474 : a1_0 < (l0.length : Int) := aD
      obtain ⟨ad474, e474, hx474_0, hx474_1, hx474_2⟩ := at_T68 HR0.out a1_0 p474 q474
      have hw474_2 := hx474_2
      have hw474_1 := hx474_1
      have hw474_0 := hx474_0
      cases e474
      replace hx474_0 := (HB.out.cell (World.block_lt_of_cell? w _ hx474_0)).trans hx474_0
      replace hx474_1 := (HB.out.cell (World.block_lt_of_cell? w _ hx474_1)).trans hx474_1
      replace hx474_2 := (HB.out.cell (World.block_lt_of_cell? w _ hx474_2)).trans hx474_2
      replace p474 := eq_true p474
      replace q474 := eq_true q474
      obtain ⟨i014, hi014, _, hsz14, _⟩ := info_parts info3
      obtain ⟨hcut14, hA14, hC14⟩ := print_take_of (P := Tryd.prog) (Value.int .i64) 0 37 3 .i64 Tryd.underlying37 hi014 hsz14 A1_1 c1_1 l1_1 ((rd_T68 l0 a1_0).f2) (aD) (aD) HC1_1.out
      have HR475 := aM (Kd.C_of_reads (h1 := fun _ => rfl) (hA14 _ (Kd.reads_of_C HR1_1.out)))
      have HC475 := aM hC14
      clear hA14 hC14 hi014 hsz14
      refine start_ (n := 11) (S := fun w' => w'.cell? ⟨gb472, 0, none⟩ = some (.int .i64 a1_0) ∧ w'.cell? ⟨gb472, 1, none⟩ = some (.slice A1_1 l1_1.length c1_1) ∧ w'.cell? (ad474.add ((a1_0).toNat * 3)) = some (.string ((rd_T68 l0 a1_0).f0)) ∧ w'.cell? ⟨(ad474.add ((a1_0).toNat * 3)).block, (ad474.add ((a1_0).toNat * 3)).off + 1, none⟩ = some (.int .i64 ((rd_T68 l0 a1_0).f1)) ∧ w'.cell? ⟨(ad474.add ((a1_0).toNat * 3)).block, (ad474.add ((a1_0).toNat * 3)).off + 2, none⟩ = some (.int .i64 ((rd_T68 l0 a1_0).f2))) (ds := []) #[false, false, false, false, false, false, false, false, false, false, false] (by kernel_rfl) rfl rfl ⟨(blk_cell BK472.out 0).trans rfl, (blk_cell BK472.out 1).trans rfl, (pw_cell_below HB.out hw474_0), (pw_cell_below HB.out hw474_1), (pw_cell_below HB.out hw474_2)⟩ (fun hHeld => ?_); refine with_tabW impl_KeyOf.tab3 impl_KeyOf.bits3 (fun HT_ HW_ => ?_)
      generalize w12.drew = w13 at BK472 HB HR475 hx474_0 hx474_1 hx474_2 hHeld ⊢
      refine pU 0 9 ?_
      refine pU 2 11 ?_
      refine pU 3 12 ?_
      refine tU5 1 10 hHeld ?_
      refine tU5 4 13 hHeld ?_
      refine pU 5 14 ?_
      refine pU 6 15 ?_
      refine tU5 7 16 hHeld ?_
      refine pU 8 17 ?_
      refine oU 9 18 (fun K hK => ?_)
      refine goes_ Tryd.func70 (by kernel_rfl) rfl #[.slice A1_1 (l1_1.take (((rd_T68 l0 a1_0).f2) : Int).toNat).length c1_1] (by rfl) rfl rfl (by (try simp only [List.map_toArray, List.map_cons, List.map_nil]); first | done | (rw [show (l1_1.take (((rd_T68 l0 a1_0).f2) : Int).toNat).length = ((rd_T68 l0 a1_0).f2).toNat from (by rw [List.length_take]; have h_ : (((rd_T68 l0 a1_0).f2) : Int) ≤ (l1_1.length : Int) := aD; omega)] <;> rfl) | rfl | (simp only [List.length_drop, List.length_take]; rfl)) ?_
      with_reducible refine (slices_Clone_int_int.calls _ _ (l1_1.take (((rd_T68 l0 a1_0).f2) : Int).toNat) t476 _ ?side1 ?side2 A9.out).mono ?_
      (case side1 => exact aC)
      (case side2 => exact HC475.out)
      rintro e w15 ⟨v477, rfl, ho0, hb⟩
      refine ⟨_, rfl, ?_⟩
      have HO478 := aM (Kd.R_lower ho0 (below_size aG))
      replace BK472 := aM (kB gb472 #[.int .i64 a1_0, .slice A1_1 l1_1.length c1_1] 39 hb)
      replace HB := aM (below_step aG hb)
      (try clear hb)
      (try clear hb2)
      (try clear hk)
      (try clear hi)
      (try clear ho0)
      refine hK.out _ _ ⟨(blk_cell BK472.out 0).trans rfl, (blk_cell BK472.out 1).trans rfl, (pw_cell_below HB.out hw474_0), (pw_cell_below HB.out hw474_1), (pw_cell_below HB.out hw474_2)⟩ (fun hHeld => ?_)
      clear hK K
      refine nU 18 ?_
      refine pU 10 4 ?_
      refine done_ (done_of HT_.out (by kernel_rfl)) ?_
      try go_wp2
      go_ret
      exact ⟨_, aE, aR HO478, aG⟩
     ·rw [if_neg c8] at H
      exact absurd H (by simp)
    ·rw [if_neg c7] at H
     exact absurd H (by simp)
   ·rw [if_neg c6] at H
    exact absurd H (by simp)
  ·rw [if_neg c5] at H
   exact absurd H (by simp)
 ·replace c4 := Bool.eq_false_iff.mpr c4
  subst c4
  have H1 : (some ([] : List Int)) = some r := by rw [if_neg (show ¬ (false = true) by decide)] at H; exact H
  clear H
  have H := H1
  clear H1
  obtain rfl := Option.some.inj H
  go_enter Tryd.func26, Tryd.ntmps26
  go_wp2_with (first | ((with_reducible refine gate_dst (N := 3) rfl ?_); refine bE 3 (cs := #[.int .i64 a1_0, .slice A1_1 l1_1.length c1_1]) (t := 39) ?_; intro gb472 hg w16 hbox hb; have BK472 := aM (hbox); have GW472 := aM ((by rw [hg]; exact (below_size aB) : w.heap.size ≤ gb472)); have GE472 := aM ((by rw [hg]; exact (below_size aB) : w.heap.size ≤ gb472)); replace HB := aM (below_step aB hb); clear hb hbox hg; have hcz17_0 : w16.cell? ⟨gb472, 0, none⟩ = some (.int .i64 a1_0) := (blk_cell BK472.out 0).trans rfl; have hcz17_1 : w16.cell? ⟨gb472, 1, none⟩ = some (.slice A1_1 l1_1.length c1_1) := (blk_cell BK472.out 1).trans rfl; have hfz17_0 := blk_frozen BK472.out 0; have hfz17_1 := blk_frozen BK472.out 1) | ((with_reducible refine gate_callee (f := 50) rfl ?_); refine goesL_ (some 7) rfl rfl Tryd.func50 (by kernel_rfl) rfl #[.slice A0 l0.length c0, .agg #[.int .i64 a1_0, .slice A1_1 l1_1.length c1_1]] rfl aA ?_; (with_reducible refine (impl_IsValidFact.calls _ _ l0 a1_0 _ _ l1_1 false _ ?side1 ?side2 ?side3 ?side4 A3.out).mono ?_); (case side1 => exact aC); (case side2 => exact HC0.out); (case side3 => exact aC); (case side4 => exact HC1_1.out); rintro e w18 ⟨rfl, hb⟩; refine ⟨_, rfl, ?_⟩; replace BK472 := aM (kB gb472 #[.int .i64 a1_0, .slice A1_1 l1_1.length c1_1] 39 hb); replace HB := aM (below_step aG hb); (try clear hb); (try clear hb2); (try clear hk); (try clear hi)))
  go_ret
  exact ⟨_, aE, by first | exact Kd.R_nil _ _ _ _ _ | exact Kd.N_nil _ _ _ _ _ | exact Kd.V_nil _ _ _ _ _ | exact Kd.Q_nil _ _ _ _ _ | exact Kd.S_nil _ _ _ _ _, aG⟩

end Go.Proofs.YtckpikfbhlhhjaaDoor.PFnFactFormat
