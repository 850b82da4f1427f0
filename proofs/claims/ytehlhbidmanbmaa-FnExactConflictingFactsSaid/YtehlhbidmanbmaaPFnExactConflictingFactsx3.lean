-- Laid by a program of this claim: what the functions come to, some of them proved by hand.
import Derived.Test.YtehlhbidmanbmaaPFnExactConflictingFactsx0
import Derived.Test.YtehlhbidmanbmaaPFnExactConflictingFactsx1
import Derived.Test.YtehlhbidmanbmaaPFnExactConflictingFactsx2
namespace Go.Proofs.Ytehlhbidmanbmaa.PFnExactConflictingFacts
open Go.RowKit Go.Proofs.YtehlhbidmanbmaaW.PrintWords Go.Proofs.YtehlhbidmanbmaaW.PrintLast Go.Proofs.YtehlhbidmanbmaaW.PrintMore
attribute [local go_sem] max2_int min2_int max_two min_two max_three min_three max_four min_four   -- for this text's walks alone
set_option linter.unusedVariables false
set_option linter.unusedSimpArgs false

/-! ### spec_KeyOf: function 100 -/
def spec_KeyOf.f (k : Nat) (l0 : List (S86)) (a1_0 : Int) (l1_1 : List Int) : Option (List Int) := (spec_IsValidFact.f k l0 a1_0 l1_1).bind fun t195 => (if t195 = true then ((some (([] : List Int) : List Int)).bind fun y196 => (if 0 ≤ a1_0 then (if a1_0 < (l0.length : Int) then (if 0 ≤ ((rd_T86 l0 a1_0).f2) then (if ((rd_T86 l0 a1_0).f2) ≤ (l1_1.length : Int) then (if y196.length + (l1_1.take (((rd_T86 l0 a1_0).f2) : Int).toNat).length < 17592186044416 then (some (y196 ++ (l1_1.take (((rd_T86 l0 a1_0).f2) : Int).toNat))) else (none)) else (none)) else (none)) else (none)) else (none))) else (some (([] : List Int))))
def spec_KeyOf.T3 : Bool × List (List Nat × List Nat) := (true, [([], []), ([], []), ([1], [1]), ([], []), ([], []), ([4], [4]), ([3, 5], [3, 5]), ([6], [6]), ([7], [7]), ([2, 8], [2, 8]), ([0, 9], [0, 9]), ([10, 10, 0, 1, 2, 3, 4, 5, 6, 7, 8, 9, 10], [10])])
def spec_KeyOf.B3 : List Nat := [0, 0, 2, 0, 0, 16, 56, 120, 248, 510, 1023, 2047]
theorem spec_KeyOf.tab3 : rtab .any (opsOf Try.f100 3) = spec_KeyOf.T3 := by kernel_rfl
theorem spec_KeyOf.bits3 : waitsOk spec_KeyOf.T3.2 spec_KeyOf.B3 = true := by kernel_rfl
set_option maxHeartbeats 8000000 in
set_option maxRecDepth 100000 in
theorem spec_KeyOf.calls (k : Nat) (A0 : Option Addr) (c0 : Nat) (l0 : List (S86)) (a1_0 : Int) (A1_1 : Option Addr) (c1_1 : Nat) (l1_1 : List Int) (r : List Int) (w : World) (hr0 : Kd.C k86 w A0 l0.length l0) (hc0 : l0.length ≤ c0) (hr1_1 : Kd.C (Kd.int .i64) w A1_1 l1_1.length l1_1) (hc1_1 : l1_1.length ≤ c1_1) (h : spec_KeyOf.f k l0 a1_0 l1_1 = some r) :
  Calls Try.prog 100 #[.slice A0 l0.length c0, .agg #[.int .i64 a1_0, .slice A1_1 l1_1.length c1_1]] w fun e w' => ∃ v0_ : Value, e = .returned (v0_) ∧ Kd.R (Kd.int .i64) 3 w' w.heap.size (fun _ => True) v0_ r ∧ Below w.heap.size w w' := by
 have hu50 := Try.underlying50
 have HR0 := aM hr0
 have HC0 := aM hc0
 clear hr0 hc0
 have HR1_1 := aM hr1_1
 have HC1_1 := aM hc1_1
 clear hr1_1 hc1_1
 have HB := aM (Below.refl w.heap.size w)
 have H : ((spec_IsValidFact.f k l0 a1_0 l1_1).bind fun t195 => (if t195 = true then ((some (([] : List Int) : List Int)).bind fun y196 => (if 0 ≤ a1_0 then (if a1_0 < (l0.length : Int) then (if 0 ≤ ((rd_T86 l0 a1_0).f2) then (if ((rd_T86 l0 a1_0).f2) ≤ (l1_1.length : Int) then (if y196.length + (l1_1.take (((rd_T86 l0 a1_0).f2) : Int).toNat).length < 17592186044416 then (some (y196 ++ (l1_1.take (((rd_T86 l0 a1_0).f2) : Int).toNat))) else (none)) else (none)) else (none)) else (none)) else (none))) else (some (([] : List Int))))) = some r := h
 clear h
 replace H := Option.bind_eq_some_iff.mp H
 obtain ⟨t195, A30, H⟩ := H
 replace H : (if t195 = true then ((some (([] : List Int) : List Int)).bind fun y196 => (if 0 ≤ a1_0 then (if a1_0 < (l0.length : Int) then (if 0 ≤ ((rd_T86 l0 a1_0).f2) then (if ((rd_T86 l0 a1_0).f2) ≤ (l1_1.length : Int) then (if y196.length + (l1_1.take (((rd_T86 l0 a1_0).f2) : Int).toNat).length < 17592186044416 then (some (y196 ++ (l1_1.take (((rd_T86 l0 a1_0).f2) : Int).toNat))) else (none)) else (none)) else (none)) else (none)) else (none))) else (some (([] : List Int)))) = some r := H
 have A3 := aM A30
 clear A30
 by_cases c4 : t195 = true
 ·subst c4
  have H1 : ((some (([] : List Int) : List Int)).bind fun y196 => (if 0 ≤ a1_0 then (if a1_0 < (l0.length : Int) then (if 0 ≤ ((rd_T86 l0 a1_0).f2) then (if ((rd_T86 l0 a1_0).f2) ≤ (l1_1.length : Int) then (if y196.length + (l1_1.take (((rd_T86 l0 a1_0).f2) : Int).toNat).length < 17592186044416 then (some (y196 ++ (l1_1.take (((rd_T86 l0 a1_0).f2) : Int).toNat))) else (none)) else (none)) else (none)) else (none)) else (none))) = some r := by rw [if_pos rfl] at H; exact H
  clear H
  have H := H1
  clear H1
  obtain ⟨y196, hy196⟩ : ∃ y_ : List Int, y_ = (([] : List Int)) := ⟨_, rfl⟩
  replace H : (if 0 ≤ a1_0 then (if a1_0 < (l0.length : Int) then (if 0 ≤ ((rd_T86 l0 a1_0).f2) then (if ((rd_T86 l0 a1_0).f2) ≤ (l1_1.length : Int) then (if y196.length + (l1_1.take (((rd_T86 l0 a1_0).f2) : Int).toNat).length < 17592186044416 then (some (y196 ++ (l1_1.take (((rd_T86 l0 a1_0).f2) : Int).toNat))) else (none)) else (none)) else (none)) else (none)) else (none)) = some r := by first | (rw [hy196]; with_reducible exact H) | (have H2_ := (Option.bind_some _ _).symm.trans H; rw [hy196]; with_reducible exact H2_) | (have H2_ := (Option.bind_some _ _).symm.trans H; with_reducible exact H2_) | with_reducible exact H | (rw [hy196]; exact H) | exact H
  have Ny196 := aM hy196
  clear hy196
  by_cases c5 : 0 ≤ a1_0
  ·rw [if_pos c5] at H
   have c5b0 : decide (0 ≤ a1_0) = true := decide_eq_true c5
   clear c5
   by_cases c6 : a1_0 < (l0.length : Int)
   ·rw [if_pos c6] at H
    have c6b0 : decide (a1_0 < (l0.length : Int)) = true := decide_eq_true c6
    clear c6
    by_cases c7 : 0 ≤ ((rd_T86 l0 a1_0).f2)
    ·rw [if_pos c7] at H
     have c7b0 := eq_true c7
     have c7b1 : decide (0 ≤ ((rd_T86 l0 a1_0).f2)) = true := decide_eq_true c7
     clear c7
     by_cases c8 : ((rd_T86 l0 a1_0).f2) ≤ (l1_1.length : Int)
     ·rw [if_pos c8] at H
      have c8b0 := eq_true c8
      have c8b1 : decide (((rd_T86 l0 a1_0).f2) ≤ (l1_1.length : Int)) = true := decide_eq_true c8
      clear c8
      by_cases c9 : y196.length + (l1_1.take (((rd_T86 l0 a1_0).f2) : Int).toNat).length < 17592186044416
      ·rw [if_pos c9] at H
       have LMc9 := aM c9
       clear c9
       obtain ⟨y201, hy201⟩ : ∃ y_ : List Int, y_ = (y196 ++ (l1_1.take (((rd_T86 l0 a1_0).f2) : Int).toNat)) := ⟨_, rfl⟩
       replace H : (some y201) = some r := by first | (rw [hy201]; with_reducible exact H) | (have H2_ := (Option.bind_some _ _).symm.trans H; rw [hy201]; with_reducible exact H2_) | (have H2_ := (Option.bind_some _ _).symm.trans H; with_reducible exact H2_) | with_reducible exact H | (rw [hy201]; exact H) | exact H
       have Ny201 := aM hy201
       clear hy201
       obtain rfl := Option.some.inj H
       go_enter Try.func100, Try.ntmps100
       try go_wp2_with (first | ((with_reducible refine gate_dst (N := 3) rfl ?_); refine box_event ?hg (N := 3) ?hd (cs := #[.int .i64 a1_0, .slice A1_1 l1_1.length c1_1]) (t := 50) ?hr ?_; (case hd => rfl); (case hg => rfl); (case hr => first | (go_simp; done) | (go_simp; rfl)); intro gb194 hg w10 hbox hb; have n0_ := aM (below_step aB hb); have n1_ := aM (hbox); have n2_ := aM ((by rw [hg]; exact (below_size aB) : w.heap.size ≤ gb194)); have n3_ := aM ((by rw [hg]; exact (below_size aB) : w.heap.size ≤ gb194)); clear HB; have HB := n0_; have BK194 := n1_; have GW194 := n2_; have GE194 := n3_; clear n0_ n1_ n2_ n3_; clear hb hbox hg; have hcz11_0 : w10.cell? ⟨gb194, 0, none⟩ = some (.int .i64 a1_0) := (blk_cell BK194.out 0).trans rfl; have hcz11_1 : w10.cell? ⟨gb194, 1, none⟩ = some (.slice A1_1 l1_1.length c1_1) := (blk_cell BK194.out 1).trans rfl; have hfz11_0 := blk_frozen BK194.out 0; have hfz11_1 := blk_frozen BK194.out 1) | ((with_reducible refine gate_callee (f := 89) rfl ?_); refine goesL_ (some 7) rfl rfl Try.func89 (by kernel_rfl) rfl #[.slice A0 l0.length c0, .agg #[.int .i64 a1_0, .slice A1_1 l1_1.length c1_1]] rfl (by (try simp only [List.map_toArray, List.map_cons, List.map_nil]); first | done | rfl | (simp only [List.length_drop, List.length_take]; rfl)) ?_; (with_reducible refine (spec_IsValidFact.calls k _ _ l0 a1_0 _ _ l1_1 true _ ?side1 ?side2 ?side3 ?side4 A3.out).mono ?_); (case side1 => exact aC); (case side2 => exact HC0.out); (case side3 => exact aC); (case side4 => exact HC1_1.out); rintro e w12 ⟨rfl, hb⟩; refine ⟨_, rfl, ?_⟩; have n0_ := aM (blk_below (g := gb194) (o := .cells #[.int .i64 a1_0, .slice A1_1 l1_1.length c1_1] 50 (0, 0)) aK hb); have n1_ := aM (below_step aG hb); clear BK194; clear HB; have BK194 := n0_; have HB := n1_; clear n0_ n1_; (try clear hb); (try clear hb2); (try clear hk); (try clear hi)))
       have n0_ := aM (blk_drew BK194.out)
       have n1_ := aM (below_drew1 HB.out)
       clear BK194
       clear HB
       have BK194 := n0_
       have HB := n1_
       clear n0_ n1_
       have p199 : 0 ≤ (a1_0 : Int) := aD
       have q199 : a1_0 < (l0.length : Int) := aD
       obtain ⟨ad199, e199, hx199_0, hx199_1, hx199_2⟩ := at_T86 HR0.out a1_0 p199 q199
       have hw199_2 := hx199_2
       have hw199_1 := hx199_1
       have hw199_0 := hx199_0
       cases e199
       replace hx199_0 := (HB.out.cell (World.block_lt_of_cell? w _ hx199_0)).trans hx199_0
       replace hx199_1 := (HB.out.cell (World.block_lt_of_cell? w _ hx199_1)).trans hx199_1
       replace hx199_2 := (HB.out.cell (World.block_lt_of_cell? w _ hx199_2)).trans hx199_2
       replace p199 := eq_true p199
       replace q199 := eq_true q199
       obtain ⟨i014, hi014, _, hsz14, _⟩ := info_parts info3
       obtain ⟨hcut14, hA14, hC14⟩ := print_take_of (P := Try.prog) (Value.int .i64) 0 26 3 .i64 Try.underlying26 hi014 hsz14 A1_1 c1_1 l1_1 ((rd_T86 l0 a1_0).f2) (aD) (aD) HC1_1.out
       have HR200 := aM (Kd.C_of_reads (h1 := fun _ => rfl) (hA14 _ (Kd.reads_of_C HR1_1.out)))
       have HC200 := aM hC14
       clear hA14 hC14 hi014 hsz14
       refine start_ (n := 12) (S := fun w' => w'.cell? ⟨gb194, 0, none⟩ = some (.int .i64 a1_0) ∧ w'.cell? ⟨gb194, 1, none⟩ = some (.slice A1_1 l1_1.length c1_1) ∧ w'.cell? (ad199.add ((a1_0).toNat * 3)) = some (.string ((rd_T86 l0 a1_0).f0)) ∧ w'.cell? ⟨(ad199.add ((a1_0).toNat * 3)).block, (ad199.add ((a1_0).toNat * 3)).off + 1, none⟩ = some (.int .i64 ((rd_T86 l0 a1_0).f1)) ∧ w'.cell? ⟨(ad199.add ((a1_0).toNat * 3)).block, (ad199.add ((a1_0).toNat * 3)).off + 2, none⟩ = some (.int .i64 ((rd_T86 l0 a1_0).f2))) (ds := []) #[false, false, false, false, false, false, false, false, false, false, false, false] (by kernel_rfl) rfl rfl ⟨(blk_cell BK194.out 0).trans rfl, (blk_cell BK194.out 1).trans rfl, (pw_cell_below HB.out hw199_0), (pw_cell_below HB.out hw199_1), (pw_cell_below HB.out hw199_2)⟩ (fun hHeld => ?_); refine with_tabW spec_KeyOf.tab3 spec_KeyOf.bits3 (fun HT_ HW_ => ?_)
       generalize w12.drew = w13 at BK194 HB HR200 hx199_0 hx199_1 hx199_2 hHeld ⊢
       refine pure_ (i := 1) (N := some 11) (v := ?_) (a' := ?_) #[false, true, false, false, false, false, false, false, false, false, false, false] rfl rfl (any_of HT_.out (by kernel_rfl)) (fun _ _ _ h => h) (Or.inl ⟨by rfl, ?_⟩) ?_ ?_
       rotate_left
       ·exact aI
       rotate_left
       ·exact aP
       refine pure_ (i := 3) (N := some 13) (v := ?_) (a' := ?_) #[false, true, false, true, false, false, false, false, false, false, false, false] rfl rfl (any_of HT_.out (by kernel_rfl)) (fun _ _ _ h => h) (Or.inl ⟨by rfl, ?_⟩) ?_ ?_
       rotate_left
       ·exact aI
       rotate_left
       ·exact aP
       refine pure_ (i := 4) (N := some 14) (v := ?_) (a' := ?_) #[false, true, false, true, true, false, false, false, false, false, false, false] rfl rfl (any_of HT_.out (by kernel_rfl)) (fun _ _ _ h => h) (Or.inl ⟨by rfl, ?_⟩) ?_ ?_
       rotate_left
       ·exact aI
       rotate_left
       ·exact aP
       refine take_ (i := 2) (N := some 12) (v := ?_) (a' := ?_) #[false, true, true, true, true, false, false, false, false, false, false, false] rfl rfl (take_ofW HT_.out HW_.out (by kernel_rfl)) (fun _ _ _ h => h) (Or.inl ⟨by rfl, ?_⟩) hHeld ?_ ?_
       rotate_left
       ·rintro w' ⟨s0, s1, s2, s3, s4⟩
        go_simp
        with_reducible rfl
       rotate_left
       ·exact aP
       refine take_ (i := 5) (N := some 15) (v := ?_) (a' := ?_) #[false, true, true, true, true, true, false, false, false, false, false, false] rfl rfl (take_ofW HT_.out HW_.out (by kernel_rfl)) (fun _ _ _ h => h) (Or.inl ⟨by rfl, ?_⟩) hHeld ?_ ?_
       rotate_left
       ·rintro w' ⟨s0, s1, s2, s3, s4⟩
        go_simp
        with_reducible rfl
       rotate_left
       ·exact aP
       refine pure_ (i := 6) (N := some 16) (v := ?_) (a' := ?_) #[false, true, true, true, true, true, true, false, false, false, false, false] rfl rfl (any_of HT_.out (by kernel_rfl)) (fun _ _ _ h => h) (Or.inl ⟨by rfl, ?_⟩) ?_ ?_
       rotate_left
       ·exact aI
       rotate_left
       ·exact aP
       refine pure_ (i := 7) (N := some 17) (v := ?_) (a' := ?_) #[false, true, true, true, true, true, true, true, false, false, false, false] rfl rfl (any_of HT_.out (by kernel_rfl)) (fun _ _ _ h => h) (Or.inl ⟨by rfl, ?_⟩) ?_ ?_
       rotate_left
       ·exact aI
       rotate_left
       ·exact aP
       refine take_ (i := 8) (N := some 18) (v := ?_) (a' := ?_) #[false, true, true, true, true, true, true, true, true, false, false, false] rfl rfl (take_ofW HT_.out HW_.out (by kernel_rfl)) (fun _ _ _ h => h) (Or.inl ⟨by rfl, ?_⟩) hHeld ?_ ?_
       rotate_left
       ·rintro w' ⟨s0, s1, s2, s3, s4⟩
        go_simp
        with_reducible rfl
       rotate_left
       ·exact aP
       refine pure_ (i := 9) (N := some 19) (v := ?_) (a' := ?_) #[false, true, true, true, true, true, true, true, true, true, false, false] rfl rfl (any_of HT_.out (by kernel_rfl)) (fun _ _ _ h => h) (Or.inl ⟨by rfl, ?_⟩) ?_ ?_
       rotate_left
       ·exact aI
       rotate_left
       ·exact aP
       refine one_ (i := 0) (N := some 10) #[true, true, true, true, true, true, true, true, true, true, false, false] rfl rfl (one_of HT_.out (by kernel_rfl)) (by decide) (fun K hK => ?_)
       refine Kd.R_lit_step (Kd.int .i64) _ 3 ?hg (N := 10) ?hd (xs := ([] : List Int)) (inner := []) (ok := fun _ => True) (okp := fun _ => True) ?hr ?hp (fun _ hk => hk) trivial (Below.refl _ _) (Nat.le_refl _) (by simp) ?_; (case hd => rfl); (case hg => rfl); (case hr => first | (go_simp; done) | (go_simp; rfl)); (case hp => exact (Reps.none _ _))
       intro v197 w15 ho16 hb hg_ hnew_
       clear hg_ hnew_
       (first | rw [← Ny196.out] at ho16 | (simp only [Int.reduceToNat] at ho16; rw [← Ny196.out] at ho16))
       have n0_ := aM (Kd.R_lower ho16 (below_size aG))
       have n1_ := aM (blk_below (g := gb194) (o := .cells #[.int .i64 a1_0, .slice A1_1 l1_1.length c1_1] 50 (0, 0)) aK hb)
       have n2_ := aM (below_step aG hb)
       clear BK194
       clear HB
       have HO198 := n0_
       have BK194 := n1_
       have HB := n2_
       clear n0_ n1_ n2_
       clear hb ho16
       refine hK.out _ _ ⟨(blk_cell BK194.out 0).trans rfl, (blk_cell BK194.out 1).trans rfl, (pw_cell_below HB.out hw199_0), (pw_cell_below HB.out hw199_1), (pw_cell_below HB.out hw199_2)⟩ (fun hHeld => ?_)
       clear hK K
       refine norm_ (a' := ?_) ?_ ?_
       rotate_left
       ·show Act.put _ (some 10) _ = _
        simp only [Act.put, List.setIfInBounds_toArray, List.set_cons_zero, List.set_cons_succ, i64_w, i32_w]
        rfl
       refine one_ (i := 10) (N := some 20) #[true, true, true, true, true, true, true, true, true, true, true, false] rfl rfl (one_of HT_.out (by kernel_rfl)) (by decide) (fun K hK => ?_)
       refine Kd.R_append_rows_step (Kd.int .i64) (w0 := w) w.heap.size (by rfl) (.tmp 10) (.tmp 19) 26 3 (.int .i64 0) 8 rfl Try.underlying26 info3 rfl (by decide) (by omega) v197 y196 (l1_1.take (((rd_T86 l0 a1_0).f2) : Int).toNat) _ _ _ (fun _ => True) (fun _ => False) rfl rfl ?aO ?aR (fun _ _ h => h) (fun _ h => h.elim) ?aF ?aB ?aS ?aL ?_
       (case aR => first | (rw (occs := .pos [1]) [← show (l1_1.take (((rd_T86 l0 a1_0).f2) : Int).toNat).length = ((rd_T86 l0 a1_0).f2).toNat from (by rw [List.length_take]; have h_ : (((rd_T86 l0 a1_0).f2) : Int) ≤ (l1_1.length : Int) := aD; omega)]; repeat (first | exact (Kd.C_below HR200.out HB.out) | (with_reducible refine Kd.C_alloc ?_ _) | (with_reducible refine Kd.C_drewN ?_ _) | (with_reducible refine Kd.C_drew ?_)); done) | (rw (occs := .pos [2]) [← show (l1_1.take (((rd_T86 l0 a1_0).f2) : Int).toNat).length = ((rd_T86 l0 a1_0).f2).toNat from (by rw [List.length_take]; have h_ : (((rd_T86 l0 a1_0).f2) : Int) ≤ (l1_1.length : Int) := aD; omega)]; repeat (first | exact (Kd.C_below HR200.out HB.out) | (with_reducible refine Kd.C_alloc ?_ _) | (with_reducible refine Kd.C_drewN ?_ _) | (with_reducible refine Kd.C_drew ?_)); done) | (rw [← show (l1_1.take (((rd_T86 l0 a1_0).f2) : Int).toNat).length = ((rd_T86 l0 a1_0).f2).toNat from (by rw [List.length_take]; have h_ : (((rd_T86 l0 a1_0).f2) : Int) ≤ (l1_1.length : Int) := aD; omega)]; repeat (first | exact (Kd.C_below HR200.out HB.out) | (with_reducible refine Kd.C_alloc ?_ _) | (with_reducible refine Kd.C_drewN ?_ _) | (with_reducible refine Kd.C_drew ?_)); done) | (exact aC))
       (case aB => exact aG)
       (case aF => exact (fun _ _ => trivial))
       (case aO => exact (aR HO198))
       (case aS => exact (below_size aG))
       (case aL => have := LMc9.out; have hlx_ := (show (l1_1.take (((rd_T86 l0 a1_0).f2) : Int).toNat).length = ((rd_T86 l0 a1_0).f2).toNat from (by rw [List.length_take]; have h_ : (((rd_T86 l0 a1_0).f2) : Int) ≤ (l1_1.length : Int) := aD; omega)); omega)
       intro v202 w17 ho hb hg hat
       rw [← Ny201.out] at ho
       have n0_ := aM (blk_grown (g := gb194) (o := .cells #[.int .i64 a1_0, .slice A1_1 l1_1.length c1_1] 50 (0, 0)) aK hg (Kd.R_ne HO198.out BK194.out (by decide)))
       have n1_ := aM (hb)
       have n2_ := aM (ho)
       clear BK194
       clear HB
       clear HO198
       have BK194 := n0_
       have HB := n1_
       have HO203 := n2_
       clear n0_ n1_ n2_
       clear ho hb hg hat
       refine hK.out _ _ ⟨(blk_cell BK194.out 0).trans rfl, (blk_cell BK194.out 1).trans rfl, (pw_cell_below HB.out hw199_0), (pw_cell_below HB.out hw199_1), (pw_cell_below HB.out hw199_2)⟩ (fun hHeld => ?_)
       clear hK K
       refine norm_ (a' := ?_) ?_ ?_
       rotate_left
       ·show Act.put _ (some 20) _ = _
        simp only [Act.put, List.setIfInBounds_toArray, List.set_cons_zero, List.set_cons_succ, i64_w, i32_w]
        rfl
       refine pure_ (i := 11) (N := some 4) (v := ?_) (a' := ?_) #[true, true, true, true, true, true, true, true, true, true, true, true] rfl rfl (any_of HT_.out (by kernel_rfl)) (fun _ _ _ h => h) (Or.inl ⟨by rfl, ?_⟩) ?_ ?_
       rotate_left
       ·exact aI
       rotate_left
       ·exact aP
       refine done_ (done_of HT_.out (by kernel_rfl)) ?_
       try go_wp2
       go_ret
       exact ⟨_, by first | rfl | (simp [errW_none, errW_some] <;> rfl) | (simp [*, errW_none, errW_some] <;> rfl), aR HO203, by repeat (first | (with_reducible first | exact HB.out | apply below_alloc | apply pw_below_drewN | apply below_drew1 | refine below_set ?_ GE194.out) | exact HB.out)⟩
      ·rw [if_neg c9] at H
       exact absurd H (by simp)
     ·rw [if_neg c8] at H
      exact absurd H (by simp)
    ·rw [if_neg c7] at H
     exact absurd H (by simp)
   ·rw [if_neg c6] at H
    exact absurd H (by simp)
  ·rw [if_neg c5] at H
   exact absurd H (by simp)
 ·replace c4 := Bool.eq_false_iff.mpr c4
  subst c4
  have H1 : (some (([] : List Int))) = some r := by rw [if_neg (show ¬ (false = true) by decide)] at H; exact H
  clear H
  have H := H1
  clear H1
  obtain ⟨y204, hy204⟩ : ∃ y_ : List Int, y_ = (([] : List Int)) := ⟨_, rfl⟩
  replace H : (some y204) = some r := by first | (rw [hy204]; with_reducible exact H) | (have H2_ := (Option.bind_some _ _).symm.trans H; rw [hy204]; with_reducible exact H2_) | (have H2_ := (Option.bind_some _ _).symm.trans H; with_reducible exact H2_) | with_reducible exact H | (rw [hy204]; exact H) | exact H
  have Ny204 := aM hy204
  clear hy204
  obtain rfl := Option.some.inj H
  go_enter Try.func100, Try.ntmps100
  go_wp2_with (first | ((with_reducible refine gate_dst (N := 3) rfl ?_); refine box_event ?hg (N := 3) ?hd (cs := #[.int .i64 a1_0, .slice A1_1 l1_1.length c1_1]) (t := 50) ?hr ?_; (case hd => rfl); (case hg => rfl); (case hr => first | (go_simp; done) | (go_simp; rfl)); intro gb194 hg w18 hbox hb; have n0_ := aM (below_step aB hb); have n1_ := aM (hbox); have n2_ := aM ((by rw [hg]; exact (below_size aB) : w.heap.size ≤ gb194)); have n3_ := aM ((by rw [hg]; exact (below_size aB) : w.heap.size ≤ gb194)); clear HB; have HB := n0_; have BK194 := n1_; have GW194 := n2_; have GE194 := n3_; clear n0_ n1_ n2_ n3_; clear hb hbox hg; have hcz19_0 : w18.cell? ⟨gb194, 0, none⟩ = some (.int .i64 a1_0) := (blk_cell BK194.out 0).trans rfl; have hcz19_1 : w18.cell? ⟨gb194, 1, none⟩ = some (.slice A1_1 l1_1.length c1_1) := (blk_cell BK194.out 1).trans rfl; have hfz19_0 := blk_frozen BK194.out 0; have hfz19_1 := blk_frozen BK194.out 1) | ((with_reducible refine gate_callee (f := 89) rfl ?_); refine goesL_ (some 7) rfl rfl Try.func89 (by kernel_rfl) rfl #[.slice A0 l0.length c0, .agg #[.int .i64 a1_0, .slice A1_1 l1_1.length c1_1]] rfl (by (try simp only [List.map_toArray, List.map_cons, List.map_nil]); first | done | rfl | (simp only [List.length_drop, List.length_take]; rfl)) ?_; (with_reducible refine (spec_IsValidFact.calls k _ _ l0 a1_0 _ _ l1_1 false _ ?side1 ?side2 ?side3 ?side4 A3.out).mono ?_); (case side1 => exact aC); (case side2 => exact HC0.out); (case side3 => exact aC); (case side4 => exact HC1_1.out); rintro e w20 ⟨rfl, hb⟩; refine ⟨_, rfl, ?_⟩; have n0_ := aM (blk_below (g := gb194) (o := .cells #[.int .i64 a1_0, .slice A1_1 l1_1.length c1_1] 50 (0, 0)) aK hb); have n1_ := aM (below_step aG hb); clear BK194; clear HB; have BK194 := n0_; have HB := n1_; clear n0_ n1_; (try clear hb); (try clear hb2); (try clear hk); (try clear hi)) | ((with_reducible refine gate_dst (N := 9) rfl ?_); refine Kd.R_lit (Kd.int .i64) _ 3 ?hg (N := 9) ?hd (xs := ([] : List Int)) (inner := []) (ok := fun _ => True) (okp := fun _ => True) ?hr ?hp (fun _ hk => hk) trivial (Below.refl _ _) (Nat.le_refl _) (by simp) ?_; (case hd => rfl); (case hg => rfl); (case hr => first | (go_simp; done) | (go_simp; rfl)); (case hp => exact (Reps.none _ _)); intro v205 w21 ho22 hb hg_ hnew_; clear hg_ hnew_; (first | rw [← Ny204.out] at ho22 | (simp only [Int.reduceToNat] at ho22; rw [← Ny204.out] at ho22)); have n0_ := aM (Kd.R_lower ho22 (below_size aG)); have n1_ := aM (blk_below (g := gb194) (o := .cells #[.int .i64 a1_0, .slice A1_1 l1_1.length c1_1] 50 (0, 0)) aK hb); have n2_ := aM (below_step aG hb); clear BK194; clear HB; have HO206 := n0_; have BK194 := n1_; have HB := n2_; clear n0_ n1_ n2_; clear hb ho22))
  go_ret
  exact ⟨_, by first | rfl | (simp [errW_none, errW_some] <;> rfl) | (simp [*, errW_none, errW_some] <;> rfl), aR HO206, by repeat (first | (with_reducible first | exact HB.out | apply below_alloc | apply pw_below_drewN | apply below_drew1 | refine below_set ?_ GE194.out) | exact HB.out)⟩

/-! ### spec_HaveSameKey: function 65 -/
def spec_HaveSameKey.f (k : Nat) (l0 : List (S86)) (a1_0 : Int) (l1_1 : List Int) (a2_0 : Int) (l2_1 : List Int) : Option (Bool) := (spec_IsValidFact.f k l0 a1_0 l1_1).bind fun t209 => (if t209 = true then ((spec_IsValidFact.f k l0 a2_0 l2_1).bind fun t210 => (if t210 = true then (if a1_0 = a2_0 then ((spec_KeyOf.f k l0 a1_0 l1_1).bind fun t211 => ((spec_KeyOf.f k l0 a2_0 l2_1).bind fun t214 => ((spec_l3Ints.f k t211 t214).bind fun t217 => (some (t217 == 0))))) else (some false)) else (some false))) else (some false))
set_option maxHeartbeats 8000000 in
set_option maxRecDepth 100000 in
theorem spec_HaveSameKey.calls (k : Nat) (A0 : Option Addr) (c0 : Nat) (l0 : List (S86)) (a1_0 : Int) (A1_1 : Option Addr) (c1_1 : Nat) (l1_1 : List Int) (a2_0 : Int) (A2_1 : Option Addr) (c2_1 : Nat) (l2_1 : List Int) (r : Bool) (w : World) (hr0 : Kd.C k86 w A0 l0.length l0) (hc0 : l0.length ≤ c0) (hr1_1 : Kd.C (Kd.int .i64) w A1_1 l1_1.length l1_1) (hc1_1 : l1_1.length ≤ c1_1) (hr2_1 : Kd.C (Kd.int .i64) w A2_1 l2_1.length l2_1) (hc2_1 : l2_1.length ≤ c2_1) (h : spec_HaveSameKey.f k l0 a1_0 l1_1 a2_0 l2_1 = some r) :
  Calls Try.prog 65 #[.slice A0 l0.length c0, .agg #[.int .i64 a1_0, .slice A1_1 l1_1.length c1_1], .agg #[.int .i64 a2_0, .slice A2_1 l2_1.length c2_1]] w fun e w' => e = .returned (.bool r) ∧ Below w.heap.size w w' := by
 have hu50 := Try.underlying50
 obtain ⟨W, hW⟩ : ∃ W, (w.alloc (.cells #[.int .i64 a1_0, .slice A1_1 l1_1.length c1_1] 50)).alloc (.cells #[.int .i64 a2_0, .slice A2_1 l2_1.length c2_1] 50) = W := ⟨_, rfl⟩
 have q0 := qa (w := W) (p := ⟨w.heap.size, 0, none⟩) (v := .int .i64 a1_0) (by subst hW; go_simp)
 have q1 := qa (w := W) (p := ⟨w.heap.size, 1, none⟩) (v := .slice A1_1 l1_1.length c1_1) (by subst hW; go_simp)
 have q2 := qa (w := W) (p := ⟨w.heap.size + 1, 0, none⟩) (v := .int .i64 a2_0) (by subst hW; go_simp)
 have q3 := qa (w := W) (p := ⟨w.heap.size + 1, 1, none⟩) (v := .slice A2_1 l2_1.length c2_1) (by subst hW; go_simp)
 have HB : Below w.heap.size w W := by subst hW; exact zB
 have HW := Below.refl W.heap.size W
 have hb := aM HB
 have rg_ := @bcl w
 have rd_ := @bdr w
 have rG_ := @bcl W
 have rD_ := @bdr W
 unfold spec_HaveSameKey.f at h
 replace h := bs h; obtain ⟨t209, B0, h⟩ := h
 replace h := ib h; rcases h with ⟨rfl, h⟩ | ⟨rfl, h⟩
 replace h := bs h; obtain ⟨t210, B2, h⟩ := h
 replace h := ib h; rcases h with ⟨rfl, h⟩ | ⟨rfl, h⟩
 replace h := iq h; rcases h with ⟨c4, ⟨c4a, c4b⟩, h⟩ | ⟨c4, ⟨c4a, c4b⟩, h⟩
 replace h := bs h; obtain ⟨t211, B5, h⟩ := h
 replace h := bs h; obtain ⟨t214, B6, h⟩ := h
 replace h := bs h; obtain ⟨t217, B7, h⟩ := h
 obtain rfl := si h
 rotate_left
 obtain rfl := si h
 rotate_left
 obtain rfl := si h
 rotate_left
 obtain rfl := si h
 rotate_left
 all_goals (go_enter Try.func65, Try.ntmps65; go_wp2; (repeat ((refine nw (w0 := w) zB ?_; intro W1 HB hb hd; have HW : Below W.heap.size W W1 := zB; (first | (refine Txt.rg (id := 1) [0, 1, 2, 3, 4, 5, 6, 7, 8, 9, 10, 11, 12, 13, 14, 15, 16, 17, 19, 20, 18, 21, 22, 23, 24, 25] (by kernel_rfl) (by kernel_rfl) ?_; simp only [List.map_cons, List.map_nil, List.getD_cons_zero, List.getD_cons_succ])); (repeat (first | (refine Txt.off rfl ?_; simp only [Act.put, List.setIfInBounds_toArray, List.set_cons_zero, List.set_cons_succ]) | (refine Txt.take rfl rfl ?_; intro K hK; go_big_quiet_op; go_big_quiet_on) | (refine Txt.call rfl rfl Try.func89 (by kernel_rfl) rfl (spec_IsValidFact.calls ?_ _ _ _ _ _ _ _ ?_ _ ?_ ?_ ?_ ?_ ?h) rfl ?_; (case h => exact zA); (iterate 4 (first | exact zC | exact zA)); rintro e w1 ⟨rfl, hb⟩; replace hb := aM hb; have HW : Below W.heap.size W w1 := zB; have HB : Below w.heap.size w w1 := zB; refine ⟨_, rfl, zS, ?_⟩; simp only [Act.put, List.setIfInBounds_toArray, List.set_cons_zero, List.set_cons_succ]) | (refine Txt.call rfl rfl Try.func100 (by kernel_rfl) rfl (spec_KeyOf.calls ?_ _ _ _ _ _ _ _ ?_ _ ?_ ?_ ?_ ?_ ?h) rfl ?_; (case h => exact zA); (iterate 4 (first | exact zC | exact zA)); rintro e w1 ⟨v0, rfl, ho0, hb⟩; obtain ⟨A0, c0, rfl, hc0, hC0⟩ := Kd.R_reads ho0; replace hb := aM hb; have HW : Below W.heap.size W w1 := zB; have HB : Below w.heap.size w w1 := zB; refine ⟨_, rfl, zS, ?_⟩; simp only [Act.put, List.setIfInBounds_toArray, List.set_cons_zero, List.set_cons_succ]) | (refine Txt.call rfl rfl Try.func99 (by kernel_rfl) rfl (spec_l3Ints.calls ?_ _ _ _ _ _ _ ?_ _ ?_ ?_ ?_ ?_ ?h) rfl ?_; (case h => exact zA); (iterate 4 (first | exact zC | exact zA)); rintro e w1 ⟨rfl, hb⟩; replace hb := hb.below; replace hb := aM hb; have HW : Below W.heap.size W w1 := zB; have HB : Below w.heap.size w w1 := zB; refine ⟨_, rfl, zS, ?_⟩; simp only [Act.put, List.setIfInBounds_toArray, List.set_cons_zero, List.set_cons_succ]))); refine Txt.nil ?_); (try go_wp2))); go_ret; exact zE zB)

/-! ### spec_BlockOf: function 27 -/
mutual
def spec_BlockOf.l0 : Nat → Int → List Int → Int → List (S86) → List (S50) → Option (List Int)
 | 0, _, _, _, _, _ => none
 | k + 1, x1, x5, x6, x219000, x219001 => if x6 < (x219001.length : Int) then ((spec_IsValidDatabase.f k x219000 x219001).bind fun t222 => (if t222 = true then ((spec_l1In.f x1 0 (wrap64 ((x219001.length : Int) - 1))).bind fun t223 => (spec_BlockOf.j1 k x1 x5 x6 t223 x219000 x219001)) else (spec_BlockOf.j1 k x1 x5 x6 false x219000 x219001))) else (spec_BlockOf.j1 k x1 x5 x6 false x219000 x219001)
def spec_BlockOf.j1 : Nat → Int → List Int → Int → Bool → List (S86) → List (S50) → Option (List Int)
 | 0, _, _, _, _, _, _ => none
 | k + 1, x1, x5, x6, x24, x219000, x219001 => if x24 = true then (if 0 ≤ x1 then (if x1 < (x219001.length : Int) then (if 0 ≤ x6 then (if x6 < (x219001.length : Int) then ((spec_HaveSameKey.f k x219000 ((rd_T50 x219001 x1).f0) ((rd_T50 x219001 x1).f1) ((rd_T50 x219001 x6).f0) ((rd_T50 x219001 x6).f1)).bind fun t226 => (if t226 = true then (if x5.length < 17592186044416 then (spec_BlockOf.l0 k x1 (x5 ++ [x6]) (wrap64 (x6 + 1)) x219000 x219001) else (none)) else (spec_BlockOf.l0 k x1 x5 (wrap64 (x6 + 1)) x219000 x219001))) else (none)) else (none)) else (none)) else (none)) else (some x5)
end
def spec_BlockOf.f (k : Nat) (l0_0 : List (S86)) (l0_1 : List (S50)) (a1 : Int) : Option (List Int) := spec_BlockOf.l0 k a1 (([] : List Int)) 0 l0_0 l0_1
set_option maxHeartbeats 8000000 in
set_option maxRecDepth 100000 in
theorem spec_BlockOf.calls (k : Nat) (A0_0 : Option Addr) (c0_0 : Nat) (l0_0 : List (S86)) (A0_1 : Option Addr) (c0_1 : Nat) (l0_1 : List (S50)) (a1 : Int) (r : List Int) (w : World) (hr0_0 : Kd.C k86 w A0_0 l0_0.length l0_0) (hc0_0 : l0_0.length ≤ c0_0) (hr0_1 : Kd.C k50 w A0_1 l0_1.length l0_1) (hc0_1 : l0_1.length ≤ c0_1) (h : spec_BlockOf.f k l0_0 l0_1 a1 = some r) :
  Calls Try.prog 27 #[.agg #[.slice A0_0 l0_0.length c0_0, .slice A0_1 l0_1.length c0_1], .int .i64 a1] w fun e w' => ∃ v0_ : Value, e = .returned (v0_) ∧ Kd.R (Kd.int .i64) 3 w' w.heap.size (fun _ => True) v0_ r ∧ Below w.heap.size w w' := by
 have hu32 := Try.underlying32
 have hu50 := Try.underlying50
 have HR0_0 := aM hr0_0
 have HC0_0 := aM hc0_0
 clear hr0_0 hc0_0
 have HR0_1 := aM hr0_1
 have HC0_1 := aM hc0_1
 clear hr0_1 hc0_1
 have HB := aM (Below.refl w.heap.size w)
 have H : (spec_BlockOf.l0 k a1 (([] : List Int)) 0 l0_0 l0_1) = some r := h
 clear h
 obtain ⟨y219, hy219⟩ : ∃ y_ : List Int, y_ = (([] : List Int)) := ⟨_, rfl⟩
 replace H : (spec_BlockOf.l0 k a1 y219 0 l0_0 l0_1) = some r := by first | (rw [hy219]; with_reducible exact H) | (have H2_ := (Option.bind_some _ _).symm.trans H; rw [hy219]; with_reducible exact H2_) | (have H2_ := (Option.bind_some _ _).symm.trans H; with_reducible exact H2_) | with_reducible exact H | (rw [hy219]; exact H) | exact H
 have Ny219 := aM hy219
 clear hy219
 have H' := aM H
 clear H
 go_enter Try.func27, Try.ntmps27
 go_wp2_with (first | ((with_reducible refine gate_dst (N := 2) rfl ?_); (try (refine gate_guard (by rfl) ?_; dsimp only)); refine box_event ?hg (N := 2) ?hd (cs := #[.slice A0_0 l0_0.length c0_0, .slice A0_1 l0_1.length c0_1]) (t := 32) ?hr ?_; (case hd => rfl); (case hg => rfl); (case hr => first | (go_simp; done) | (go_simp; rfl)); intro gb218 hg w3 hbox hb; have n0_ := aM (below_step aB hb); have n1_ := aM (hbox); have n2_ := aM ((by rw [hg]; exact (below_size aB) : w.heap.size ≤ gb218)); have n3_ := aM ((by rw [hg]; exact (below_size aB) : w.heap.size ≤ gb218)); clear HB; have HB := n0_; have BK218 := n1_; have GW218 := n2_; have GE218 := n3_; clear n0_ n1_ n2_ n3_; clear hb hbox hg) | ((with_reducible refine gate_dst (N := 7) rfl ?_); (try (refine gate_guard (by rfl) ?_; dsimp only)); refine Kd.R_lit (Kd.int .i64) _ 3 ?hg (N := 7) ?hd (xs := ([] : List Int)) (inner := []) (ok := fun _ => True) (okp := fun _ => True) ?hr ?hp (fun _ hk => hk) trivial (Below.refl _ _) (Nat.le_refl _) (by simp) ?_; (case hd => rfl); (case hg => rfl); (case hr => first | (go_simp; done) | (go_simp; rfl)); (case hp => exact (Reps.none _ _)); intro v220 w4 ho5 hb hg_ hnew_; clear hg_ hnew_; (first | rw [← Ny219.out] at ho5 | (simp only [Int.reduceToNat] at ho5; rw [← Ny219.out] at ho5)); have n0_ := aM (Kd.R_lower ho5 (below_size aG)); have n1_ := aM (blk_below (g := gb218) (o := .cells #[.slice A0_0 l0_0.length c0_0, .slice A0_1 l0_1.length c0_1] 32 (0, 0)) aK hb); have n2_ := aM (below_step aG hb); clear BK218; clear HB; have HO221 := n0_; have BK218 := n1_; have HB := n2_; clear n0_ n1_ n2_; clear hb ho5))
 go_loopg [5, 6] k (fun kq v5 v6 w' => ∃ (x5_1 : List Int) (x6_1 : Int), v6 = .int .i64 x6_1 ∧ Aside0 (spec_BlockOf.l0 kq a1 x5_1 x6_1 l0_0 l0_1 = some r) ∧ Aside0 (kq ≤ k) ∧ Aside0 (Kd.R (Kd.int .i64) 3 w' w.heap.size (fun _ => True) v5 x5_1) ∧ Aside0 (w'.heap[gb218]? = some (.cells #[(.slice A0_0 l0_0.length c0_0), (.slice A0_1 l0_1.length c0_1)] 32 (0, 0))) ∧ Aside0 (Below w.heap.size w w'))
 case atStart => exact ⟨(y219), (0), (by first | rfl | (simp; done) | (simp [*]; done)), H', ⟨Nat.le_refl _⟩, ⟨aR HO221⟩, ⟨by (with_reducible repeat (first | refine blk_drewN ?_ _ | refine blk_drew ?_ | refine blk_alloc ?_ _)); exact BK218.out⟩, ⟨by repeat (first | (with_reducible first | exact HB.out | apply below_alloc | apply pw_below_drewN | apply below_drew1 | refine below_set ?_ GE218.out) | exact HB.out)⟩⟩
 case round =>
  clear H'
  try clear c2
  try clear p2
  obtain ⟨x5_1, x6_1, rfl, HA, HK1, HO_5, BK218, HB⟩ := hrel
  cases gk with
  | zero => exact absurd HA.out (by simp [spec_BlockOf.l0])
  | succ k1 =>
   have H := HA.out
   clear HA
   simp only [spec_BlockOf.l0] at H
   have HC6 := aM H
   clear H
   go_upto_region 3 with (fail)
   go_cut [24] (fun v24 wc => ∃ (kq : Nat) (x24_5 : Bool), v24 = .bool x24_5 ∧ Aside0 (spec_BlockOf.j1 kq a1 x5_1 x6_1 x24_5 l0_0 l0_1 = some r) ∧ Aside0 (kq ≤ k1) ∧ Aside0 (Kd.R (Kd.int .i64) 3 wc w.heap.size (fun _ => True) u5 x5_1) ∧ Aside0 (wc.heap[gb218]? = some (.cells #[(.slice A0_0 l0_0.length c0_0), (.slice A0_1 l0_1.length c0_1)] 32 (0, 0))) ∧ Aside0 (Below w.heap.size w wc))
   case first =>
    have H := HC6.out
    clear HC6
    by_cases c7 : x6_1 < (l0_1.length : Int)
    ·rw [if_pos c7] at H
     have c7b0 : decide (x6_1 < (l0_1.length : Int)) = true := decide_eq_true c7
     clear c7
     (first | rw [c7b0] | (simp only [i64_w, i32_w]; rw [c7b0]) | skip)
     replace H := Option.bind_eq_some_iff.mp H
     obtain ⟨t222, A80, H⟩ := H
     replace H : (if t222 = true then ((spec_l1In.f a1 0 (wrap64 ((l0_1.length : Int) - 1))).bind fun t223 => (spec_BlockOf.j1 k1 a1 x5_1 x6_1 t223 l0_0 l0_1)) else (spec_BlockOf.j1 k1 a1 x5_1 x6_1 false l0_0 l0_1)) = some r := H
     have A8 := aM A80
     clear A80
     by_cases c9 : t222 = true
     ·subst c9
      have H1 : ((spec_l1In.f a1 0 (wrap64 ((l0_1.length : Int) - 1))).bind fun t223 => (spec_BlockOf.j1 k1 a1 x5_1 x6_1 t223 l0_0 l0_1)) = some r := by rw [if_pos rfl] at H; exact H
      clear H
      have H := H1
      clear H1
      replace H := Option.bind_eq_some_iff.mp H
      obtain ⟨t223, A100, H⟩ := H
      replace H : (spec_BlockOf.j1 k1 a1 x5_1 x6_1 t223 l0_0 l0_1) = some r := H
      have A10 := aM A100
      clear A100
      have H' := aM H
      clear H
      have hcz11_0 : wr.cell? ⟨gb218, 0, none⟩ = some (.slice A0_0 l0_0.length c0_0) := (blk_cell BK218.out 0).trans rfl
      have hcz11_1 : wr.cell? ⟨gb218, 1, none⟩ = some (.slice A0_1 l0_1.length c0_1) := (blk_cell BK218.out 1).trans rfl
      have hfz11_0 := blk_frozen BK218.out 0
      have hfz11_1 := blk_frozen BK218.out 1
      go_wp2_with (first | (go_at_call 60; (with_reducible refine (spec_IsValidDatabase.calls k1 _ _ l0_0 _ _ l0_1 true _ ?side1 ?side2 ?side3 ?side4 A8.out).mono ?_); (case side1 => exact aC); (case side2 => exact HC0_0.out); (case side3 => exact aC); (case side4 => exact HC0_1.out); rintro e w12 ⟨rfl, hb⟩; have n0_ := aM (Kd.R_below (aR HO_5) hb); have n1_ := aM (blk_below (g := gb218) (o := .cells #[.slice A0_0 l0_0.length c0_0, .slice A0_1 l0_1.length c0_1] 32 (0, 0)) aK hb); have n2_ := aM (below_step aG hb); clear HO_5; clear BK218; clear HB; have HO_5 := n0_; have BK218 := n1_; have HB := n2_; clear n0_ n1_ n2_; (try clear hb); (try clear hb2); (try clear hk); (try clear hi); have hcz13_0 : w12.cell? ⟨gb218, 0, none⟩ = some (.slice A0_0 l0_0.length c0_0) := (blk_cell BK218.out 0).trans rfl; have hcz13_1 : w12.cell? ⟨gb218, 1, none⟩ = some (.slice A0_1 l0_1.length c0_1) := (blk_cell BK218.out 1).trans rfl; have hfz13_0 := blk_frozen BK218.out 0; have hfz13_1 := blk_frozen BK218.out 1) | (go_at_call 64; (with_reducible refine (spec_l1In.calls a1 0 (wrap64 ((l0_1.length : Int) - 1)) t223 _ A10.out).mono ?_); rintro e w' ⟨rfl, ⟨nd, rfl⟩⟩))
      go_meet
      case rel => exact ⟨_, (t223), (by first | rfl | (simp; done) | (simp [*]; done)), H', ⟨by have := HK1.out; first | omega | exact Nat.le_refl _⟩, ⟨aR HO_5⟩, ⟨by (with_reducible repeat (first | refine blk_drewN ?_ _ | refine blk_drew ?_ | refine blk_alloc ?_ _)); exact BK218.out⟩, ⟨by repeat (first | (with_reducible first | exact HB.out | apply below_alloc | apply pw_below_drewN | apply below_drew1 | refine below_set ?_ GE218.out) | exact HB.out)⟩⟩
     ·replace c9 := Bool.eq_false_iff.mpr c9
      subst c9
      have H1 : (spec_BlockOf.j1 k1 a1 x5_1 x6_1 false l0_0 l0_1) = some r := by rw [if_neg (show ¬ (false = true) by decide)] at H; exact H
      clear H
      have H := H1
      clear H1
      have H' := aM H
      clear H
      have hcz14_0 : wr.cell? ⟨gb218, 0, none⟩ = some (.slice A0_0 l0_0.length c0_0) := (blk_cell BK218.out 0).trans rfl
      have hcz14_1 : wr.cell? ⟨gb218, 1, none⟩ = some (.slice A0_1 l0_1.length c0_1) := (blk_cell BK218.out 1).trans rfl
      have hfz14_0 := blk_frozen BK218.out 0
      have hfz14_1 := blk_frozen BK218.out 1
      go_wp2_with (first | (go_at_call 60; (with_reducible refine (spec_IsValidDatabase.calls k1 _ _ l0_0 _ _ l0_1 false _ ?side1 ?side2 ?side3 ?side4 A8.out).mono ?_); (case side1 => exact aC); (case side2 => exact HC0_0.out); (case side3 => exact aC); (case side4 => exact HC0_1.out); rintro e w15 ⟨rfl, hb⟩; have n0_ := aM (Kd.R_below (aR HO_5) hb); have n1_ := aM (blk_below (g := gb218) (o := .cells #[.slice A0_0 l0_0.length c0_0, .slice A0_1 l0_1.length c0_1] 32 (0, 0)) aK hb); have n2_ := aM (below_step aG hb); clear HO_5; clear BK218; clear HB; have HO_5 := n0_; have BK218 := n1_; have HB := n2_; clear n0_ n1_ n2_; (try clear hb); (try clear hb2); (try clear hk); (try clear hi)))
      go_meet
      case rel => exact ⟨_, (false), (by first | rfl | (simp; done) | (simp [*]; done)), H', ⟨by have := HK1.out; first | omega | exact Nat.le_refl _⟩, ⟨aR HO_5⟩, ⟨by (with_reducible repeat (first | refine blk_drewN ?_ _ | refine blk_drew ?_ | refine blk_alloc ?_ _)); exact BK218.out⟩, ⟨by repeat (first | (with_reducible first | exact HB.out | apply below_alloc | apply pw_below_drewN | apply below_drew1 | refine below_set ?_ GE218.out) | exact HB.out)⟩⟩
    ·rw [if_neg c7] at H
     have c7b0 : decide (x6_1 < (l0_1.length : Int)) = false := decide_eq_false c7
     clear c7
     (first | rw [c7b0] | (simp only [i64_w, i32_w]; rw [c7b0]) | skip)
     have H' := aM H
     clear H
     have hcz16_0 : wr.cell? ⟨gb218, 0, none⟩ = some (.slice A0_0 l0_0.length c0_0) := (blk_cell BK218.out 0).trans rfl
     have hcz16_1 : wr.cell? ⟨gb218, 1, none⟩ = some (.slice A0_1 l0_1.length c0_1) := (blk_cell BK218.out 1).trans rfl
     have hfz16_0 := blk_frozen BK218.out 0
     have hfz16_1 := blk_frozen BK218.out 1
     go_wp2
     go_meet
     case rel => exact ⟨_, (false), (by first | rfl | (simp; done) | (simp [*]; done)), H', ⟨by have := HK1.out; first | omega | exact Nat.le_refl _⟩, ⟨aR HO_5⟩, ⟨by (with_reducible repeat (first | refine blk_drewN ?_ _ | refine blk_drew ?_ | refine blk_alloc ?_ _)); exact BK218.out⟩, ⟨by repeat (first | (with_reducible first | exact HB.out | apply below_alloc | apply pw_below_drewN | apply below_drew1 | refine below_set ?_ GE218.out) | exact HB.out)⟩⟩
   case rest =>
    clear HC6
    try clear c2
    try clear p2
    try clear p6
    try clear c7
    try clear c7b0
    try clear c9
    try clear hcz11_0
    try clear hcz11_1
    try clear hcz13_0
    try clear hcz13_1
    try clear hcz14_0
    try clear hcz14_1
    try clear hcz16_0
    try clear hcz16_1
    try clear hfz11_0
    try clear hfz11_1
    try clear hfz13_0
    try clear hfz13_1
    try clear hfz14_0
    try clear hfz14_1
    try clear hfz16_0
    try clear hfz16_1
    try clear p2
    obtain ⟨kq, x24_5, rfl, HA, HJ5, HO_5, BK218, HB⟩ := hcut
    cases kq with
    | zero => exact absurd HA.out (by simp [spec_BlockOf.j1])
    | succ kj5 =>
     have H := HA.out
     clear HA
     simp only [spec_BlockOf.j1] at H
     by_cases c17 : x24_5 = true
     ·subst c17
      have H1 : (if 0 ≤ a1 then (if a1 < (l0_1.length : Int) then (if 0 ≤ x6_1 then (if x6_1 < (l0_1.length : Int) then ((spec_HaveSameKey.f kj5 l0_0 ((rd_T50 l0_1 a1).f0) ((rd_T50 l0_1 a1).f1) ((rd_T50 l0_1 x6_1).f0) ((rd_T50 l0_1 x6_1).f1)).bind fun t226 => (if t226 = true then (if x5_1.length < 17592186044416 then (spec_BlockOf.l0 kj5 a1 (x5_1 ++ [x6_1]) (wrap64 (x6_1 + 1)) l0_0 l0_1) else (none)) else (spec_BlockOf.l0 kj5 a1 x5_1 (wrap64 (x6_1 + 1)) l0_0 l0_1))) else (none)) else (none)) else (none)) else (none)) = some r := by rw [if_pos rfl] at H; exact H
      clear H
      have H := H1
      clear H1
      by_cases c18 : 0 ≤ a1
      ·rw [if_pos c18] at H
       have c18b0 : decide (0 ≤ a1) = true := decide_eq_true c18
       clear c18
       by_cases c19 : a1 < (l0_1.length : Int)
       ·rw [if_pos c19] at H
        have c19b0 : decide (a1 < (l0_1.length : Int)) = true := decide_eq_true c19
        clear c19
        by_cases c20 : 0 ≤ x6_1
        ·rw [if_pos c20] at H
         have c20b0 : decide (0 ≤ x6_1) = true := decide_eq_true c20
         clear c20
         by_cases c21 : x6_1 < (l0_1.length : Int)
         ·rw [if_pos c21] at H
          have c21b0 : decide (x6_1 < (l0_1.length : Int)) = true := decide_eq_true c21
          clear c21
          replace H := Option.bind_eq_some_iff.mp H
          obtain ⟨t226, A220, H⟩ := H
          replace H : (if t226 = true then (if x5_1.length < 17592186044416 then (spec_BlockOf.l0 kj5 a1 (x5_1 ++ [x6_1]) (wrap64 (x6_1 + 1)) l0_0 l0_1) else (none)) else (spec_BlockOf.l0 kj5 a1 x5_1 (wrap64 (x6_1 + 1)) l0_0 l0_1)) = some r := H
          have A22 := aM A220
          clear A220
          by_cases c23 : t226 = true
          ·subst c23
           have H1 : (if x5_1.length < 17592186044416 then (spec_BlockOf.l0 kj5 a1 (x5_1 ++ [x6_1]) (wrap64 (x6_1 + 1)) l0_0 l0_1) else (none)) = some r := by rw [if_pos rfl] at H; exact H
           clear H
           have H := H1
           clear H1
           by_cases c24 : x5_1.length < 17592186044416
           ·rw [if_pos c24] at H
            have LMc24 := aM c24
            clear c24
            obtain ⟨y227, hy227⟩ : ∃ y_ : List Int, y_ = (x5_1 ++ [x6_1]) := ⟨_, rfl⟩
            replace H : (spec_BlockOf.l0 kj5 a1 y227 (wrap64 (x6_1 + 1)) l0_0 l0_1) = some r := by first | (rw [hy227]; with_reducible exact H) | (have H2_ := (Option.bind_some _ _).symm.trans H; rw [hy227]; with_reducible exact H2_) | (have H2_ := (Option.bind_some _ _).symm.trans H; with_reducible exact H2_) | with_reducible exact H | (rw [hy227]; exact H) | exact H
            have Ny227 := aM hy227
            clear hy227
            have H' := aM H
            clear H
            try go_wp2
            have n0_ := aM (Kd.R_drew HO_5.out)
            have n1_ := aM (blk_drew BK218.out)
            have n2_ := aM (below_drew1 HB.out)
            clear HO_5
            clear BK218
            clear HB
            have HO_5 := n0_
            have BK218 := n1_
            have HB := n2_
            clear n0_ n1_ n2_
            have p224 : 0 ≤ (a1 : Int) := aD
            have q224 : a1 < (l0_1.length : Int) := aD
            obtain ⟨ad224, A224_1, c224_1, e224, hx224_0, hx224_1, hl224_1, hi224_1⟩ := at_T50 HR0_1.out a1 p224 q224
            have hw224_1 := hx224_1
            have hw224_0 := hx224_0
            cases e224
            replace hx224_0 := (HB.out.cell (World.block_lt_of_cell? w _ hx224_0)).trans hx224_0
            replace hx224_1 := (HB.out.cell (World.block_lt_of_cell? w _ hx224_1)).trans hx224_1
            have HR224_1 := aM hi224_1
            have HC224_1 := aM hl224_1
            clear hi224_1 hl224_1
            replace p224 := eq_true p224
            replace q224 := eq_true q224
            have p225 : 0 ≤ (x6_1 : Int) := aD
            have q225 : x6_1 < (l0_1.length : Int) := aD
            obtain ⟨ad225, A225_1, c225_1, e225, hx225_0, hx225_1, hl225_1, hi225_1⟩ := at_T50 HR0_1.out x6_1 p225 q225
            have hw225_1 := hx225_1
            have hw225_0 := hx225_0
            obtain rfl : ad224 = ad225 := (by injection e225)
            replace hx225_0 := (HB.out.cell (World.block_lt_of_cell? w _ hx225_0)).trans hx225_0
            replace hx225_1 := (HB.out.cell (World.block_lt_of_cell? w _ hx225_1)).trans hx225_1
            have HR225_1 := aM hi225_1
            have HC225_1 := aM hl225_1
            clear hi225_1 hl225_1
            replace p225 := eq_true p225
            replace q225 := eq_true q225
            have qf0_ : ∀ (d_ : Nat) (os_ : Array Obj), (Go.Sort.grow (redrawn wc d_) os_).cell? ⟨gb218, 0, none⟩ = some (.slice A0_0 l0_0.length c0_0) := cell_regrown_drew ((blk_cell BK218.out 0).trans rfl)
            have qf1_ : ∀ (d_ : Nat) (os_ : Array Obj), (Go.Sort.grow (redrawn wc d_) os_).cell? ⟨gb218, 1, none⟩ = some (.slice (some ad224) l0_1.length c0_1) := cell_regrown_drew ((blk_cell BK218.out 1).trans rfl)
            have qf2_ : ∀ (d_ : Nat) (os_ : Array Obj), (Go.Sort.grow (redrawn wc d_) os_).cell? (ad224.add ((a1).toNat * 2)) = some (.int .i64 ((rd_T50 l0_1 a1).f0)) := cell_regrown_drew ((pw_cell_below HB.out hw224_0))
            have qf3_ : ∀ (d_ : Nat) (os_ : Array Obj), (Go.Sort.grow (redrawn wc d_) os_).cell? ⟨(ad224.add ((a1).toNat * 2)).block, (ad224.add ((a1).toNat * 2)).off + 1, none⟩ = some (.slice A224_1 ((rd_T50 l0_1 a1).f1).length c224_1) := cell_regrown_drew ((pw_cell_below HB.out hw224_1))
            have qf4_ : ∀ (d_ : Nat) (os_ : Array Obj), (Go.Sort.grow (redrawn wc d_) os_).cell? (ad224.add ((x6_1).toNat * 2)) = some (.int .i64 ((rd_T50 l0_1 x6_1).f0)) := cell_regrown_drew ((pw_cell_below HB.out hw225_0))
            have qf5_ : ∀ (d_ : Nat) (os_ : Array Obj), (Go.Sort.grow (redrawn wc d_) os_).cell? ⟨(ad224.add ((x6_1).toNat * 2)).block, (ad224.add ((x6_1).toNat * 2)).off + 1, none⟩ = some (.slice A225_1 ((rd_T50 l0_1 x6_1).f1).length c225_1) := cell_regrown_drew ((pw_cell_below HB.out hw225_1))
            have HBQ_ := aM (below_class HB.out)
            have HBS_ := HB
            clear HB
            refine wp_region_quiet_below (by kernel_rfl) (by kernel_rfl) ?_
            repeat (go_big_quiet_step ((refine with_class HBQ_.out ?_; intro hbz_; have HB := aM hbz_; clear hbz_; first | (go_at_call 65; apply Calls.regrown_of; with_reducible refine spec_HaveSameKey.calls kj5 _ _ l0_0 ((rd_T50 l0_1 a1).f0) _ _ ((rd_T50 l0_1 a1).f1) ((rd_T50 l0_1 x6_1).f0) _ _ ((rd_T50 l0_1 x6_1).f1) true _ ?side1 ?side2 ?side3 ?side4 ?side5 ?side6 A22.out; (case side1 => repeat (first | exact (Kd.C_below HR0_0.out HB.out) | exact (Kd.C_below HR224_0.out HB.out) | exact (Kd.C_below HR225_0.out HB.out) | (with_reducible refine Kd.C_alloc ?_ _) | (with_reducible refine Kd.C_drewN ?_ _) | (with_reducible refine Kd.C_drew ?_))); (case side2 => first | exact HC0_0.out | exact HC224_0.out | exact HC225_0.out); (case side3 => repeat (first | exact (Kd.C_below HR224_1.out HB.out) | exact (Kd.C_below HR225_1.out HB.out) | (with_reducible refine Kd.C_alloc ?_ _) | (with_reducible refine Kd.C_drewN ?_ _) | (with_reducible refine Kd.C_drew ?_))); (case side4 => first | exact HC224_1.out | exact HC225_1.out); (case side5 => repeat (first | exact (Kd.C_below HR225_1.out HB.out) | exact (Kd.C_below HR224_1.out HB.out) | (with_reducible refine Kd.C_alloc ?_ _) | (with_reducible refine Kd.C_drewN ?_ _) | (with_reducible refine Kd.C_drew ?_))); (case side6 => first | exact HC225_1.out | exact HC224_1.out)))))
            refine wpQuiet_nil ?_
            intro _ hw_
            obtain ⟨⟨dq_, osq_⟩, hw2_⟩ := hw_
            subst hw2_
            have hb := below_regrown_drew wc dq_ osq_
            have HB := HBS_
            clear HBS_
            clear qf0_ qf1_ qf2_ qf3_ qf4_ qf5_
            clear HBQ_
            generalize Go.Sort.grow (redrawn wc dq_) osq_ = w26 at hb ⊢
            generalize wc.drew = wd_ at HO_5 BK218 HB hb
            have n0_ := aM (Kd.R_below (aR HO_5) hb)
            have n1_ := aM (blk_below (g := gb218) (o := .cells #[.slice A0_0 l0_0.length c0_0, .slice (some ad224) l0_1.length c0_1] 32 (0, 0)) aK hb)
            have n2_ := aM (below_step aG hb)
            clear HO_5
            clear BK218
            clear HB
            have HO_5 := n0_
            have BK218 := n1_
            have HB := n2_
            clear n0_ n1_ n2_
            (try clear hb)
            (try clear hb2)
            (try clear hk)
            (try clear hi)
            try go_wp2_with (first | ((with_reducible refine gate_builtin (b := .append) (xs := #[.tmp 40, .tmp 42]) rfl ?_); (try (refine gate_guard (by rfl) ?_; dsimp only)); at_builtin; refine Kd.R_append (Kd.int .i64) (w0 := w) w.heap.size rfl (.tmp 40) (.tmp 42) 26 3 (.int .i64 0) 8 rfl Try.underlying26 info3 rfl (by decide) (by omega) u5 x5_1 x6_1 [.int .i64 x6_1] (fun _ => True) (fun _ => False) rfl rfl ?aP (fun _ hk => hk.elim) ?aF ?aO ?aB ?aS ?aL ?_; (case aP => exact rfl); (case aB => exact aG); (case aF => exact (fun _ _ => trivial)); (case aO => exact (aR HO_5)); (case aS => exact (below_size aG)); (case aL => have := LMc24.out; omega); intro v228 w27 ho hb hg hat; rw [← Ny227.out] at ho; have n0_ := aM (blk_grown (g := gb218) (o := .cells #[.slice A0_0 l0_0.length c0_0, .slice (some ad224) l0_1.length c0_1] 32 (0, 0)) aK hg (Kd.R_ne HO_5.out BK218.out (by decide))); have n1_ := aM (hb); have n2_ := aM (ho); clear BK218; clear HB; clear HO_5; have BK218 := n0_; have HB := n1_; have HO229 := n2_; clear n0_ n1_ n2_; clear ho hb hg hat))
            go_roundg kj5
            case measure => have := HK1.out; have := HJ5.out; omega
            case rel => exact ⟨(y227), (wrap64 (x6_1 + 1)), (by first | rfl | (simp; done) | (simp [*]; done)), H', ⟨by have := HK1.out; have := HJ5.out; omega⟩, ⟨aR HO229⟩, ⟨by (with_reducible repeat (first | refine blk_drewN ?_ _ | refine blk_drew ?_ | refine blk_alloc ?_ _)); exact BK218.out⟩, ⟨by repeat (first | (with_reducible first | exact HB.out | apply below_alloc | apply pw_below_drewN | apply below_drew1 | refine below_set ?_ GE218.out) | exact HB.out)⟩⟩
           ·rw [if_neg c24] at H
            exact absurd H (by simp)
          ·replace c23 := Bool.eq_false_iff.mpr c23
           subst c23
           have H1 : (spec_BlockOf.l0 kj5 a1 x5_1 (wrap64 (x6_1 + 1)) l0_0 l0_1) = some r := by rw [if_neg (show ¬ (false = true) by decide)] at H; exact H
           clear H
           have H := H1
           clear H1
           have H' := aM H
           clear H
           try go_wp2
           have n0_ := aM (Kd.R_drew HO_5.out)
           have n1_ := aM (blk_drew BK218.out)
           have n2_ := aM (below_drew1 HB.out)
           clear HO_5
           clear BK218
           clear HB
           have HO_5 := n0_
           have BK218 := n1_
           have HB := n2_
           clear n0_ n1_ n2_
           have p224 : 0 ≤ (a1 : Int) := aD
           have q224 : a1 < (l0_1.length : Int) := aD
           obtain ⟨ad224, A224_1, c224_1, e224, hx224_0, hx224_1, hl224_1, hi224_1⟩ := at_T50 HR0_1.out a1 p224 q224
           have hw224_1 := hx224_1
           have hw224_0 := hx224_0
           cases e224
           replace hx224_0 := (HB.out.cell (World.block_lt_of_cell? w _ hx224_0)).trans hx224_0
           replace hx224_1 := (HB.out.cell (World.block_lt_of_cell? w _ hx224_1)).trans hx224_1
           have HR224_1 := aM hi224_1
           have HC224_1 := aM hl224_1
           clear hi224_1 hl224_1
           replace p224 := eq_true p224
           replace q224 := eq_true q224
           have p225 : 0 ≤ (x6_1 : Int) := aD
           have q225 : x6_1 < (l0_1.length : Int) := aD
           obtain ⟨ad225, A225_1, c225_1, e225, hx225_0, hx225_1, hl225_1, hi225_1⟩ := at_T50 HR0_1.out x6_1 p225 q225
           have hw225_1 := hx225_1
           have hw225_0 := hx225_0
           obtain rfl : ad224 = ad225 := (by injection e225)
           replace hx225_0 := (HB.out.cell (World.block_lt_of_cell? w _ hx225_0)).trans hx225_0
           replace hx225_1 := (HB.out.cell (World.block_lt_of_cell? w _ hx225_1)).trans hx225_1
           have HR225_1 := aM hi225_1
           have HC225_1 := aM hl225_1
           clear hi225_1 hl225_1
           replace p225 := eq_true p225
           replace q225 := eq_true q225
           have qf0_ : ∀ (d_ : Nat) (os_ : Array Obj), (Go.Sort.grow (redrawn wc d_) os_).cell? ⟨gb218, 0, none⟩ = some (.slice A0_0 l0_0.length c0_0) := cell_regrown_drew ((blk_cell BK218.out 0).trans rfl)
           have qf1_ : ∀ (d_ : Nat) (os_ : Array Obj), (Go.Sort.grow (redrawn wc d_) os_).cell? ⟨gb218, 1, none⟩ = some (.slice (some ad224) l0_1.length c0_1) := cell_regrown_drew ((blk_cell BK218.out 1).trans rfl)
           have qf2_ : ∀ (d_ : Nat) (os_ : Array Obj), (Go.Sort.grow (redrawn wc d_) os_).cell? (ad224.add ((a1).toNat * 2)) = some (.int .i64 ((rd_T50 l0_1 a1).f0)) := cell_regrown_drew ((pw_cell_below HB.out hw224_0))
           have qf3_ : ∀ (d_ : Nat) (os_ : Array Obj), (Go.Sort.grow (redrawn wc d_) os_).cell? ⟨(ad224.add ((a1).toNat * 2)).block, (ad224.add ((a1).toNat * 2)).off + 1, none⟩ = some (.slice A224_1 ((rd_T50 l0_1 a1).f1).length c224_1) := cell_regrown_drew ((pw_cell_below HB.out hw224_1))
           have qf4_ : ∀ (d_ : Nat) (os_ : Array Obj), (Go.Sort.grow (redrawn wc d_) os_).cell? (ad224.add ((x6_1).toNat * 2)) = some (.int .i64 ((rd_T50 l0_1 x6_1).f0)) := cell_regrown_drew ((pw_cell_below HB.out hw225_0))
           have qf5_ : ∀ (d_ : Nat) (os_ : Array Obj), (Go.Sort.grow (redrawn wc d_) os_).cell? ⟨(ad224.add ((x6_1).toNat * 2)).block, (ad224.add ((x6_1).toNat * 2)).off + 1, none⟩ = some (.slice A225_1 ((rd_T50 l0_1 x6_1).f1).length c225_1) := cell_regrown_drew ((pw_cell_below HB.out hw225_1))
           have HBQ_ := aM (below_class HB.out)
           have HBS_ := HB
           clear HB
           refine wp_region_quiet_below (by kernel_rfl) (by kernel_rfl) ?_
           repeat (go_big_quiet_step ((refine with_class HBQ_.out ?_; intro hbz_; have HB := aM hbz_; clear hbz_; first | (go_at_call 65; apply Calls.regrown_of; with_reducible refine spec_HaveSameKey.calls kj5 _ _ l0_0 ((rd_T50 l0_1 a1).f0) _ _ ((rd_T50 l0_1 a1).f1) ((rd_T50 l0_1 x6_1).f0) _ _ ((rd_T50 l0_1 x6_1).f1) false _ ?side1 ?side2 ?side3 ?side4 ?side5 ?side6 A22.out; (case side1 => repeat (first | exact (Kd.C_below HR0_0.out HB.out) | exact (Kd.C_below HR224_0.out HB.out) | exact (Kd.C_below HR225_0.out HB.out) | (with_reducible refine Kd.C_alloc ?_ _) | (with_reducible refine Kd.C_drewN ?_ _) | (with_reducible refine Kd.C_drew ?_))); (case side2 => first | exact HC0_0.out | exact HC224_0.out | exact HC225_0.out); (case side3 => repeat (first | exact (Kd.C_below HR224_1.out HB.out) | exact (Kd.C_below HR225_1.out HB.out) | (with_reducible refine Kd.C_alloc ?_ _) | (with_reducible refine Kd.C_drewN ?_ _) | (with_reducible refine Kd.C_drew ?_))); (case side4 => first | exact HC224_1.out | exact HC225_1.out); (case side5 => repeat (first | exact (Kd.C_below HR225_1.out HB.out) | exact (Kd.C_below HR224_1.out HB.out) | (with_reducible refine Kd.C_alloc ?_ _) | (with_reducible refine Kd.C_drewN ?_ _) | (with_reducible refine Kd.C_drew ?_))); (case side6 => first | exact HC225_1.out | exact HC224_1.out)))))
           refine wpQuiet_nil ?_
           intro _ hw_
           obtain ⟨⟨dq_, osq_⟩, hw2_⟩ := hw_
           subst hw2_
           have hb := below_regrown_drew wc dq_ osq_
           have HB := HBS_
           clear HBS_
           clear qf0_ qf1_ qf2_ qf3_ qf4_ qf5_
           clear HBQ_
           generalize Go.Sort.grow (redrawn wc dq_) osq_ = w29 at hb ⊢
           generalize wc.drew = wd_ at HO_5 BK218 HB hb
           have n0_ := aM (Kd.R_below (aR HO_5) hb)
           have n1_ := aM (blk_below (g := gb218) (o := .cells #[.slice A0_0 l0_0.length c0_0, .slice (some ad224) l0_1.length c0_1] 32 (0, 0)) aK hb)
           have n2_ := aM (below_step aG hb)
           clear HO_5
           clear BK218
           clear HB
           have HO_5 := n0_
           have BK218 := n1_
           have HB := n2_
           clear n0_ n1_ n2_
           (try clear hb)
           (try clear hb2)
           (try clear hk)
           (try clear hi)
           try go_wp2
           go_roundg kj5
           case measure => have := HK1.out; have := HJ5.out; omega
           case rel => exact ⟨(x5_1), (wrap64 (x6_1 + 1)), (by first | rfl | (simp; done) | (simp [*]; done)), H', ⟨by have := HK1.out; have := HJ5.out; omega⟩, ⟨aR HO_5⟩, ⟨by (with_reducible repeat (first | refine blk_drewN ?_ _ | refine blk_drew ?_ | refine blk_alloc ?_ _)); exact BK218.out⟩, ⟨by repeat (first | (with_reducible first | exact HB.out | apply below_alloc | apply pw_below_drewN | apply below_drew1 | refine below_set ?_ GE218.out) | exact HB.out)⟩⟩
         ·rw [if_neg c21] at H
          exact absurd H (by simp)
        ·rw [if_neg c20] at H
         exact absurd H (by simp)
       ·rw [if_neg c19] at H
        exact absurd H (by simp)
      ·rw [if_neg c18] at H
       exact absurd H (by simp)
     ·replace c17 := Bool.eq_false_iff.mpr c17
      subst c17
      have H1 : (some x5_1) = some r := by rw [if_neg (show ¬ (false = true) by decide)] at H; exact H
      clear H
      have H := H1
      clear H1
      obtain rfl := Option.some.inj H
      go_wp2
      go_ret
      exact ⟨_, by first | rfl | (simp [errW_none, errW_some] <;> rfl) | (simp [*, errW_none, errW_some] <;> rfl), aR HO_5, by repeat (first | (with_reducible first | exact HB.out | apply below_alloc | apply pw_below_drewN | apply below_drew1 | refine below_set ?_ GE218.out) | exact HB.out)⟩

/-! ### spec_ConflictingFacts: function 22 -/
mutual
def spec_ConflictingFacts.l0 : Nat → List Int → Int → List (S86) → List (S50) → Option (List Int)
 | 0, _, _, _, _ => none
 | k + 1, x3, x4, x231000, x231001 => if x4 < (x231001.length : Int) then ((spec_IsValidDatabase.f k x231000 x231001).bind fun t234 => (spec_ConflictingFacts.j1 k x3 x4 t234 x231000 x231001)) else (spec_ConflictingFacts.j1 k x3 x4 false x231000 x231001)
def spec_ConflictingFacts.j1 : Nat → List Int → Int → Bool → List (S86) → List (S50) → Option (List Int)
 | 0, _, _, _, _, _ => none
 | k + 1, x3, x4, x14, x231000, x231001 => if x14 = true then ((spec_BlockOf.f k x231000 x231001 x4).bind fun t235 => (if (t235.length : Int) > 1 then (if x3.length < 17592186044416 then (spec_ConflictingFacts.l0 k (x3 ++ [x4]) (wrap64 (x4 + 1)) x231000 x231001) else (none)) else (spec_ConflictingFacts.l0 k x3 (wrap64 (x4 + 1)) x231000 x231001))) else (some x3)
end
def spec_ConflictingFacts.f (k : Nat) (l0_0 : List (S86)) (l0_1 : List (S50)) : Option (List Int) := spec_ConflictingFacts.l0 k (([] : List Int)) 0 l0_0 l0_1
set_option maxHeartbeats 8000000 in
set_option maxRecDepth 100000 in
theorem spec_ConflictingFacts.calls (k : Nat) (A0_0 : Option Addr) (c0_0 : Nat) (l0_0 : List (S86)) (A0_1 : Option Addr) (c0_1 : Nat) (l0_1 : List (S50)) (r : List Int) (w : World) (hr0_0 : Kd.C k86 w A0_0 l0_0.length l0_0) (hc0_0 : l0_0.length ≤ c0_0) (hr0_1 : Kd.C k50 w A0_1 l0_1.length l0_1) (hc0_1 : l0_1.length ≤ c0_1) (h : spec_ConflictingFacts.f k l0_0 l0_1 = some r) :
  Calls Try.prog 22 #[.agg #[.slice A0_0 l0_0.length c0_0, .slice A0_1 l0_1.length c0_1]] w fun e w' => ∃ v0_ : Value, e = .returned (v0_) ∧ Kd.R (Kd.int .i64) 3 w' w.heap.size (fun _ => True) v0_ r ∧ Below w.heap.size w w' := by
 have hu32 := Try.underlying32
 have HR0_0 := aM hr0_0
 have HC0_0 := aM hc0_0
 clear hr0_0 hc0_0
 have HR0_1 := aM hr0_1
 have HC0_1 := aM hc0_1
 clear hr0_1 hc0_1
 have HB := aM (Below.refl w.heap.size w)
 have H : (spec_ConflictingFacts.l0 k (([] : List Int)) 0 l0_0 l0_1) = some r := h
 clear h
 obtain ⟨y231, hy231⟩ : ∃ y_ : List Int, y_ = (([] : List Int)) := ⟨_, rfl⟩
 replace H : (spec_ConflictingFacts.l0 k y231 0 l0_0 l0_1) = some r := by first | (rw [hy231]; with_reducible exact H) | (have H2_ := (Option.bind_some _ _).symm.trans H; rw [hy231]; with_reducible exact H2_) | (have H2_ := (Option.bind_some _ _).symm.trans H; with_reducible exact H2_) | with_reducible exact H | (rw [hy231]; exact H) | exact H
 have Ny231 := aM hy231
 clear hy231
 have H' := aM H
 clear H
 go_enter Try.func22, Try.ntmps22
 go_wp2_with (first | ((with_reducible refine gate_dst (N := 1) rfl ?_); refine box_event ?hg (N := 1) ?hd (cs := #[.slice A0_0 l0_0.length c0_0, .slice A0_1 l0_1.length c0_1]) (t := 32) ?hr ?_; (case hd => rfl); (case hg => rfl); (case hr => first | (go_simp; done) | (go_simp; rfl)); intro gb230 hg w2 hbox hb; have n0_ := aM (below_step aB hb); have n1_ := aM (hbox); have n2_ := aM ((by rw [hg]; exact (below_size aB) : w.heap.size ≤ gb230)); have n3_ := aM ((by rw [hg]; exact (below_size aB) : w.heap.size ≤ gb230)); clear HB; have HB := n0_; have BK230 := n1_; have GW230 := n2_; have GE230 := n3_; clear n0_ n1_ n2_ n3_; clear hb hbox hg) | ((with_reducible refine gate_dst (N := 5) rfl ?_); refine Kd.R_lit (Kd.int .i64) _ 3 ?hg (N := 5) ?hd (xs := ([] : List Int)) (inner := []) (ok := fun _ => True) (okp := fun _ => True) ?hr ?hp (fun _ hk => hk) trivial (Below.refl _ _) (Nat.le_refl _) (by simp) ?_; (case hd => rfl); (case hg => rfl); (case hr => first | (go_simp; done) | (go_simp; rfl)); (case hp => exact (Reps.none _ _)); intro v232 w3 ho4 hb hg_ hnew_; clear hg_ hnew_; (first | rw [← Ny231.out] at ho4 | (simp only [Int.reduceToNat] at ho4; rw [← Ny231.out] at ho4)); have n0_ := aM (Kd.R_lower ho4 (below_size aG)); have n1_ := aM (blk_below (g := gb230) (o := .cells #[.slice A0_0 l0_0.length c0_0, .slice A0_1 l0_1.length c0_1] 32 (0, 0)) aK hb); have n2_ := aM (below_step aG hb); clear BK230; clear HB; have HO233 := n0_; have BK230 := n1_; have HB := n2_; clear n0_ n1_ n2_; clear hb ho4))
 go_loopg [3, 4] k (fun kq v3 v4 w' => ∃ (x3_1 : List Int) (x4_1 : Int), v4 = .int .i64 x4_1 ∧ Aside0 (spec_ConflictingFacts.l0 kq x3_1 x4_1 l0_0 l0_1 = some r) ∧ Aside0 (kq ≤ k) ∧ Aside0 (Kd.R (Kd.int .i64) 3 w' w.heap.size (fun _ => True) v3 x3_1) ∧ Aside0 (w'.heap[gb230]? = some (.cells #[(.slice A0_0 l0_0.length c0_0), (.slice A0_1 l0_1.length c0_1)] 32 (0, 0))) ∧ Aside0 (Below w.heap.size w w'))
 case atStart => exact ⟨(y231), (0), (by first | rfl | (simp; done) | (simp [*]; done)), H', ⟨Nat.le_refl _⟩, ⟨aR HO233⟩, ⟨by (with_reducible repeat (first | refine blk_drewN ?_ _ | refine blk_drew ?_ | refine blk_alloc ?_ _)); exact BK230.out⟩, ⟨by repeat (first | (with_reducible first | exact HB.out | apply below_alloc | apply pw_below_drewN | apply below_drew1 | refine below_set ?_ GE230.out) | exact HB.out)⟩⟩
 case round =>
  clear H'
  try clear c2
  try clear p2
  obtain ⟨x3_1, x4_1, rfl, HA, HK1, HO_3, BK230, HB⟩ := hrel
  cases gk with
  | zero => exact absurd HA.out (by simp [spec_ConflictingFacts.l0])
  | succ k1 =>
   have H := HA.out
   clear HA
   simp only [spec_ConflictingFacts.l0] at H
   have HC5 := aM H
   clear H
   go_upto_region 3 with (fail)
   go_cut [14] (fun v14 wc => ∃ (kq : Nat) (x14_4 : Bool), v14 = .bool x14_4 ∧ Aside0 (spec_ConflictingFacts.j1 kq x3_1 x4_1 x14_4 l0_0 l0_1 = some r) ∧ Aside0 (kq ≤ k1) ∧ Aside0 (Kd.R (Kd.int .i64) 3 wc w.heap.size (fun _ => True) u3 x3_1) ∧ Aside0 (wc.heap[gb230]? = some (.cells #[(.slice A0_0 l0_0.length c0_0), (.slice A0_1 l0_1.length c0_1)] 32 (0, 0))) ∧ Aside0 (Below w.heap.size w wc))
   case first =>
    have H := HC5.out
    clear HC5
    by_cases c6 : x4_1 < (l0_1.length : Int)
    ·rw [if_pos c6] at H
     have c6b0 : decide (x4_1 < (l0_1.length : Int)) = true := decide_eq_true c6
     clear c6
     (first | rw [c6b0] | (simp only [i64_w, i32_w]; rw [c6b0]) | skip)
     replace H := Option.bind_eq_some_iff.mp H
     obtain ⟨t234, A70, H⟩ := H
     replace H : (spec_ConflictingFacts.j1 k1 x3_1 x4_1 t234 l0_0 l0_1) = some r := H
     have A7 := aM A70
     clear A70
     have H' := aM H
     clear H
     have hcz8_0 : wr.cell? ⟨gb230, 0, none⟩ = some (.slice A0_0 l0_0.length c0_0) := (blk_cell BK230.out 0).trans rfl
     have hcz8_1 : wr.cell? ⟨gb230, 1, none⟩ = some (.slice A0_1 l0_1.length c0_1) := (blk_cell BK230.out 1).trans rfl
     have hfz8_0 := blk_frozen BK230.out 0
     have hfz8_1 := blk_frozen BK230.out 1
     go_wp2_with (first | (go_at_call 60; (with_reducible refine (spec_IsValidDatabase.calls k1 _ _ l0_0 _ _ l0_1 t234 _ ?side1 ?side2 ?side3 ?side4 A7.out).mono ?_); (case side1 => exact aC); (case side2 => exact HC0_0.out); (case side3 => exact aC); (case side4 => exact HC0_1.out); rintro e w9 ⟨rfl, hb⟩; have n0_ := aM (Kd.R_below (aR HO_3) hb); have n1_ := aM (blk_below (g := gb230) (o := .cells #[.slice A0_0 l0_0.length c0_0, .slice A0_1 l0_1.length c0_1] 32 (0, 0)) aK hb); have n2_ := aM (below_step aG hb); clear HO_3; clear BK230; clear HB; have HO_3 := n0_; have BK230 := n1_; have HB := n2_; clear n0_ n1_ n2_; (try clear hb); (try clear hb2); (try clear hk); (try clear hi)))
     go_meet
     case rel => exact ⟨_, (t234), (by first | rfl | (simp; done) | (simp [*]; done)), H', ⟨by have := HK1.out; first | omega | exact Nat.le_refl _⟩, ⟨aR HO_3⟩, ⟨by (with_reducible repeat (first | refine blk_drewN ?_ _ | refine blk_drew ?_ | refine blk_alloc ?_ _)); exact BK230.out⟩, ⟨by repeat (first | (with_reducible first | exact HB.out | apply below_alloc | apply pw_below_drewN | apply below_drew1 | refine below_set ?_ GE230.out) | exact HB.out)⟩⟩
    ·rw [if_neg c6] at H
     have c6b0 : decide (x4_1 < (l0_1.length : Int)) = false := decide_eq_false c6
     clear c6
     (first | rw [c6b0] | (simp only [i64_w, i32_w]; rw [c6b0]) | skip)
     have H' := aM H
     clear H
     have hcz10_0 : wr.cell? ⟨gb230, 0, none⟩ = some (.slice A0_0 l0_0.length c0_0) := (blk_cell BK230.out 0).trans rfl
     have hcz10_1 : wr.cell? ⟨gb230, 1, none⟩ = some (.slice A0_1 l0_1.length c0_1) := (blk_cell BK230.out 1).trans rfl
     have hfz10_0 := blk_frozen BK230.out 0
     have hfz10_1 := blk_frozen BK230.out 1
     go_wp2
     go_meet
     case rel => exact ⟨_, (false), (by first | rfl | (simp; done) | (simp [*]; done)), H', ⟨by have := HK1.out; first | omega | exact Nat.le_refl _⟩, ⟨aR HO_3⟩, ⟨by (with_reducible repeat (first | refine blk_drewN ?_ _ | refine blk_drew ?_ | refine blk_alloc ?_ _)); exact BK230.out⟩, ⟨by repeat (first | (with_reducible first | exact HB.out | apply below_alloc | apply pw_below_drewN | apply below_drew1 | refine below_set ?_ GE230.out) | exact HB.out)⟩⟩
   case rest =>
    clear HC5
    try clear c2
    try clear p2
    try clear c6
    try clear c6b0
    try clear hcz10_0
    try clear hcz10_1
    try clear hcz8_0
    try clear hcz8_1
    try clear hfz10_0
    try clear hfz10_1
    try clear hfz8_0
    try clear hfz8_1
    try clear p2
    obtain ⟨kq, x14_4, rfl, HA, HJ4, HO_3, BK230, HB⟩ := hcut
    cases kq with
    | zero => exact absurd HA.out (by simp [spec_ConflictingFacts.j1])
    | succ kj4 =>
     have H := HA.out
     clear HA
     simp only [spec_ConflictingFacts.j1] at H
     by_cases c11 : x14_4 = true
     ·subst c11
      have H1 : ((spec_BlockOf.f kj4 l0_0 l0_1 x4_1).bind fun t235 => (if (t235.length : Int) > 1 then (if x3_1.length < 17592186044416 then (spec_ConflictingFacts.l0 kj4 (x3_1 ++ [x4_1]) (wrap64 (x4_1 + 1)) l0_0 l0_1) else (none)) else (spec_ConflictingFacts.l0 kj4 x3_1 (wrap64 (x4_1 + 1)) l0_0 l0_1))) = some r := by rw [if_pos rfl] at H; exact H
      clear H
      have H := H1
      clear H1
      replace H := Option.bind_eq_some_iff.mp H
      obtain ⟨t235, A120, H⟩ := H
      replace H : (if (t235.length : Int) > 1 then (if x3_1.length < 17592186044416 then (spec_ConflictingFacts.l0 kj4 (x3_1 ++ [x4_1]) (wrap64 (x4_1 + 1)) l0_0 l0_1) else (none)) else (spec_ConflictingFacts.l0 kj4 x3_1 (wrap64 (x4_1 + 1)) l0_0 l0_1)) = some r := H
      have A12 := aM A120
      clear A120
      by_cases c13 : (t235.length : Int) > 1
      ·rw [if_pos c13] at H
       have c13b0 : decide (1 < (t235.length : Int)) = true := decide_eq_true c13
       have c13b1 : decide (1 < t235.length) = true := decide_eq_true (by omega)
       clear c13
       by_cases c14 : x3_1.length < 17592186044416
       ·rw [if_pos c14] at H
        have LMc14 := aM c14
        clear c14
        obtain ⟨y238, hy238⟩ : ∃ y_ : List Int, y_ = (x3_1 ++ [x4_1]) := ⟨_, rfl⟩
        replace H : (spec_ConflictingFacts.l0 kj4 y238 (wrap64 (x4_1 + 1)) l0_0 l0_1) = some r := by first | (rw [hy238]; with_reducible exact H) | (have H2_ := (Option.bind_some _ _).symm.trans H; rw [hy238]; with_reducible exact H2_) | (have H2_ := (Option.bind_some _ _).symm.trans H; with_reducible exact H2_) | with_reducible exact H | (rw [hy238]; exact H) | exact H
        have Ny238 := aM hy238
        clear hy238
        have H' := aM H
        clear H
        have hcz15_0 : wc.cell? ⟨gb230, 0, none⟩ = some (.slice A0_0 l0_0.length c0_0) := (blk_cell BK230.out 0).trans rfl
        have hcz15_1 : wc.cell? ⟨gb230, 1, none⟩ = some (.slice A0_1 l0_1.length c0_1) := (blk_cell BK230.out 1).trans rfl
        have hfz15_0 := blk_frozen BK230.out 0
        have hfz15_1 := blk_frozen BK230.out 1
        go_wp2_with (first | ((with_reducible refine gate_callee (f := 27) rfl ?_); refine goesL_ (some 19) rfl rfl Try.func27 (by kernel_rfl) rfl #[.agg #[.slice A0_0 l0_0.length c0_0, .slice A0_1 l0_1.length c0_1], .int .i64 x4_1] rfl (by (try simp only [List.map_toArray, List.map_cons, List.map_nil]); first | done | rfl | (simp only [List.length_drop, List.length_take]; rfl)) ?_; (with_reducible refine (spec_BlockOf.calls kj4 _ _ l0_0 _ _ l0_1 x4_1 t235 _ ?side1 ?side2 ?side3 ?side4 A12.out).mono ?_); (case side1 => exact aC); (case side2 => exact HC0_0.out); (case side3 => exact aC); (case side4 => exact HC0_1.out); rintro e w16 ⟨v236, rfl, ho0, hb⟩; refine ⟨_, rfl, ?_⟩; have n0_ := aM (Kd.R_elder' (aR HO_3) (Kd.R_base ho0) hb); have n1_ := aM (Kd.R_lower (Kd.R_new' ho0 (Kd.R_lt (aR HO_3))) (below_size aG)); have n2_ := aM (blk_below (g := gb230) (o := .cells #[.slice A0_0 l0_0.length c0_0, .slice A0_1 l0_1.length c0_1] 32 (0, 0)) aK hb); have n3_ := aM (below_step aG hb); clear HO_3; clear BK230; clear HB; have HO_3 := n0_; have HO237 := n1_; have BK230 := n2_; have HB := n3_; clear n0_ n1_ n2_ n3_; (try clear hb); (try clear hb2); (try clear hk); (try clear hi); (try clear ho0); obtain ⟨Ao17, co17, eo17⟩ := Kd.R_slice HO237.out; subst eo17) | ((with_reducible refine gate_builtin (b := .append) (xs := #[.tmp 22, .tmp 24]) rfl ?_); at_builtin; refine Kd.R_append (Kd.int .i64) (w0 := w) w.heap.size rfl (.tmp 22) (.tmp 24) 26 3 (.int .i64 0) 8 rfl Try.underlying26 info3 rfl (by decide) (by omega) u3 x3_1 x4_1 [.int .i64 x4_1] (fun k_ => some k_ ≠ (.slice Ao17 t235.length co17 : Value).ownBlock) (fun _ => False) rfl rfl ?aP (fun _ hk => hk.elim) ?aF ?aO ?aB ?aS ?aL ?_; (case aP => exact rfl); (case aB => exact aG); (case aF => exact (fun k_ hk => Kd.fresh' (Kd.R_lt (aR HO237)) k_ hk)); (case aO => exact (by (with_reducible repeat (first | apply Kd.R_alloc | apply Kd.R_drewN | apply Kd.R_drew)); exact Kd.R_mono HO_3.out (fun _ hk => hk.2))); (case aS => exact (below_size aG)); (case aL => have := LMc14.out; omega); intro v239 w18 ho hb hg hat; rw [← Ny238.out] at ho; have n0_ := aM (blk_grown (g := gb230) (o := .cells #[.slice A0_0 l0_0.length c0_0, .slice A0_1 l0_1.length c0_1] 32 (0, 0)) aK hg (Kd.R_ne HO_3.out BK230.out (by decide))); have n1_ := aM (Kd.R_after (ok := (fun _ => True)) (aR HO237) hg hat); have n2_ := aM (hb); have n3_ := aM (ho); clear BK230; clear HO237; clear HB; clear HO_3; have BK230 := n0_; have HO237 := n1_; have HB := n2_; have HO240 := n3_; clear n0_ n1_ n2_ n3_; clear ho hb hg hat))
        go_roundg kj4
        case measure => have := HK1.out; have := HJ4.out; omega
        case rel => exact ⟨(y238), (wrap64 (x4_1 + 1)), (by first | rfl | (simp; done) | (simp [*]; done)), H', ⟨by have := HK1.out; have := HJ4.out; omega⟩, ⟨by (with_reducible repeat (first | apply Kd.R_alloc | apply Kd.R_drewN | apply Kd.R_drew)); exact Kd.R_mono HO240.out (fun _ hk => trivial)⟩, ⟨by (with_reducible repeat (first | refine blk_drewN ?_ _ | refine blk_drew ?_ | refine blk_alloc ?_ _)); exact BK230.out⟩, ⟨by repeat (first | (with_reducible first | exact HB.out | apply below_alloc | apply pw_below_drewN | apply below_drew1 | refine below_set ?_ GE230.out) | exact HB.out)⟩⟩
       ·rw [if_neg c14] at H
        exact absurd H (by simp)
      ·rw [if_neg c13] at H
       have c13b0 : decide (1 < (t235.length : Int)) = false := decide_eq_false c13
       have c13b1 : decide (1 < t235.length) = false := decide_eq_false (by omega)
       clear c13
       have H' := aM H
       clear H
       have hcz19_0 : wc.cell? ⟨gb230, 0, none⟩ = some (.slice A0_0 l0_0.length c0_0) := (blk_cell BK230.out 0).trans rfl
       have hcz19_1 : wc.cell? ⟨gb230, 1, none⟩ = some (.slice A0_1 l0_1.length c0_1) := (blk_cell BK230.out 1).trans rfl
       have hfz19_0 := blk_frozen BK230.out 0
       have hfz19_1 := blk_frozen BK230.out 1
       go_wp2_with (first | ((with_reducible refine gate_callee (f := 27) rfl ?_); refine goesL_ (some 19) rfl rfl Try.func27 (by kernel_rfl) rfl #[.agg #[.slice A0_0 l0_0.length c0_0, .slice A0_1 l0_1.length c0_1], .int .i64 x4_1] rfl (by (try simp only [List.map_toArray, List.map_cons, List.map_nil]); first | done | rfl | (simp only [List.length_drop, List.length_take]; rfl)) ?_; (with_reducible refine (spec_BlockOf.calls kj4 _ _ l0_0 _ _ l0_1 x4_1 t235 _ ?side1 ?side2 ?side3 ?side4 A12.out).mono ?_); (case side1 => exact aC); (case side2 => exact HC0_0.out); (case side3 => exact aC); (case side4 => exact HC0_1.out); rintro e w20 ⟨v236, rfl, ho0, hb⟩; refine ⟨_, rfl, ?_⟩; have n0_ := aM (Kd.R_elder' (aR HO_3) (Kd.R_base ho0) hb); have n1_ := aM (Kd.R_lower (Kd.R_new' ho0 (Kd.R_lt (aR HO_3))) (below_size aG)); have n2_ := aM (blk_below (g := gb230) (o := .cells #[.slice A0_0 l0_0.length c0_0, .slice A0_1 l0_1.length c0_1] 32 (0, 0)) aK hb); have n3_ := aM (below_step aG hb); clear HO_3; clear BK230; clear HB; have HO_3 := n0_; have HO237 := n1_; have BK230 := n2_; have HB := n3_; clear n0_ n1_ n2_ n3_; (try clear hb); (try clear hb2); (try clear hk); (try clear hi); (try clear ho0); obtain ⟨Ao21, co21, eo21⟩ := Kd.R_slice HO237.out; subst eo21))
       go_roundg kj4
       case measure => have := HK1.out; have := HJ4.out; omega
       case rel => exact ⟨(x3_1), (wrap64 (x4_1 + 1)), (by first | rfl | (simp; done) | (simp [*]; done)), H', ⟨by have := HK1.out; have := HJ4.out; omega⟩, ⟨by (with_reducible repeat (first | apply Kd.R_alloc | apply Kd.R_drewN | apply Kd.R_drew)); exact Kd.R_mono HO_3.out (fun _ hk => trivial)⟩, ⟨by (with_reducible repeat (first | refine blk_drewN ?_ _ | refine blk_drew ?_ | refine blk_alloc ?_ _)); exact BK230.out⟩, ⟨by repeat (first | (with_reducible first | exact HB.out | apply below_alloc | apply pw_below_drewN | apply below_drew1 | refine below_set ?_ GE230.out) | exact HB.out)⟩⟩
     ·replace c11 := Bool.eq_false_iff.mpr c11
      subst c11
      have H1 : (some x3_1) = some r := by rw [if_neg (show ¬ (false = true) by decide)] at H; exact H
      clear H
      have H := H1
      clear H1
      obtain rfl := Option.some.inj H
      go_wp2
      go_ret
      exact ⟨_, by first | rfl | (simp [errW_none, errW_some] <;> rfl) | (simp [*, errW_none, errW_some] <;> rfl), aR HO_3, by repeat (first | (with_reducible first | exact HB.out | apply below_alloc | apply pw_below_drewN | apply below_drew1 | refine below_set ?_ GE230.out) | exact HB.out)⟩

-- NOT PRINTED: function 118 (slices_IndexFunc_int_int)

-- NOT PRINTED: function 114 (slices_ContainsFunc_int_int)

end Go.Proofs.Ytehlhbidmanbmaa.PFnExactConflictingFacts
