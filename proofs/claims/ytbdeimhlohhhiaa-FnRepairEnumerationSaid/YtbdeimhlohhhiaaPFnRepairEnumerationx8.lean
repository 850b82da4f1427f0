import Derived.Test.YtbdeimhlohhhiaaPFnRepairEnumerationx0
import Derived.Test.YtbdeimhlohhhiaaPFnRepairEnumerationx7
namespace Go.Proofs.Ytbdeimhlohhhiaa.PFnRepairEnumeration
open Go.RowKit Go.Proofs.YtbdeimhlohhhiaaW.PrintWords Go.Proofs.YtbdeimhlohhhiaaW.PrintLast Go.Proofs.YtbdeimhlohhhiaaW.PrintMore
attribute [local go_sem] max2_int min2_int max_two min_two max_three min_three max_four min_four
set_option linter.unusedVariables false
set_option linter.unusedSimpArgs false

/-! ### spec_KeyOf: function 49 -/
def spec_KeyOf.f (k : Nat) (l0 : List (S70)) (a1_0 : Int) (l1_1 : List Int) : Option (List Int) := (spec_IsValidFact.f k l0 a1_0 l1_1).bind fun t240 => (if t240 = true then ((some (([] : List Int) : List Int)).bind fun y241 => (if 0 ≤ a1_0 then (if a1_0 < (l0.length : Int) then (if 0 ≤ ((rd_T70 l0 a1_0).f2) then (if ((rd_T70 l0 a1_0).f2) ≤ (l1_1.length : Int) then (if y241.length + (l1_1.take (((rd_T70 l0 a1_0).f2) : Int).toNat).length < 17592186044416 then (some (y241 ++ (l1_1.take (((rd_T70 l0 a1_0).f2) : Int).toNat))) else (none)) else (none)) else (none)) else (none)) else (none))) else (some (([] : List Int))))
def spec_KeyOf.T3 : Bool × List (List Nat × List Nat) := (true, [([], []), ([], []), ([1], [1]), ([], []), ([], []), ([4], [4]), ([3, 5], [3, 5]), ([6], [6]), ([7], [7]), ([2, 8], [2, 8]), ([0, 9], [0, 9]), ([10, 10, 0, 1, 2, 3, 4, 5, 6, 7, 8, 9, 10], [10])])
def spec_KeyOf.B3 : List Nat := [0, 0, 2, 0, 0, 16, 56, 120, 248, 510, 1023, 2047]
theorem spec_KeyOf.tab3 : rtab .any (opsOf Try.f49 3) = spec_KeyOf.T3 := by kernel_rfl
theorem spec_KeyOf.bits3 : waitsOk spec_KeyOf.T3.2 spec_KeyOf.B3 = true := by kernel_rfl
set_option maxHeartbeats 8000000 in
set_option maxRecDepth 100000 in
theorem spec_KeyOf.calls (k : Nat) (A0 : Option Addr) (c0 : Nat) (l0 : List (S70)) (a1_0 : Int) (A1_1 : Option Addr) (c1_1 : Nat) (l1_1 : List Int) (r : List Int) (w : World) (hr0 : Kd.C k70 w A0 l0.length l0) (hc0 : l0.length ≤ c0) (hr1_1 : Kd.C (Kd.int .i64) w A1_1 l1_1.length l1_1) (hc1_1 : l1_1.length ≤ c1_1) (h : spec_KeyOf.f k l0 a1_0 l1_1 = some r) :
  Calls Try.prog 49 #[.slice A0 l0.length c0, .agg #[.int .i64 a1_0, .slice A1_1 l1_1.length c1_1]] w fun e w' => ∃ v0_ : Value, e = .returned (v0_) ∧ Kd.R (Kd.int .i64) 3 w' w.heap.size (fun _ => True) v0_ r ∧ Below w.heap.size w w' := by
 have hu35 := Try.underlying35
 have HR0 := aM hr0
 have HC0 := aM hc0
 clear hr0 hc0
 have HR1_1 := aM hr1_1
 have HC1_1 := aM hc1_1
 clear hr1_1 hc1_1
 have HB := aM (Below.refl w.heap.size w)
 have H : ((spec_IsValidFact.f k l0 a1_0 l1_1).bind fun t240 => (if t240 = true then ((some (([] : List Int) : List Int)).bind fun y241 => (if 0 ≤ a1_0 then (if a1_0 < (l0.length : Int) then (if 0 ≤ ((rd_T70 l0 a1_0).f2) then (if ((rd_T70 l0 a1_0).f2) ≤ (l1_1.length : Int) then (if y241.length + (l1_1.take (((rd_T70 l0 a1_0).f2) : Int).toNat).length < 17592186044416 then (some (y241 ++ (l1_1.take (((rd_T70 l0 a1_0).f2) : Int).toNat))) else (none)) else (none)) else (none)) else (none)) else (none))) else (some (([] : List Int))))) = some r := h
 clear h
 replace H := bM H
 obtain ⟨t240, A30, H⟩ := H
 have A3 := aM A30
 clear A30
 by_cases c4 : t240 = true
 ·subst c4
  replace H := iT H
  obtain ⟨y241, hy241⟩ : ∃ y_ : List Int, y_ = (([] : List Int)) := ⟨_, rfl⟩
  first | replace H := bY hy241 H | rw [← hy241] at H
  have Ny241 := aM hy241
  clear hy241
  by_cases c5 : 0 ≤ a1_0
  ·rw [if_pos c5] at H
   have c5b0 : decide (0 ≤ a1_0) = true := decide_eq_true c5
   clear c5
   by_cases c6 : a1_0 < (l0.length : Int)
   ·rw [if_pos c6] at H
    have c6b0 : decide (a1_0 < (l0.length : Int)) = true := decide_eq_true c6
    clear c6
    by_cases c7 : 0 ≤ ((rd_T70 l0 a1_0).f2)
    ·rw [if_pos c7] at H
     have c7b0 := eq_true c7
     have c7b1 : decide (0 ≤ ((rd_T70 l0 a1_0).f2)) = true := decide_eq_true c7
     clear c7
     by_cases c8 : ((rd_T70 l0 a1_0).f2) ≤ (l1_1.length : Int)
     ·rw [if_pos c8] at H
      have c8b0 := eq_true c8
      have c8b1 : decide (((rd_T70 l0 a1_0).f2) ≤ (l1_1.length : Int)) = true := decide_eq_true c8
      clear c8
      by_cases c9 : y241.length + (l1_1.take (((rd_T70 l0 a1_0).f2) : Int).toNat).length < 17592186044416
      ·rw [if_pos c9] at H
       have LMc9 := aM c9
       clear c9
       obtain ⟨y246, hy246⟩ : ∃ y_ : List Int, y_ = (y241 ++ (l1_1.take (((rd_T70 l0 a1_0).f2) : Int).toNat)) := ⟨_, rfl⟩
       first | replace H := bY hy246 H | rw [← hy246] at H
       have Ny246 := aM hy246
       clear hy246
       obtain rfl := Option.some.inj H
       go_enter Try.func49, Try.ntmps49
       try go_wp2_with (first | ((with_reducible refine gate_dst (N := 3) rfl ?_); refine bE 3 (cs := #[.int .i64 a1_0, .slice A1_1 l1_1.length c1_1]) (t := 35) ?_; intro gb239 hg w10 hbox hb; have BK239 := aM (hbox); have GW239 := aM ((by rw [hg]; exact (below_size aB) : w.heap.size ≤ gb239)); have GE239 := aM ((by rw [hg]; exact (below_size aB) : w.heap.size ≤ gb239)); replace HB := aM (below_step aB hb); clear hb hbox hg; have hcz11_0 : w10.cell? ⟨gb239, 0, none⟩ = some (.int .i64 a1_0) := (blk_cell BK239.out 0).trans rfl; have hcz11_1 : w10.cell? ⟨gb239, 1, none⟩ = some (.slice A1_1 l1_1.length c1_1) := (blk_cell BK239.out 1).trans rfl; have hfz11_0 := blk_frozen BK239.out 0; have hfz11_1 := blk_frozen BK239.out 1) | ((with_reducible refine gate_callee (f := 45) rfl ?_); refine goesL_ (some 7) rfl rfl Try.func45 (by kernel_rfl) rfl #[.slice A0 l0.length c0, .agg #[.int .i64 a1_0, .slice A1_1 l1_1.length c1_1]] rfl aA ?_; (with_reducible refine (spec_IsValidFact.calls k _ _ l0 a1_0 _ _ l1_1 true _ ?side1 ?side2 ?side3 ?side4 A3.out).mono ?_); (case side1 => exact aC); (case side2 => exact HC0.out); (case side3 => exact aC); (case side4 => exact HC1_1.out); rintro e w12 ⟨rfl, hb⟩; refine ⟨_, rfl, ?_⟩; replace BK239 := aM (kB gb239 #[.int .i64 a1_0, .slice A1_1 l1_1.length c1_1] 35 hb); replace HB := aM (below_step aG hb); (try clear hb); (try clear hb2); (try clear hk); (try clear hi)))
       replace BK239 := aM (blk_drew BK239.out)
       replace HB := aM (below_drew1 HB.out)
       have p244 : 0 ≤ (a1_0 : Int) := aD
       have q244 : a1_0 < (l0.length : Int) := aD
       obtain ⟨ad244, e244, hx244_0, hx244_1, hx244_2⟩ := at_T70 HR0.out a1_0 p244 q244
       have hw244_2 := hx244_2
       have hw244_1 := hx244_1
       have hw244_0 := hx244_0
       cases e244
       replace hx244_0 := (HB.out.cell (World.block_lt_of_cell? w _ hx244_0)).trans hx244_0
       replace hx244_1 := (HB.out.cell (World.block_lt_of_cell? w _ hx244_1)).trans hx244_1
       replace hx244_2 := (HB.out.cell (World.block_lt_of_cell? w _ hx244_2)).trans hx244_2
       replace p244 := eq_true p244
       replace q244 := eq_true q244
       obtain ⟨i014, hi014, _, hsz14, _⟩ := info_parts info3
       obtain ⟨hcut14, hA14, hC14⟩ := print_take_of (P := Try.prog) (Value.int .i64) 0 32 3 .i64 Try.underlying32 hi014 hsz14 A1_1 c1_1 l1_1 ((rd_T70 l0 a1_0).f2) (aD) (aD) HC1_1.out
       have HR245 := aM (Kd.C_of_reads (h1 := fun _ => rfl) (hA14 _ (Kd.reads_of_C HR1_1.out)))
       have HC245 := aM hC14
       clear hA14 hC14 hi014 hsz14
       refine start_ (n := 12) (S := fun w' => w'.cell? ⟨gb239, 0, none⟩ = some (.int .i64 a1_0) ∧ w'.cell? ⟨gb239, 1, none⟩ = some (.slice A1_1 l1_1.length c1_1) ∧ w'.cell? (ad244.add ((a1_0).toNat * 3)) = some (.string ((rd_T70 l0 a1_0).f0)) ∧ w'.cell? ⟨(ad244.add ((a1_0).toNat * 3)).block, (ad244.add ((a1_0).toNat * 3)).off + 1, none⟩ = some (.int .i64 ((rd_T70 l0 a1_0).f1)) ∧ w'.cell? ⟨(ad244.add ((a1_0).toNat * 3)).block, (ad244.add ((a1_0).toNat * 3)).off + 2, none⟩ = some (.int .i64 ((rd_T70 l0 a1_0).f2))) (ds := []) #[false, false, false, false, false, false, false, false, false, false, false, false] (by kernel_rfl) rfl rfl ⟨(blk_cell BK239.out 0).trans rfl, (blk_cell BK239.out 1).trans rfl, (pw_cell_below HB.out hw244_0), (pw_cell_below HB.out hw244_1), (pw_cell_below HB.out hw244_2)⟩ (fun hHeld => ?_); refine with_tabW spec_KeyOf.tab3 spec_KeyOf.bits3 (fun HT_ HW_ => ?_)
       generalize w12.drew = w13 at BK239 HB HR245 hx244_0 hx244_1 hx244_2 hHeld ⊢
       refine pU 1 11 ?_
       refine pU 3 13 ?_
       refine pU 4 14 ?_
       refine tU5 2 12 hHeld ?_
       refine tU5 5 15 hHeld ?_
       refine pU 6 16 ?_
       refine pU 7 17 ?_
       refine tU5 8 18 hHeld ?_
       refine pU 9 19 ?_
       refine oU 0 10 (fun K hK => ?_)
       refine Kd.R_lit_step (Kd.int .i64) _ 3 ?hg (N := 10) ?hd (xs := ([] : List Int)) (inner := []) (ok := fun _ => True) (okp := fun _ => True) ?hr ?hp (fun _ hk => hk) trivial (Below.refl _ _) (Nat.le_refl _) (by simp) ?_; (case hd => rfl); (case hg => rfl); (case hr => first | (go_simp; done) | (go_simp; rfl)); (case hp => exact (Reps.none _ _))
       intro v242 w15 ho16 hb hg_ hnew_
       clear hg_ hnew_
       (first | rw [← Ny241.out] at ho16 | (simp only [Int.reduceToNat] at ho16; rw [← Ny241.out] at ho16))
       have HO243 := aM (Kd.R_lower ho16 (below_size aG))
       replace BK239 := aM (kB gb239 #[.int .i64 a1_0, .slice A1_1 l1_1.length c1_1] 35 hb)
       replace HB := aM (below_step aG hb)
       clear hb ho16
       refine hK.out _ _ ⟨(blk_cell BK239.out 0).trans rfl, (blk_cell BK239.out 1).trans rfl, (pw_cell_below HB.out hw244_0), (pw_cell_below HB.out hw244_1), (pw_cell_below HB.out hw244_2)⟩ (fun hHeld => ?_)
       clear hK K
       refine nU 10 ?_
       refine oU 10 20 (fun K hK => ?_)
       refine Kd.R_append_rows_step (Kd.int .i64) (w0 := w) w.heap.size (by rfl) (.tmp 10) (.tmp 19) 32 3 (.int .i64 0) 8 rfl Try.underlying32 info3 rfl (by decide) (by omega) v242 y241 (l1_1.take (((rd_T70 l0 a1_0).f2) : Int).toNat) _ _ _ (fun _ => True) (fun _ => False) rfl rfl ?aO ?aR (fun _ _ h => h) (fun _ h => h.elim) ?aF ?aB ?aS ?aL ?_
       (case aR => first | (rw (occs := .pos [1]) [← show (l1_1.take (((rd_T70 l0 a1_0).f2) : Int).toNat).length = ((rd_T70 l0 a1_0).f2).toNat from (by rw [List.length_take]; have h_ : (((rd_T70 l0 a1_0).f2) : Int) ≤ (l1_1.length : Int) := aD; omega)]; repeat (first | exact (Kd.C_below HR245.out HB.out) | (with_reducible refine pC ?_)); done) | (rw (occs := .pos [2]) [← show (l1_1.take (((rd_T70 l0 a1_0).f2) : Int).toNat).length = ((rd_T70 l0 a1_0).f2).toNat from (by rw [List.length_take]; have h_ : (((rd_T70 l0 a1_0).f2) : Int) ≤ (l1_1.length : Int) := aD; omega)]; repeat (first | exact (Kd.C_below HR245.out HB.out) | (with_reducible refine pC ?_)); done) | (rw [← show (l1_1.take (((rd_T70 l0 a1_0).f2) : Int).toNat).length = ((rd_T70 l0 a1_0).f2).toNat from (by rw [List.length_take]; have h_ : (((rd_T70 l0 a1_0).f2) : Int) ≤ (l1_1.length : Int) := aD; omega)]; repeat (first | exact (Kd.C_below HR245.out HB.out) | (with_reducible refine pC ?_)); done) | (exact aC))
       (case aB => exact aG)
       (case aF => exact (fun _ _ => trivial))
       (case aO => exact (aR HO243))
       (case aS => exact (below_size aG))
       (case aL => have := LMc9.out; have hlx_ := (show (l1_1.take (((rd_T70 l0 a1_0).f2) : Int).toNat).length = ((rd_T70 l0 a1_0).f2).toNat from (by rw [List.length_take]; have h_ : (((rd_T70 l0 a1_0).f2) : Int) ≤ (l1_1.length : Int) := aD; omega)); omega)
       intro v247 w17 ho hb hg hat
       rw [← Ny246.out] at ho
       have HO248 := aM (ho)
       replace BK239 := aM (blk_grown (g := gb239) (o := .cells #[.int .i64 a1_0, .slice A1_1 l1_1.length c1_1] 35 (0, 0)) aK hg (Kd.R_ne HO243.out BK239.out (by decide)))
       replace HB := aM (hb)
       clear HO243
       clear ho hb hg hat
       refine hK.out _ _ ⟨(blk_cell BK239.out 0).trans rfl, (blk_cell BK239.out 1).trans rfl, (pw_cell_below HB.out hw244_0), (pw_cell_below HB.out hw244_1), (pw_cell_below HB.out hw244_2)⟩ (fun hHeld => ?_)
       clear hK K
       refine nU 20 ?_
       refine pU 11 4 ?_
       refine done_ (done_of HT_.out (by kernel_rfl)) ?_
       try go_wp2
       go_ret
       exact ⟨_, aE, aR HO248, aG⟩
      ·rw [if_neg c9] at H
       exact absurd H (by simp)
     ·rw [if_neg c8] at H
      exact absurd H (by simp)
    ·rw [if_neg c7] at H
     exact absurd H (by simp)
   ·rw [if_neg c6] at H
    exact absurd H (by simp)
  ·rw [if_neg c5] at H
   exact absurd H (by simp)
 ·replace c4 := Bool.eq_false_iff.mpr c4
  subst c4
  have H1 : (some (([] : List Int))) = some r := by rw [if_neg (show ¬ (false = true) by decide)] at H; exact H
  clear H
  have H := H1
  clear H1
  obtain ⟨y249, hy249⟩ : ∃ y_ : List Int, y_ = (([] : List Int)) := ⟨_, rfl⟩
  first | replace H := bY hy249 H | rw [← hy249] at H
  have Ny249 := aM hy249
  clear hy249
  obtain rfl := Option.some.inj H
  go_enter Try.func49, Try.ntmps49
  go_wp2_with (first | ((with_reducible refine gate_dst (N := 3) rfl ?_); refine bE 3 (cs := #[.int .i64 a1_0, .slice A1_1 l1_1.length c1_1]) (t := 35) ?_; intro gb239 hg w18 hbox hb; have BK239 := aM (hbox); have GW239 := aM ((by rw [hg]; exact (below_size aB) : w.heap.size ≤ gb239)); have GE239 := aM ((by rw [hg]; exact (below_size aB) : w.heap.size ≤ gb239)); replace HB := aM (below_step aB hb); clear hb hbox hg; have hcz19_0 : w18.cell? ⟨gb239, 0, none⟩ = some (.int .i64 a1_0) := (blk_cell BK239.out 0).trans rfl; have hcz19_1 : w18.cell? ⟨gb239, 1, none⟩ = some (.slice A1_1 l1_1.length c1_1) := (blk_cell BK239.out 1).trans rfl; have hfz19_0 := blk_frozen BK239.out 0; have hfz19_1 := blk_frozen BK239.out 1) | ((with_reducible refine gate_callee (f := 45) rfl ?_); refine goesL_ (some 7) rfl rfl Try.func45 (by kernel_rfl) rfl #[.slice A0 l0.length c0, .agg #[.int .i64 a1_0, .slice A1_1 l1_1.length c1_1]] rfl aA ?_; (with_reducible refine (spec_IsValidFact.calls k _ _ l0 a1_0 _ _ l1_1 false _ ?side1 ?side2 ?side3 ?side4 A3.out).mono ?_); (case side1 => exact aC); (case side2 => exact HC0.out); (case side3 => exact aC); (case side4 => exact HC1_1.out); rintro e w20 ⟨rfl, hb⟩; refine ⟨_, rfl, ?_⟩; replace BK239 := aM (kB gb239 #[.int .i64 a1_0, .slice A1_1 l1_1.length c1_1] 35 hb); replace HB := aM (below_step aG hb); (try clear hb); (try clear hb2); (try clear hk); (try clear hi)) | ((with_reducible refine gate_dst (N := 9) rfl ?_); refine Kd.R_lit (Kd.int .i64) _ 3 ?hg (N := 9) ?hd (xs := ([] : List Int)) (inner := []) (ok := fun _ => True) (okp := fun _ => True) ?hr ?hp (fun _ hk => hk) trivial (Below.refl _ _) (Nat.le_refl _) (by simp) ?_; (case hd => rfl); (case hg => rfl); (case hr => first | (go_simp; done) | (go_simp; rfl)); (case hp => exact (Reps.none _ _)); intro v250 w21 ho22 hb hg_ hnew_; clear hg_ hnew_; (first | rw [← Ny249.out] at ho22 | (simp only [Int.reduceToNat] at ho22; rw [← Ny249.out] at ho22)); have HO251 := aM (Kd.R_lower ho22 (below_size aG)); replace BK239 := aM (kB gb239 #[.int .i64 a1_0, .slice A1_1 l1_1.length c1_1] 35 hb); replace HB := aM (below_step aG hb); clear hb ho22))
  go_ret
  exact ⟨_, aE, aR HO251, aG⟩

/-! ### spec_HaveSameKey: function 11 -/
def spec_HaveSameKey.f (k : Nat) (l0 : List (S70)) (a1_0 : Int) (l1_1 : List Int) (a2_0 : Int) (l2_1 : List Int) : Option (Bool) := (spec_IsValidFact.f k l0 a1_0 l1_1).bind fun t254 => (if t254 = true then ((spec_IsValidFact.f k l0 a2_0 l2_1).bind fun t255 => (if t255 = true then (if a1_0 = a2_0 then ((spec_KeyOf.f k l0 a1_0 l1_1).bind fun t256 => ((spec_KeyOf.f k l0 a2_0 l2_1).bind fun t259 => ((spec_l3Ints.f k t256 t259).bind fun t262 => (some (t262 == 0))))) else (some false)) else (some false))) else (some false))
set_option maxHeartbeats 8000000 in
set_option maxRecDepth 100000 in
theorem spec_HaveSameKey.calls (k : Nat) (A0 : Option Addr) (c0 : Nat) (l0 : List (S70)) (a1_0 : Int) (A1_1 : Option Addr) (c1_1 : Nat) (l1_1 : List Int) (a2_0 : Int) (A2_1 : Option Addr) (c2_1 : Nat) (l2_1 : List Int) (r : Bool) (w : World) (hr0 : Kd.C k70 w A0 l0.length l0) (hc0 : l0.length ≤ c0) (hr1_1 : Kd.C (Kd.int .i64) w A1_1 l1_1.length l1_1) (hc1_1 : l1_1.length ≤ c1_1) (hr2_1 : Kd.C (Kd.int .i64) w A2_1 l2_1.length l2_1) (hc2_1 : l2_1.length ≤ c2_1) (h : spec_HaveSameKey.f k l0 a1_0 l1_1 a2_0 l2_1 = some r) :
  Calls Try.prog 11 #[.slice A0 l0.length c0, .agg #[.int .i64 a1_0, .slice A1_1 l1_1.length c1_1], .agg #[.int .i64 a2_0, .slice A2_1 l2_1.length c2_1]] w fun e w' => e = .returned (.bool r) ∧ Below w.heap.size w w' := by
 have hu35 := Try.underlying35
 obtain ⟨W, hW⟩ : ∃ W, (w.alloc (.cells #[.int .i64 a1_0, .slice A1_1 l1_1.length c1_1] 35)).alloc (.cells #[.int .i64 a2_0, .slice A2_1 l2_1.length c2_1] 35) = W := ⟨_, rfl⟩
 have q0 := qa (w := W) (p := ⟨w.heap.size, 0, none⟩) (v := .int .i64 a1_0) (by subst hW; go_simp)
 have q1 := qa (w := W) (p := ⟨w.heap.size, 1, none⟩) (v := .slice A1_1 l1_1.length c1_1) (by subst hW; go_simp)
 have q2 := qa (w := W) (p := ⟨w.heap.size + 1, 0, none⟩) (v := .int .i64 a2_0) (by subst hW; go_simp)
 have q3 := qa (w := W) (p := ⟨w.heap.size + 1, 1, none⟩) (v := .slice A2_1 l2_1.length c2_1) (by subst hW; go_simp)
 have HB : Below w.heap.size w W := by subst hW; exact zB
 have HW := Below.refl W.heap.size W
 have hb := aM HB
 have rg_ := @bcl w
 have rd_ := @bdr w
 have rG_ := @bcl W
 have rD_ := @bdr W
 unfold spec_HaveSameKey.f at h
 replace h := bs h; obtain ⟨t254, B0, h⟩ := h
 replace h := ib h; rcases h with ⟨rfl, h⟩ | ⟨rfl, h⟩
 replace h := bs h; obtain ⟨t255, B2, h⟩ := h
 replace h := ib h; rcases h with ⟨rfl, h⟩ | ⟨rfl, h⟩
 replace h := iq h; rcases h with ⟨c4, ⟨c4a, c4b⟩, h⟩ | ⟨c4, ⟨c4a, c4b⟩, h⟩
 replace h := bs h; obtain ⟨t256, B5, h⟩ := h
 replace h := bs h; obtain ⟨t259, B6, h⟩ := h
 replace h := bs h; obtain ⟨t262, B7, h⟩ := h
 obtain rfl := si h
 rotate_left
 obtain rfl := si h
 rotate_left
 obtain rfl := si h
 rotate_left
 obtain rfl := si h
 rotate_left
 all_goals (go_enter Try.func11, Try.ntmps11; go_wp2; (repeat ((refine nw (w0 := w) zB ?_; intro W1 HB hb hd; have HW : Below W.heap.size W W1 := zB; (first | (refine Txt.rg (id := 1) [0, 1, 2, 3, 4, 5, 6, 7, 8, 9, 10, 11, 12, 13, 14, 15, 16, 17, 19, 20, 18, 21, 22, 23, 24, 25] (by kernel_rfl) (by kernel_rfl) ?_; simp only [List.map_cons, List.map_nil, List.getD_cons_zero, List.getD_cons_succ])); (repeat (first | (refine Txt.off rfl ?_; simp only [Act.put, List.setIfInBounds_toArray, List.set_cons_zero, List.set_cons_succ]) | (refine Txt.take rfl rfl ?_; intro K hK; go_big_quiet_op; go_big_quiet_on) | (refine Txt.call rfl rfl Try.func45 (by kernel_rfl) rfl (spec_IsValidFact.calls ?_ _ _ _ _ _ _ _ ?_ _ ?_ ?_ ?_ ?_ ?h) rfl ?_; (case h => exact zA); (iterate 4 (first | exact zC | exact zA)); rintro e w1 ⟨rfl, hb⟩; replace hb := aM hb; have HW : Below W.heap.size W w1 := zB; have HB : Below w.heap.size w w1 := zB; refine ⟨_, rfl, zS, ?_⟩; simp only [Act.put, List.setIfInBounds_toArray, List.set_cons_zero, List.set_cons_succ]) | (refine Txt.call rfl rfl Try.func49 (by kernel_rfl) rfl (spec_KeyOf.calls ?_ _ _ _ _ _ _ _ ?_ _ ?_ ?_ ?_ ?_ ?h) rfl ?_; (case h => exact zA); (iterate 4 (first | exact zC | exact zA)); rintro e w1 ⟨v0, rfl, ho0, hb⟩; obtain ⟨A0, c0, rfl, hc0, hC0⟩ := Kd.R_reads ho0; replace hb := aM hb; have HW : Below W.heap.size W w1 := zB; have HB : Below w.heap.size w w1 := zB; refine ⟨_, rfl, zS, ?_⟩; simp only [Act.put, List.setIfInBounds_toArray, List.set_cons_zero, List.set_cons_succ]) | (refine Txt.call rfl rfl Try.func48 (by kernel_rfl) rfl (spec_l3Ints.calls ?_ _ _ _ _ _ _ ?_ _ ?_ ?_ ?_ ?_ ?h) rfl ?_; (case h => exact zA); (iterate 4 (first | exact zC | exact zA)); rintro e w1 ⟨rfl, hb⟩; replace hb := hb.below; replace hb := aM hb; have HW : Below W.heap.size W w1 := zB; have HB : Below w.heap.size w w1 := zB; refine ⟨_, rfl, zS, ?_⟩; simp only [Act.put, List.setIfInBounds_toArray, List.set_cons_zero, List.set_cons_succ]))); refine Txt.nil ?_); (try go_wp2))); go_ret; exact zE zB)

end Go.Proofs.Ytbdeimhlohhhiaa.PFnRepairEnumeration
