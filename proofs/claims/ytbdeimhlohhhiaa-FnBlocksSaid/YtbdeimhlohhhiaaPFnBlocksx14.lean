-- Laid by a program of this claim: what the functions come to, some of them proved by hand.
import Derived.Test.YtbdeimhlohhhiaaPFnBlocksx0
import Derived.Test.YtbdeimhlohhhiaaPFnBlocksx2
import Derived.Test.YtbdeimhlohhhiaaPFnBlocksx11
import Derived.Test.YtbdeimhlohhhiaaPFnBlocksx13
namespace Go.Proofs.Ytbdeimhlohhhiaa.PFnBlocks
open Go.RowKit Go.Proofs.YtbdeimhlohhhiaaW.PrintWords Go.Proofs.YtbdeimhlohhhiaaW.PrintLast Go.Proofs.YtbdeimhlohhhiaaW.PrintMore
attribute [local go_sem] max2_int min2_int max_two min_two max_three min_three max_four min_four   -- for this text's walks alone
set_option linter.unusedVariables false
set_option linter.unusedSimpArgs false

/-! ### impl_Blocks: function 9 -/
def impl_Blocks.f (k : Nat) (l0_0 : List (S70)) (l0_1 : List (S35)) : Option ((List (List Int))) := (impl_IsValidDatabase.f l0_0 l0_1).bind fun t442 => (if t442 = true then ((impl_blocks.f k l0_0 l0_1).bind fun t443 => (some t443)) else (some ([] : List (List Int))))
set_option maxHeartbeats 8000000 in
set_option maxRecDepth 100000 in
theorem impl_Blocks.calls (k : Nat) (A0_0 : Option Addr) (c0_0 : Nat) (l0_0 : List (S70)) (A0_1 : Option Addr) (c0_1 : Nat) (l0_1 : List (S35)) (r : List (List Int)) (w : World) (hr0_0 : Kd.C k70 w A0_0 l0_0.length l0_0) (hc0_0 : l0_0.length ≤ c0_0) (hr0_1 : Kd.C k35 w A0_1 l0_1.length l0_1) (hc0_1 : l0_1.length ≤ c0_1) (h : impl_Blocks.f k l0_0 l0_1 = some r) :
  Calls Try.prog 9 #[.agg #[.slice A0_0 l0_0.length c0_0, .slice A0_1 l0_1.length c0_1]] w fun e w' => ∃ v0_ : Value, e = .returned (v0_) ∧ Kd.S (Kd.slice 3 (Kd.int .i64)) 32 w' w.heap.size (fun _ => True) v0_ r ∧ Below w.heap.size w w' := by
 have hu27 := Try.underlying27
 have HR0_0 := aM hr0_0
 have HC0_0 := aM hc0_0
 clear hr0_0 hc0_0
 have HR0_1 := aM hr0_1
 have HC0_1 := aM hc0_1
 clear hr0_1 hc0_1
 have HB := aM (Below.refl w.heap.size w)
 have H : ((impl_IsValidDatabase.f l0_0 l0_1).bind fun t442 => (if t442 = true then ((impl_blocks.f k l0_0 l0_1).bind fun t443 => (some t443)) else (some ([] : List (List Int))))) = some r := h
 clear h
 replace H := bM H
 obtain ⟨t442, A20, H⟩ := H
 have A2 := aM A20
 clear A20
 by_cases c3 : t442 = true
 ·subst c3
  replace H := iT H
  replace H := bM H
  obtain ⟨t443, A40, H⟩ := H
  have A4 := aM A40
  clear A40
  obtain rfl := Option.some.inj H
  go_enter Try.func9, Try.ntmps9
  go_wp2_with (first | ((with_reducible refine gate_dst (N := 1) rfl ?_); refine bE 1 (cs := #[.slice A0_0 l0_0.length c0_0, .slice A0_1 l0_1.length c0_1]) (t := 27) ?_; intro gb441 hg w5 hbox hb; have BK441 := aM (hbox); have GW441 := aM ((by rw [hg]; exact (below_size aB) : w.heap.size ≤ gb441)); have GE441 := aM ((by rw [hg]; exact (below_size aB) : w.heap.size ≤ gb441)); replace HB := aM (below_step aB hb); clear hb hbox hg; have hcz6_0 : w5.cell? ⟨gb441, 0, none⟩ = some (.slice A0_0 l0_0.length c0_0) := (blk_cell BK441.out 0).trans rfl; have hcz6_1 : w5.cell? ⟨gb441, 1, none⟩ = some (.slice A0_1 l0_1.length c0_1) := (blk_cell BK441.out 1).trans rfl; have hfz6_0 := blk_frozen BK441.out 0; have hfz6_1 := blk_frozen BK441.out 1) | ((with_reducible refine gate_callee (f := 20) rfl ?_); refine goesL_ (some 4) rfl rfl Try.func20 (by kernel_rfl) rfl #[.agg #[.slice A0_0 l0_0.length c0_0, .slice A0_1 l0_1.length c0_1]] rfl aA ?_; (with_reducible refine (impl_IsValidDatabase.calls _ _ l0_0 _ _ l0_1 true _ ?side1 ?side2 ?side3 ?side4 A2.out).mono ?_); (case side1 => exact aC); (case side2 => exact HC0_0.out); (case side3 => exact aC); (case side4 => exact HC0_1.out); rintro e w7 ⟨rfl, hb⟩; refine ⟨_, rfl, ?_⟩; replace BK441 := aM (blk_below (g := gb441) (o := .cells #[.slice A0_0 l0_0.length c0_0, .slice A0_1 l0_1.length c0_1] 27 (0, 0)) aK hb); replace HB := aM (below_step aG hb); (try clear hb); (try clear hb2); (try clear hk); (try clear hi); have hcz8_0 : w7.cell? ⟨gb441, 0, none⟩ = some (.slice A0_0 l0_0.length c0_0) := (blk_cell BK441.out 0).trans rfl; have hcz8_1 : w7.cell? ⟨gb441, 1, none⟩ = some (.slice A0_1 l0_1.length c0_1) := (blk_cell BK441.out 1).trans rfl; have hfz8_0 := blk_frozen BK441.out 0; have hfz8_1 := blk_frozen BK441.out 1) | ((with_reducible refine gate_callee (f := 44) rfl ?_); refine goesL_ (some 7) rfl rfl Try.func44 (by kernel_rfl) rfl #[.agg #[.slice A0_0 l0_0.length c0_0, .slice A0_1 l0_1.length c0_1]] rfl aA ?_; (with_reducible refine (impl_blocks.calls k _ _ l0_0 _ _ l0_1 t443 _ ?side1 ?side2 ?side3 ?side4 A4.out).mono ?_); (case side1 => exact aC); (case side2 => exact HC0_0.out); (case side3 => exact aC); (case side4 => exact HC0_1.out); rintro e w9 ⟨v444, rfl, ho0, hb⟩; refine ⟨_, rfl, ?_⟩; have HO445 := aM (Kd.S_lower ho0 (below_size aG)); replace BK441 := aM (blk_below (g := gb441) (o := .cells #[.slice A0_0 l0_0.length c0_0, .slice A0_1 l0_1.length c0_1] 27 (0, 0)) aK hb); replace HB := aM (below_step aG hb); (try clear hb); (try clear hb2); (try clear hk); (try clear hi); (try clear ho0)))
  go_ret
  exact ⟨_, aE, aS HO445, aG⟩
 ·replace c3 := Bool.eq_false_iff.mpr c3
  subst c3
  have H1 : (some ([] : List (List Int))) = some r := by rw [if_neg (show ¬ (false = true) by decide)] at H; exact H
  clear H
  have H := H1
  clear H1
  obtain rfl := Option.some.inj H
  go_enter Try.func9, Try.ntmps9
  go_wp2_with (first | ((with_reducible refine gate_dst (N := 1) rfl ?_); refine bE 1 (cs := #[.slice A0_0 l0_0.length c0_0, .slice A0_1 l0_1.length c0_1]) (t := 27) ?_; intro gb441 hg w10 hbox hb; have BK441 := aM (hbox); have GW441 := aM ((by rw [hg]; exact (below_size aB) : w.heap.size ≤ gb441)); have GE441 := aM ((by rw [hg]; exact (below_size aB) : w.heap.size ≤ gb441)); replace HB := aM (below_step aB hb); clear hb hbox hg; have hcz11_0 : w10.cell? ⟨gb441, 0, none⟩ = some (.slice A0_0 l0_0.length c0_0) := (blk_cell BK441.out 0).trans rfl; have hcz11_1 : w10.cell? ⟨gb441, 1, none⟩ = some (.slice A0_1 l0_1.length c0_1) := (blk_cell BK441.out 1).trans rfl; have hfz11_0 := blk_frozen BK441.out 0; have hfz11_1 := blk_frozen BK441.out 1) | ((with_reducible refine gate_callee (f := 20) rfl ?_); refine goesL_ (some 4) rfl rfl Try.func20 (by kernel_rfl) rfl #[.agg #[.slice A0_0 l0_0.length c0_0, .slice A0_1 l0_1.length c0_1]] rfl aA ?_; (with_reducible refine (impl_IsValidDatabase.calls _ _ l0_0 _ _ l0_1 false _ ?side1 ?side2 ?side3 ?side4 A2.out).mono ?_); (case side1 => exact aC); (case side2 => exact HC0_0.out); (case side3 => exact aC); (case side4 => exact HC0_1.out); rintro e w12 ⟨rfl, hb⟩; refine ⟨_, rfl, ?_⟩; replace BK441 := aM (blk_below (g := gb441) (o := .cells #[.slice A0_0 l0_0.length c0_0, .slice A0_1 l0_1.length c0_1] 27 (0, 0)) aK hb); replace HB := aM (below_step aG hb); (try clear hb); (try clear hb2); (try clear hk); (try clear hi)))
  go_ret
  exact ⟨_, aE, by first | exact Kd.S_nil _ _ _ _ _ | exact Kd.N_nil _ _ _ _ _ | exact Kd.V_nil _ _ _ _ _ | exact Kd.Q_nil _ _ _ _ _ | exact Kd.R_nil _ _ _ _ _, aG⟩

/-! ### spec_KeyOf: function 49 -/
def spec_KeyOf.f (k : Nat) (l0 : List (S70)) (a1_0 : Int) (l1_1 : List Int) : Option (List Int) := (spec_IsValidFact.f k l0 a1_0 l1_1).bind fun t447 => (if t447 = true then ((some (([] : List Int) : List Int)).bind fun y448 => (if 0 ≤ a1_0 then (if a1_0 < (l0.length : Int) then (if 0 ≤ ((rd_T70 l0 a1_0).f2) then (if ((rd_T70 l0 a1_0).f2) ≤ (l1_1.length : Int) then (if y448.length + (l1_1.take (((rd_T70 l0 a1_0).f2) : Int).toNat).length < 17592186044416 then (some (y448 ++ (l1_1.take (((rd_T70 l0 a1_0).f2) : Int).toNat))) else (none)) else (none)) else (none)) else (none)) else (none))) else (some (([] : List Int))))
def spec_KeyOf.T3 : Bool × List (List Nat × List Nat) := (true, [([], []), ([], []), ([1], [1]), ([], []), ([], []), ([4], [4]), ([3, 5], [3, 5]), ([6], [6]), ([7], [7]), ([2, 8], [2, 8]), ([0, 9], [0, 9]), ([10, 10, 0, 1, 2, 3, 4, 5, 6, 7, 8, 9, 10], [10])])
def spec_KeyOf.B3 : List Nat := [0, 0, 2, 0, 0, 16, 56, 120, 248, 510, 1023, 2047]
theorem spec_KeyOf.tab3 : rtab .any (opsOf Try.f49 3) = spec_KeyOf.T3 := by kernel_rfl
theorem spec_KeyOf.bits3 : waitsOk spec_KeyOf.T3.2 spec_KeyOf.B3 = true := by kernel_rfl
set_option maxHeartbeats 8000000 in
set_option maxRecDepth 100000 in
theorem spec_KeyOf.calls (k : Nat) (A0 : Option Addr) (c0 : Nat) (l0 : List (S70)) (a1_0 : Int) (A1_1 : Option Addr) (c1_1 : Nat) (l1_1 : List Int) (r : List Int) (w : World) (hr0 : Kd.C k70 w A0 l0.length l0) (hc0 : l0.length ≤ c0) (hr1_1 : Kd.C (Kd.int .i64) w A1_1 l1_1.length l1_1) (hc1_1 : l1_1.length ≤ c1_1) (h : spec_KeyOf.f k l0 a1_0 l1_1 = some r) :
  Calls Try.prog 49 #[.slice A0 l0.length c0, .agg #[.int .i64 a1_0, .slice A1_1 l1_1.length c1_1]] w fun e w' => ∃ v0_ : Value, e = .returned (v0_) ∧ Kd.R (Kd.int .i64) 3 w' w.heap.size (fun _ => True) v0_ r ∧ Below w.heap.size w w' := by
 have hu35 := Try.underlying35
 have HR0 := aM hr0
 have HC0 := aM hc0
 clear hr0 hc0
 have HR1_1 := aM hr1_1
 have HC1_1 := aM hc1_1
 clear hr1_1 hc1_1
 have HB := aM (Below.refl w.heap.size w)
 have H : ((spec_IsValidFact.f k l0 a1_0 l1_1).bind fun t447 => (if t447 = true then ((some (([] : List Int) : List Int)).bind fun y448 => (if 0 ≤ a1_0 then (if a1_0 < (l0.length : Int) then (if 0 ≤ ((rd_T70 l0 a1_0).f2) then (if ((rd_T70 l0 a1_0).f2) ≤ (l1_1.length : Int) then (if y448.length + (l1_1.take (((rd_T70 l0 a1_0).f2) : Int).toNat).length < 17592186044416 then (some (y448 ++ (l1_1.take (((rd_T70 l0 a1_0).f2) : Int).toNat))) else (none)) else (none)) else (none)) else (none)) else (none))) else (some (([] : List Int))))) = some r := h
 clear h
 replace H := bM H
 obtain ⟨t447, A30, H⟩ := H
 have A3 := aM A30
 clear A30
 by_cases c4 : t447 = true
 ·subst c4
  replace H := iT H
  obtain ⟨y448, hy448⟩ : ∃ y_ : List Int, y_ = (([] : List Int)) := ⟨_, rfl⟩
  first | replace H := bY hy448 H | rw [← hy448] at H
  have Ny448 := aM hy448
  clear hy448
  by_cases c5 : 0 ≤ a1_0
  ·rw [if_pos c5] at H
   have c5b0 : decide (0 ≤ a1_0) = true := decide_eq_true c5
   clear c5
   by_cases c6 : a1_0 < (l0.length : Int)
   ·rw [if_pos c6] at H
    have c6b0 : decide (a1_0 < (l0.length : Int)) = true := decide_eq_true c6
    clear c6
    by_cases c7 : 0 ≤ ((rd_T70 l0 a1_0).f2)
    ·rw [if_pos c7] at H
     have c7b0 := eq_true c7
     have c7b1 : decide (0 ≤ ((rd_T70 l0 a1_0).f2)) = true := decide_eq_true c7
     clear c7
     by_cases c8 : ((rd_T70 l0 a1_0).f2) ≤ (l1_1.length : Int)
     ·rw [if_pos c8] at H
      have c8b0 := eq_true c8
      have c8b1 : decide (((rd_T70 l0 a1_0).f2) ≤ (l1_1.length : Int)) = true := decide_eq_true c8
      clear c8
      by_cases c9 : y448.length + (l1_1.take (((rd_T70 l0 a1_0).f2) : Int).toNat).length < 17592186044416
      ·rw [if_pos c9] at H
       have LMc9 := aM c9
       clear c9
       obtain ⟨y453, hy453⟩ : ∃ y_ : List Int, y_ = (y448 ++ (l1_1.take (((rd_T70 l0 a1_0).f2) : Int).toNat)) := ⟨_, rfl⟩
       first | replace H := bY hy453 H | rw [← hy453] at H
       have Ny453 := aM hy453
       clear hy453
       obtain rfl := Option.some.inj H
       go_enter Try.func49, Try.ntmps49
       try go_wp2_with (first | ((with_reducible refine gate_dst (N := 3) rfl ?_); refine bE 3 (cs := #[.int .i64 a1_0, .slice A1_1 l1_1.length c1_1]) (t := 35) ?_; intro gb446 hg w10 hbox hb; have BK446 := aM (hbox); have GW446 := aM ((by rw [hg]; exact (below_size aB) : w.heap.size ≤ gb446)); have GE446 := aM ((by rw [hg]; exact (below_size aB) : w.heap.size ≤ gb446)); replace HB := aM (below_step aB hb); clear hb hbox hg; have hcz11_0 : w10.cell? ⟨gb446, 0, none⟩ = some (.int .i64 a1_0) := (blk_cell BK446.out 0).trans rfl; have hcz11_1 : w10.cell? ⟨gb446, 1, none⟩ = some (.slice A1_1 l1_1.length c1_1) := (blk_cell BK446.out 1).trans rfl; have hfz11_0 := blk_frozen BK446.out 0; have hfz11_1 := blk_frozen BK446.out 1) | ((with_reducible refine gate_callee (f := 45) rfl ?_); refine goesL_ (some 7) rfl rfl Try.func45 (by kernel_rfl) rfl #[.slice A0 l0.length c0, .agg #[.int .i64 a1_0, .slice A1_1 l1_1.length c1_1]] rfl aA ?_; (with_reducible refine (spec_IsValidFact.calls k _ _ l0 a1_0 _ _ l1_1 true _ ?side1 ?side2 ?side3 ?side4 A3.out).mono ?_); (case side1 => exact aC); (case side2 => exact HC0.out); (case side3 => exact aC); (case side4 => exact HC1_1.out); rintro e w12 ⟨rfl, hb⟩; refine ⟨_, rfl, ?_⟩; replace BK446 := aM (blk_below (g := gb446) (o := .cells #[.int .i64 a1_0, .slice A1_1 l1_1.length c1_1] 35 (0, 0)) aK hb); replace HB := aM (below_step aG hb); (try clear hb); (try clear hb2); (try clear hk); (try clear hi)))
       replace BK446 := aM (blk_drew BK446.out)
       replace HB := aM (below_drew1 HB.out)
       have p451 : 0 ≤ (a1_0 : Int) := aD
       have q451 : a1_0 < (l0.length : Int) := aD
       obtain ⟨ad451, e451, hx451_0, hx451_1, hx451_2⟩ := at_T70 HR0.out a1_0 p451 q451
       have hw451_2 := hx451_2
       have hw451_1 := hx451_1
       have hw451_0 := hx451_0
       cases e451
       replace hx451_0 := (HB.out.cell (World.block_lt_of_cell? w _ hx451_0)).trans hx451_0
       replace hx451_1 := (HB.out.cell (World.block_lt_of_cell? w _ hx451_1)).trans hx451_1
       replace hx451_2 := (HB.out.cell (World.block_lt_of_cell? w _ hx451_2)).trans hx451_2
       replace p451 := eq_true p451
       replace q451 := eq_true q451
       obtain ⟨i014, hi014, _, hsz14, _⟩ := info_parts info3
       obtain ⟨hcut14, hA14, hC14⟩ := print_take_of (P := Try.prog) (Value.int .i64) 0 32 3 .i64 Try.underlying32 hi014 hsz14 A1_1 c1_1 l1_1 ((rd_T70 l0 a1_0).f2) (aD) (aD) HC1_1.out
       have HR452 := aM (Kd.C_of_reads (h1 := fun _ => rfl) (hA14 _ (Kd.reads_of_C HR1_1.out)))
       have HC452 := aM hC14
       clear hA14 hC14 hi014 hsz14
       refine start_ (n := 12) (S := fun w' => w'.cell? ⟨gb446, 0, none⟩ = some (.int .i64 a1_0) ∧ w'.cell? ⟨gb446, 1, none⟩ = some (.slice A1_1 l1_1.length c1_1) ∧ w'.cell? (ad451.add ((a1_0).toNat * 3)) = some (.string ((rd_T70 l0 a1_0).f0)) ∧ w'.cell? ⟨(ad451.add ((a1_0).toNat * 3)).block, (ad451.add ((a1_0).toNat * 3)).off + 1, none⟩ = some (.int .i64 ((rd_T70 l0 a1_0).f1)) ∧ w'.cell? ⟨(ad451.add ((a1_0).toNat * 3)).block, (ad451.add ((a1_0).toNat * 3)).off + 2, none⟩ = some (.int .i64 ((rd_T70 l0 a1_0).f2))) (ds := []) #[false, false, false, false, false, false, false, false, false, false, false, false] (by kernel_rfl) rfl rfl ⟨(blk_cell BK446.out 0).trans rfl, (blk_cell BK446.out 1).trans rfl, (pw_cell_below HB.out hw451_0), (pw_cell_below HB.out hw451_1), (pw_cell_below HB.out hw451_2)⟩ (fun hHeld => ?_); refine with_tabW spec_KeyOf.tab3 spec_KeyOf.bits3 (fun HT_ HW_ => ?_)
       generalize w12.drew = w13 at BK446 HB HR452 hx451_0 hx451_1 hx451_2 hHeld ⊢
       refine pU 1 11 ?_
       refine pU 3 13 ?_
       refine pU 4 14 ?_
       refine tU5 2 12 hHeld ?_
       refine tU5 5 15 hHeld ?_
       refine pU 6 16 ?_
       refine pU 7 17 ?_
       refine tU5 8 18 hHeld ?_
       refine pU 9 19 ?_
       refine oU 0 10 (fun K hK => ?_)
       refine Kd.R_lit_step (Kd.int .i64) _ 3 ?hg (N := 10) ?hd (xs := ([] : List Int)) (inner := []) (ok := fun _ => True) (okp := fun _ => True) ?hr ?hp (fun _ hk => hk) trivial (Below.refl _ _) (Nat.le_refl _) (by simp) ?_; (case hd => rfl); (case hg => rfl); (case hr => first | (go_simp; done) | (go_simp; rfl)); (case hp => exact (Reps.none _ _))
       intro v449 w15 ho16 hb hg_ hnew_
       clear hg_ hnew_
       (first | rw [← Ny448.out] at ho16 | (simp only [Int.reduceToNat] at ho16; rw [← Ny448.out] at ho16))
       have HO450 := aM (Kd.R_lower ho16 (below_size aG))
       replace BK446 := aM (blk_below (g := gb446) (o := .cells #[.int .i64 a1_0, .slice A1_1 l1_1.length c1_1] 35 (0, 0)) aK hb)
       replace HB := aM (below_step aG hb)
       clear hb ho16
       refine hK.out _ _ ⟨(blk_cell BK446.out 0).trans rfl, (blk_cell BK446.out 1).trans rfl, (pw_cell_below HB.out hw451_0), (pw_cell_below HB.out hw451_1), (pw_cell_below HB.out hw451_2)⟩ (fun hHeld => ?_)
       clear hK K
       refine nU 10 ?_
       refine oU 10 20 (fun K hK => ?_)
       refine Kd.R_append_rows_step (Kd.int .i64) (w0 := w) w.heap.size (by rfl) (.tmp 10) (.tmp 19) 32 3 (.int .i64 0) 8 rfl Try.underlying32 info3 rfl (by decide) (by omega) v449 y448 (l1_1.take (((rd_T70 l0 a1_0).f2) : Int).toNat) _ _ _ (fun _ => True) (fun _ => False) rfl rfl ?aO ?aR (fun _ _ h => h) (fun _ h => h.elim) ?aF ?aB ?aS ?aL ?_
       (case aR => first | (rw (occs := .pos [1]) [← show (l1_1.take (((rd_T70 l0 a1_0).f2) : Int).toNat).length = ((rd_T70 l0 a1_0).f2).toNat from (by rw [List.length_take]; have h_ : (((rd_T70 l0 a1_0).f2) : Int) ≤ (l1_1.length : Int) := aD; omega)]; repeat (first | exact (Kd.C_below HR452.out HB.out) | (with_reducible refine Kd.C_alloc ?_ _) | (with_reducible refine Kd.C_drewN ?_ _) | (with_reducible refine Kd.C_drew ?_)); done) | (rw (occs := .pos [2]) [← show (l1_1.take (((rd_T70 l0 a1_0).f2) : Int).toNat).length = ((rd_T70 l0 a1_0).f2).toNat from (by rw [List.length_take]; have h_ : (((rd_T70 l0 a1_0).f2) : Int) ≤ (l1_1.length : Int) := aD; omega)]; repeat (first | exact (Kd.C_below HR452.out HB.out) | (with_reducible refine Kd.C_alloc ?_ _) | (with_reducible refine Kd.C_drewN ?_ _) | (with_reducible refine Kd.C_drew ?_)); done) | (rw [← show (l1_1.take (((rd_T70 l0 a1_0).f2) : Int).toNat).length = ((rd_T70 l0 a1_0).f2).toNat from (by rw [List.length_take]; have h_ : (((rd_T70 l0 a1_0).f2) : Int) ≤ (l1_1.length : Int) := aD; omega)]; repeat (first | exact (Kd.C_below HR452.out HB.out) | (with_reducible refine Kd.C_alloc ?_ _) | (with_reducible refine Kd.C_drewN ?_ _) | (with_reducible refine Kd.C_drew ?_)); done) | (exact aC))
       (case aB => exact aG)
       (case aF => exact (fun _ _ => trivial))
       (case aO => exact (aR HO450))
       (case aS => exact (below_size aG))
       (case aL => have := LMc9.out; have hlx_ := (show (l1_1.take (((rd_T70 l0 a1_0).f2) : Int).toNat).length = ((rd_T70 l0 a1_0).f2).toNat from (by rw [List.length_take]; have h_ : (((rd_T70 l0 a1_0).f2) : Int) ≤ (l1_1.length : Int) := aD; omega)); omega)
       intro v454 w17 ho hb hg hat
       rw [← Ny453.out] at ho
       have HO455 := aM (ho)
       replace BK446 := aM (blk_grown (g := gb446) (o := .cells #[.int .i64 a1_0, .slice A1_1 l1_1.length c1_1] 35 (0, 0)) aK hg (Kd.R_ne HO450.out BK446.out (by decide)))
       replace HB := aM (hb)
       clear HO450
       clear ho hb hg hat
       refine hK.out _ _ ⟨(blk_cell BK446.out 0).trans rfl, (blk_cell BK446.out 1).trans rfl, (pw_cell_below HB.out hw451_0), (pw_cell_below HB.out hw451_1), (pw_cell_below HB.out hw451_2)⟩ (fun hHeld => ?_)
       clear hK K
       refine nU 20 ?_
       refine pU 11 4 ?_
       refine done_ (done_of HT_.out (by kernel_rfl)) ?_
       try go_wp2
       go_ret
       exact ⟨_, aE, aR HO455, aG⟩
      ·rw [if_neg c9] at H
       exact absurd H (by simp)
     ·rw [if_neg c8] at H
      exact absurd H (by simp)
    ·rw [if_neg c7] at H
     exact absurd H (by simp)
   ·rw [if_neg c6] at H
    exact absurd H (by simp)
  ·rw [if_neg c5] at H
   exact absurd H (by simp)
 ·replace c4 := Bool.eq_false_iff.mpr c4
  subst c4
  have H1 : (some (([] : List Int))) = some r := by rw [if_neg (show ¬ (false = true) by decide)] at H; exact H
  clear H
  have H := H1
  clear H1
  obtain ⟨y456, hy456⟩ : ∃ y_ : List Int, y_ = (([] : List Int)) := ⟨_, rfl⟩
  first | replace H := bY hy456 H | rw [← hy456] at H
  have Ny456 := aM hy456
  clear hy456
  obtain rfl := Option.some.inj H
  go_enter Try.func49, Try.ntmps49
  go_wp2_with (first | ((with_reducible refine gate_dst (N := 3) rfl ?_); refine bE 3 (cs := #[.int .i64 a1_0, .slice A1_1 l1_1.length c1_1]) (t := 35) ?_; intro gb446 hg w18 hbox hb; have BK446 := aM (hbox); have GW446 := aM ((by rw [hg]; exact (below_size aB) : w.heap.size ≤ gb446)); have GE446 := aM ((by rw [hg]; exact (below_size aB) : w.heap.size ≤ gb446)); replace HB := aM (below_step aB hb); clear hb hbox hg; have hcz19_0 : w18.cell? ⟨gb446, 0, none⟩ = some (.int .i64 a1_0) := (blk_cell BK446.out 0).trans rfl; have hcz19_1 : w18.cell? ⟨gb446, 1, none⟩ = some (.slice A1_1 l1_1.length c1_1) := (blk_cell BK446.out 1).trans rfl; have hfz19_0 := blk_frozen BK446.out 0; have hfz19_1 := blk_frozen BK446.out 1) | ((with_reducible refine gate_callee (f := 45) rfl ?_); refine goesL_ (some 7) rfl rfl Try.func45 (by kernel_rfl) rfl #[.slice A0 l0.length c0, .agg #[.int .i64 a1_0, .slice A1_1 l1_1.length c1_1]] rfl aA ?_; (with_reducible refine (spec_IsValidFact.calls k _ _ l0 a1_0 _ _ l1_1 false _ ?side1 ?side2 ?side3 ?side4 A3.out).mono ?_); (case side1 => exact aC); (case side2 => exact HC0.out); (case side3 => exact aC); (case side4 => exact HC1_1.out); rintro e w20 ⟨rfl, hb⟩; refine ⟨_, rfl, ?_⟩; replace BK446 := aM (blk_below (g := gb446) (o := .cells #[.int .i64 a1_0, .slice A1_1 l1_1.length c1_1] 35 (0, 0)) aK hb); replace HB := aM (below_step aG hb); (try clear hb); (try clear hb2); (try clear hk); (try clear hi)) | ((with_reducible refine gate_dst (N := 9) rfl ?_); refine Kd.R_lit (Kd.int .i64) _ 3 ?hg (N := 9) ?hd (xs := ([] : List Int)) (inner := []) (ok := fun _ => True) (okp := fun _ => True) ?hr ?hp (fun _ hk => hk) trivial (Below.refl _ _) (Nat.le_refl _) (by simp) ?_; (case hd => rfl); (case hg => rfl); (case hr => first | (go_simp; done) | (go_simp; rfl)); (case hp => exact (Reps.none _ _)); intro v457 w21 ho22 hb hg_ hnew_; clear hg_ hnew_; (first | rw [← Ny456.out] at ho22 | (simp only [Int.reduceToNat] at ho22; rw [← Ny456.out] at ho22)); have HO458 := aM (Kd.R_lower ho22 (below_size aG)); replace BK446 := aM (blk_below (g := gb446) (o := .cells #[.int .i64 a1_0, .slice A1_1 l1_1.length c1_1] 35 (0, 0)) aK hb); replace HB := aM (below_step aG hb); clear hb ho22))
  go_ret
  exact ⟨_, aE, aR HO458, aG⟩

/-! ### spec_HaveSameKey: function 11 -/
def spec_HaveSameKey.f (k : Nat) (l0 : List (S70)) (a1_0 : Int) (l1_1 : List Int) (a2_0 : Int) (l2_1 : List Int) : Option (Bool) := (spec_IsValidFact.f k l0 a1_0 l1_1).bind fun t461 => (if t461 = true then ((spec_IsValidFact.f k l0 a2_0 l2_1).bind fun t462 => (if t462 = true then (if a1_0 = a2_0 then ((spec_KeyOf.f k l0 a1_0 l1_1).bind fun t463 => ((spec_KeyOf.f k l0 a2_0 l2_1).bind fun t466 => ((spec_l3Ints.f k t463 t466).bind fun t469 => (some (t469 == 0))))) else (some false)) else (some false))) else (some false))
set_option maxHeartbeats 8000000 in
set_option maxRecDepth 100000 in
theorem spec_HaveSameKey.calls (k : Nat) (A0 : Option Addr) (c0 : Nat) (l0 : List (S70)) (a1_0 : Int) (A1_1 : Option Addr) (c1_1 : Nat) (l1_1 : List Int) (a2_0 : Int) (A2_1 : Option Addr) (c2_1 : Nat) (l2_1 : List Int) (r : Bool) (w : World) (hr0 : Kd.C k70 w A0 l0.length l0) (hc0 : l0.length ≤ c0) (hr1_1 : Kd.C (Kd.int .i64) w A1_1 l1_1.length l1_1) (hc1_1 : l1_1.length ≤ c1_1) (hr2_1 : Kd.C (Kd.int .i64) w A2_1 l2_1.length l2_1) (hc2_1 : l2_1.length ≤ c2_1) (h : spec_HaveSameKey.f k l0 a1_0 l1_1 a2_0 l2_1 = some r) :
  Calls Try.prog 11 #[.slice A0 l0.length c0, .agg #[.int .i64 a1_0, .slice A1_1 l1_1.length c1_1], .agg #[.int .i64 a2_0, .slice A2_1 l2_1.length c2_1]] w fun e w' => e = .returned (.bool r) ∧ Below w.heap.size w w' := by
 have hu35 := Try.underlying35
 obtain ⟨W, hW⟩ : ∃ W, (w.alloc (.cells #[.int .i64 a1_0, .slice A1_1 l1_1.length c1_1] 35)).alloc (.cells #[.int .i64 a2_0, .slice A2_1 l2_1.length c2_1] 35) = W := ⟨_, rfl⟩
 have q0 := qa (w := W) (p := ⟨w.heap.size, 0, none⟩) (v := .int .i64 a1_0) (by subst hW; go_simp)
 have q1 := qa (w := W) (p := ⟨w.heap.size, 1, none⟩) (v := .slice A1_1 l1_1.length c1_1) (by subst hW; go_simp)
 have q2 := qa (w := W) (p := ⟨w.heap.size + 1, 0, none⟩) (v := .int .i64 a2_0) (by subst hW; go_simp)
 have q3 := qa (w := W) (p := ⟨w.heap.size + 1, 1, none⟩) (v := .slice A2_1 l2_1.length c2_1) (by subst hW; go_simp)
 have HB : Below w.heap.size w W := by subst hW; exact zB
 have HW := Below.refl W.heap.size W
 have hb := aM HB
 have rg_ := @bcl w
 have rd_ := @bdr w
 have rG_ := @bcl W
 have rD_ := @bdr W
 unfold spec_HaveSameKey.f at h
 replace h := bs h; obtain ⟨t461, B0, h⟩ := h
 replace h := ib h; rcases h with ⟨rfl, h⟩ | ⟨rfl, h⟩
 replace h := bs h; obtain ⟨t462, B2, h⟩ := h
 replace h := ib h; rcases h with ⟨rfl, h⟩ | ⟨rfl, h⟩
 replace h := iq h; rcases h with ⟨c4, ⟨c4a, c4b⟩, h⟩ | ⟨c4, ⟨c4a, c4b⟩, h⟩
 replace h := bs h; obtain ⟨t463, B5, h⟩ := h
 replace h := bs h; obtain ⟨t466, B6, h⟩ := h
 replace h := bs h; obtain ⟨t469, B7, h⟩ := h
 obtain rfl := si h
 rotate_left
 obtain rfl := si h
 rotate_left
 obtain rfl := si h
 rotate_left
 obtain rfl := si h
 rotate_left
 all_goals (go_enter Try.func11, Try.ntmps11; go_wp2; (repeat ((refine nw (w0 := w) zB ?_; intro W1 HB hb hd; have HW : Below W.heap.size W W1 := zB; (first | (refine Txt.rg (id := 1) [0, 1, 2, 3, 4, 5, 6, 7, 8, 9, 10, 11, 12, 13, 14, 15, 16, 17, 19, 20, 18, 21, 22, 23, 24, 25] (by kernel_rfl) (by kernel_rfl) ?_; simp only [List.map_cons, List.map_nil, List.getD_cons_zero, List.getD_cons_succ])); (repeat (first | (refine Txt.off rfl ?_; simp only [Act.put, List.setIfInBounds_toArray, List.set_cons_zero, List.set_cons_succ]) | (refine Txt.take rfl rfl ?_; intro K hK; go_big_quiet_op; go_big_quiet_on) | (refine Txt.call rfl rfl Try.func45 (by kernel_rfl) rfl (spec_IsValidFact.calls ?_ _ _ _ _ _ _ _ ?_ _ ?_ ?_ ?_ ?_ ?h) rfl ?_; (case h => exact zA); (iterate 4 (first | exact zC | exact zA)); rintro e w1 ⟨rfl, hb⟩; replace hb := aM hb; have HW : Below W.heap.size W w1 := zB; have HB : Below w.heap.size w w1 := zB; refine ⟨_, rfl, zS, ?_⟩; simp only [Act.put, List.setIfInBounds_toArray, List.set_cons_zero, List.set_cons_succ]) | (refine Txt.call rfl rfl Try.func49 (by kernel_rfl) rfl (spec_KeyOf.calls ?_ _ _ _ _ _ _ _ ?_ _ ?_ ?_ ?_ ?_ ?h) rfl ?_; (case h => exact zA); (iterate 4 (first | exact zC | exact zA)); rintro e w1 ⟨v0, rfl, ho0, hb⟩; obtain ⟨A0, c0, rfl, hc0, hC0⟩ := Kd.R_reads ho0; replace hb := aM hb; have HW : Below W.heap.size W w1 := zB; have HB : Below w.heap.size w w1 := zB; refine ⟨_, rfl, zS, ?_⟩; simp only [Act.put, List.setIfInBounds_toArray, List.set_cons_zero, List.set_cons_succ]) | (refine Txt.call rfl rfl Try.func48 (by kernel_rfl) rfl (spec_l3Ints.calls ?_ _ _ _ _ _ _ ?_ _ ?_ ?_ ?_ ?_ ?h) rfl ?_; (case h => exact zA); (iterate 4 (first | exact zC | exact zA)); rintro e w1 ⟨rfl, hb⟩; replace hb := hb.below; replace hb := aM hb; have HW : Below W.heap.size W w1 := zB; have HB : Below w.heap.size w w1 := zB; refine ⟨_, rfl, zS, ?_⟩; simp only [Act.put, List.setIfInBounds_toArray, List.set_cons_zero, List.set_cons_succ]))); refine Txt.nil ?_); (try go_wp2))); go_ret; exact zE zB)

/-! ### laws_sameInts: function 12 -/
def laws_sameInts.l0 : Nat → List Int → List Int → Int → Option (Bool)
 | 0, _, _, _ => none
 | k + 1, x0, x1, x5 => if x5 < (x0.length : Int) then (if 0 ≤ x5 then (if x5 < (x1.length : Int) then (if (rd x0 x5) = (rd x1 x5) then (laws_sameInts.l0 k x0 x1 (wrap64 (x5 + 1))) else (some false)) else (none)) else (none)) else (some true)
def laws_sameInts.f (k : Nat) (l0 : List Int) (l1 : List Int) : Option (Bool) := if (l0.length : Int) = (l1.length : Int) then (laws_sameInts.l0 k l0 l1 0) else (some false)
set_option maxHeartbeats 8000000 in
set_option maxRecDepth 100000 in
theorem laws_sameInts.calls (k : Nat) (A0 : Option Addr) (c0 : Nat) (l0 : List Int) (A1 : Option Addr) (c1 : Nat) (l1 : List Int) (r : Bool) (w : World) (hr0 : Kd.C (Kd.int .i64) w A0 l0.length l0) (hc0 : l0.length ≤ c0) (hr1 : Kd.C (Kd.int .i64) w A1 l1.length l1) (hc1 : l1.length ≤ c1) (h : laws_sameInts.f k l0 l1 = some r) :
  Calls Try.prog 12 #[.slice A0 l0.length c0, .slice A1 l1.length c1] w fun e w' => e = .returned (.bool r) ∧ Drawn0 w w' := by
 have rg_ := @bcl w
 have rd_ := @bdr w
 unfold laws_sameInts.f at h
 replace h := iq h; rcases h with ⟨c0, ⟨c0a, c0b⟩, h⟩ | ⟨c0, ⟨c0a, c0b⟩, h⟩
 have cz := c0.out
 have c0x1 : (l0.length == l1.length) = true := by first | simpa using cz | (simp at cz ⊢; omega)
 clear cz
 ·go_enter Try.func12, Try.ntmps12
  go_wp2
  (repeat ((refine nw (w0 := w) zB ?_; intro W1 HB hb hd; (first | (refine Txt.rg (id := 6) [0, 1, 2, 3, 4, 5, 6, 7, 8] (by kernel_rfl) (by kernel_rfl) ?_; simp only [List.map_cons, List.map_nil, List.getD_cons_zero, List.getD_cons_succ])); (repeat (first | (refine Txt.off rfl ?_; simp only [Act.put, List.setIfInBounds_toArray, List.set_cons_zero, List.set_cons_succ]) | (refine Txt.take rfl rfl ?_; intro K hK; go_big_quiet_op; go_big_quiet_on))); refine Txt.nil ?_); (try go_wp2)))
  go_loopg [5] k (fun kq v5 w' => ∃ (x5_1 : Int), v5 = .int .i64 x5_1 ∧ laws_sameInts.l0 kq l0 l1 x5_1 = some r ∧ Drawn0 w w')
  case atStart => exact ⟨_, zR, zA, zD⟩
  case round =>
   clear h
   obtain ⟨x5_1, rfl, h, hb⟩ := hrel
   have hd := hb
   replace hb := hb.below
   replace hb := aM hb
   have HB : Below w.heap.size w wr := zB
   rcases gk with _ | kk1
   exact absurd h (by simp [laws_sameInts.l0])
   simp only [laws_sameInts.l0] at h
   replace h := il h; rcases h with ⟨c2, c2a, h⟩ | ⟨c2, c2a, h⟩
   replace h := ie h; rcases h with ⟨c3, c3a, h⟩ | ⟨c3, c3a, h⟩
   replace h := il h; rcases h with ⟨c4, c4a, h⟩ | ⟨c4, c4a, h⟩
   replace h := iq h; rcases h with ⟨c5, ⟨c5a, c5b⟩, h⟩ | ⟨c5, ⟨c5a, c5b⟩, h⟩
   obtain ⟨kf, hkf⟩ : ∃ kf, kf = kk1 := ⟨_, rfl⟩; rw [← hkf] at h
   obtain ⟨ad470, e470, hx470_0⟩ := Kd.at_int hr0 (x5_1 : Int) aD aD
   have p470 := eq_true (aD : 0 ≤ (x5_1 : Int))
   have q470 := eq_true (aD : x5_1 < (l0.length : Int))
   cases e470
   replace hx470_0 := qa hx470_0
   obtain ⟨ad471, e471, hx471_0⟩ := Kd.at_int hr1 (x5_1 : Int) aD aD
   have p471 := eq_true (aD : 0 ≤ (x5_1 : Int))
   have q471 := eq_true (aD : x5_1 < (l1.length : Int))
   cases e471
   replace hx471_0 := qa hx471_0
   rotate_left
   obtain rfl := si h
   obtain ⟨ad470, e470, hx470_0⟩ := Kd.at_int hr0 (x5_1 : Int) aD aD
   have p470 := eq_true (aD : 0 ≤ (x5_1 : Int))
   have q470 := eq_true (aD : x5_1 < (l0.length : Int))
   cases e470
   replace hx470_0 := qa hx470_0
   obtain ⟨ad471, e471, hx471_0⟩ := Kd.at_int hr1 (x5_1 : Int) aD aD
   have p471 := eq_true (aD : 0 ≤ (x5_1 : Int))
   have q471 := eq_true (aD : x5_1 < (l1.length : Int))
   cases e471
   replace hx471_0 := qa hx471_0
   rotate_left
   exact absurd h (by simp)
   exact absurd h (by simp)
   obtain rfl := si h
   rotate_left
   all_goals (go_wp2; (repeat ((refine nw (w0 := w) zB ?_; intro W1 HB hb hd; (first | (refine Txt.rg (id := 6) [0, 1, 2, 3, 4, 5, 6, 7, 8] (by kernel_rfl) (by kernel_rfl) ?_; simp only [List.map_cons, List.map_nil, List.getD_cons_zero, List.getD_cons_succ])); (repeat (first | (refine Txt.off rfl ?_; simp only [Act.put, List.setIfInBounds_toArray, List.set_cons_zero, List.set_cons_succ]) | (refine Txt.take rfl rfl ?_; intro K hK; go_big_quiet_op; go_big_quiet_on))); refine Txt.nil ?_); (try go_wp2))); first | (go_ret; exact zE zD) | (go_roundg kf; (case measure => omega); (case rel => exact ⟨_, zR, zA, zD⟩)))
 have cz := c0.out
 have c0x1 : (l0.length == l1.length) = false := by first | simpa using cz | (simp at cz ⊢; omega)
 clear cz
 obtain rfl := si h
 rotate_left
 all_goals (go_enter Try.func12, Try.ntmps12; go_wp2; (repeat ((refine nw (w0 := w) zB ?_; intro W1 HB hb hd; (first | (refine Txt.rg (id := 6) [0, 1, 2, 3, 4, 5, 6, 7, 8] (by kernel_rfl) (by kernel_rfl) ?_; simp only [List.map_cons, List.map_nil, List.getD_cons_zero, List.getD_cons_succ])); (repeat (first | (refine Txt.off rfl ?_; simp only [Act.put, List.setIfInBounds_toArray, List.set_cons_zero, List.set_cons_succ]) | (refine Txt.take rfl rfl ?_; intro K hK; go_big_quiet_op; go_big_quiet_on))); refine Txt.nil ?_); (try go_wp2))); go_ret; exact zE zD)

/-! ### slices_Index_int_int: function 73 -/
def slices_Index_int_int.l0 : Nat → List Int → Int → Int → Int → Option (Int)
 | 0, _, _, _, _ => none
 | k + 1, x0, x1, x7, x8 => if x8 < x7 then (if 0 ≤ x8 then (if x8 < (x0.length : Int) then (if x1 = (rd x0 x8) then (some x8) else (slices_Index_int_int.l0 k x0 x1 x7 (wrap64 (x8 + 1)))) else (none)) else (none)) else (some (-1))
def slices_Index_int_int.f (k : Nat) (l0 : List Int) (a1 : Int) : Option (Int) := slices_Index_int_int.l0 k l0 a1 (l0.length : Int) 0
set_option maxHeartbeats 8000000 in
set_option maxRecDepth 100000 in
theorem slices_Index_int_int.calls (k : Nat) (A0 : Option Addr) (c0 : Nat) (l0 : List Int) (a1 : Int) (r : Int) (w : World) (hr0 : Kd.C (Kd.int .i64) w A0 l0.length l0) (hc0 : l0.length ≤ c0) (h : slices_Index_int_int.f k l0 a1 = some r) :
  Calls Try.prog 73 #[.slice A0 l0.length c0, .int .i64 a1] w fun e w' => e = .returned (.int .i64 r) ∧ Drawn0 w w' := by
 unfold slices_Index_int_int.f at h
 ·go_enter Try.func73, Try.ntmps73
  go_wp2
  go_loopg [8] k (fun kq v8 w' => ∃ (x8_0 : Int), v8 = .int .i64 x8_0 ∧ slices_Index_int_int.l0 kq l0 a1 (l0.length : Int) x8_0 = some r ∧ Drawn0 w w')
  case atStart => exact ⟨_, zR, zA, zD⟩
  case round =>
   clear h
   obtain ⟨x8_0, rfl, h, hb⟩ := hrel
   have hd := hb
   replace hb := hb.below
   replace hb := aM hb
   have HB : Below w.heap.size w wr := zB
   rcases gk with _ | kk0
   exact absurd h (by simp [slices_Index_int_int.l0])
   simp only [slices_Index_int_int.l0] at h
   replace h := il h; rcases h with ⟨c1, c1a, h⟩ | ⟨c1, c1a, h⟩
   replace h := ie h; rcases h with ⟨c2, c2a, h⟩ | ⟨c2, c2a, h⟩
   replace h := il h; rcases h with ⟨c3, c3a, h⟩ | ⟨c3, c3a, h⟩
   replace h := iq h; rcases h with ⟨c4, ⟨c4a, c4b⟩, h⟩ | ⟨c4, ⟨c4a, c4b⟩, h⟩
   obtain rfl := si h
   obtain ⟨ad472, e472, hx472_0⟩ := Kd.at_int hr0 (x8_0 : Int) aD aD
   have p472 := eq_true (aD : 0 ≤ (x8_0 : Int))
   have q472 := eq_true (aD : x8_0 < (l0.length : Int))
   cases e472
   replace hx472_0 := qa hx472_0
   rotate_left
   obtain ⟨kf, hkf⟩ : ∃ kf, kf = kk0 := ⟨_, rfl⟩; rw [← hkf] at h
   obtain ⟨ad472, e472, hx472_0⟩ := Kd.at_int hr0 (x8_0 : Int) aD aD
   have p472 := eq_true (aD : 0 ≤ (x8_0 : Int))
   have q472 := eq_true (aD : x8_0 < (l0.length : Int))
   cases e472
   replace hx472_0 := qa hx472_0
   rotate_left
   exact absurd h (by simp)
   exact absurd h (by simp)
   obtain rfl := si h
   rotate_left
   all_goals (go_wp2; first | (go_ret; exact zE zD) | (go_roundg kf; (case measure => omega); (case rel => exact ⟨_, zR, zA, zD⟩)))

/-! ### slices_Contains_int_int: function 50 -/
def slices_Contains_int_int.f (k : Nat) (l0 : List Int) (a1 : Int) : Option (Bool) := (slices_Index_int_int.f k l0 a1).bind fun t473 => (some (decide (t473 ≥ 0)))
set_option maxHeartbeats 8000000 in
set_option maxRecDepth 100000 in
theorem slices_Contains_int_int.calls (k : Nat) (A0 : Option Addr) (c0 : Nat) (l0 : List Int) (a1 : Int) (r : Bool) (w : World) (hr0 : Kd.C (Kd.int .i64) w A0 l0.length l0) (hc0 : l0.length ≤ c0) (h : slices_Contains_int_int.f k l0 a1 = some r) :
  Calls Try.prog 50 #[.slice A0 l0.length c0, .int .i64 a1] w fun e w' => e = .returned (.bool r) ∧ Drawn0 w w' := by
 unfold slices_Contains_int_int.f at h
 replace h := bs h; obtain ⟨t473, B0, h⟩ := h
 obtain rfl := si h
 rotate_left
 all_goals (go_enter Try.func50, Try.ntmps50; go_wp2_with (first | (go_at_call 73; refine (slices_Index_int_int.calls ?_ _ _ _ _ ?_ _ ?_ ?_ ?h).mono ?_; (case h => exact zA); (iterate 2 (first | exact zC | exact zA)); rintro e w1 ⟨rfl, hb⟩; have hd := hb; replace hb := hb.below; replace hb := aM hb; have HB : Below w.heap.size w w1 := zB)); go_ret; exact zE zD)

/-! ### impl_BlockOf: function 13 -/
def impl_BlockOf.l0 : Nat → Int → List (List Int) → Int → Int → Option (List Int)
 | 0, _, _, _, _ => none
 | k + 1, x1, x8, x9, x10 => if x10 < x9 then (if 0 ≤ x10 then (if x10 < (x8.length : Int) then ((slices_Contains_int_int.f k (rd_L4 x8 x10) x1).bind fun t479 => (if t479 = true then (some (rd_L4 x8 x10)) else (impl_BlockOf.l0 k x1 x8 x9 (wrap64 (x10 + 1))))) else (none)) else (none)) else (some ([] : List Int))
def impl_BlockOf.f (k : Nat) (l0_0 : List (S70)) (l0_1 : List (S35)) (a1 : Int) : Option (List Int) := (impl_Blocks.f k l0_0 l0_1).bind fun t475 => (impl_BlockOf.l0 k a1 t475 (t475.length : Int) 0)
set_option maxHeartbeats 8000000 in
set_option maxRecDepth 100000 in
theorem impl_BlockOf.calls (k : Nat) (A0_0 : Option Addr) (c0_0 : Nat) (l0_0 : List (S70)) (A0_1 : Option Addr) (c0_1 : Nat) (l0_1 : List (S35)) (a1 : Int) (r : List Int) (w : World) (hr0_0 : Kd.C k70 w A0_0 l0_0.length l0_0) (hc0_0 : l0_0.length ≤ c0_0) (hr0_1 : Kd.C k35 w A0_1 l0_1.length l0_1) (hc0_1 : l0_1.length ≤ c0_1) (h : impl_BlockOf.f k l0_0 l0_1 a1 = some r) :
  Calls Try.prog 13 #[.agg #[.slice A0_0 l0_0.length c0_0, .slice A0_1 l0_1.length c0_1], .int .i64 a1] w fun e w' => ∃ v0_ : Value, e = .returned (v0_) ∧ Kd.R (Kd.int .i64) 3 w' w.heap.size (fun _ => True) v0_ r ∧ Below w.heap.size w w' := by
 have hu27 := Try.underlying27
 have HR0_0 := aM hr0_0
 have HC0_0 := aM hc0_0
 clear hr0_0 hc0_0
 have HR0_1 := aM hr0_1
 have HC0_1 := aM hc0_1
 clear hr0_1 hc0_1
 have HB := aM (Below.refl w.heap.size w)
 have H : ((impl_Blocks.f k l0_0 l0_1).bind fun t475 => (impl_BlockOf.l0 k a1 t475 (t475.length : Int) 0)) = some r := h
 clear h
 replace H := bM H
 obtain ⟨t475, A30, H⟩ := H
 have A3 := aM A30
 clear A30
 have H' := aM H
 clear H
 go_enter Try.func13, Try.ntmps13
 go_wp2_with (first | ((with_reducible refine gate_dst (N := 2) rfl ?_); refine bE 2 (cs := #[.slice A0_0 l0_0.length c0_0, .slice A0_1 l0_1.length c0_1]) (t := 27) ?_; intro gb474 hg w4 hbox hb; have BK474 := aM (hbox); have GW474 := aM ((by rw [hg]; exact (below_size aB) : w.heap.size ≤ gb474)); have GE474 := aM ((by rw [hg]; exact (below_size aB) : w.heap.size ≤ gb474)); replace HB := aM (below_step aB hb); clear hb hbox hg; have hcz5_0 : w4.cell? ⟨gb474, 0, none⟩ = some (.slice A0_0 l0_0.length c0_0) := (blk_cell BK474.out 0).trans rfl; have hcz5_1 : w4.cell? ⟨gb474, 1, none⟩ = some (.slice A0_1 l0_1.length c0_1) := (blk_cell BK474.out 1).trans rfl; have hfz5_0 := blk_frozen BK474.out 0; have hfz5_1 := blk_frozen BK474.out 1) | ((with_reducible refine gate_callee (f := 9) rfl ?_); refine goesL_ (some 8) rfl rfl Try.func9 (by kernel_rfl) rfl #[.agg #[.slice A0_0 l0_0.length c0_0, .slice A0_1 l0_1.length c0_1]] rfl aA ?_; (with_reducible refine (impl_Blocks.calls k _ _ l0_0 _ _ l0_1 t475 _ ?side1 ?side2 ?side3 ?side4 A3.out).mono ?_); (case side1 => exact aC); (case side2 => exact HC0_0.out); (case side3 => exact aC); (case side4 => exact HC0_1.out); rintro e w6 ⟨v476, rfl, ho0, hb⟩; refine ⟨_, rfl, ?_⟩; have HO477 := aM (Kd.S_lower ho0 (below_size aG)); replace BK474 := aM (blk_below (g := gb474) (o := .cells #[.slice A0_0 l0_0.length c0_0, .slice A0_1 l0_1.length c0_1] 27 (0, 0)) aK hb); replace HB := aM (below_step aG hb); (try clear hb); (try clear hb2); (try clear hk); (try clear hi); (try clear ho0); obtain ⟨Ao7, co7, eo7⟩ := Kd.S_slice HO477.out; subst eo7))
 go_loopg [10] k (fun kq v10 w' => ∃ (x10_1 : Int), v10 = .int .i64 x10_1 ∧ Aside0 (impl_BlockOf.l0 kq a1 t475 (t475.length : Int) x10_1 = some r) ∧ Aside0 (kq ≤ k) ∧ Aside0 (Kd.S (Kd.slice 3 (Kd.int .i64)) 32 w' w.heap.size (fun _ => True) (.slice Ao7 t475.length co7) t475) ∧ Aside0 (w'.heap[gb474]? = some (.cells #[(.slice A0_0 l0_0.length c0_0), (.slice A0_1 l0_1.length c0_1)] 27 (0, 0))) ∧ Aside0 (Below w.heap.size w w'))
 case atStart => exact ⟨(0), aX, H', ⟨Nat.le_refl _⟩, ⟨aS HO477⟩, ⟨aK⟩, ⟨aG⟩⟩
 case round =>
  clear H'
  try clear c1
  try clear p2
  try clear hcz5_0
  try clear hcz5_1
  try clear hfz5_0
  try clear hfz5_1
  obtain ⟨x10_1, rfl, HA, HK1, HO_8, BK474, HB⟩ := hrel
  cases gk with
  | zero => exact absurd HA.out (by simp [impl_BlockOf.l0])
  | succ k1 =>
   have H := HA.out
   clear HA
   simp only [impl_BlockOf.l0] at H
   by_cases c8 : x10_1 < (t475.length : Int)
   ·rw [if_pos c8] at H
    have c8b0 : decide (x10_1 < (t475.length : Int)) = true := decide_eq_true c8
    clear c8
    by_cases c9 : 0 ≤ x10_1
    ·rw [if_pos c9] at H
     have c9b0 : decide (0 ≤ x10_1) = true := decide_eq_true c9
     clear c9
     by_cases c10 : x10_1 < (t475.length : Int)
     ·rw [if_pos c10] at H
      have c10b0 : decide (x10_1 < (t475.length : Int)) = true := decide_eq_true c10
      clear c10
      replace H := bM H
      obtain ⟨t479, A110, H⟩ := H
      have A11 := aM A110
      clear A110
      by_cases c12 : t479 = true
      ·subst c12
       replace H := iT H
       obtain rfl := Option.some.inj H
       have p478 : 0 ≤ (x10_1 : Int) := aD
       have q478 : x10_1 < (t475.length : Int) := aD
       obtain ⟨ad478, A478_0, c478_0, e478, hx478_0, hl478_0, hi478_0⟩ := at_L4 (Kd.S_reads' HO_8.out).2.2 x10_1 p478 q478
       cases e478
       obtain ⟨ce478, hce478, hMe478, hcc478⟩ := Kd.S_get HO_8.out [] x10_1 p478 (by first | exact q478 | exact aD | (have e_ := (Kd.S_reads' HO_8.out).1; omega))
       obtain ⟨ve478_0, rfl, ge478_0⟩ := hMe478
       have hv478_0 := hcc478 0 _ rfl
       rw [Nat.add_zero, show ((Kd.slice 3 (Kd.int .i64))).sz = 1 from rfl, Nat.mul_one] at hv478_0
       replace hv478_0 := Option.some.inj (hv478_0.symm.trans hx478_0)
       rw [hv478_0] at ge478_0
       have HL478_0 := aM (show Kd.R (Kd.int .i64) 3 _ _ _ _ (rd_L4 t475 x10_1) from ge478_0)
       clear hv478_0 ge478_0
       clear hcc478 hce478
       have HR478_0 := aM hi478_0
       have HC478_0 := aM hl478_0
       clear hi478_0 hl478_0
       replace p478 := eq_true p478
       replace q478 := eq_true q478
       go_wp2_with (first | ((with_reducible refine gate_callee (f := 50) rfl ?_); refine goesL_ (some 16) rfl rfl Try.func50 (by kernel_rfl) rfl #[.slice A478_0 (rd_L4 t475 x10_1).length c478_0, .int .i64 a1] rfl aA ?_; (with_reducible refine (slices_Contains_int_int.calls k1 _ _ (rd_L4 t475 x10_1) a1 true _ ?side1 ?side2 A11.out).mono ?_); (case side1 => repeat (first | exact (by repeat (first | (with_reducible exact HR478_0.out) | (with_reducible refine Kd.C_alloc ?_ _) | (with_reducible refine Kd.C_drewN ?_ _) | (with_reducible refine Kd.C_drew ?_) | exact HR478_0.out)) | (with_reducible refine Kd.C_alloc ?_ _) | (with_reducible refine Kd.C_drewN ?_ _) | (with_reducible refine Kd.C_drew ?_))); (case side2 => exact HC478_0.out); rintro e w' ⟨rfl, ⟨nd, rfl⟩⟩; refine ⟨_, rfl, ?_⟩))
       go_ret
       exact ⟨_, aE, by (with_reducible repeat (first | apply Kd.R_alloc | apply Kd.R_drewN | apply Kd.R_drew)); exact Kd.R_mono HL478_0.out (fun _ hk => trivial), aG⟩
      ·replace c12 := Bool.eq_false_iff.mpr c12
       subst c12
       have H1 : (impl_BlockOf.l0 k1 a1 t475 (t475.length : Int) (wrap64 (x10_1 + 1))) = some r := by rw [if_neg (show ¬ (false = true) by decide)] at H; exact H
       clear H
       have H := H1
       clear H1
       have H' := aM H
       clear H
       have p478 : 0 ≤ (x10_1 : Int) := aD
       have q478 : x10_1 < (t475.length : Int) := aD
       obtain ⟨ad478, A478_0, c478_0, e478, hx478_0, hl478_0, hi478_0⟩ := at_L4 (Kd.S_reads' HO_8.out).2.2 x10_1 p478 q478
       cases e478
       obtain ⟨ce478, hce478, hMe478, hcc478⟩ := Kd.S_get HO_8.out [] x10_1 p478 (by first | exact q478 | exact aD | (have e_ := (Kd.S_reads' HO_8.out).1; omega))
       obtain ⟨ve478_0, rfl, ge478_0⟩ := hMe478
       have hv478_0 := hcc478 0 _ rfl
       rw [Nat.add_zero, show ((Kd.slice 3 (Kd.int .i64))).sz = 1 from rfl, Nat.mul_one] at hv478_0
       replace hv478_0 := Option.some.inj (hv478_0.symm.trans hx478_0)
       rw [hv478_0] at ge478_0
       have HL478_0 := aM (show Kd.R (Kd.int .i64) 3 _ _ _ _ (rd_L4 t475 x10_1) from ge478_0)
       clear hv478_0 ge478_0
       clear hcc478 hce478
       have HR478_0 := aM hi478_0
       have HC478_0 := aM hl478_0
       clear hi478_0 hl478_0
       replace p478 := eq_true p478
       replace q478 := eq_true q478
       go_wp2_with (first | ((with_reducible refine gate_callee (f := 50) rfl ?_); refine goesL_ (some 16) rfl rfl Try.func50 (by kernel_rfl) rfl #[.slice A478_0 (rd_L4 t475 x10_1).length c478_0, .int .i64 a1] rfl aA ?_; (with_reducible refine (slices_Contains_int_int.calls k1 _ _ (rd_L4 t475 x10_1) a1 false _ ?side1 ?side2 A11.out).mono ?_); (case side1 => repeat (first | exact (by repeat (first | (with_reducible exact HR478_0.out) | (with_reducible refine Kd.C_alloc ?_ _) | (with_reducible refine Kd.C_drewN ?_ _) | (with_reducible refine Kd.C_drew ?_) | exact HR478_0.out)) | (with_reducible refine Kd.C_alloc ?_ _) | (with_reducible refine Kd.C_drewN ?_ _) | (with_reducible refine Kd.C_drew ?_))); (case side2 => exact HC478_0.out); rintro e w' ⟨rfl, ⟨nd, rfl⟩⟩; refine ⟨_, rfl, ?_⟩))
       go_roundg k1
       case measure => have := HK1.out; omega
       case rel => exact ⟨(wrap64 (x10_1 + 1)), aX, H', ⟨by have := HK1.out; omega⟩, ⟨aS HO_8⟩, ⟨aK⟩, ⟨aG⟩⟩
     ·rw [if_neg c10] at H
      exact absurd H (by simp)
    ·rw [if_neg c9] at H
     exact absurd H (by simp)
   ·rw [if_neg c8] at H
    have c8b0 : decide (x10_1 < (t475.length : Int)) = false := decide_eq_false c8
    clear c8
    obtain rfl := Option.some.inj H
    go_wp2
    go_ret
    exact ⟨_, aE, by first | exact Kd.R_nil _ _ _ _ _ | exact Kd.N_nil _ _ _ _ _ | exact Kd.V_nil _ _ _ _ _ | exact Kd.Q_nil _ _ _ _ _ | exact Kd.S_nil _ _ _ _ _, aG⟩

end Go.Proofs.Ytbdeimhlohhhiaa.PFnBlocks
