-- Laid by a program of this claim: what the functions come to, some of them proved by hand.
import Derived.Test.YtbdeimhlohhhiaaPFnExtendToRepairx0
import Derived.Test.YtbdeimhlohhhiaaPFnExtendToRepairx2
import Derived.Test.YtbdeimhlohhhiaaPFnExtendToRepairx19
namespace Go.Proofs.Ytbdeimhlohhhiaa.PFnExtendToRepair
open Go.RowKit Go.Proofs.YtbdeimhlohhhiaaW.PrintWords Go.Proofs.YtbdeimhlohhhiaaW.PrintLast Go.Proofs.YtbdeimhlohhhiaaW.PrintMore
attribute [local go_sem] max2_int min2_int max_two min_two max_three min_three max_four min_four   -- for this text's walks alone
set_option linter.unusedVariables false
set_option linter.unusedSimpArgs false

/-! ### spec_SelectFacts: function 64 -/
mutual
def spec_SelectFacts.j0 : Nat → List Int → Bool → List (S70) → List (S35) → Option ((List (S70)) × (List (S35)) × Bool)
 | 0, _, _, _, _ => none
 | k + 1, x1, x17, x649000, x649001 => if x17 = true then (some (([] : List (S70)), ([] : List (S35)), false)) else ((some (([] : List (S70)) : List (S70))).bind fun y652 => (if y652.length + x649000.length < 4398046511104 then (spec_SelectFacts.l0 k x1 0 x649000 x649001 (y652 ++ x649000) ([] : List (S35))) else (none)))
def spec_SelectFacts.l0 : Nat → List Int → Int → List (S70) → List (S35) → List (S70) → List (S35) → Option ((List (S70)) × (List (S35)) × Bool)
 | 0, _, _, _, _, _, _ => none
 | k + 1, x1, x7, x649000, x649001, x659000, x659001 => if x7 < (x1.length : Int) then (if 0 ≤ x7 then (if 0 ≤ (rd x1 x7) then (if (rd x1 x7) < (x649001.length : Int) then ((some (([] : List Int) : List Int)).bind fun y662 => (if y662.length + ((rd_T35 x649001 (rd x1 x7)).f1).length < 17592186044416 then (if x659001.length < 4398046511104 then (spec_SelectFacts.l0 k x1 (wrap64 (x7 + 1)) x649000 x649001 x659000 (x659001 ++ [(⟨(rd_T35 x649001 (rd x1 x7)).f0, (y662 ++ ((rd_T35 x649001 (rd x1 x7)).f1))⟩ : S35)])) else (none)) else (none))) else (none)) else (none)) else (none)) else (some (x659000, x659001, true))
end
def spec_SelectFacts.f (k : Nat) (l0_0 : List (S70)) (l0_1 : List (S35)) (l1 : List Int) : Option ((List (S70)) × (List (S35)) × Bool) := (spec_IsValidDatabase.f k l0_0 l0_1).bind fun t650 => (if t650 = true then ((spec_l4Set.f k l0_0 l0_1 l1).bind fun t651 => (spec_SelectFacts.j0 k l1 (!t651) l0_0 l0_1)) else (spec_SelectFacts.j0 k l1 true l0_0 l0_1))
def spec_SelectFacts.T7 : Bool × List (List Nat × List Nat) := (true, [([], []), ([0], [0]), ([], []), ([], []), ([2, 3], [2, 3]), ([4], [4]), ([1, 5], [1, 5]), ([6], [6]), ([], []), ([8, 7, 0, 1, 2, 3, 4, 5, 6, 7, 8], [7, 8])])
def spec_SelectFacts.B7 : List Nat := [0, 1, 0, 0, 12, 28, 63, 127, 0, 511]
theorem spec_SelectFacts.tab7 : rtab .any (opsOf Try.f64 7) = spec_SelectFacts.T7 := by kernel_rfl
theorem spec_SelectFacts.bits7 : waitsOk spec_SelectFacts.T7.2 spec_SelectFacts.B7 = true := by kernel_rfl
def spec_SelectFacts.T8 : Bool × List (List Nat × List Nat) := (true, [([], []), ([0], [0]), ([], []), ([2], [2]), ([], []), ([], []), ([5], [5]), ([4, 6], [4, 6]), ([3, 7], [3, 7]), ([8], [8]), ([1, 9, 7], [1, 9]), ([0, 1, 2, 3, 4, 5, 6, 7, 8, 9, 10], []), ([11, 10, 10, 0, 1, 2, 3, 4, 5, 6, 7, 8, 9, 10], [10, 11])])
def spec_SelectFacts.B8 : List Nat := [0, 1, 0, 4, 0, 0, 32, 112, 252, 508, 1023, 2047, 4095]
theorem spec_SelectFacts.tab8 : rtab .any (opsOf Try.f64 8) = spec_SelectFacts.T8 := by kernel_rfl
theorem spec_SelectFacts.bits8 : waitsOk spec_SelectFacts.T8.2 spec_SelectFacts.B8 = true := by kernel_rfl
set_option maxHeartbeats 8000000 in
set_option maxRecDepth 100000 in
theorem spec_SelectFacts.calls (k : Nat) (A0_0 : Option Addr) (c0_0 : Nat) (l0_0 : List (S70)) (A0_1 : Option Addr) (c0_1 : Nat) (l0_1 : List (S35)) (A1 : Option Addr) (c1 : Nat) (l1 : List Int) (r1 : List (S70)) (r2 : List (S35)) (r3 : Bool) (w : World) (hr0_0 : Kd.C k70 w A0_0 l0_0.length l0_0) (hc0_0 : l0_0.length ≤ c0_0) (hr0_1 : Kd.C k35 w A0_1 l0_1.length l0_1) (hc0_1 : l0_1.length ≤ c0_1) (hr1 : Kd.C (Kd.int .i64) w A1 l1.length l1) (hc1 : l1.length ≤ c1) (h : spec_SelectFacts.f k l0_0 l0_1 l1 = some (r1, r2, r3)) :
  Calls Try.prog 64 #[.agg #[.slice A0_0 l0_0.length c0_0, .slice A0_1 l0_1.length c0_1], .slice A1 l1.length c1] w fun e w' => ∃ v0_ v1_ : Value, e = .returned (.tuple #[.agg #[v0_, v1_], .bool r3]) ∧ Kd.R k70 70 w' w.heap.size (fun _ => True) v0_ r1 ∧ Kd.S k35 35 w' w.heap.size (fun _ => True) v1_ r2 ∧ Below w.heap.size w w' := by
 have hu27 := Try.underlying27
 have hu35 := Try.underlying35
 have HR0_0 := aM hr0_0
 have HC0_0 := aM hc0_0
 clear hr0_0 hc0_0
 have HR0_1 := aM hr0_1
 have HC0_1 := aM hc0_1
 clear hr0_1 hc0_1
 have HR1 := aM hr1
 have HC1 := aM hc1
 clear hr1 hc1
 have HB := aM (Below.refl w.heap.size w)
 have H : ((spec_IsValidDatabase.f k l0_0 l0_1).bind fun t650 => (if t650 = true then ((spec_l4Set.f k l0_0 l0_1 l1).bind fun t651 => (spec_SelectFacts.j0 k l1 (!t651) l0_0 l0_1)) else (spec_SelectFacts.j0 k l1 true l0_0 l0_1))) = some (r1, r2, r3) := h
 clear h
 have HC3 := aM H
 clear H
 go_enter Try.func64, Try.ntmps64
 go_upto_region 1 with (first | ((with_reducible refine gate_dst (N := 2) rfl ?_); refine bE 2 (cs := #[.slice A0_0 l0_0.length c0_0, .slice A0_1 l0_1.length c0_1]) (t := 27) ?_; intro gb648 hg w4 hbox hb; have BK648 := aM (hbox); have GW648 := aM ((by rw [hg]; exact (below_size aB) : w.heap.size ≤ gb648)); have GE648 := aM ((by rw [hg]; exact (below_size aB) : w.heap.size ≤ gb648)); replace HB := aM (below_step aB hb); clear hb hbox hg) | ((with_reducible refine gate_dst (N := 4) rfl ?_); refine bE 4 (cs := #[.slice none 0 0, .slice none 0 0]) (t := 27) ?_; intro gb649 hg w5 hbox hb; have BK649 := aM (hbox); have GW649 := aM ((by rw [hg]; exact (below_size aG) : w.heap.size ≤ gb649)); have GE649 := aM ((by rw [hg]; exact (below_size aG) : w.heap.size ≤ gb649)); have NB648_649 := aM ((by rw [hg]; exact Nat.ne_of_lt (blk_lt (g := gb648) (o := .cells #[.slice A0_0 l0_0.length c0_0, .slice A0_1 l0_1.length c0_1] 27 (0, 0)) aK) : gb648 ≠ gb649)); have NB649_648 := aM ((by rw [hg]; exact Nat.ne_of_gt (blk_lt (g := gb648) (o := .cells #[.slice A0_0 l0_0.length c0_0, .slice A0_1 l0_1.length c0_1] 27 (0, 0)) aK) : gb649 ≠ gb648)); replace BK648 := aM (blk_below (g := gb648) (o := .cells #[.slice A0_0 l0_0.length c0_0, .slice A0_1 l0_1.length c0_1] 27 (0, 0)) aK hb); replace HB := aM (below_step aG hb); clear hb hbox hg))
 (try simp only [Act.put, List.setIfInBounds_toArray, List.set_cons_zero, List.set_cons_succ])
 go_cut [17] (fun v17 wc => ∃ (kq : Nat) (x17_2 : Bool), v17 = .bool x17_2 ∧ Aside0 (spec_SelectFacts.j0 kq l1 x17_2 l0_0 l0_1 = some (r1, r2, r3)) ∧ Aside0 (kq ≤ k) ∧ Aside0 (wc.heap[gb648]? = some (.cells #[(.slice A0_0 l0_0.length c0_0), (.slice A0_1 l0_1.length c0_1)] 27 (0, 0))) ∧ Aside0 (wc.heap[gb649]? = some (.cells #[(.slice none 0 0), (.slice none 0 0)] 27 (0, 0))) ∧ Aside0 (Below w.heap.size w wc))
 case first =>
  have H := HC3.out
  clear HC3
  replace H := bM H
  obtain ⟨t650, A60, H⟩ := H
  have A6 := aM A60
  clear A60
  by_cases c7 : t650 = true
  ·subst c7
   replace H := iT H
   replace H := bM H
   obtain ⟨t651, A80, H⟩ := H
   have A8 := aM A80
   clear A80
   have H' := aM H
   clear H
   have hnb9 := NB648_649.out
   have hnc9 := NB649_648.out
   have hcz10_0 : w5.cell? ⟨gb648, 0, none⟩ = some (.slice A0_0 l0_0.length c0_0) := (blk_cell BK648.out 0).trans rfl
   have hcz10_1 : w5.cell? ⟨gb648, 1, none⟩ = some (.slice A0_1 l0_1.length c0_1) := (blk_cell BK648.out 1).trans rfl
   have hfz10_0 := blk_frozen BK648.out 0
   have hfz10_1 := blk_frozen BK648.out 1
   go_wp2_with (first | ((with_reducible refine gate_callee (f := 10) rfl ?_); refine goesL_ (some 10) rfl rfl Try.func10 (by kernel_rfl) rfl #[.agg #[.slice A0_0 l0_0.length c0_0, .slice A0_1 l0_1.length c0_1]] rfl aA ?_; (with_reducible refine (spec_IsValidDatabase.calls k _ _ l0_0 _ _ l0_1 true _ ?side1 ?side2 ?side3 ?side4 A6.out).mono ?_); (case side1 => exact aC); (case side2 => exact HC0_0.out); (case side3 => exact aC); (case side4 => exact HC0_1.out); rintro e w11 ⟨rfl, hb⟩; refine ⟨_, rfl, ?_⟩; have n0_ := aM (blk_below (g := gb648) (o := .cells #[.slice A0_0 l0_0.length c0_0, .slice A0_1 l0_1.length c0_1] 27 (0, 0)) aK hb); have n1_ := aM (blk_below (g := gb649) (o := .cells #[.slice none 0 0, .slice none 0 0] 27 (0, 0)) aK hb); have n2_ := aM (below_step aG hb); clear BK648; clear BK649; clear HB; have BK648 := n0_; have BK649 := n1_; have HB := n2_; clear n0_ n1_ n2_; (try clear hb); (try clear hb2); (try clear hk); (try clear hi); have hcz12_0 : w11.cell? ⟨gb648, 0, none⟩ = some (.slice A0_0 l0_0.length c0_0) := (blk_cell BK648.out 0).trans rfl; have hcz12_1 : w11.cell? ⟨gb648, 1, none⟩ = some (.slice A0_1 l0_1.length c0_1) := (blk_cell BK648.out 1).trans rfl; have hfz12_0 := blk_frozen BK648.out 0; have hfz12_1 := blk_frozen BK648.out 1) | (go_at_call 90; (with_reducible refine (spec_l4Set.calls k _ _ l0_0 _ _ l0_1 _ _ l1 t651 _ ?side1 ?side2 ?side3 ?side4 ?side5 ?side6 A8.out).mono ?_); (case side1 => exact aC); (case side2 => exact HC0_0.out); (case side3 => exact aC); (case side4 => exact HC0_1.out); (case side5 => exact aC); (case side6 => exact HC1.out); rintro e w13 ⟨rfl, hb⟩; have n0_ := aM (blk_below (g := gb648) (o := .cells #[.slice A0_0 l0_0.length c0_0, .slice A0_1 l0_1.length c0_1] 27 (0, 0)) aK hb); have n1_ := aM (blk_below (g := gb649) (o := .cells #[.slice none 0 0, .slice none 0 0] 27 (0, 0)) aK hb); have n2_ := aM (below_step aG hb); clear BK648; clear BK649; clear HB; have BK648 := n0_; have BK649 := n1_; have HB := n2_; clear n0_ n1_ n2_; (try clear hb); (try clear hb2); (try clear hk); (try clear hi)))
   go_meet
   case rel => exact ⟨_, (!t651), aX, H', ⟨by first | omega | exact Nat.le_refl _⟩, ⟨aK⟩, ⟨aK⟩, ⟨aG⟩⟩
  ·replace c7 := Bool.eq_false_iff.mpr c7
   subst c7
   have H1 : (spec_SelectFacts.j0 k l1 true l0_0 l0_1) = some (r1, r2, r3) := by rw [if_neg (show ¬ (false = true) by decide)] at H; exact H
   clear H
   have H := H1
   clear H1
   have H' := aM H
   clear H
   have hnb14 := NB648_649.out
   have hnc14 := NB649_648.out
   have hcz15_0 : w5.cell? ⟨gb648, 0, none⟩ = some (.slice A0_0 l0_0.length c0_0) := (blk_cell BK648.out 0).trans rfl
   have hcz15_1 : w5.cell? ⟨gb648, 1, none⟩ = some (.slice A0_1 l0_1.length c0_1) := (blk_cell BK648.out 1).trans rfl
   have hfz15_0 := blk_frozen BK648.out 0
   have hfz15_1 := blk_frozen BK648.out 1
   go_wp2_with (first | ((with_reducible refine gate_callee (f := 10) rfl ?_); refine goesL_ (some 10) rfl rfl Try.func10 (by kernel_rfl) rfl #[.agg #[.slice A0_0 l0_0.length c0_0, .slice A0_1 l0_1.length c0_1]] rfl aA ?_; (with_reducible refine (spec_IsValidDatabase.calls k _ _ l0_0 _ _ l0_1 false _ ?side1 ?side2 ?side3 ?side4 A6.out).mono ?_); (case side1 => exact aC); (case side2 => exact HC0_0.out); (case side3 => exact aC); (case side4 => exact HC0_1.out); rintro e w16 ⟨rfl, hb⟩; refine ⟨_, rfl, ?_⟩; have n0_ := aM (blk_below (g := gb648) (o := .cells #[.slice A0_0 l0_0.length c0_0, .slice A0_1 l0_1.length c0_1] 27 (0, 0)) aK hb); have n1_ := aM (blk_below (g := gb649) (o := .cells #[.slice none 0 0, .slice none 0 0] 27 (0, 0)) aK hb); have n2_ := aM (below_step aG hb); clear BK648; clear BK649; clear HB; have BK648 := n0_; have BK649 := n1_; have HB := n2_; clear n0_ n1_ n2_; (try clear hb); (try clear hb2); (try clear hk); (try clear hi)))
   go_meet
   case rel => exact ⟨_, (true), aX, H', ⟨by first | omega | exact Nat.le_refl _⟩, ⟨aK⟩, ⟨aK⟩, ⟨aG⟩⟩
 case rest =>
  clear HC3
  try clear c1
  try clear p2
  try clear c6
  try clear c7
  try clear c9
  try clear c10
  try clear c14
  try clear hcz10_0
  try clear hcz10_1
  try clear hcz12_0
  try clear hcz12_1
  try clear hcz15_0
  try clear hcz15_1
  try clear hfz10_0
  try clear hfz10_1
  try clear hfz12_0
  try clear hfz12_1
  try clear hfz15_0
  try clear hfz15_1
  obtain ⟨kq, x17_2, rfl, HA, HJ2, BK648, BK649, HB⟩ := hcut
  cases kq with
  | zero => exact absurd HA.out (by simp [spec_SelectFacts.j0])
  | succ kj2 =>
   have H := HA.out
   clear HA
   simp only [spec_SelectFacts.j0] at H
   by_cases c17 : x17_2 = true
   ·subst c17
    replace H := iT H
    simp only [Option.some.injEq, Prod.mk.injEq] at H
    obtain ⟨rfl, rfl, rfl⟩ := H
    have hnb18 := NB649_648.out
    have hnc18 := NB648_649.out
    have hcz19_0 : wc.cell? ⟨gb649, 0, none⟩ = some (.slice none 0 0) := (blk_cell BK649.out 0).trans rfl
    have hcz19_1 : wc.cell? ⟨gb649, 1, none⟩ = some (.slice none 0 0) := (blk_cell BK649.out 1).trans rfl
    have hfz19_0 := blk_frozen BK649.out 0
    have hfz19_1 := blk_frozen BK649.out 1
    go_wp2
    refine bodyPost_ret (results_ct rfl _ _ gb649 27 #[.slice none 0 0, .slice none 0 0] (0, 0) _ rfl (by (with_reducible repeat refine pB ?_); refine blk_put (cs := #[.slice none 0 0, .slice none 0 0]) ?_ 1 _ rfl; (with_reducible repeat refine pB ?_); refine blk_put (cs := #[.slice none 0 0, .slice none 0 0]) ?_ 0 _ rfl; (with_reducible repeat refine pB ?_); exact BK649.out) Try.underlying27 rfl (by kernel_rfl)) rfl ?_
    exact ⟨_, _, aE, by first | exact Kd.R_nil _ _ _ _ _ | exact Kd.N_nil _ _ _ _ _ | exact Kd.V_nil _ _ _ _ _ | exact Kd.Q_nil _ _ _ _ _ | exact Kd.S_nil _ _ _ _ _, by first | exact Kd.S_nil _ _ _ _ _ | exact Kd.N_nil _ _ _ _ _ | exact Kd.V_nil _ _ _ _ _ | exact Kd.Q_nil _ _ _ _ _ | exact Kd.R_nil _ _ _ _ _, aG⟩
   ·replace c17 := Bool.eq_false_iff.mpr c17
    subst c17
    have H1 : ((some (([] : List (S70)) : List (S70))).bind fun y652 => (if y652.length + l0_0.length < 4398046511104 then (spec_SelectFacts.l0 kj2 l1 0 l0_0 l0_1 (y652 ++ l0_0) ([] : List (S35))) else (none))) = some (r1, r2, r3) := by rw [if_neg (show ¬ (false = true) by decide)] at H; exact H
    clear H
    have H := H1
    clear H1
    obtain ⟨y652, hy652⟩ : ∃ y_ : List (S70), y_ = (([] : List (S70))) := ⟨_, rfl⟩
    first | replace H := bY hy652 H | rw [← hy652] at H
    have Ny652 := aM hy652
    clear hy652
    by_cases c20 : y652.length + l0_0.length < 4398046511104
    ·rw [if_pos c20] at H
     have LMc20 := aM c20
     clear c20
     obtain ⟨y655, hy655⟩ : ∃ y_ : List (S70), y_ = (y652 ++ l0_0) := ⟨_, rfl⟩
     first | replace H := bY hy655 H | rw [← hy655] at H
     have Ny655 := aM hy655
     clear hy655
     have H' := aM H
     clear H
     go_wp2_with (first | ((with_reducible refine gate_dst (N := 19) rfl ?_); refine Kd.R_lit k70 _ 70 ?hg (N := 19) ?hd (xs := ([] : List (S70))) (inner := []) (ok := fun _ => True) (okp := fun _ => True) ?hr ?hp (fun _ hk => hk) trivial (Below.refl _ _) (Nat.le_refl _) (by simp) ?_; (case hd => rfl); (case hg => rfl); (case hr => first | (go_simp; done) | (go_simp; rfl)); (case hp => exact (Reps.none _ _)); intro v653 w21 ho22 hb hg_ hnew_; clear hg_ hnew_; (first | rw [← Ny652.out] at ho22 | (simp only [Int.reduceToNat] at ho22; rw [← Ny652.out] at ho22)); have n0_ := aM (Kd.R_lower ho22 (below_size aG)); have n1_ := aM (blk_below (g := gb648) (o := .cells #[.slice A0_0 l0_0.length c0_0, .slice A0_1 l0_1.length c0_1] 27 (0, 0)) aK hb); have n2_ := aM (blk_below (g := gb649) (o := .cells #[.slice none 0 0, .slice none 0 0] 27 (0, 0)) aK hb); have n3_ := aM (below_step aG hb); clear BK648; clear BK649; clear HB; have HO654 := n0_; have BK648 := n1_; have BK649 := n2_; have HB := n3_; clear n0_ n1_ n2_ n3_; clear hb ho22; have hnb23 := NB648_649.out; have hnc23 := NB649_648.out; have hcz24_0 : w21.cell? ⟨gb648, 0, none⟩ = some (.slice A0_0 l0_0.length c0_0) := (blk_cell BK648.out 0).trans rfl; have hcz24_1 : w21.cell? ⟨gb648, 1, none⟩ = some (.slice A0_1 l0_1.length c0_1) := (blk_cell BK648.out 1).trans rfl; have hfz24_0 := blk_frozen BK648.out 0; have hfz24_1 := blk_frozen BK648.out 1) | ((with_reducible refine gate_builtin (b := .append) (xs := #[.tmp 19, .tmp 21]) rfl ?_); at_builtin; refine Kd.R_append_rows k70 (w0 := w) w.heap.size rfl (.tmp 19) (.tmp 21) 24 70 (.agg #[(.string ⟨#[]⟩), (.int .i64 0), (.int .i64 0)]) 32 rfl Try.underlying24 info70 rfl (by decide) (by omega) v653 y652 l0_0 _ _ _ (fun _ => True) (fun _ => False) rfl rfl ?aO ?aR (fun _ _ h => h) (fun _ h => h.elim) ?aF ?aB ?aS ?aL ?_; (case aR => exact aC); (case aB => exact aG); (case aF => exact (fun _ _ => trivial)); (case aO => exact (aR HO654)); (case aS => exact (below_size aG)); (case aL => have := LMc20.out; omega); intro v656 w25 ho hb hg hat; rw [← Ny655.out] at ho; have n0_ := aM (blk_grown (g := gb648) (o := .cells #[.slice A0_0 l0_0.length c0_0, .slice A0_1 l0_1.length c0_1] 27 (0, 0)) aK hg (Kd.R_ne HO654.out BK648.out (by decide))); have n1_ := aM (blk_grown (g := gb649) (o := .cells #[.slice none 0 0, .slice none 0 0] 27 (0, 0)) aK hg (Kd.R_ne HO654.out BK649.out (by decide))); have n2_ := aM (hb); have n3_ := aM (ho); clear BK648; clear BK649; clear HB; clear HO654; have BK648 := n0_; have BK649 := n1_; have HB := n2_; have HO657 := n3_; clear n0_ n1_ n2_ n3_; clear ho hb hg hat; obtain ⟨Ao26, co26, eo26⟩ := Kd.R_slice HO657.out; subst eo26) | ((with_reducible refine gate_dst (N := 6) rfl ?_); refine bE 6 (cs := #[.slice none 0 0, .slice none 0 0]) (t := 27) ?_; intro gb658 hg w27 hbox hb; have n0_ := aM (Kd.R_below (aR HO657) hb); have n1_ := aM (blk_below (g := gb648) (o := .cells #[.slice A0_0 l0_0.length c0_0, .slice A0_1 l0_1.length c0_1] 27 (0, 0)) aK hb); have n2_ := aM (blk_below (g := gb649) (o := .cells #[.slice none 0 0, .slice none 0 0] 27 (0, 0)) aK hb); have n3_ := aM (below_step aG hb); have n4_ := aM (hbox); have n5_ := aM ((by rw [hg]; exact (below_size aG) : w.heap.size ≤ gb658)); have n6_ := aM ((by rw [hg]; exact (below_size aG) : w.heap.size ≤ gb658)); have n7_ := aM ((by rw [hg]; exact Nat.ne_of_lt (blk_lt (g := gb648) (o := .cells #[.slice A0_0 l0_0.length c0_0, .slice A0_1 l0_1.length c0_1] 27 (0, 0)) aK) : gb648 ≠ gb658)); have n8_ := aM ((by rw [hg]; exact Nat.ne_of_gt (blk_lt (g := gb648) (o := .cells #[.slice A0_0 l0_0.length c0_0, .slice A0_1 l0_1.length c0_1] 27 (0, 0)) aK) : gb658 ≠ gb648)); have n9_ := aM ((by rw [hg]; exact Nat.ne_of_lt (blk_lt (g := gb649) (o := .cells #[.slice none 0 0, .slice none 0 0] 27 (0, 0)) aK) : gb649 ≠ gb658)); have n10_ := aM ((by rw [hg]; exact Nat.ne_of_gt (blk_lt (g := gb649) (o := .cells #[.slice none 0 0, .slice none 0 0] 27 (0, 0)) aK) : gb658 ≠ gb649)); clear HO657; clear BK648; clear BK649; clear HB; have HO657 := n0_; have BK648 := n1_; have BK649 := n2_; have HB := n3_; have BK658 := n4_; have GW658 := n5_; have GE658 := n6_; have NB648_658 := n7_; have NB658_648 := n8_; have NB649_658 := n9_; have NB658_649 := n10_; clear n0_ n1_ n2_ n3_ n4_ n5_ n6_ n7_ n8_ n9_ n10_; clear hb hbox hg; have hnb28 := NB658_648.out; have hnc28 := NB648_658.out; have hnb29 := NB658_649.out; have hnc29 := NB649_658.out; have hcz30_0 : w27.cell? ⟨gb658, 0, none⟩ = some (.slice none 0 0) := (blk_cell BK658.out 0).trans rfl; have hcz30_1 : w27.cell? ⟨gb658, 1, none⟩ = some (.slice none 0 0) := (blk_cell BK658.out 1).trans rfl; have hfz30_0 := blk_frozen BK658.out 0; have hfz30_1 := blk_frozen BK658.out 1))
     go_loopg [7] kj2 (fun kq v7 w' => ∃ (x7_2 : Int) (x659001_2 : List (S35)) (u659001 : Value), v7 = .int .i64 x7_2 ∧ Aside0 (spec_SelectFacts.l0 kq l1 x7_2 l0_0 l0_1 y655 x659001_2 = some (r1, r2, r3)) ∧ Aside0 (kq ≤ kj2) ∧ Aside0 (Kd.R k70 70 w' w.heap.size (fun _ => True) (.slice Ao26 y655.length co26) y655) ∧ Aside0 (Kd.S k35 35 w' w.heap.size (fun _ => True) u659001 x659001_2) ∧ Aside0 (w'.heap[gb648]? = some (.cells #[(.slice A0_0 l0_0.length c0_0), (.slice A0_1 l0_1.length c0_1)] 27 (0, 0))) ∧ Aside0 (w'.heap[gb649]? = some (.cells #[(.slice none 0 0), (.slice none 0 0)] 27 (0, 0))) ∧ Aside0 (w'.heap[gb658]? = some (.cells #[(.slice Ao26 y655.length co26), u659001] 27 (0, 0))) ∧ Aside0 (Below w.heap.size w w'))
     case atStart => exact ⟨(0), (([] : List (S35))), (.slice none 0 0), aX, H', ⟨Nat.le_refl _⟩, ⟨by (with_reducible repeat apply pR); exact Kd.R_mono (Kd.R_far (p := ⟨gb658, 1, none⟩) (Kd.R_far (p := ⟨gb658, 0, none⟩) (Kd.R_types HO657.out BK658.out (by decide)) (fun _ hk => hk.2) (.slice Ao26 y655.length co26)) (fun _ hk => hk.2) (.slice none 0 0)) (fun _ hk => trivial)⟩, ⟨by first | exact Kd.S_nil _ _ _ _ _ | exact Kd.N_nil _ _ _ _ _ | exact Kd.V_nil _ _ _ _ _ | exact Kd.Q_nil _ _ _ _ _ | exact Kd.R_nil _ _ _ _ _⟩, ⟨by (with_reducible repeat refine pB ?_); refine blk_far ?_ NB648_658.out _; (with_reducible repeat refine pB ?_); refine blk_far ?_ NB648_658.out _; (with_reducible repeat refine pB ?_); exact BK648.out⟩, ⟨by (with_reducible repeat refine pB ?_); refine blk_far ?_ NB649_658.out _; (with_reducible repeat refine pB ?_); refine blk_far ?_ NB649_658.out _; (with_reducible repeat refine pB ?_); exact BK649.out⟩, ⟨by (with_reducible repeat refine pB ?_); refine blk_put (cs := #[.slice Ao26 y655.length co26, .slice none 0 0]) ?_ 1 _ rfl; (with_reducible repeat refine pB ?_); refine blk_put (cs := #[.slice none 0 0, .slice none 0 0]) ?_ 0 _ rfl; (with_reducible repeat refine pB ?_); exact BK658.out⟩, ⟨aG⟩⟩
     case round =>
      clear H'
      try clear c1
      try clear c2
      try clear p2
      try clear c6
      try clear c7
      try clear c9
      try clear c10
      try clear c14
      try clear c17
      try clear c18
      try clear c20
      try clear c23
      try clear c28
      try clear c29
      try clear hcz10_0
      try clear hcz10_1
      try clear hcz12_0
      try clear hcz12_1
      try clear hcz15_0
      try clear hcz15_1
      try clear hcz19_0
      try clear hcz19_1
      try clear hcz24_0
      try clear hcz24_1
      try clear hcz30_0
      try clear hcz30_1
      try clear hfz10_0
      try clear hfz10_1
      try clear hfz12_0
      try clear hfz12_1
      try clear hfz15_0
      try clear hfz15_1
      try clear hfz19_0
      try clear hfz19_1
      try clear hfz24_0
      try clear hfz24_1
      try clear hfz30_0
      try clear hfz30_1
      try clear p2
      obtain ⟨x7_2, x659001_2, u659001, rfl, HA, HK2, HO_659000, HO_659001, BK648, BK649, BK658, HB⟩ := hrel
      cases gk with
      | zero => exact absurd HA.out (by simp [spec_SelectFacts.l0])
      | succ k2 =>
       have H := HA.out
       clear HA
       simp only [spec_SelectFacts.l0] at H
       by_cases c31 : x7_2 < (l1.length : Int)
       ·rw [if_pos c31] at H
        have c31b0 : decide (x7_2 < (l1.length : Int)) = true := decide_eq_true c31
        clear c31
        by_cases c32 : 0 ≤ x7_2
        ·rw [if_pos c32] at H
         have c32b0 : decide (0 ≤ x7_2) = true := decide_eq_true c32
         clear c32
         by_cases c33 : 0 ≤ (rd l1 x7_2)
         ·rw [if_pos c33] at H
          have c33b0 : decide (0 ≤ (rd l1 x7_2)) = true := decide_eq_true c33
          clear c33
          by_cases c34 : (rd l1 x7_2) < (l0_1.length : Int)
          ·rw [if_pos c34] at H
           have c34b0 : decide ((rd l1 x7_2) < (l0_1.length : Int)) = true := decide_eq_true c34
           clear c34
           obtain ⟨y662, hy662⟩ : ∃ y_ : List Int, y_ = (([] : List Int)) := ⟨_, rfl⟩
           first | replace H := bY hy662 H | rw [← hy662] at H
           have Ny662 := aM hy662
           clear hy662
           by_cases c35 : y662.length + ((rd_T35 l0_1 (rd l1 x7_2)).f1).length < 17592186044416
           ·rw [if_pos c35] at H
            have LMc35 := aM c35
            clear c35
            obtain ⟨y665, hy665⟩ : ∃ y_ : List Int, y_ = (y662 ++ ((rd_T35 l0_1 (rd l1 x7_2)).f1)) := ⟨_, rfl⟩
            first | replace H := bY hy665 H | rw [← hy665] at H
            have Ny665 := aM hy665
            clear hy665
            by_cases c36 : x659001_2.length < 4398046511104
            ·rw [if_pos c36] at H
             have LMc36 := aM c36
             clear c36
             obtain ⟨y668, hy668⟩ : ∃ y_ : List (S35), y_ = (x659001_2 ++ [(⟨(rd_T35 l0_1 (rd l1 x7_2)).f0, y665⟩ : S35)]) := ⟨_, rfl⟩
             first | replace H := bY hy668 H | rw [← hy668] at H
             have Ny668 := aM hy668
             clear hy668
             have H' := aM H
             clear H
             try go_wp2
             replace HO_659000 := aM (Kd.R_drew HO_659000.out)
             replace HO_659001 := aM (Kd.S_drew HO_659001.out)
             replace BK648 := aM (blk_drew BK648.out)
             replace BK649 := aM (blk_drew BK649.out)
             replace BK658 := aM (blk_drew BK658.out)
             replace HB := aM (below_drew1 HB.out)
             have p659 : 0 ≤ (x7_2 : Int) := aD
             have q659 : x7_2 < (l1.length : Int) := aD
             obtain ⟨ad659, e659, hx659_0⟩ := Kd.at_int HR1.out x7_2 p659 q659
             have hw659_0 := hx659_0
             cases e659
             replace hx659_0 := (HB.out.cell (World.block_lt_of_cell? w _ hx659_0)).trans hx659_0
             replace p659 := eq_true p659
             replace q659 := eq_true q659
             have p660 : 0 ≤ ((rd l1 x7_2) : Int) := aD
             have q660 : (rd l1 x7_2) < (l0_1.length : Int) := aD
             obtain ⟨ad660, A660_1, c660_1, e660, hx660_0, hx660_1, hl660_1, hi660_1⟩ := at_T35 HR0_1.out (rd l1 x7_2) p660 q660
             have hw660_1 := hx660_1
             have hw660_0 := hx660_0
             cases e660
             replace hx660_0 := (HB.out.cell (World.block_lt_of_cell? w _ hx660_0)).trans hx660_0
             replace hx660_1 := (HB.out.cell (World.block_lt_of_cell? w _ hx660_1)).trans hx660_1
             have HR660_1 := aM hi660_1
             have HC660_1 := aM hl660_1
             clear hi660_1 hl660_1
             replace p660 := eq_true p660
             replace q660 := eq_true q660
             refine start_ (n := 10) (S := fun w' => w'.cell? ⟨gb648, 0, none⟩ = some (.slice A0_0 l0_0.length c0_0) ∧ w'.cell? ⟨gb648, 1, none⟩ = some (.slice (some ad660) l0_1.length c0_1) ∧ w'.cell? (ad659.add (x7_2).toNat) = some (.int .i64 (rd l1 x7_2)) ∧ w'.cell? (ad660.add (((rd l1 x7_2)).toNat * 2)) = some (.int .i64 ((rd_T35 l0_1 (rd l1 x7_2)).f0)) ∧ w'.cell? ⟨(ad660.add (((rd l1 x7_2)).toNat * 2)).block, (ad660.add (((rd l1 x7_2)).toNat * 2)).off + 1, none⟩ = some (.slice A660_1 ((rd_T35 l0_1 (rd l1 x7_2)).f1).length c660_1)) (ds := []) #[false, false, false, false, false, false, false, false, false, false] (by kernel_rfl) rfl rfl ⟨(blk_cell BK648.out 0).trans rfl, (blk_cell BK648.out 1).trans rfl, (pw_cell_below HB.out hw659_0), (pw_cell_below HB.out hw660_0), (pw_cell_below HB.out hw660_1)⟩ (fun hHeld => ?_); refine with_tabW spec_SelectFacts.tab7 spec_SelectFacts.bits7 (fun HT_ HW_ => ?_)
             generalize wr.drew = w37 at HO_659000 HO_659001 BK648 BK649 BK658 HB HR660_1 hx659_0 hx660_0 hx660_1 hHeld ⊢
             refine pU 0 30 ?_
             refine pU 2 32 ?_
             refine pU 3 33 ?_
             refine pU 4 34 ?_
             refine tU5 1 31 hHeld ?_
             refine tU5 5 35 hHeld ?_
             refine pU 6 36 ?_
             refine tU5 7 37 hHeld ?_
             refine oU 8 8 (fun K hK => ?_)
             refine box_step ?hg (N := 8) ?hd (cs := #[.int .i64 0, .slice none 0 0]) (t := 35) ?hr ?_; (case hd => rfl); (case hg => rfl); (case hr => first | (go_simp; done) | (go_simp; rfl))
             intro gb661 hg w38 hbox hb
             have n0_ := aM (Kd.R_below (aR HO_659000) hb)
             have n1_ := aM (Kd.S_below (Kd.S_elderB (aS HO_659001) gb661 (Nat.le_of_eq hg.symm)) hb)
             have n2_ := aM (blk_below (g := gb648) (o := .cells #[.slice A0_0 l0_0.length c0_0, .slice (some ad660) l0_1.length c0_1] 27 (0, 0)) aK hb)
             have n3_ := aM (blk_below (g := gb649) (o := .cells #[.slice none 0 0, .slice none 0 0] 27 (0, 0)) aK hb)
             have n4_ := aM (blk_below (g := gb658) (o := .cells #[.slice Ao26 y655.length co26, u659001] 27 (0, 0)) aK hb)
             have n5_ := aM (below_step aG hb)
             have n6_ := aM (hbox)
             have n7_ := aM ((by rw [hg]; exact (below_size aG) : w.heap.size ≤ gb661))
             have n8_ := aM ((by rw [hg]; exact (below_size aG) : w.heap.size ≤ gb661))
             have n9_ := aM ((by rw [hg]; exact Nat.ne_of_lt (blk_lt (g := gb648) (o := .cells #[.slice A0_0 l0_0.length c0_0, .slice (some ad660) l0_1.length c0_1] 27 (0, 0)) aK) : gb648 ≠ gb661))
             have n10_ := aM ((by rw [hg]; exact Nat.ne_of_gt (blk_lt (g := gb648) (o := .cells #[.slice A0_0 l0_0.length c0_0, .slice (some ad660) l0_1.length c0_1] 27 (0, 0)) aK) : gb661 ≠ gb648))
             have n11_ := aM ((by rw [hg]; exact Nat.ne_of_lt (blk_lt (g := gb649) (o := .cells #[.slice none 0 0, .slice none 0 0] 27 (0, 0)) aK) : gb649 ≠ gb661))
             have n12_ := aM ((by rw [hg]; exact Nat.ne_of_gt (blk_lt (g := gb649) (o := .cells #[.slice none 0 0, .slice none 0 0] 27 (0, 0)) aK) : gb661 ≠ gb649))
             have n13_ := aM ((by rw [hg]; exact Nat.ne_of_lt (blk_lt (g := gb658) (o := .cells #[.slice Ao26 y655.length co26, u659001] 27 (0, 0)) aK) : gb658 ≠ gb661))
             have n14_ := aM ((by rw [hg]; exact Nat.ne_of_gt (blk_lt (g := gb658) (o := .cells #[.slice Ao26 y655.length co26, u659001] 27 (0, 0)) aK) : gb661 ≠ gb658))
             clear HO_659000
             clear HO_659001
             clear BK648
             clear BK649
             clear BK658
             clear HB
             have HO_659000 := n0_
             have HO_659001 := n1_
             have BK648 := n2_
             have BK649 := n3_
             have BK658 := n4_
             have HB := n5_
             have BK661 := n6_
             have GW661 := n7_
             have GE661 := n8_
             have NB648_661 := n9_
             have NB661_648 := n10_
             have NB649_661 := n11_
             have NB661_649 := n12_
             have NB658_661 := n13_
             have NB661_658 := n14_
             clear n0_ n1_ n2_ n3_ n4_ n5_ n6_ n7_ n8_ n9_ n10_ n11_ n12_ n13_ n14_
             clear hb hbox hg
             refine hK.out _ _ ⟨(blk_cell BK648.out 0).trans rfl, (blk_cell BK648.out 1).trans rfl, (pw_cell_below HB.out hw659_0), (pw_cell_below HB.out hw660_0), (pw_cell_below HB.out hw660_1)⟩ (fun hHeld => ?_)
             clear hK K
             refine nU 8 ?_
             refine one_ (i := 9) (N := none) #[true, true, true, true, true, true, true, true, true, true] rfl rfl (one_of HT_.out (by kernel_rfl)) (by decide) (fun K hK => ?_)
             have hs39 : w38.cell? ⟨gb661, 0, none⟩ = some (.int .i64 0) := (blk_cell BK661.out 0).trans rfl
             have hfs39 := blk_frozen BK661.out 0
             have hns39_0 := NB648_661.out
             have hns39_1 := NB649_661.out
             have hns39_2 := NB658_661.out
             have hms39_0 := NB661_648.out
             have hms39_1 := NB661_649.out
             have hms39_2 := NB661_658.out
             have hs40 : w38.cell? ⟨gb661, 1, none⟩ = some (.slice none 0 0) := (blk_cell BK661.out 1).trans rfl
             have hfs40 := blk_frozen BK661.out 1
             have hns40_0 := NB648_661.out
             have hns40_1 := NB649_661.out
             have hns40_2 := NB658_661.out
             have hms40_0 := NB661_648.out
             have hms40_1 := NB661_649.out
             have hms40_2 := NB661_658.out
             refine skip_ (w1 := ?_) (by rfl) rfl ?_ ?_
             rotate_left
             ·go_simp
              rfl
             refine hK.out _ _ ⟨((cell_far (p := ⟨gb661, _, none⟩) NB648_661.out _).trans (((cell_far (p := ⟨gb661, _, none⟩) NB648_661.out _).trans (hHeld.1)))), ((cell_far (p := ⟨gb661, _, none⟩) NB648_661.out _).trans (((cell_far (p := ⟨gb661, _, none⟩) NB648_661.out _).trans (hHeld.2.1)))), ((cell_far (p := ⟨gb661, _, none⟩) (by first | exact Nat.ne_of_lt (Nat.lt_of_lt_of_le (by have := World.block_lt_of_cell? _ _ hw659_0; first | rwa [add_block] at this | exact this) GW661.out) | (rw [add_block]; exact Nat.ne_of_lt (Nat.lt_of_lt_of_le (by have := World.block_lt_of_cell? _ _ hw659_0; first | rwa [add_block] at this | exact this) GW661.out)) | (show (Addr.add _ _).block ≠ _; rw [add_block]; exact Nat.ne_of_lt (Nat.lt_of_lt_of_le (by have := World.block_lt_of_cell? _ _ hw659_0; first | rwa [add_block] at this | exact this) GW661.out)) | (dsimp only; exact Nat.ne_of_lt (Nat.lt_of_lt_of_le (by have := World.block_lt_of_cell? _ _ hw659_0; first | rwa [add_block] at this | exact this) GW661.out))) _).trans (((cell_far (p := ⟨gb661, _, none⟩) (by first | exact Nat.ne_of_lt (Nat.lt_of_lt_of_le (by have := World.block_lt_of_cell? _ _ hw659_0; first | rwa [add_block] at this | exact this) GW661.out) | (rw [add_block]; exact Nat.ne_of_lt (Nat.lt_of_lt_of_le (by have := World.block_lt_of_cell? _ _ hw659_0; first | rwa [add_block] at this | exact this) GW661.out)) | (show (Addr.add _ _).block ≠ _; rw [add_block]; exact Nat.ne_of_lt (Nat.lt_of_lt_of_le (by have := World.block_lt_of_cell? _ _ hw659_0; first | rwa [add_block] at this | exact this) GW661.out)) | (dsimp only; exact Nat.ne_of_lt (Nat.lt_of_lt_of_le (by have := World.block_lt_of_cell? _ _ hw659_0; first | rwa [add_block] at this | exact this) GW661.out))) _).trans (hHeld.2.2.1)))), ((cell_far (p := ⟨gb661, _, none⟩) (by first | exact Nat.ne_of_lt (Nat.lt_of_lt_of_le (by have := World.block_lt_of_cell? _ _ hw660_0; first | rwa [add_block] at this | exact this) GW661.out) | (rw [add_block]; exact Nat.ne_of_lt (Nat.lt_of_lt_of_le (by have := World.block_lt_of_cell? _ _ hw660_0; first | rwa [add_block] at this | exact this) GW661.out)) | (show (Addr.add _ _).block ≠ _; rw [add_block]; exact Nat.ne_of_lt (Nat.lt_of_lt_of_le (by have := World.block_lt_of_cell? _ _ hw660_0; first | rwa [add_block] at this | exact this) GW661.out)) | (dsimp only; exact Nat.ne_of_lt (Nat.lt_of_lt_of_le (by have := World.block_lt_of_cell? _ _ hw660_0; first | rwa [add_block] at this | exact this) GW661.out))) _).trans (((cell_far (p := ⟨gb661, _, none⟩) (by first | exact Nat.ne_of_lt (Nat.lt_of_lt_of_le (by have := World.block_lt_of_cell? _ _ hw660_0; first | rwa [add_block] at this | exact this) GW661.out) | (rw [add_block]; exact Nat.ne_of_lt (Nat.lt_of_lt_of_le (by have := World.block_lt_of_cell? _ _ hw660_0; first | rwa [add_block] at this | exact this) GW661.out)) | (show (Addr.add _ _).block ≠ _; rw [add_block]; exact Nat.ne_of_lt (Nat.lt_of_lt_of_le (by have := World.block_lt_of_cell? _ _ hw660_0; first | rwa [add_block] at this | exact this) GW661.out)) | (dsimp only; exact Nat.ne_of_lt (Nat.lt_of_lt_of_le (by have := World.block_lt_of_cell? _ _ hw660_0; first | rwa [add_block] at this | exact this) GW661.out))) _).trans (hHeld.2.2.2.1)))), ((cell_far (p := ⟨gb661, _, none⟩) (by first | exact Nat.ne_of_lt (Nat.lt_of_lt_of_le (by have := World.block_lt_of_cell? _ _ hw660_1; first | rwa [add_block] at this | exact this) GW661.out) | (rw [add_block]; exact Nat.ne_of_lt (Nat.lt_of_lt_of_le (by have := World.block_lt_of_cell? _ _ hw660_1; first | rwa [add_block] at this | exact this) GW661.out)) | (show (Addr.add _ _).block ≠ _; rw [add_block]; exact Nat.ne_of_lt (Nat.lt_of_lt_of_le (by have := World.block_lt_of_cell? _ _ hw660_1; first | rwa [add_block] at this | exact this) GW661.out)) | (dsimp only; exact Nat.ne_of_lt (Nat.lt_of_lt_of_le (by have := World.block_lt_of_cell? _ _ hw660_1; first | rwa [add_block] at this | exact this) GW661.out))) _).trans (((cell_far (p := ⟨gb661, _, none⟩) (by first | exact Nat.ne_of_lt (Nat.lt_of_lt_of_le (by have := World.block_lt_of_cell? _ _ hw660_1; first | rwa [add_block] at this | exact this) GW661.out) | (rw [add_block]; exact Nat.ne_of_lt (Nat.lt_of_lt_of_le (by have := World.block_lt_of_cell? _ _ hw660_1; first | rwa [add_block] at this | exact this) GW661.out)) | (show (Addr.add _ _).block ≠ _; rw [add_block]; exact Nat.ne_of_lt (Nat.lt_of_lt_of_le (by have := World.block_lt_of_cell? _ _ hw660_1; first | rwa [add_block] at this | exact this) GW661.out)) | (dsimp only; exact Nat.ne_of_lt (Nat.lt_of_lt_of_le (by have := World.block_lt_of_cell? _ _ hw660_1; first | rwa [add_block] at this | exact this) GW661.out))) _).trans (hHeld.2.2.2.2))))⟩ (fun hHeld => ?_)
             clear hK K
             refine done_ (done_of HT_.out (by kernel_rfl)) ?_
             try go_wp2
             have n0_ : Aside0 (Kd.R k70 70 ((w38.setCell ⟨gb661, 0, none⟩ (.int .i64 ((rd_T35 l0_1 (rd l1 x7_2)).f0))).setCell ⟨gb661, 1, none⟩ (.slice A660_1 ((rd_T35 l0_1 (rd l1 x7_2)).f1).length c660_1)) w.heap.size (fun _ => True) (.slice Ao26 y655.length co26) y655) := ⟨by (with_reducible repeat apply pR); exact Kd.R_mono (Kd.R_far (p := ⟨gb661, 1, none⟩) (Kd.R_far (p := ⟨gb661, 0, none⟩) (Kd.R_types HO_659000.out BK661.out (by decide)) (fun _ hk => hk.2) (.int .i64 ((rd_T35 l0_1 (rd l1 x7_2)).f0))) (fun _ hk => hk.2) (.slice A660_1 ((rd_T35 l0_1 (rd l1 x7_2)).f1).length c660_1)) (fun _ hk => trivial)⟩
             have n1_ : Aside0 (Kd.S k35 35 ((w38.setCell ⟨gb661, 0, none⟩ (.int .i64 ((rd_T35 l0_1 (rd l1 x7_2)).f0))).setCell ⟨gb661, 1, none⟩ (.slice A660_1 ((rd_T35 l0_1 (rd l1 x7_2)).f1).length c660_1)) w.heap.size (fun k_ => k_ ≠ gb661) u659001 x659001_2) := ⟨by (with_reducible repeat apply pS); exact Kd.S_mono (Kd.S_far (p := ⟨gb661, 1, none⟩) (Kd.S_far (p := ⟨gb661, 0, none⟩) (Kd.S_mono HO_659001.out (fun k_ hk => (⟨hk, hk.2⟩ : _ ∧ k_ ≠ gb661))) (fun _ hk => hk.2) (.int .i64 ((rd_T35 l0_1 (rd l1 x7_2)).f0))) (fun _ hk => hk.2) (.slice A660_1 ((rd_T35 l0_1 (rd l1 x7_2)).f1).length c660_1)) (fun _ hk => hk.1.2)⟩
             have n2_ : Aside0 (((w38.setCell ⟨gb661, 0, none⟩ (.int .i64 ((rd_T35 l0_1 (rd l1 x7_2)).f0))).setCell ⟨gb661, 1, none⟩ (.slice A660_1 ((rd_T35 l0_1 (rd l1 x7_2)).f1).length c660_1)).heap[gb648]? = some (.cells #[.slice A0_0 l0_0.length c0_0, .slice (some ad660) l0_1.length c0_1] 27 (0, 0))) := ⟨by (with_reducible repeat refine pB ?_); refine blk_far ?_ NB648_661.out _; (with_reducible repeat refine pB ?_); refine blk_far ?_ NB648_661.out _; (with_reducible repeat refine pB ?_); exact BK648.out⟩
             have n3_ : Aside0 (((w38.setCell ⟨gb661, 0, none⟩ (.int .i64 ((rd_T35 l0_1 (rd l1 x7_2)).f0))).setCell ⟨gb661, 1, none⟩ (.slice A660_1 ((rd_T35 l0_1 (rd l1 x7_2)).f1).length c660_1)).heap[gb649]? = some (.cells #[.slice none 0 0, .slice none 0 0] 27 (0, 0))) := ⟨by (with_reducible repeat refine pB ?_); refine blk_far ?_ NB649_661.out _; (with_reducible repeat refine pB ?_); refine blk_far ?_ NB649_661.out _; (with_reducible repeat refine pB ?_); exact BK649.out⟩
             have n4_ : Aside0 (((w38.setCell ⟨gb661, 0, none⟩ (.int .i64 ((rd_T35 l0_1 (rd l1 x7_2)).f0))).setCell ⟨gb661, 1, none⟩ (.slice A660_1 ((rd_T35 l0_1 (rd l1 x7_2)).f1).length c660_1)).heap[gb658]? = some (.cells #[.slice Ao26 y655.length co26, u659001] 27 (0, 0))) := ⟨by (with_reducible repeat refine pB ?_); refine blk_far ?_ NB658_661.out _; (with_reducible repeat refine pB ?_); refine blk_far ?_ NB658_661.out _; (with_reducible repeat refine pB ?_); exact BK658.out⟩
             have n5_ : Aside0 (((w38.setCell ⟨gb661, 0, none⟩ (.int .i64 ((rd_T35 l0_1 (rd l1 x7_2)).f0))).setCell ⟨gb661, 1, none⟩ (.slice A660_1 ((rd_T35 l0_1 (rd l1 x7_2)).f1).length c660_1)).heap[gb661]? = some (.cells #[.int .i64 ((rd_T35 l0_1 (rd l1 x7_2)).f0), .slice A660_1 ((rd_T35 l0_1 (rd l1 x7_2)).f1).length c660_1] 35 (0, 0))) := ⟨by (with_reducible repeat refine pB ?_); refine blk_put (cs := #[.int .i64 ((rd_T35 l0_1 (rd l1 x7_2)).f0), .slice none 0 0]) ?_ 1 _ rfl; (with_reducible repeat refine pB ?_); refine blk_put (cs := #[.int .i64 0, .slice none 0 0]) ?_ 0 _ rfl; (with_reducible repeat refine pB ?_); exact BK661.out⟩
             have n6_ : Aside0 (Below w.heap.size w ((w38.setCell ⟨gb661, 0, none⟩ (.int .i64 ((rd_T35 l0_1 (rd l1 x7_2)).f0))).setCell ⟨gb661, 1, none⟩ (.slice A660_1 ((rd_T35 l0_1 (rd l1 x7_2)).f1).length c660_1))) := ⟨aG⟩
             (try clear HO_659000)
             (try clear HO_659001)
             (try clear BK648)
             (try clear BK649)
             (try clear BK658)
             (try clear BK661)
             (try clear HB)
             generalize ((w38.setCell ⟨gb661, 0, none⟩ (.int .i64 ((rd_T35 l0_1 (rd l1 x7_2)).f0))).setCell ⟨gb661, 1, none⟩ (.slice A660_1 ((rd_T35 l0_1 (rd l1 x7_2)).f1).length c660_1)) = w41 at n0_ n1_ n2_ n3_ n4_ n5_ n6_ ⊢
             have HO_659000 := n0_
             have HO_659001 := n1_
             have BK648 := n2_
             have BK649 := n3_
             have BK658 := n4_
             have BK661 := n5_
             have HB := n6_
             clear n0_ n1_ n2_ n3_ n4_ n5_ n6_
             replace HO_659000 := aM (Kd.R_drew HO_659000.out)
             replace HO_659001 := aM (Kd.S_drew HO_659001.out)
             replace BK648 := aM (blk_drew BK648.out)
             replace BK649 := aM (blk_drew BK649.out)
             replace BK658 := aM (blk_drew BK658.out)
             replace BK661 := aM (blk_drew BK661.out)
             replace HB := aM (below_drew1 HB.out)
             refine start_ (n := 13) (S := fun w' => w'.cell? ⟨gb658, 0, none⟩ = some (.slice Ao26 y655.length co26) ∧ w'.cell? ⟨gb658, 1, none⟩ = some (u659001) ∧ w'.cell? ⟨gb661, 0, none⟩ = some (.int .i64 ((rd_T35 l0_1 (rd l1 x7_2)).f0)) ∧ w'.cell? ⟨gb661, 1, none⟩ = some (.slice A660_1 ((rd_T35 l0_1 (rd l1 x7_2)).f1).length c660_1)) (ds := [12]) #[false, false, false, false, false, false, false, false, false, false, false, false, false] (by kernel_rfl) rfl rfl ⟨(blk_cell BK658.out 0).trans rfl, (blk_cell BK658.out 1).trans rfl, (blk_cell BK661.out 0).trans rfl, (blk_cell BK661.out 1).trans rfl⟩ (fun hHeld => ?_); refine with_tabW spec_SelectFacts.tab8 spec_SelectFacts.bits8 (fun HT_ HW_ => ?_)
             generalize w41.drew = w42 at HO_659000 HO_659001 BK648 BK649 BK658 BK661 HB hHeld ⊢
             refine pU 0 38 ?_
             refine pU 2 40 ?_
             refine pU 5 43 ?_
             refine tU4 1 39 hHeld ?_
             refine tU4 3 41 hHeld ?_
             refine tU4 6 44 hHeld ?_
             refine oU 4 42 (fun K hK => ?_)
             refine Kd.R_lit_step (Kd.int .i64) _ 3 ?hg (N := 42) ?hd (xs := ([] : List Int)) (inner := []) (ok := fun _ => True) (okp := fun _ => True) ?hr ?hp (fun _ hk => hk) trivial (Below.refl _ _) (Nat.le_refl _) (by simp) ?_; (case hd => rfl); (case hg => rfl); (case hr => first | (go_simp; done) | (go_simp; rfl)); (case hp => exact (Reps.none _ _))
             intro v663 w43 ho44 hb hg_ hnew_
             clear hg_ hnew_
             (first | rw [← Ny662.out] at ho44 | (simp only [Int.reduceToNat] at ho44; rw [← Ny662.out] at ho44))
             have n0_ := aM (Kd.R_below (aR HO_659000) hb)
             have n1_ := aM (Kd.S_elder' (aS HO_659001) (Kd.R_base ho44) hb)
             have n2_ := aM (Kd.R_lower ho44 (below_size aG))
             have n3_ := aM (blk_below (g := gb648) (o := .cells #[.slice A0_0 l0_0.length c0_0, .slice (some ad660) l0_1.length c0_1] 27 (0, 0)) aK hb)
             have n4_ := aM (blk_below (g := gb649) (o := .cells #[.slice none 0 0, .slice none 0 0] 27 (0, 0)) aK hb)
             have n5_ := aM (blk_below (g := gb658) (o := .cells #[.slice Ao26 y655.length co26, u659001] 27 (0, 0)) aK hb)
             have n6_ := aM (blk_below (g := gb661) (o := .cells #[.int .i64 ((rd_T35 l0_1 (rd l1 x7_2)).f0), .slice A660_1 ((rd_T35 l0_1 (rd l1 x7_2)).f1).length c660_1] 35 (0, 0)) aK hb)
             have n7_ := aM (below_step aG hb)
             clear HO_659000
             clear HO_659001
             clear BK648
             clear BK649
             clear BK658
             clear BK661
             clear HB
             have HO_659000 := n0_
             have HO_659001 := n1_
             have HO664 := n2_
             have BK648 := n3_
             have BK649 := n4_
             have BK658 := n5_
             have BK661 := n6_
             have HB := n7_
             clear n0_ n1_ n2_ n3_ n4_ n5_ n6_ n7_
             clear hb ho44
             refine hK.out _ _ ⟨(blk_cell BK658.out 0).trans rfl, (blk_cell BK658.out 1).trans rfl, (blk_cell BK661.out 0).trans rfl, (blk_cell BK661.out 1).trans rfl⟩ (fun hHeld => ?_)
             clear hK K
             refine nU 42 ?_
             refine oU 7 45 (fun K hK => ?_)
             refine Kd.R_append_rows_step (Kd.int .i64) (w0 := w) w.heap.size (by rfl) (.tmp 42) (.tmp 44) 32 3 (.int .i64 0) 8 rfl Try.underlying32 info3 rfl (by decide) (by omega) v663 y662 ((rd_T35 l0_1 (rd l1 x7_2)).f1) _ _ _ (fun _ => True) (fun _ => False) rfl rfl ?aO ?aR (fun _ _ h => h) (fun _ h => h.elim) ?aF ?aB ?aS ?aL ?_
             (case aR => exact aC)
             (case aB => exact aG)
             (case aF => exact (fun _ _ => trivial))
             (case aO => exact (aR HO664))
             (case aS => exact (below_size aG))
             (case aL => have := LMc35.out; omega)
             intro v666 w45 ho hb hg hat
             rw [← Ny665.out] at ho
             have n0_ := aM (Kd.R_over' (aR HO_659000) (Kd.R_typed (aR HO664)) (by decide) hg)
             have n1_ := aM (Kd.S_after (ok := (fun k_ => k_ ≠ gb661)) (aS HO_659001) hg hat)
             have n2_ := aM (blk_grown (g := gb648) (o := .cells #[.slice A0_0 l0_0.length c0_0, .slice (some ad660) l0_1.length c0_1] 27 (0, 0)) aK hg (Kd.R_ne HO664.out BK648.out (by decide)))
             have n3_ := aM (blk_grown (g := gb649) (o := .cells #[.slice none 0 0, .slice none 0 0] 27 (0, 0)) aK hg (Kd.R_ne HO664.out BK649.out (by decide)))
             have n4_ := aM (blk_grown (g := gb658) (o := .cells #[.slice Ao26 y655.length co26, u659001] 27 (0, 0)) aK hg (Kd.R_ne HO664.out BK658.out (by decide)))
             have n5_ := aM (blk_grown (g := gb661) (o := .cells #[.int .i64 ((rd_T35 l0_1 (rd l1 x7_2)).f0), .slice A660_1 ((rd_T35 l0_1 (rd l1 x7_2)).f1).length c660_1] 35 (0, 0)) aK hg (Kd.R_ne HO664.out BK661.out (by decide)))
             have n6_ := aM (hb)
             have n7_ := aM (ho)
             clear HO_659000
             clear HO_659001
             clear BK648
             clear BK649
             clear BK658
             clear BK661
             clear HB
             clear HO664
             have HO_659000 := n0_
             have HO_659001 := n1_
             have BK648 := n2_
             have BK649 := n3_
             have BK658 := n4_
             have BK661 := n5_
             have HB := n6_
             have HO667 := n7_
             clear n0_ n1_ n2_ n3_ n4_ n5_ n6_ n7_
             clear ho hb hg hat
             obtain ⟨Ao46, co46, eo46⟩ := Kd.R_slice HO667.out
             (first | subst eo46 | (injection eo46 with f1_ f2_ f3_; have f4_ := f1_.symm; have f5_ := f3_.symm; clear f1_ f2_ f3_; subst f4_; subst f5_))
             refine hK.out _ _ ⟨(blk_cell BK658.out 0).trans rfl, (blk_cell BK658.out 1).trans rfl, (blk_cell BK661.out 0).trans rfl, (blk_cell BK661.out 1).trans rfl⟩ (fun hHeld => ?_)
             clear hK K
             refine nU 45 ?_
             refine pU 8 46 ?_
             refine oU 9 47 (fun K hK => ?_)
             refine value_ (w1 := ?_) (v := ?_) (by rfl) rfl ?_ ?_
             rotate_left 2
             ·go_simp
              constructor
              ·rfl
              ·rfl
             refine hK.out _ _ ⟨(blk_cell (blk_alloc BK658.out _) 0).trans rfl, (blk_cell (blk_alloc BK658.out _) 1).trans rfl, (blk_cell (blk_alloc BK661.out _) 0).trans rfl, (blk_cell (blk_alloc BK661.out _) 1).trans rfl⟩ (fun hHeld => ?_)
             clear hK K
             refine nU 47 ?_
             refine oU 10 48 (fun K hK => ?_)
             refine Kd.S_append_step k35 (w0 := w) w.heap.size (by rfl) (.tmp 39) (.tmp 47) 25 35 (.agg #[(.int .i64 0), (.slice none 0 0)]) 32 rfl Try.underlying25 info35 rfl (by decide) (by omega) u659001 x659001_2 (⟨(rd_T35 l0_1 (rd l1 x7_2)).f0, y665⟩ : S35) [.int .i64 ((rd_T35 l0_1 (rd l1 x7_2)).f0), .slice Ao46 y665.length co46] (fun k_ => k_ ≠ gb661) (fun k_ => some k_ = (.slice Ao46 y665.length co46 : Value).ownBlock) rfl rfl ?aP (fun k_ hk_ => ((Kd.R_mono (ok' := fun k_ => ((fun k_ => k_ ≠ gb661)) k_ ∧ some k_ ≠ (u659001 : Value).ownBlock) (Kd.R_types (Kd.R_apart' (HO667.out) (Kd.S_typed HO_659001.out) (by decide)) BK661.out (by decide)) (fun k_ hk => ⟨hk.2, hk.1.2⟩))).1 k_ hk_.symm) ?aF ?aO ?aB ?aS ?aL ?_
             (case aP => exact k35_mkM _ _ _ (⟨(rd_T35 l0_1 (rd l1 x7_2)).f0, y665⟩ : S35) (Kd.R_mono (Kd.R_tight rfl (Kd.R_mono (ok' := fun k_ => ((fun k_ => k_ ≠ gb661)) k_ ∧ some k_ ≠ (u659001 : Value).ownBlock) (Kd.R_types (Kd.R_apart' (HO667.out) (Kd.S_typed HO_659001.out) (by decide)) BK661.out (by decide)) (fun k_ hk => ⟨hk.2, hk.1.2⟩))) (fun _ h_ => h_)))
             (case aB => exact aG)
             (case aF => exact (fun k_ hk => Kd.freshB (g := gb661) (o := .cells #[.int .i64 ((rd_T35 l0_1 (rd l1 x7_2)).f0), .slice A660_1 ((rd_T35 l0_1 (rd l1 x7_2)).f1).length c660_1] 35 (0, 0)) aK k_ hk))
             (case aO => exact (by (with_reducible repeat apply pS); exact Kd.S_mono HO_659001.out (fun k_ hk => ⟨hk.1, fun e_ => hk.2 e_⟩)))
             (case aS => exact (below_size aG))
             (case aL => have := LMc36.out; omega)
             intro v669 w47 ho hb hg hat
             rw [← Ny668.out] at ho
             have n0_ := aM (Kd.R_over' (aR HO_659000) (Kd.S_typed (aS HO_659001)) (by decide) hg)
             have n1_ := aM (blk_grown (g := gb648) (o := .cells #[.slice A0_0 l0_0.length c0_0, .slice (some ad660) l0_1.length c0_1] 27 (0, 0)) aK hg (Kd.S_ne HO_659001.out BK648.out (by decide)))
             have n2_ := aM (blk_grown (g := gb649) (o := .cells #[.slice none 0 0, .slice none 0 0] 27 (0, 0)) aK hg (Kd.S_ne HO_659001.out BK649.out (by decide)))
             have n3_ := aM (blk_grown (g := gb658) (o := .cells #[.slice Ao26 y655.length co26, u659001] 27 (0, 0)) aK hg (Kd.S_ne HO_659001.out BK658.out (by decide)))
             have n4_ := aM (blk_grown (g := gb661) (o := .cells #[.int .i64 ((rd_T35 l0_1 (rd l1 x7_2)).f0), .slice A660_1 ((rd_T35 l0_1 (rd l1 x7_2)).f1).length c660_1] 35 (0, 0)) aK hg (Kd.S_away HO_659001.out (fun _ hk => hk.1)))
             have n5_ := aM (hb)
             have n6_ := aM (ho)
             clear HO_659000
             clear BK648
             clear BK649
             clear BK658
             clear BK661
             clear HB
             clear HO_659001
             clear HO667
             have HO_659000 := n0_
             have BK648 := n1_
             have BK649 := n2_
             have BK658 := n3_
             have BK661 := n4_
             have HB := n5_
             have HO670 := n6_
             clear n0_ n1_ n2_ n3_ n4_ n5_ n6_
             clear ho hb hg hat
             obtain ⟨Ao48, co48, eo48⟩ := Kd.S_slice HO670.out
             (first | subst eo48 | (injection eo48 with f1_ f2_ f3_; have f4_ := f1_.symm; have f5_ := f3_.symm; clear f1_ f2_ f3_; subst f4_; subst f5_))
             refine hK.out _ _ ⟨(blk_cell BK658.out 0).trans rfl, (blk_cell BK658.out 1).trans rfl, (blk_cell BK661.out 0).trans rfl, (blk_cell BK661.out 1).trans rfl⟩ (fun hHeld => ?_)
             clear hK K
             refine nU 48 ?_
             refine pU 11 49 ?_
             refine last_ (i := 12) (N := none) #[true, true, true, true, true, true, true, true, true, true, true, true, true] rfl rfl (one_of HT_.out (by kernel_rfl)) (by decide) (fun K hK => ?_)
             have hs49 : w47.cell? ⟨gb658, 1, none⟩ = some (u659001) := (blk_cell BK658.out 1).trans rfl
             have hfs49 := blk_frozen BK658.out 1
             have hns49_0 := NB648_658.out
             have hns49_1 := NB649_658.out
             have hns49_3 := NB661_658.out
             have hms49_0 := NB658_648.out
             have hms49_1 := NB658_649.out
             have hms49_3 := NB658_661.out
             refine skip_ (w1 := ?_) (by rfl) rfl ?_ ?_
             rotate_left
             ·go_simp
              rfl
             refine hK.out _ _ ?_
             clear hK K
             refine done_ (done_of HT_.out (by kernel_rfl)) ?_
             try go_wp2
             go_roundg k2
             case measure => have := HJ2.out; have := HK2.out; omega
             case rel => exact ⟨(wrap64 (x7_2 + 1)), (y668), (.slice Ao48 y668.length co48), aX, H', ⟨by have := HJ2.out; have := HK2.out; omega⟩, ⟨by (with_reducible repeat apply pR); exact Kd.R_mono (Kd.R_far (p := ⟨gb658, 1, none⟩) (Kd.R_types HO_659000.out BK658.out (by decide)) (fun _ hk => hk.2) (.slice Ao48 y668.length co48)) (fun _ hk => trivial)⟩, ⟨by (with_reducible repeat apply pS); exact Kd.S_mono (Kd.S_far (p := ⟨gb658, 1, none⟩) (Kd.S_types HO670.out BK658.out (by decide)) (fun _ hk => hk.2) (.slice Ao48 y668.length co48)) (fun _ hk => trivial)⟩, ⟨by (with_reducible repeat refine pB ?_); refine blk_far ?_ NB648_658.out _; (with_reducible repeat refine pB ?_); exact BK648.out⟩, ⟨by (with_reducible repeat refine pB ?_); refine blk_far ?_ NB649_658.out _; (with_reducible repeat refine pB ?_); exact BK649.out⟩, ⟨by (with_reducible repeat refine pB ?_); refine blk_put (cs := #[.slice Ao26 y655.length co26, u659001]) ?_ 1 _ rfl; (with_reducible repeat refine pB ?_); exact BK658.out⟩, ⟨aG⟩⟩
            ·rw [if_neg c36] at H
             exact absurd H (by simp)
           ·rw [if_neg c35] at H
            exact absurd H (by simp)
          ·rw [if_neg c34] at H
           exact absurd H (by simp)
         ·rw [if_neg c33] at H
          exact absurd H (by simp)
        ·rw [if_neg c32] at H
         exact absurd H (by simp)
       ·rw [if_neg c31] at H
        have c31b0 : decide (x7_2 < (l1.length : Int)) = false := decide_eq_false c31
        clear c31
        simp only [Option.some.injEq, Prod.mk.injEq] at H
        obtain ⟨rfl, rfl, rfl⟩ := H
        have hnb50 := NB658_648.out
        have hnc50 := NB648_658.out
        have hnb51 := NB658_649.out
        have hnc51 := NB649_658.out
        have hcz52_0 : wr.cell? ⟨gb658, 0, none⟩ = some (.slice Ao26 y655.length co26) := (blk_cell BK658.out 0).trans rfl
        have hcz52_1 : wr.cell? ⟨gb658, 1, none⟩ = some (u659001) := (blk_cell BK658.out 1).trans rfl
        have hfz52_0 := blk_frozen BK658.out 0
        have hfz52_1 := blk_frozen BK658.out 1
        have hnb53 := NB649_648.out
        have hnc53 := NB648_649.out
        have hcz54_0 : wr.cell? ⟨gb649, 0, none⟩ = some (.slice none 0 0) := (blk_cell BK649.out 0).trans rfl
        have hcz54_1 : wr.cell? ⟨gb649, 1, none⟩ = some (.slice none 0 0) := (blk_cell BK649.out 1).trans rfl
        have hfz54_0 := blk_frozen BK649.out 0
        have hfz54_1 := blk_frozen BK649.out 1
        obtain ⟨Ao55, co55, eo55⟩ := Kd.S_slice HO_659001.out
        subst eo55
        go_wp2
        refine bodyPost_ret (results_ct rfl _ _ gb649 27 #[.slice Ao26 y655.length co26, .slice Ao55 x659001_2.length co55] (0, 0) _ rfl (by (with_reducible repeat refine pB ?_); refine blk_put (cs := #[.slice Ao26 y655.length co26, .slice none 0 0]) ?_ 1 _ rfl; (with_reducible repeat refine pB ?_); refine blk_put (cs := #[.slice none 0 0, .slice none 0 0]) ?_ 0 _ rfl; (with_reducible repeat refine pB ?_); exact BK649.out) Try.underlying27 rfl (by kernel_rfl)) rfl ?_
        exact ⟨_, _, aE, by (with_reducible repeat apply pR); exact Kd.R_mono (Kd.R_far (p := ⟨gb649, 1, none⟩) (Kd.R_far (p := ⟨gb649, 0, none⟩) (Kd.R_types HO_659000.out BK649.out (by decide)) (fun _ hk => hk.2) (.slice Ao26 y655.length co26)) (fun _ hk => hk.2) (.slice Ao55 x659001_2.length co55)) (fun _ hk => trivial), by (with_reducible repeat apply pS); exact Kd.S_mono (Kd.S_far (p := ⟨gb649, 1, none⟩) (Kd.S_far (p := ⟨gb649, 0, none⟩) (Kd.S_types HO_659001.out BK649.out (by decide)) (fun _ hk => hk.2) (.slice Ao26 y655.length co26)) (fun _ hk => hk.2) (.slice Ao55 x659001_2.length co55)) (fun _ hk => trivial), aG⟩
    ·rw [if_neg c20] at H
     exact absurd H (by simp)

end Go.Proofs.Ytbdeimhlohhhiaa.PFnExtendToRepair
