import Derived.Test.YtckpikfbhlhhjaaDoorPFnSelectFactsx0
import Derived.Test.YtckpikfbhlhhjaaDoorPFnSelectFactsx4
import Derived.Test.YtckpikfbhlhhjaaDoorPFnSelectFactsx10
namespace Go.Proofs.YtckpikfbhlhhjaaDoor.PFnSelectFacts
open Go.RowKit Go.Proofs.YtckpikfbhlhhjaaDoorW.PrintWords Go.Proofs.YtckpikfbhlhhjaaDoorW.PrintLast Go.Proofs.YtckpikfbhlhhjaaDoorW.PrintMore
attribute [local go_sem] max2_int min2_int max_two min_two max_three min_three max_four min_four
set_option linter.unusedVariables false
set_option linter.unusedSimpArgs false

/-! ### spec_SelectFacts: function 29 -/
mutual
def spec_SelectFacts.j0 : Nat → List Int → Bool → List (S68) → List (S39) → Option ((List (S68)) × (List (S39)) × Bool)
 | 0, _, _, _, _ => none
 | k + 1, x1, x17, x490000, x490001 => if x17 = true then (some (([] : List (S68)), ([] : List (S39)), false)) else ((some (([] : List (S68)) : List (S68))).bind fun y493 => (if y493.length + x490000.length < 4398046511104 then (spec_SelectFacts.l0 k x1 0 x490000 x490001 (y493 ++ x490000) ([] : List (S39))) else (none)))
def spec_SelectFacts.l0 : Nat → List Int → Int → List (S68) → List (S39) → List (S68) → List (S39) → Option ((List (S68)) × (List (S39)) × Bool)
 | 0, _, _, _, _, _, _ => none
 | k + 1, x1, x7, x490000, x490001, x500000, x500001 => if x7 < (x1.length : Int) then (if 0 ≤ x7 then (if 0 ≤ (rd x1 x7) then (if (rd x1 x7) < (x490001.length : Int) then ((some (([] : List Int) : List Int)).bind fun y503 => (if y503.length + ((rd_T39 x490001 (rd x1 x7)).f1).length < 17592186044416 then (if x500001.length < 4398046511104 then (spec_SelectFacts.l0 k x1 (wrap64 (x7 + 1)) x490000 x490001 x500000 (x500001 ++ [(⟨(rd_T39 x490001 (rd x1 x7)).f0, (y503 ++ ((rd_T39 x490001 (rd x1 x7)).f1))⟩ : S39)])) else (none)) else (none))) else (none)) else (none)) else (none)) else (some (x500000, x500001, true))
end
def spec_SelectFacts.f (k : Nat) (l0_0 : List (S68)) (l0_1 : List (S39)) (l1 : List Int) : Option ((List (S68)) × (List (S39)) × Bool) := (spec_IsValidDatabase.f k l0_0 l0_1).bind fun t491 => (if t491 = true then ((spec_l4Set.f k l0_0 l0_1 l1).bind fun t492 => (spec_SelectFacts.j0 k l1 (!t492) l0_0 l0_1)) else (spec_SelectFacts.j0 k l1 true l0_0 l0_1))
def spec_SelectFacts.T7 : Bool × List (List Nat × List Nat) := (true, [([], []), ([0], [0]), ([], []), ([], []), ([2, 3], [2, 3]), ([4], [4]), ([1, 5], [1, 5]), ([6], [6]), ([], []), ([8, 7, 0, 1, 2, 3, 4, 5, 6, 7, 8], [7, 8])])
def spec_SelectFacts.B7 : List Nat := [0, 1, 0, 0, 12, 28, 63, 127, 0, 511]
theorem spec_SelectFacts.tab7 : rtab .any (opsOf Tryd.f29 7) = spec_SelectFacts.T7 := by kernel_rfl
theorem spec_SelectFacts.bits7 : waitsOk spec_SelectFacts.T7.2 spec_SelectFacts.B7 = true := by kernel_rfl
def spec_SelectFacts.T8 : Bool × List (List Nat × List Nat) := (true, [([], []), ([0], [0]), ([], []), ([2], [2]), ([], []), ([], []), ([5], [5]), ([4, 6], [4, 6]), ([3, 7], [3, 7]), ([8], [8]), ([1, 9, 7], [1, 9]), ([0, 1, 2, 3, 4, 5, 6, 7, 8, 9, 10], []), ([11, 10, 10, 0, 1, 2, 3, 4, 5, 6, 7, 8, 9, 10], [10, 11])])
def spec_SelectFacts.B8 : List Nat := [0, 1, 0, 4, 0, 0, 32, 112, 252, 508, 1023, 2047, 4095]
theorem spec_SelectFacts.tab8 : rtab .any (opsOf Tryd.f29 8) = spec_SelectFacts.T8 := by kernel_rfl
theorem spec_SelectFacts.bits8 : waitsOk spec_SelectFacts.T8.2 spec_SelectFacts.B8 = true := by kernel_rfl
set_option maxHeartbeats 8000000 in
set_option maxRecDepth 100000 in
theorem spec_SelectFacts.calls (k : Nat) (A0_0 : Option Addr) (c0_0 : Nat) (l0_0 : List (S68)) (A0_1 : Option Addr) (c0_1 : Nat) (l0_1 : List (S39)) (A1 : Option Addr) (c1 : Nat) (l1 : List Int) (r1 : List (S68)) (r2 : List (S39)) (r3 : Bool) (w : World) (hr0_0 : Kd.C k68 w A0_0 l0_0.length l0_0) (hc0_0 : l0_0.length ≤ c0_0) (hr0_1 : Kd.C k39 w A0_1 l0_1.length l0_1) (hc0_1 : l0_1.length ≤ c0_1) (hr1 : Kd.C (Kd.int .i64) w A1 l1.length l1) (hc1 : l1.length ≤ c1) (h : spec_SelectFacts.f k l0_0 l0_1 l1 = some (r1, r2, r3)) :
  Calls Tryd.prog 29 #[.agg #[.slice A0_0 l0_0.length c0_0, .slice A0_1 l0_1.length c0_1], .slice A1 l1.length c1] w fun e w' => ∃ v0_ v1_ : Value, e = .returned (.tuple #[.agg #[v0_, v1_], .bool r3]) ∧ Kd.R k68 68 w' w.heap.size (fun _ => True) v0_ r1 ∧ Kd.S k39 39 w' w.heap.size (fun _ => True) v1_ r2 ∧ Below w.heap.size w w' := by
 have hu31 := Tryd.underlying31
 have hu39 := Tryd.underlying39
 have HR0_0 := aM hr0_0
 have HC0_0 := aM hc0_0
 clear hr0_0 hc0_0
 have HR0_1 := aM hr0_1
 have HC0_1 := aM hc0_1
 clear hr0_1 hc0_1
 have HR1 := aM hr1
 have HC1 := aM hc1
 clear hr1 hc1
 have HB := aM (Below.refl w.heap.size w)
 have H : ((spec_IsValidDatabase.f k l0_0 l0_1).bind fun t491 => (if t491 = true then ((spec_l4Set.f k l0_0 l0_1 l1).bind fun t492 => (spec_SelectFacts.j0 k l1 (!t492) l0_0 l0_1)) else (spec_SelectFacts.j0 k l1 true l0_0 l0_1))) = some (r1, r2, r3) := h
 clear h
 have HC3 := aM H
 clear H
 go_enter Tryd.func29, Tryd.ntmps29
 go_upto_region 1 with (first | ((with_reducible refine gate_dst (N := 2) rfl ?_); refine bE 2 (cs := #[.slice A0_0 l0_0.length c0_0, .slice A0_1 l0_1.length c0_1]) (t := 31) ?_; intro gb489 hg w4 hbox hb; have BK489 := aM (hbox); have GW489 := aM ((by rw [hg]; exact (below_size aB) : w.heap.size ≤ gb489)); have GE489 := aM ((by rw [hg]; exact (below_size aB) : w.heap.size ≤ gb489)); replace HB := aM (below_step aB hb); clear hb hbox hg) | ((with_reducible refine gate_dst (N := 4) rfl ?_); refine bE 4 (cs := #[.slice none 0 0, .slice none 0 0]) (t := 31) ?_; intro gb490 hg w5 hbox hb; have BK490 := aM (hbox); have GW490 := aM ((by rw [hg]; exact (below_size aG) : w.heap.size ≤ gb490)); have GE490 := aM ((by rw [hg]; exact (below_size aG) : w.heap.size ≤ gb490)); have NB489_490 := aM ((by rw [hg]; exact Nat.ne_of_lt (blk_lt (g := gb489) (o := .cells #[.slice A0_0 l0_0.length c0_0, .slice A0_1 l0_1.length c0_1] 31 (0, 0)) aK) : gb489 ≠ gb490)); have NB490_489 := aM ((by rw [hg]; exact Nat.ne_of_gt (blk_lt (g := gb489) (o := .cells #[.slice A0_0 l0_0.length c0_0, .slice A0_1 l0_1.length c0_1] 31 (0, 0)) aK) : gb490 ≠ gb489)); replace BK489 := aM (kB gb489 #[.slice A0_0 l0_0.length c0_0, .slice A0_1 l0_1.length c0_1] 31 hb); replace HB := aM (below_step aG hb); clear hb hbox hg))
 (try simp only [Act.put, List.setIfInBounds_toArray, List.set_cons_zero, List.set_cons_succ])
 go_cut [17] (fun v17 wc => ∃ (kq : Nat) (x17_2 : Bool), v17 = .bool x17_2 ∧ Aside0 (spec_SelectFacts.j0 kq l1 x17_2 l0_0 l0_1 = some (r1, r2, r3)) ∧ Aside0 (kq ≤ k) ∧ Aside0 (wc.heap[gb489]? = some (.cells #[(.slice A0_0 l0_0.length c0_0), (.slice A0_1 l0_1.length c0_1)] 31 (0, 0))) ∧ Aside0 (wc.heap[gb490]? = some (.cells #[(.slice none 0 0), (.slice none 0 0)] 31 (0, 0))) ∧ Aside0 (Below w.heap.size w wc))
 case first =>
  have H := HC3.out
  clear HC3
  replace H := bM H
  obtain ⟨t491, A60, H⟩ := H
  have A6 := aM A60
  clear A60
  by_cases c7 : t491 = true
  ·subst c7
   replace H := iT H
   replace H := bM H
   obtain ⟨t492, A80, H⟩ := H
   have A8 := aM A80
   clear A80
   have H' := aM H
   clear H
   have hnb9 := NB489_490.out
   have hnc9 := NB490_489.out
   have hcz10_0 : w5.cell? ⟨gb489, 0, none⟩ = some (.slice A0_0 l0_0.length c0_0) := (blk_cell BK489.out 0).trans rfl
   have hcz10_1 : w5.cell? ⟨gb489, 1, none⟩ = some (.slice A0_1 l0_1.length c0_1) := (blk_cell BK489.out 1).trans rfl
   have hfz10_0 := blk_frozen BK489.out 0
   have hfz10_1 := blk_frozen BK489.out 1
   go_wp2_with (first | ((with_reducible refine gate_callee (f := 33) rfl ?_); refine goesL_ (some 10) rfl rfl Tryd.func33 (by kernel_rfl) rfl #[.agg #[.slice A0_0 l0_0.length c0_0, .slice A0_1 l0_1.length c0_1]] rfl aA ?_; (with_reducible refine (spec_IsValidDatabase.calls k _ _ l0_0 _ _ l0_1 true _ ?side1 ?side2 ?side3 ?side4 A6.out).mono ?_); (case side1 => exact aC); (case side2 => exact HC0_0.out); (case side3 => exact aC); (case side4 => exact HC0_1.out); rintro e w11 ⟨rfl, hb⟩; refine ⟨_, rfl, ?_⟩; have n0_ := aM (kB gb489 #[.slice A0_0 l0_0.length c0_0, .slice A0_1 l0_1.length c0_1] 31 hb); have n1_ := aM (kB gb490 #[.slice none 0 0, .slice none 0 0] 31 hb); have n2_ := aM (below_step aG hb); clear BK489; clear BK490; clear HB; have BK489 := n0_; have BK490 := n1_; have HB := n2_; clear n0_ n1_ n2_; (try clear hb); (try clear hb2); (try clear hk); (try clear hi); have hcz12_0 : w11.cell? ⟨gb489, 0, none⟩ = some (.slice A0_0 l0_0.length c0_0) := (blk_cell BK489.out 0).trans rfl; have hcz12_1 : w11.cell? ⟨gb489, 1, none⟩ = some (.slice A0_1 l0_1.length c0_1) := (blk_cell BK489.out 1).trans rfl; have hfz12_0 := blk_frozen BK489.out 0; have hfz12_1 := blk_frozen BK489.out 1) | (go_at_call 75; (with_reducible refine (spec_l4Set.calls k _ _ l0_0 _ _ l0_1 _ _ l1 t492 _ ?side1 ?side2 ?side3 ?side4 ?side5 ?side6 A8.out).mono ?_); (case side1 => exact aC); (case side2 => exact HC0_0.out); (case side3 => exact aC); (case side4 => exact HC0_1.out); (case side5 => exact aC); (case side6 => exact HC1.out); rintro e w13 ⟨rfl, hb⟩; have n0_ := aM (kB gb489 #[.slice A0_0 l0_0.length c0_0, .slice A0_1 l0_1.length c0_1] 31 hb); have n1_ := aM (kB gb490 #[.slice none 0 0, .slice none 0 0] 31 hb); have n2_ := aM (below_step aG hb); clear BK489; clear BK490; clear HB; have BK489 := n0_; have BK490 := n1_; have HB := n2_; clear n0_ n1_ n2_; (try clear hb); (try clear hb2); (try clear hk); (try clear hi)))
   go_meet
   case rel => exact ⟨_, (!t492), aX, H', ⟨by first | omega | exact Nat.le_refl _⟩, ⟨aK⟩, ⟨aK⟩, ⟨aG⟩⟩
  ·replace c7 := Bool.eq_false_iff.mpr c7
   subst c7
   have H1 : (spec_SelectFacts.j0 k l1 true l0_0 l0_1) = some (r1, r2, r3) := by rw [if_neg (show ¬ (false = true) by decide)] at H; exact H
   clear H
   have H := H1
   clear H1
   have H' := aM H
   clear H
   have hnb14 := NB489_490.out
   have hnc14 := NB490_489.out
   have hcz15_0 : w5.cell? ⟨gb489, 0, none⟩ = some (.slice A0_0 l0_0.length c0_0) := (blk_cell BK489.out 0).trans rfl
   have hcz15_1 : w5.cell? ⟨gb489, 1, none⟩ = some (.slice A0_1 l0_1.length c0_1) := (blk_cell BK489.out 1).trans rfl
   have hfz15_0 := blk_frozen BK489.out 0
   have hfz15_1 := blk_frozen BK489.out 1
   go_wp2_with (first | ((with_reducible refine gate_callee (f := 33) rfl ?_); refine goesL_ (some 10) rfl rfl Tryd.func33 (by kernel_rfl) rfl #[.agg #[.slice A0_0 l0_0.length c0_0, .slice A0_1 l0_1.length c0_1]] rfl aA ?_; (with_reducible refine (spec_IsValidDatabase.calls k _ _ l0_0 _ _ l0_1 false _ ?side1 ?side2 ?side3 ?side4 A6.out).mono ?_); (case side1 => exact aC); (case side2 => exact HC0_0.out); (case side3 => exact aC); (case side4 => exact HC0_1.out); rintro e w16 ⟨rfl, hb⟩; refine ⟨_, rfl, ?_⟩; have n0_ := aM (kB gb489 #[.slice A0_0 l0_0.length c0_0, .slice A0_1 l0_1.length c0_1] 31 hb); have n1_ := aM (kB gb490 #[.slice none 0 0, .slice none 0 0] 31 hb); have n2_ := aM (below_step aG hb); clear BK489; clear BK490; clear HB; have BK489 := n0_; have BK490 := n1_; have HB := n2_; clear n0_ n1_ n2_; (try clear hb); (try clear hb2); (try clear hk); (try clear hi)))
   go_meet
   case rel => exact ⟨_, (true), aX, H', ⟨by first | omega | exact Nat.le_refl _⟩, ⟨aK⟩, ⟨aK⟩, ⟨aG⟩⟩
 case rest =>
  clear HC3
  try clear c1
  try clear c2
  try clear p2
  try clear c3
  try clear c7
  try clear c9
  try clear c14
  try clear hcz10_0
  try clear hcz10_1
  try clear hcz12_0
  try clear hcz12_1
  try clear hcz15_0
  try clear hcz15_1
  try clear hfz10_0
  try clear hfz10_1
  try clear hfz12_0
  try clear hfz12_1
  try clear hfz15_0
  try clear hfz15_1
  obtain ⟨kq, x17_2, rfl, HA, HJ2, BK489, BK490, HB⟩ := hcut
  cases kq with
  | zero => exact absurd HA.out (by simp [spec_SelectFacts.j0])
  | succ kj2 =>
   have H := HA.out
   clear HA
   simp only [spec_SelectFacts.j0] at H
   by_cases c17 : x17_2 = true
   ·subst c17
    replace H := iT H
    simp only [Option.some.injEq, Prod.mk.injEq] at H
    obtain ⟨rfl, rfl, rfl⟩ := H
    have hnb18 := NB490_489.out
    have hnc18 := NB489_490.out
    have hcz19_0 : wc.cell? ⟨gb490, 0, none⟩ = some (.slice none 0 0) := (blk_cell BK490.out 0).trans rfl
    have hcz19_1 : wc.cell? ⟨gb490, 1, none⟩ = some (.slice none 0 0) := (blk_cell BK490.out 1).trans rfl
    have hfz19_0 := blk_frozen BK490.out 0
    have hfz19_1 := blk_frozen BK490.out 1
    go_wp2
    refine bodyPost_ret (results_ct rfl _ _ gb490 31 #[.slice none 0 0, .slice none 0 0] (0, 0) _ rfl (by (with_reducible repeat refine pB ?_); refine blk_put (cs := #[.slice none 0 0, .slice none 0 0]) ?_ 1 _ rfl; (with_reducible repeat refine pB ?_); refine blk_put (cs := #[.slice none 0 0, .slice none 0 0]) ?_ 0 _ rfl; (with_reducible repeat refine pB ?_); exact BK490.out) Tryd.underlying31 rfl (by kernel_rfl)) rfl ?_
    exact ⟨_, _, aE, by first | exact Kd.R_nil _ _ _ _ _ | exact Kd.N_nil _ _ _ _ _ | exact Kd.V_nil _ _ _ _ _ | exact Kd.Q_nil _ _ _ _ _ | exact Kd.S_nil _ _ _ _ _, by first | exact Kd.S_nil _ _ _ _ _ | exact Kd.N_nil _ _ _ _ _ | exact Kd.V_nil _ _ _ _ _ | exact Kd.Q_nil _ _ _ _ _ | exact Kd.R_nil _ _ _ _ _, aG⟩
   ·replace c17 := Bool.eq_false_iff.mpr c17
    subst c17
    have H1 : ((some (([] : List (S68)) : List (S68))).bind fun y493 => (if y493.length + l0_0.length < 4398046511104 then (spec_SelectFacts.l0 kj2 l1 0 l0_0 l0_1 (y493 ++ l0_0) ([] : List (S39))) else (none))) = some (r1, r2, r3) := by rw [if_neg (show ¬ (false = true) by decide)] at H; exact H
    clear H
    have H := H1
    clear H1
    obtain ⟨y493, hy493⟩ : ∃ y_ : List (S68), y_ = (([] : List (S68))) := ⟨_, rfl⟩
    first | replace H := bY hy493 H | rw [← hy493] at H
    have Ny493 := aM hy493
    clear hy493
    by_cases c20 : y493.length + l0_0.length < 4398046511104
    ·rw [if_pos c20] at H
     have LMc20 := aM c20
     clear c20
     obtain ⟨y496, hy496⟩ : ∃ y_ : List (S68), y_ = (y493 ++ l0_0) := ⟨_, rfl⟩
     first | replace H := bY hy496 H | rw [← hy496] at H
     have Ny496 := aM hy496
     clear hy496
     have H' := aM H
     clear H
     go_wp2_with (first | ((with_reducible refine gate_dst (N := 19) rfl ?_); refine Kd.R_lit k68 _ 68 ?hg (N := 19) ?hd (xs := ([] : List (S68))) (inner := []) (ok := fun _ => True) (okp := fun _ => True) ?hr ?hp (fun _ hk => hk) trivial (Below.refl _ _) (Nat.le_refl _) (by simp) ?_; (case hd => rfl); (case hg => rfl); (case hr => first | (go_simp; done) | (go_simp; rfl)); (case hp => exact (Reps.none _ _)); intro v494 w21 ho22 hb hg_ hnew_; clear hg_ hnew_; (first | rw [← Ny493.out] at ho22 | (simp only [Int.reduceToNat] at ho22; rw [← Ny493.out] at ho22)); have n0_ := aM (Kd.R_lower ho22 (below_size aG)); have n1_ := aM (kB gb489 #[.slice A0_0 l0_0.length c0_0, .slice A0_1 l0_1.length c0_1] 31 hb); have n2_ := aM (kB gb490 #[.slice none 0 0, .slice none 0 0] 31 hb); have n3_ := aM (below_step aG hb); clear BK489; clear BK490; clear HB; have HO495 := n0_; have BK489 := n1_; have BK490 := n2_; have HB := n3_; clear n0_ n1_ n2_ n3_; clear hb ho22; have hnb23 := NB489_490.out; have hnc23 := NB490_489.out; have hcz24_0 : w21.cell? ⟨gb489, 0, none⟩ = some (.slice A0_0 l0_0.length c0_0) := (blk_cell BK489.out 0).trans rfl; have hcz24_1 : w21.cell? ⟨gb489, 1, none⟩ = some (.slice A0_1 l0_1.length c0_1) := (blk_cell BK489.out 1).trans rfl; have hfz24_0 := blk_frozen BK489.out 0; have hfz24_1 := blk_frozen BK489.out 1) | ((with_reducible refine gate_builtin (b := .append) (xs := #[.tmp 19, .tmp 21]) rfl ?_); at_builtin; refine Kd.R_append_rows k68 (w0 := w) w.heap.size rfl (.tmp 19) (.tmp 21) 28 68 (.agg #[(.string ⟨#[]⟩), (.int .i64 0), (.int .i64 0)]) 32 rfl Tryd.underlying28 info68 rfl (by decide) (by omega) v494 y493 l0_0 _ _ _ (fun _ => True) (fun _ => False) rfl rfl ?aO ?aR (fun _ _ h => h) (fun _ h => h.elim) ?aF ?aB ?aS ?aL ?_; (case aR => exact aC); (case aB => exact aG); (case aF => exact (fun _ _ => trivial)); (case aO => exact (aR HO495)); (case aS => exact (below_size aG)); (case aL => have := LMc20.out; omega); intro v497 w25 ho hb hg hat; rw [← Ny496.out] at ho; have n0_ := aM (blk_grown (g := gb489) (o := .cells #[.slice A0_0 l0_0.length c0_0, .slice A0_1 l0_1.length c0_1] 31 (0, 0)) aK hg (Kd.R_ne HO495.out BK489.out (by decide))); have n1_ := aM (blk_grown (g := gb490) (o := .cells #[.slice none 0 0, .slice none 0 0] 31 (0, 0)) aK hg (Kd.R_ne HO495.out BK490.out (by decide))); have n2_ := aM (hb); have n3_ := aM (ho); clear BK489; clear BK490; clear HB; clear HO495; have BK489 := n0_; have BK490 := n1_; have HB := n2_; have HO498 := n3_; clear n0_ n1_ n2_ n3_; clear ho hb hg hat; obtain ⟨Ao26, co26, eo26⟩ := Kd.R_slice HO498.out; subst eo26) | ((with_reducible refine gate_dst (N := 6) rfl ?_); refine bE 6 (cs := #[.slice none 0 0, .slice none 0 0]) (t := 31) ?_; intro gb499 hg w27 hbox hb; have n0_ := aM (Kd.R_below (aR HO498) hb); have n1_ := aM (kB gb489 #[.slice A0_0 l0_0.length c0_0, .slice A0_1 l0_1.length c0_1] 31 hb); have n2_ := aM (kB gb490 #[.slice none 0 0, .slice none 0 0] 31 hb); have n3_ := aM (below_step aG hb); have n4_ := aM (hbox); have n5_ := aM ((by rw [hg]; exact (below_size aG) : w.heap.size ≤ gb499)); have n6_ := aM ((by rw [hg]; exact (below_size aG) : w.heap.size ≤ gb499)); have n7_ := aM ((by rw [hg]; exact Nat.ne_of_lt (blk_lt (g := gb489) (o := .cells #[.slice A0_0 l0_0.length c0_0, .slice A0_1 l0_1.length c0_1] 31 (0, 0)) aK) : gb489 ≠ gb499)); have n8_ := aM ((by rw [hg]; exact Nat.ne_of_gt (blk_lt (g := gb489) (o := .cells #[.slice A0_0 l0_0.length c0_0, .slice A0_1 l0_1.length c0_1] 31 (0, 0)) aK) : gb499 ≠ gb489)); have n9_ := aM ((by rw [hg]; exact Nat.ne_of_lt (blk_lt (g := gb490) (o := .cells #[.slice none 0 0, .slice none 0 0] 31 (0, 0)) aK) : gb490 ≠ gb499)); have n10_ := aM ((by rw [hg]; exact Nat.ne_of_gt (blk_lt (g := gb490) (o := .cells #[.slice none 0 0, .slice none 0 0] 31 (0, 0)) aK) : gb499 ≠ gb490)); clear HO498; clear BK489; clear BK490; clear HB; have HO498 := n0_; have BK489 := n1_; have BK490 := n2_; have HB := n3_; have BK499 := n4_; have GW499 := n5_; have GE499 := n6_; have NB489_499 := n7_; have NB499_489 := n8_; have NB490_499 := n9_; have NB499_490 := n10_; clear n0_ n1_ n2_ n3_ n4_ n5_ n6_ n7_ n8_ n9_ n10_; clear hb hbox hg; have hnb28 := NB499_489.out; have hnc28 := NB489_499.out; have hnb29 := NB499_490.out; have hnc29 := NB490_499.out; have hcz30_0 : w27.cell? ⟨gb499, 0, none⟩ = some (.slice none 0 0) := (blk_cell BK499.out 0).trans rfl; have hcz30_1 : w27.cell? ⟨gb499, 1, none⟩ = some (.slice none 0 0) := (blk_cell BK499.out 1).trans rfl; have hfz30_0 := blk_frozen BK499.out 0; have hfz30_1 := blk_frozen BK499.out 1))
     go_loopg [7] kj2 (fun kq v7 w' => ∃ (x7_2 : Int) (x500001_2 : List (S39)) (u500001 : Value), v7 = .int .i64 x7_2 ∧ Aside0 (spec_SelectFacts.l0 kq l1 x7_2 l0_0 l0_1 y496 x500001_2 = some (r1, r2, r3)) ∧ Aside0 (kq ≤ kj2) ∧ Aside0 (Kd.R k68 68 w' w.heap.size (fun _ => True) (.slice Ao26 y496.length co26) y496) ∧ Aside0 (Kd.S k39 39 w' w.heap.size (fun _ => True) u500001 x500001_2) ∧ Aside0 (w'.heap[gb489]? = some (.cells #[(.slice A0_0 l0_0.length c0_0), (.slice A0_1 l0_1.length c0_1)] 31 (0, 0))) ∧ Aside0 (w'.heap[gb490]? = some (.cells #[(.slice none 0 0), (.slice none 0 0)] 31 (0, 0))) ∧ Aside0 (w'.heap[gb499]? = some (.cells #[(.slice Ao26 y496.length co26), u500001] 31 (0, 0))) ∧ Aside0 (Below w.heap.size w w'))
     case atStart => exact ⟨(0), (([] : List (S39))), (.slice none 0 0), aX, H', ⟨Nat.le_refl _⟩, ⟨by (with_reducible repeat apply pR); exact Kd.R_mono (Kd.R_far (p := ⟨gb499, 1, none⟩) (Kd.R_far (p := ⟨gb499, 0, none⟩) (Kd.R_types HO498.out BK499.out (by decide)) (fun _ hk => hk.2) (.slice Ao26 y496.length co26)) (fun _ hk => hk.2) (.slice none 0 0)) (fun _ hk => trivial)⟩, ⟨by first | exact Kd.S_nil _ _ _ _ _ | exact Kd.N_nil _ _ _ _ _ | exact Kd.V_nil _ _ _ _ _ | exact Kd.Q_nil _ _ _ _ _ | exact Kd.R_nil _ _ _ _ _⟩, ⟨by (with_reducible repeat refine pB ?_); refine blk_far ?_ NB489_499.out _; (with_reducible repeat refine pB ?_); refine blk_far ?_ NB489_499.out _; (with_reducible repeat refine pB ?_); exact BK489.out⟩, ⟨by (with_reducible repeat refine pB ?_); refine blk_far ?_ NB490_499.out _; (with_reducible repeat refine pB ?_); refine blk_far ?_ NB490_499.out _; (with_reducible repeat refine pB ?_); exact BK490.out⟩, ⟨by (with_reducible repeat refine pB ?_); refine blk_put (cs := #[.slice Ao26 y496.length co26, .slice none 0 0]) ?_ 1 _ rfl; (with_reducible repeat refine pB ?_); refine blk_put (cs := #[.slice none 0 0, .slice none 0 0]) ?_ 0 _ rfl; (with_reducible repeat refine pB ?_); exact BK499.out⟩, ⟨aG⟩⟩
     case round =>
      clear H'
      try clear c1
      try clear c2
      try clear p2
      try clear c3
      try clear c7
      try clear c9
      try clear c14
      try clear c17
      try clear c18
      try clear c20
      try clear c23
      try clear c28
      try clear c29
      try clear hcz10_0
      try clear hcz10_1
      try clear hcz12_0
      try clear hcz12_1
      try clear hcz15_0
      try clear hcz15_1
      try clear hcz19_0
      try clear hcz19_1
      try clear hcz24_0
      try clear hcz24_1
      try clear hcz30_0
      try clear hcz30_1
      try clear hfz10_0
      try clear hfz10_1
      try clear hfz12_0
      try clear hfz12_1
      try clear hfz15_0
      try clear hfz15_1
      try clear hfz19_0
      try clear hfz19_1
      try clear hfz24_0
      try clear hfz24_1
      try clear hfz30_0
      try clear hfz30_1
      try clear p2
      obtain ⟨x7_2, x500001_2, u500001, rfl, HA, HK2, HO_500000, HO_500001, BK489, BK490, BK499, HB⟩ := hrel
      cases gk with
      | zero => exact absurd HA.out (by simp [spec_SelectFacts.l0])
      | succ k2 =>
       have H := HA.out
       clear HA
       simp only [spec_SelectFacts.l0] at H
       by_cases c31 : x7_2 < (l1.length : Int)
       ·rw [if_pos c31] at H
        have c31b0 : decide (x7_2 < (l1.length : Int)) = true := decide_eq_true c31
        clear c31
        by_cases c32 : 0 ≤ x7_2
        ·rw [if_pos c32] at H
         have c32b0 : decide (0 ≤ x7_2) = true := decide_eq_true c32
         clear c32
         by_cases c33 : 0 ≤ (rd l1 x7_2)
         ·rw [if_pos c33] at H
          have c33b0 : decide (0 ≤ (rd l1 x7_2)) = true := decide_eq_true c33
          clear c33
          by_cases c34 : (rd l1 x7_2) < (l0_1.length : Int)
          ·rw [if_pos c34] at H
           have c34b0 : decide ((rd l1 x7_2) < (l0_1.length : Int)) = true := decide_eq_true c34
           clear c34
           obtain ⟨y503, hy503⟩ : ∃ y_ : List Int, y_ = (([] : List Int)) := ⟨_, rfl⟩
           first | replace H := bY hy503 H | rw [← hy503] at H
           have Ny503 := aM hy503
           clear hy503
           by_cases c35 : y503.length + ((rd_T39 l0_1 (rd l1 x7_2)).f1).length < 17592186044416
           ·rw [if_pos c35] at H
            have LMc35 := aM c35
            clear c35
            obtain ⟨y506, hy506⟩ : ∃ y_ : List Int, y_ = (y503 ++ ((rd_T39 l0_1 (rd l1 x7_2)).f1)) := ⟨_, rfl⟩
            first | replace H := bY hy506 H | rw [← hy506] at H
            have Ny506 := aM hy506
            clear hy506
            by_cases c36 : x500001_2.length < 4398046511104
            ·rw [if_pos c36] at H
             have LMc36 := aM c36
             clear c36
             obtain ⟨y509, hy509⟩ : ∃ y_ : List (S39), y_ = (x500001_2 ++ [(⟨(rd_T39 l0_1 (rd l1 x7_2)).f0, y506⟩ : S39)]) := ⟨_, rfl⟩
             first | replace H := bY hy509 H | rw [← hy509] at H
             have Ny509 := aM hy509
             clear hy509
             have H' := aM H
             clear H
             try go_wp2
             replace HO_500000 := aM (Kd.R_drew HO_500000.out)
             replace HO_500001 := aM (Kd.S_drew HO_500001.out)
             replace BK489 := aM (blk_drew BK489.out)
             replace BK490 := aM (blk_drew BK490.out)
             replace BK499 := aM (blk_drew BK499.out)
             replace HB := aM (below_drew1 HB.out)
             have p500 : 0 ≤ (x7_2 : Int) := aD
             have q500 : x7_2 < (l1.length : Int) := aD
             obtain ⟨ad500, e500, hx500_0⟩ := Kd.at_int HR1.out x7_2 p500 q500
             have hw500_0 := hx500_0
             cases e500
             replace hx500_0 := (HB.out.cell (World.block_lt_of_cell? w _ hx500_0)).trans hx500_0
             replace p500 := eq_true p500
             replace q500 := eq_true q500
             have p501 : 0 ≤ ((rd l1 x7_2) : Int) := aD
             have q501 : (rd l1 x7_2) < (l0_1.length : Int) := aD
             obtain ⟨ad501, A501_1, c501_1, e501, hx501_0, hx501_1, hl501_1, hi501_1⟩ := at_T39 HR0_1.out (rd l1 x7_2) p501 q501
             have hw501_1 := hx501_1
             have hw501_0 := hx501_0
             cases e501
             replace hx501_0 := (HB.out.cell (World.block_lt_of_cell? w _ hx501_0)).trans hx501_0
             replace hx501_1 := (HB.out.cell (World.block_lt_of_cell? w _ hx501_1)).trans hx501_1
             have HR501_1 := aM hi501_1
             have HC501_1 := aM hl501_1
             clear hi501_1 hl501_1
             replace p501 := eq_true p501
             replace q501 := eq_true q501
             refine start_ (n := 10) (S := fun w' => w'.cell? ⟨gb489, 0, none⟩ = some (.slice A0_0 l0_0.length c0_0) ∧ w'.cell? ⟨gb489, 1, none⟩ = some (.slice (some ad501) l0_1.length c0_1) ∧ w'.cell? (ad500.add (x7_2).toNat) = some (.int .i64 (rd l1 x7_2)) ∧ w'.cell? (ad501.add (((rd l1 x7_2)).toNat * 2)) = some (.int .i64 ((rd_T39 l0_1 (rd l1 x7_2)).f0)) ∧ w'.cell? ⟨(ad501.add (((rd l1 x7_2)).toNat * 2)).block, (ad501.add (((rd l1 x7_2)).toNat * 2)).off + 1, none⟩ = some (.slice A501_1 ((rd_T39 l0_1 (rd l1 x7_2)).f1).length c501_1)) (ds := []) #[false, false, false, false, false, false, false, false, false, false] (by kernel_rfl) rfl rfl ⟨(blk_cell BK489.out 0).trans rfl, (blk_cell BK489.out 1).trans rfl, (pw_cell_below HB.out hw500_0), (pw_cell_below HB.out hw501_0), (pw_cell_below HB.out hw501_1)⟩ (fun hHeld => ?_); refine with_tabW spec_SelectFacts.tab7 spec_SelectFacts.bits7 (fun HT_ HW_ => ?_)
             generalize wr.drew = w37 at HO_500000 HO_500001 BK489 BK490 BK499 HB HR501_1 hx500_0 hx501_0 hx501_1 hHeld ⊢
             refine pU 0 30 ?_
             refine pU 2 32 ?_
             refine pU 3 33 ?_
             refine pU 4 34 ?_
             refine tU5 1 31 hHeld ?_
             refine tU5 5 35 hHeld ?_
             refine pU 6 36 ?_
             refine tU5 7 37 hHeld ?_
             refine oU 8 8 (fun K hK => ?_)
             refine box_step ?hg (N := 8) ?hd (cs := #[.int .i64 0, .slice none 0 0]) (t := 39) ?hr ?_; (case hd => rfl); (case hg => rfl); (case hr => first | (go_simp; done) | (go_simp; rfl))
             intro gb502 hg w38 hbox hb
             have n0_ := aM (Kd.R_below (aR HO_500000) hb)
             have n1_ := aM (Kd.S_below (Kd.S_elderB (aS HO_500001) gb502 (Nat.le_of_eq hg.symm)) hb)
             have n2_ := aM (kB gb489 #[.slice A0_0 l0_0.length c0_0, .slice (some ad501) l0_1.length c0_1] 31 hb)
             have n3_ := aM (kB gb490 #[.slice none 0 0, .slice none 0 0] 31 hb)
             have n4_ := aM (kB gb499 #[.slice Ao26 y496.length co26, u500001] 31 hb)
             have n5_ := aM (below_step aG hb)
             have n6_ := aM (hbox)
             have n7_ := aM ((by rw [hg]; exact (below_size aG) : w.heap.size ≤ gb502))
             have n8_ := aM ((by rw [hg]; exact (below_size aG) : w.heap.size ≤ gb502))
             have n9_ := aM ((by rw [hg]; exact Nat.ne_of_lt (blk_lt (g := gb489) (o := .cells #[.slice A0_0 l0_0.length c0_0, .slice (some ad501) l0_1.length c0_1] 31 (0, 0)) aK) : gb489 ≠ gb502))
             have n10_ := aM ((by rw [hg]; exact Nat.ne_of_gt (blk_lt (g := gb489) (o := .cells #[.slice A0_0 l0_0.length c0_0, .slice (some ad501) l0_1.length c0_1] 31 (0, 0)) aK) : gb502 ≠ gb489))
             have n11_ := aM ((by rw [hg]; exact Nat.ne_of_lt (blk_lt (g := gb490) (o := .cells #[.slice none 0 0, .slice none 0 0] 31 (0, 0)) aK) : gb490 ≠ gb502))
             have n12_ := aM ((by rw [hg]; exact Nat.ne_of_gt (blk_lt (g := gb490) (o := .cells #[.slice none 0 0, .slice none 0 0] 31 (0, 0)) aK) : gb502 ≠ gb490))
             have n13_ := aM ((by rw [hg]; exact Nat.ne_of_lt (blk_lt (g := gb499) (o := .cells #[.slice Ao26 y496.length co26, u500001] 31 (0, 0)) aK) : gb499 ≠ gb502))
             have n14_ := aM ((by rw [hg]; exact Nat.ne_of_gt (blk_lt (g := gb499) (o := .cells #[.slice Ao26 y496.length co26, u500001] 31 (0, 0)) aK) : gb502 ≠ gb499))
             clear HO_500000
             clear HO_500001
             clear BK489
             clear BK490
             clear BK499
             clear HB
             have HO_500000 := n0_
             have HO_500001 := n1_
             have BK489 := n2_
             have BK490 := n3_
             have BK499 := n4_
             have HB := n5_
             have BK502 := n6_
             have GW502 := n7_
             have GE502 := n8_
             have NB489_502 := n9_
             have NB502_489 := n10_
             have NB490_502 := n11_
             have NB502_490 := n12_
             have NB499_502 := n13_
             have NB502_499 := n14_
             clear n0_ n1_ n2_ n3_ n4_ n5_ n6_ n7_ n8_ n9_ n10_ n11_ n12_ n13_ n14_
             clear hb hbox hg
             refine hK.out _ _ ⟨(blk_cell BK489.out 0).trans rfl, (blk_cell BK489.out 1).trans rfl, (pw_cell_below HB.out hw500_0), (pw_cell_below HB.out hw501_0), (pw_cell_below HB.out hw501_1)⟩ (fun hHeld => ?_)
             clear hK K
             refine nU 8 ?_
             refine one_ (i := 9) (N := none) #[true, true, true, true, true, true, true, true, true, true] rfl rfl (one_of HT_.out (by kernel_rfl)) (by decide) (fun K hK => ?_)
             have hs39 : w38.cell? ⟨gb502, 0, none⟩ = some (.int .i64 0) := (blk_cell BK502.out 0).trans rfl
             have hfs39 := blk_frozen BK502.out 0
             have hns39_0 := NB489_502.out
             have hns39_1 := NB490_502.out
             have hns39_2 := NB499_502.out
             have hms39_0 := NB502_489.out
             have hms39_1 := NB502_490.out
             have hms39_2 := NB502_499.out
             have hs40 : w38.cell? ⟨gb502, 1, none⟩ = some (.slice none 0 0) := (blk_cell BK502.out 1).trans rfl
             have hfs40 := blk_frozen BK502.out 1
             have hns40_0 := NB489_502.out
             have hns40_1 := NB490_502.out
             have hns40_2 := NB499_502.out
             have hms40_0 := NB502_489.out
             have hms40_1 := NB502_490.out
             have hms40_2 := NB502_499.out
             refine skip_ (w1 := ?_) (by rfl) rfl ?_ ?_
             rotate_left
             ·go_simp
              rfl
             refine hK.out _ _ ⟨((cell_far (p := ⟨gb502, _, none⟩) NB489_502.out _).trans (((cell_far (p := ⟨gb502, _, none⟩) NB489_502.out _).trans (hHeld.1)))), ((cell_far (p := ⟨gb502, _, none⟩) NB489_502.out _).trans (((cell_far (p := ⟨gb502, _, none⟩) NB489_502.out _).trans (hHeld.2.1)))), ((cell_far (p := ⟨gb502, _, none⟩) (by first | exact Nat.ne_of_lt (Nat.lt_of_lt_of_le (by have := World.block_lt_of_cell? _ _ hw500_0; first | rwa [add_block] at this | exact this) GW502.out) | (rw [add_block]; exact Nat.ne_of_lt (Nat.lt_of_lt_of_le (by have := World.block_lt_of_cell? _ _ hw500_0; first | rwa [add_block] at this | exact this) GW502.out)) | (show (Addr.add _ _).block ≠ _; rw [add_block]; exact Nat.ne_of_lt (Nat.lt_of_lt_of_le (by have := World.block_lt_of_cell? _ _ hw500_0; first | rwa [add_block] at this | exact this) GW502.out)) | (dsimp only; exact Nat.ne_of_lt (Nat.lt_of_lt_of_le (by have := World.block_lt_of_cell? _ _ hw500_0; first | rwa [add_block] at this | exact this) GW502.out))) _).trans (((cell_far (p := ⟨gb502, _, none⟩) (by first | exact Nat.ne_of_lt (Nat.lt_of_lt_of_le (by have := World.block_lt_of_cell? _ _ hw500_0; first | rwa [add_block] at this | exact this) GW502.out) | (rw [add_block]; exact Nat.ne_of_lt (Nat.lt_of_lt_of_le (by have := World.block_lt_of_cell? _ _ hw500_0; first | rwa [add_block] at this | exact this) GW502.out)) | (show (Addr.add _ _).block ≠ _; rw [add_block]; exact Nat.ne_of_lt (Nat.lt_of_lt_of_le (by have := World.block_lt_of_cell? _ _ hw500_0; first | rwa [add_block] at this | exact this) GW502.out)) | (dsimp only; exact Nat.ne_of_lt (Nat.lt_of_lt_of_le (by have := World.block_lt_of_cell? _ _ hw500_0; first | rwa [add_block] at this | exact this) GW502.out))) _).trans (hHeld.2.2.1)))), ((cell_far (p := ⟨gb502, _, none⟩) (by first | exact Nat.ne_of_lt (Nat.lt_of_lt_of_le (by have := World.block_lt_of_cell? _ _ hw501_0; first | rwa [add_block] at this | exact this) GW502.out) | (rw [add_block]; exact Nat.ne_of_lt (Nat.lt_of_lt_of_le (by have := World.block_lt_of_cell? _ _ hw501_0; first | rwa [add_block] at this | exact this) GW502.out)) | (show (Addr.add _ _).block ≠ _; rw [add_block]; exact Nat.ne_of_lt (Nat.lt_of_lt_of_le (by have := World.block_lt_of_cell? _ _ hw501_0; first | rwa [add_block] at this | exact this) GW502.out)) | (dsimp only; exact Nat.ne_of_lt (Nat.lt_of_lt_of_le (by have := World.block_lt_of_cell? _ _ hw501_0; first | rwa [add_block] at this | exact this) GW502.out))) _).trans (((cell_far (p := ⟨gb502, _, none⟩) (by first | exact Nat.ne_of_lt (Nat.lt_of_lt_of_le (by have := World.block_lt_of_cell? _ _ hw501_0; first | rwa [add_block] at this | exact this) GW502.out) | (rw [add_block]; exact Nat.ne_of_lt (Nat.lt_of_lt_of_le (by have := World.block_lt_of_cell? _ _ hw501_0; first | rwa [add_block] at this | exact this) GW502.out)) | (show (Addr.add _ _).block ≠ _; rw [add_block]; exact Nat.ne_of_lt (Nat.lt_of_lt_of_le (by have := World.block_lt_of_cell? _ _ hw501_0; first | rwa [add_block] at this | exact this) GW502.out)) | (dsimp only; exact Nat.ne_of_lt (Nat.lt_of_lt_of_le (by have := World.block_lt_of_cell? _ _ hw501_0; first | rwa [add_block] at this | exact this) GW502.out))) _).trans (hHeld.2.2.2.1)))), ((cell_far (p := ⟨gb502, _, none⟩) (by first | exact Nat.ne_of_lt (Nat.lt_of_lt_of_le (by have := World.block_lt_of_cell? _ _ hw501_1; first | rwa [add_block] at this | exact this) GW502.out) | (rw [add_block]; exact Nat.ne_of_lt (Nat.lt_of_lt_of_le (by have := World.block_lt_of_cell? _ _ hw501_1; first | rwa [add_block] at this | exact this) GW502.out)) | (show (Addr.add _ _).block ≠ _; rw [add_block]; exact Nat.ne_of_lt (Nat.lt_of_lt_of_le (by have := World.block_lt_of_cell? _ _ hw501_1; first | rwa [add_block] at this | exact this) GW502.out)) | (dsimp only; exact Nat.ne_of_lt (Nat.lt_of_lt_of_le (by have := World.block_lt_of_cell? _ _ hw501_1; first | rwa [add_block] at this | exact this) GW502.out))) _).trans (((cell_far (p := ⟨gb502, _, none⟩) (by first | exact Nat.ne_of_lt (Nat.lt_of_lt_of_le (by have := World.block_lt_of_cell? _ _ hw501_1; first | rwa [add_block] at this | exact this) GW502.out) | (rw [add_block]; exact Nat.ne_of_lt (Nat.lt_of_lt_of_le (by have := World.block_lt_of_cell? _ _ hw501_1; first | rwa [add_block] at this | exact this) GW502.out)) | (show (Addr.add _ _).block ≠ _; rw [add_block]; exact Nat.ne_of_lt (Nat.lt_of_lt_of_le (by have := World.block_lt_of_cell? _ _ hw501_1; first | rwa [add_block] at this | exact this) GW502.out)) | (dsimp only; exact Nat.ne_of_lt (Nat.lt_of_lt_of_le (by have := World.block_lt_of_cell? _ _ hw501_1; first | rwa [add_block] at this | exact this) GW502.out))) _).trans (hHeld.2.2.2.2))))⟩ (fun hHeld => ?_)
             clear hK K
             refine done_ (done_of HT_.out (by kernel_rfl)) ?_
             try go_wp2
             have n0_ : Aside0 (Kd.R k68 68 ((w38.setCell ⟨gb502, 0, none⟩ (.int .i64 ((rd_T39 l0_1 (rd l1 x7_2)).f0))).setCell ⟨gb502, 1, none⟩ (.slice A501_1 ((rd_T39 l0_1 (rd l1 x7_2)).f1).length c501_1)) w.heap.size (fun _ => True) (.slice Ao26 y496.length co26) y496) := ⟨by (with_reducible repeat apply pR); exact Kd.R_mono (Kd.R_far (p := ⟨gb502, 1, none⟩) (Kd.R_far (p := ⟨gb502, 0, none⟩) (Kd.R_types HO_500000.out BK502.out (by decide)) (fun _ hk => hk.2) (.int .i64 ((rd_T39 l0_1 (rd l1 x7_2)).f0))) (fun _ hk => hk.2) (.slice A501_1 ((rd_T39 l0_1 (rd l1 x7_2)).f1).length c501_1)) (fun _ hk => trivial)⟩
             have n1_ : Aside0 (Kd.S k39 39 ((w38.setCell ⟨gb502, 0, none⟩ (.int .i64 ((rd_T39 l0_1 (rd l1 x7_2)).f0))).setCell ⟨gb502, 1, none⟩ (.slice A501_1 ((rd_T39 l0_1 (rd l1 x7_2)).f1).length c501_1)) w.heap.size (fun k_ => k_ ≠ gb502) u500001 x500001_2) := ⟨by (with_reducible repeat apply pS); exact Kd.S_mono (Kd.S_far (p := ⟨gb502, 1, none⟩) (Kd.S_far (p := ⟨gb502, 0, none⟩) (Kd.S_mono HO_500001.out (fun k_ hk => (⟨hk, hk.2⟩ : _ ∧ k_ ≠ gb502))) (fun _ hk => hk.2) (.int .i64 ((rd_T39 l0_1 (rd l1 x7_2)).f0))) (fun _ hk => hk.2) (.slice A501_1 ((rd_T39 l0_1 (rd l1 x7_2)).f1).length c501_1)) (fun _ hk => hk.1.2)⟩
             have n2_ : Aside0 (((w38.setCell ⟨gb502, 0, none⟩ (.int .i64 ((rd_T39 l0_1 (rd l1 x7_2)).f0))).setCell ⟨gb502, 1, none⟩ (.slice A501_1 ((rd_T39 l0_1 (rd l1 x7_2)).f1).length c501_1)).heap[gb489]? = some (.cells #[.slice A0_0 l0_0.length c0_0, .slice (some ad501) l0_1.length c0_1] 31 (0, 0))) := ⟨by (with_reducible repeat refine pB ?_); refine blk_far ?_ NB489_502.out _; (with_reducible repeat refine pB ?_); refine blk_far ?_ NB489_502.out _; (with_reducible repeat refine pB ?_); exact BK489.out⟩
             have n3_ : Aside0 (((w38.setCell ⟨gb502, 0, none⟩ (.int .i64 ((rd_T39 l0_1 (rd l1 x7_2)).f0))).setCell ⟨gb502, 1, none⟩ (.slice A501_1 ((rd_T39 l0_1 (rd l1 x7_2)).f1).length c501_1)).heap[gb490]? = some (.cells #[.slice none 0 0, .slice none 0 0] 31 (0, 0))) := ⟨by (with_reducible repeat refine pB ?_); refine blk_far ?_ NB490_502.out _; (with_reducible repeat refine pB ?_); refine blk_far ?_ NB490_502.out _; (with_reducible repeat refine pB ?_); exact BK490.out⟩
             have n4_ : Aside0 (((w38.setCell ⟨gb502, 0, none⟩ (.int .i64 ((rd_T39 l0_1 (rd l1 x7_2)).f0))).setCell ⟨gb502, 1, none⟩ (.slice A501_1 ((rd_T39 l0_1 (rd l1 x7_2)).f1).length c501_1)).heap[gb499]? = some (.cells #[.slice Ao26 y496.length co26, u500001] 31 (0, 0))) := ⟨by (with_reducible repeat refine pB ?_); refine blk_far ?_ NB499_502.out _; (with_reducible repeat refine pB ?_); refine blk_far ?_ NB499_502.out _; (with_reducible repeat refine pB ?_); exact BK499.out⟩
             have n5_ : Aside0 (((w38.setCell ⟨gb502, 0, none⟩ (.int .i64 ((rd_T39 l0_1 (rd l1 x7_2)).f0))).setCell ⟨gb502, 1, none⟩ (.slice A501_1 ((rd_T39 l0_1 (rd l1 x7_2)).f1).length c501_1)).heap[gb502]? = some (.cells #[.int .i64 ((rd_T39 l0_1 (rd l1 x7_2)).f0), .slice A501_1 ((rd_T39 l0_1 (rd l1 x7_2)).f1).length c501_1] 39 (0, 0))) := ⟨by (with_reducible repeat refine pB ?_); refine blk_put (cs := #[.int .i64 ((rd_T39 l0_1 (rd l1 x7_2)).f0), .slice none 0 0]) ?_ 1 _ rfl; (with_reducible repeat refine pB ?_); refine blk_put (cs := #[.int .i64 0, .slice none 0 0]) ?_ 0 _ rfl; (with_reducible repeat refine pB ?_); exact BK502.out⟩
             have n6_ : Aside0 (Below w.heap.size w ((w38.setCell ⟨gb502, 0, none⟩ (.int .i64 ((rd_T39 l0_1 (rd l1 x7_2)).f0))).setCell ⟨gb502, 1, none⟩ (.slice A501_1 ((rd_T39 l0_1 (rd l1 x7_2)).f1).length c501_1))) := ⟨aG⟩
             (try clear HO_500000)
             (try clear HO_500001)
             (try clear BK489)
             (try clear BK490)
             (try clear BK499)
             (try clear BK502)
             (try clear HB)
             generalize ((w38.setCell ⟨gb502, 0, none⟩ (.int .i64 ((rd_T39 l0_1 (rd l1 x7_2)).f0))).setCell ⟨gb502, 1, none⟩ (.slice A501_1 ((rd_T39 l0_1 (rd l1 x7_2)).f1).length c501_1)) = w41 at n0_ n1_ n2_ n3_ n4_ n5_ n6_ ⊢
             have HO_500000 := n0_
             have HO_500001 := n1_
             have BK489 := n2_
             have BK490 := n3_
             have BK499 := n4_
             have BK502 := n5_
             have HB := n6_
             clear n0_ n1_ n2_ n3_ n4_ n5_ n6_
             replace HO_500000 := aM (Kd.R_drew HO_500000.out)
             replace HO_500001 := aM (Kd.S_drew HO_500001.out)
             replace BK489 := aM (blk_drew BK489.out)
             replace BK490 := aM (blk_drew BK490.out)
             replace BK499 := aM (blk_drew BK499.out)
             replace BK502 := aM (blk_drew BK502.out)
             replace HB := aM (below_drew1 HB.out)
             refine start_ (n := 13) (S := fun w' => w'.cell? ⟨gb499, 0, none⟩ = some (.slice Ao26 y496.length co26) ∧ w'.cell? ⟨gb499, 1, none⟩ = some (u500001) ∧ w'.cell? ⟨gb502, 0, none⟩ = some (.int .i64 ((rd_T39 l0_1 (rd l1 x7_2)).f0)) ∧ w'.cell? ⟨gb502, 1, none⟩ = some (.slice A501_1 ((rd_T39 l0_1 (rd l1 x7_2)).f1).length c501_1)) (ds := [12]) #[false, false, false, false, false, false, false, false, false, false, false, false, false] (by kernel_rfl) rfl rfl ⟨(blk_cell BK499.out 0).trans rfl, (blk_cell BK499.out 1).trans rfl, (blk_cell BK502.out 0).trans rfl, (blk_cell BK502.out 1).trans rfl⟩ (fun hHeld => ?_); refine with_tabW spec_SelectFacts.tab8 spec_SelectFacts.bits8 (fun HT_ HW_ => ?_)
             generalize w41.drew = w42 at HO_500000 HO_500001 BK489 BK490 BK499 BK502 HB hHeld ⊢
             refine pU 0 38 ?_
             refine pU 2 40 ?_
             refine pU 5 43 ?_
             refine tU4 1 39 hHeld ?_
             refine tU4 3 41 hHeld ?_
             refine tU4 6 44 hHeld ?_
             refine oU 4 42 (fun K hK => ?_)
             refine Kd.R_lit_step (Kd.int .i64) _ 3 ?hg (N := 42) ?hd (xs := ([] : List Int)) (inner := []) (ok := fun _ => True) (okp := fun _ => True) ?hr ?hp (fun _ hk => hk) trivial (Below.refl _ _) (Nat.le_refl _) (by simp) ?_; (case hd => rfl); (case hg => rfl); (case hr => first | (go_simp; done) | (go_simp; rfl)); (case hp => exact (Reps.none _ _))
             intro v504 w43 ho44 hb hg_ hnew_
             clear hg_ hnew_
             (first | rw [← Ny503.out] at ho44 | (simp only [Int.reduceToNat] at ho44; rw [← Ny503.out] at ho44))
             have n0_ := aM (Kd.R_below (aR HO_500000) hb)
             have n1_ := aM (Kd.S_elder' (aS HO_500001) (Kd.R_base ho44) hb)
             have n2_ := aM (Kd.R_lower ho44 (below_size aG))
             have n3_ := aM (kB gb489 #[.slice A0_0 l0_0.length c0_0, .slice (some ad501) l0_1.length c0_1] 31 hb)
             have n4_ := aM (kB gb490 #[.slice none 0 0, .slice none 0 0] 31 hb)
             have n5_ := aM (kB gb499 #[.slice Ao26 y496.length co26, u500001] 31 hb)
             have n6_ := aM (kB gb502 #[.int .i64 ((rd_T39 l0_1 (rd l1 x7_2)).f0), .slice A501_1 ((rd_T39 l0_1 (rd l1 x7_2)).f1).length c501_1] 39 hb)
             have n7_ := aM (below_step aG hb)
             clear HO_500000
             clear HO_500001
             clear BK489
             clear BK490
             clear BK499
             clear BK502
             clear HB
             have HO_500000 := n0_
             have HO_500001 := n1_
             have HO505 := n2_
             have BK489 := n3_
             have BK490 := n4_
             have BK499 := n5_
             have BK502 := n6_
             have HB := n7_
             clear n0_ n1_ n2_ n3_ n4_ n5_ n6_ n7_
             clear hb ho44
             refine hK.out _ _ ⟨(blk_cell BK499.out 0).trans rfl, (blk_cell BK499.out 1).trans rfl, (blk_cell BK502.out 0).trans rfl, (blk_cell BK502.out 1).trans rfl⟩ (fun hHeld => ?_)
             clear hK K
             refine nU 42 ?_
             refine oU 7 45 (fun K hK => ?_)
             refine Kd.R_append_rows_step (Kd.int .i64) (w0 := w) w.heap.size (by rfl) (.tmp 42) (.tmp 44) 37 3 (.int .i64 0) 8 rfl Tryd.underlying37 info3 rfl (by decide) (by omega) v504 y503 ((rd_T39 l0_1 (rd l1 x7_2)).f1) _ _ _ (fun _ => True) (fun _ => False) rfl rfl ?aO ?aR (fun _ _ h => h) (fun _ h => h.elim) ?aF ?aB ?aS ?aL ?_
             (case aR => exact aC)
             (case aB => exact aG)
             (case aF => exact (fun _ _ => trivial))
             (case aO => exact (aR HO505))
             (case aS => exact (below_size aG))
             (case aL => have := LMc35.out; omega)
             intro v507 w45 ho hb hg hat
             rw [← Ny506.out] at ho
             have n0_ := aM (Kd.R_over' (aR HO_500000) (Kd.R_typed (aR HO505)) (by decide) hg)
             have n1_ := aM (Kd.S_after (ok := (fun k_ => k_ ≠ gb502)) (aS HO_500001) hg hat)
             have n2_ := aM (blk_grown (g := gb489) (o := .cells #[.slice A0_0 l0_0.length c0_0, .slice (some ad501) l0_1.length c0_1] 31 (0, 0)) aK hg (Kd.R_ne HO505.out BK489.out (by decide)))
             have n3_ := aM (blk_grown (g := gb490) (o := .cells #[.slice none 0 0, .slice none 0 0] 31 (0, 0)) aK hg (Kd.R_ne HO505.out BK490.out (by decide)))
             have n4_ := aM (blk_grown (g := gb499) (o := .cells #[.slice Ao26 y496.length co26, u500001] 31 (0, 0)) aK hg (Kd.R_ne HO505.out BK499.out (by decide)))
             have n5_ := aM (blk_grown (g := gb502) (o := .cells #[.int .i64 ((rd_T39 l0_1 (rd l1 x7_2)).f0), .slice A501_1 ((rd_T39 l0_1 (rd l1 x7_2)).f1).length c501_1] 39 (0, 0)) aK hg (Kd.R_ne HO505.out BK502.out (by decide)))
             have n6_ := aM (hb)
             have n7_ := aM (ho)
             clear HO_500000
             clear HO_500001
             clear BK489
             clear BK490
             clear BK499
             clear BK502
             clear HB
             clear HO505
             have HO_500000 := n0_
             have HO_500001 := n1_
             have BK489 := n2_
             have BK490 := n3_
             have BK499 := n4_
             have BK502 := n5_
             have HB := n6_
             have HO508 := n7_
             clear n0_ n1_ n2_ n3_ n4_ n5_ n6_ n7_
             clear ho hb hg hat
             obtain ⟨Ao46, co46, eo46⟩ := Kd.R_slice HO508.out
             (first | subst eo46 | (injection eo46 with f1_ f2_ f3_; have f4_ := f1_.symm; have f5_ := f3_.symm; clear f1_ f2_ f3_; subst f4_; subst f5_))
             refine hK.out _ _ ⟨(blk_cell BK499.out 0).trans rfl, (blk_cell BK499.out 1).trans rfl, (blk_cell BK502.out 0).trans rfl, (blk_cell BK502.out 1).trans rfl⟩ (fun hHeld => ?_)
             clear hK K
             refine nU 45 ?_
             refine pU 8 46 ?_
             refine oU 9 47 (fun K hK => ?_)
             refine value_ (w1 := ?_) (v := ?_) (by rfl) rfl ?_ ?_
             rotate_left 2
             ·go_simp
              constructor
              ·rfl
              ·rfl
             refine hK.out _ _ ⟨(blk_cell (blk_alloc BK499.out _) 0).trans rfl, (blk_cell (blk_alloc BK499.out _) 1).trans rfl, (blk_cell (blk_alloc BK502.out _) 0).trans rfl, (blk_cell (blk_alloc BK502.out _) 1).trans rfl⟩ (fun hHeld => ?_)
             clear hK K
             refine nU 47 ?_
             refine oU 10 48 (fun K hK => ?_)
             refine Kd.S_append_step k39 (w0 := w) w.heap.size (by rfl) (.tmp 39) (.tmp 47) 29 39 (.agg #[(.int .i64 0), (.slice none 0 0)]) 32 rfl Tryd.underlying29 info39 rfl (by decide) (by omega) u500001 x500001_2 (⟨(rd_T39 l0_1 (rd l1 x7_2)).f0, y506⟩ : S39) [.int .i64 ((rd_T39 l0_1 (rd l1 x7_2)).f0), .slice Ao46 y506.length co46] (fun k_ => k_ ≠ gb502) (fun k_ => some k_ = (.slice Ao46 y506.length co46 : Value).ownBlock) rfl rfl ?aP (fun k_ hk_ => ((Kd.R_mono (ok' := fun k_ => ((fun k_ => k_ ≠ gb502)) k_ ∧ some k_ ≠ (u500001 : Value).ownBlock) (Kd.R_types (Kd.R_apart' (HO508.out) (Kd.S_typed HO_500001.out) (by decide)) BK502.out (by decide)) (fun k_ hk => ⟨hk.2, hk.1.2⟩))).1 k_ hk_.symm) ?aF ?aO ?aB ?aS ?aL ?_
             (case aP => exact k39_mkM _ _ _ (⟨(rd_T39 l0_1 (rd l1 x7_2)).f0, y506⟩ : S39) (Kd.R_mono (Kd.R_tight rfl (Kd.R_mono (ok' := fun k_ => ((fun k_ => k_ ≠ gb502)) k_ ∧ some k_ ≠ (u500001 : Value).ownBlock) (Kd.R_types (Kd.R_apart' (HO508.out) (Kd.S_typed HO_500001.out) (by decide)) BK502.out (by decide)) (fun k_ hk => ⟨hk.2, hk.1.2⟩))) (fun _ h_ => h_)))
             (case aB => exact aG)
             (case aF => exact (fun k_ hk => Kd.freshB (g := gb502) (o := .cells #[.int .i64 ((rd_T39 l0_1 (rd l1 x7_2)).f0), .slice A501_1 ((rd_T39 l0_1 (rd l1 x7_2)).f1).length c501_1] 39 (0, 0)) aK k_ hk))
             (case aO => exact (by (with_reducible repeat apply pS); exact Kd.S_mono HO_500001.out (fun k_ hk => ⟨hk.1, fun e_ => hk.2 e_⟩)))
             (case aS => exact (below_size aG))
             (case aL => have := LMc36.out; omega)
             intro v510 w47 ho hb hg hat
             rw [← Ny509.out] at ho
             have n0_ := aM (Kd.R_over' (aR HO_500000) (Kd.S_typed (aS HO_500001)) (by decide) hg)
             have n1_ := aM (blk_grown (g := gb489) (o := .cells #[.slice A0_0 l0_0.length c0_0, .slice (some ad501) l0_1.length c0_1] 31 (0, 0)) aK hg (Kd.S_ne HO_500001.out BK489.out (by decide)))
             have n2_ := aM (blk_grown (g := gb490) (o := .cells #[.slice none 0 0, .slice none 0 0] 31 (0, 0)) aK hg (Kd.S_ne HO_500001.out BK490.out (by decide)))
             have n3_ := aM (blk_grown (g := gb499) (o := .cells #[.slice Ao26 y496.length co26, u500001] 31 (0, 0)) aK hg (Kd.S_ne HO_500001.out BK499.out (by decide)))
             have n4_ := aM (blk_grown (g := gb502) (o := .cells #[.int .i64 ((rd_T39 l0_1 (rd l1 x7_2)).f0), .slice A501_1 ((rd_T39 l0_1 (rd l1 x7_2)).f1).length c501_1] 39 (0, 0)) aK hg (Kd.S_away HO_500001.out (fun _ hk => hk.1)))
             have n5_ := aM (hb)
             have n6_ := aM (ho)
             clear HO_500000
             clear BK489
             clear BK490
             clear BK499
             clear BK502
             clear HB
             clear HO_500001
             clear HO508
             have HO_500000 := n0_
             have BK489 := n1_
             have BK490 := n2_
             have BK499 := n3_
             have BK502 := n4_
             have HB := n5_
             have HO511 := n6_
             clear n0_ n1_ n2_ n3_ n4_ n5_ n6_
             clear ho hb hg hat
             obtain ⟨Ao48, co48, eo48⟩ := Kd.S_slice HO511.out
             (first | subst eo48 | (injection eo48 with f1_ f2_ f3_; have f4_ := f1_.symm; have f5_ := f3_.symm; clear f1_ f2_ f3_; subst f4_; subst f5_))
             refine hK.out _ _ ⟨(blk_cell BK499.out 0).trans rfl, (blk_cell BK499.out 1).trans rfl, (blk_cell BK502.out 0).trans rfl, (blk_cell BK502.out 1).trans rfl⟩ (fun hHeld => ?_)
             clear hK K
             refine nU 48 ?_
             refine pU 11 49 ?_
             refine last_ (i := 12) (N := none) #[true, true, true, true, true, true, true, true, true, true, true, true, true] rfl rfl (one_of HT_.out (by kernel_rfl)) (by decide) (fun K hK => ?_)
             have hs49 : w47.cell? ⟨gb499, 1, none⟩ = some (u500001) := (blk_cell BK499.out 1).trans rfl
             have hfs49 := blk_frozen BK499.out 1
             have hns49_0 := NB489_499.out
             have hns49_1 := NB490_499.out
             have hns49_3 := NB502_499.out
             have hms49_0 := NB499_489.out
             have hms49_1 := NB499_490.out
             have hms49_3 := NB499_502.out
             refine skip_ (w1 := ?_) (by rfl) rfl ?_ ?_
             rotate_left
             ·go_simp
              rfl
             refine hK.out _ _ ?_
             clear hK K
             refine done_ (done_of HT_.out (by kernel_rfl)) ?_
             try go_wp2
             go_roundg k2
             case measure => have := HJ2.out; have := HK2.out; omega
             case rel => exact ⟨(wrap64 (x7_2 + 1)), (y509), (.slice Ao48 y509.length co48), aX, H', ⟨by have := HJ2.out; have := HK2.out; omega⟩, ⟨by (with_reducible repeat apply pR); exact Kd.R_mono (Kd.R_far (p := ⟨gb499, 1, none⟩) (Kd.R_types HO_500000.out BK499.out (by decide)) (fun _ hk => hk.2) (.slice Ao48 y509.length co48)) (fun _ hk => trivial)⟩, ⟨by (with_reducible repeat apply pS); exact Kd.S_mono (Kd.S_far (p := ⟨gb499, 1, none⟩) (Kd.S_types HO511.out BK499.out (by decide)) (fun _ hk => hk.2) (.slice Ao48 y509.length co48)) (fun _ hk => trivial)⟩, ⟨by (with_reducible repeat refine pB ?_); refine blk_far ?_ NB489_499.out _; (with_reducible repeat refine pB ?_); exact BK489.out⟩, ⟨by (with_reducible repeat refine pB ?_); refine blk_far ?_ NB490_499.out _; (with_reducible repeat refine pB ?_); exact BK490.out⟩, ⟨by (with_reducible repeat refine pB ?_); refine blk_put (cs := #[.slice Ao26 y496.length co26, u500001]) ?_ 1 _ rfl; (with_reducible repeat refine pB ?_); exact BK499.out⟩, ⟨aG⟩⟩
            ·rw [if_neg c36] at H
             exact absurd H (by simp)
           ·rw [if_neg c35] at H
            exact absurd H (by simp)
          ·rw [if_neg c34] at H
           exact absurd H (by simp)
         ·rw [if_neg c33] at H
          exact absurd H (by simp)
        ·rw [if_neg c32] at H
         exact absurd H (by simp)
       ·rw [if_neg c31] at H
        have c31b0 : decide (x7_2 < (l1.length : Int)) = false := decide_eq_false c31
        clear c31
        simp only [Option.some.injEq, Prod.mk.injEq] at H
        obtain ⟨rfl, rfl, rfl⟩ := H
        have hnb50 := NB499_489.out
        have hnc50 := NB489_499.out
        have hnb51 := NB499_490.out
        have hnc51 := NB490_499.out
        have hcz52_0 : wr.cell? ⟨gb499, 0, none⟩ = some (.slice Ao26 y496.length co26) := (blk_cell BK499.out 0).trans rfl
        have hcz52_1 : wr.cell? ⟨gb499, 1, none⟩ = some (u500001) := (blk_cell BK499.out 1).trans rfl
        have hfz52_0 := blk_frozen BK499.out 0
        have hfz52_1 := blk_frozen BK499.out 1
        have hnb53 := NB490_489.out
        have hnc53 := NB489_490.out
        have hcz54_0 : wr.cell? ⟨gb490, 0, none⟩ = some (.slice none 0 0) := (blk_cell BK490.out 0).trans rfl
        have hcz54_1 : wr.cell? ⟨gb490, 1, none⟩ = some (.slice none 0 0) := (blk_cell BK490.out 1).trans rfl
        have hfz54_0 := blk_frozen BK490.out 0
        have hfz54_1 := blk_frozen BK490.out 1
        obtain ⟨Ao55, co55, eo55⟩ := Kd.S_slice HO_500001.out
        subst eo55
        go_wp2
        refine bodyPost_ret (results_ct rfl _ _ gb490 31 #[.slice Ao26 y496.length co26, .slice Ao55 x500001_2.length co55] (0, 0) _ rfl (by (with_reducible repeat refine pB ?_); refine blk_put (cs := #[.slice Ao26 y496.length co26, .slice none 0 0]) ?_ 1 _ rfl; (with_reducible repeat refine pB ?_); refine blk_put (cs := #[.slice none 0 0, .slice none 0 0]) ?_ 0 _ rfl; (with_reducible repeat refine pB ?_); exact BK490.out) Tryd.underlying31 rfl (by kernel_rfl)) rfl ?_
        exact ⟨_, _, aE, by (with_reducible repeat apply pR); exact Kd.R_mono (Kd.R_far (p := ⟨gb490, 1, none⟩) (Kd.R_far (p := ⟨gb490, 0, none⟩) (Kd.R_types HO_500000.out BK490.out (by decide)) (fun _ hk => hk.2) (.slice Ao26 y496.length co26)) (fun _ hk => hk.2) (.slice Ao55 x500001_2.length co55)) (fun _ hk => trivial), by (with_reducible repeat apply pS); exact Kd.S_mono (Kd.S_far (p := ⟨gb490, 1, none⟩) (Kd.S_far (p := ⟨gb490, 0, none⟩) (Kd.S_types HO_500001.out BK490.out (by decide)) (fun _ hk => hk.2) (.slice Ao26 y496.length co26)) (fun _ hk => hk.2) (.slice Ao55 x500001_2.length co55)) (fun _ hk => trivial), aG⟩
    ·rw [if_neg c20] at H
     exact absurd H (by simp)

end Go.Proofs.YtckpikfbhlhhjaaDoor.PFnSelectFacts
