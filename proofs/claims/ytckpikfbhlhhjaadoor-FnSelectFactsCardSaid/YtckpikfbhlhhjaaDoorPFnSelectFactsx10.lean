import Derived.Test.YtckpikfbhlhhjaaDoorPFnSelectFactsx0
import Derived.Test.YtckpikfbhlhhjaaDoorPFnSelectFactsx3
import Derived.Test.YtckpikfbhlhhjaaDoorPFnSelectFactsx9
namespace Go.Proofs.YtckpikfbhlhhjaaDoor.PFnSelectFacts
open Go.RowKit Go.Proofs.YtckpikfbhlhhjaaDoorW.PrintWords Go.Proofs.YtckpikfbhlhhjaaDoorW.PrintLast Go.Proofs.YtckpikfbhlhhjaaDoorW.PrintMore
attribute [local go_sem] max2_int min2_int max_two min_two max_three min_three max_four min_four
set_option linter.unusedVariables false
set_option linter.unusedSimpArgs false

/-! ### impl_SelectFacts: function 28 -/
mutual
def impl_SelectFacts.j0 : Nat → List Int → Bool → List (S68) → List (S39) → Option ((List (S68)) × (List (S39)) × Bool)
 | 0, _, _, _, _ => none
 | k + 1, x1, x20, x468000, x468001 => if x20 = true then (some (([] : List (S68)), ([] : List (S39)), false)) else ((impl_copyDatabase.f k x468000 x468001).bind fun bt471 => (impl_SelectFacts.l0 k x1 (x1.length : Int) 0 bt471.1 bt471.2 bt471.1 ([] : List (S39))))
def impl_SelectFacts.l0 : Nat → List Int → Int → Int → List (S68) → List (S39) → List (S68) → List (S39) → Option ((List (S68)) × (List (S39)) × Bool)
 | 0, _, _, _, _, _, _, _ => none
 | k + 1, x27, x28, x29, x478000, x478001, x479000, x479001 => if x29 < x28 then (if 0 ≤ x29 then (if x29 < (x27.length : Int) then (if 0 ≤ (rd x27 x29) then (if (rd x27 x29) < (x478001.length : Int) then (if x479001.length < 4398046511104 then (impl_SelectFacts.l0 k x27 x28 (wrap64 (x29 + 1)) x478000 x478001 x479000 (x479001 ++ [(⟨(rd_T39 x478001 (rd x27 x29)).f0, (rd_T39 x478001 (rd x27 x29)).f1⟩ : S39)])) else (none)) else (none)) else (none)) else (none)) else (none)) else (some (x479000, x479001, true))
end
def impl_SelectFacts.f (k : Nat) (l0_0 : List (S68)) (l0_1 : List (S39)) (l1 : List Int) : Option ((List (S68)) × (List (S39)) × Bool) := (impl_IsValidDatabase.f l0_0 l0_1).bind fun t469 => (if t469 = true then ((impl_areIndices.f k l1 (l0_1.length : Int)).bind fun t470 => (impl_SelectFacts.j0 k l1 (!t470) l0_0 l0_1)) else (impl_SelectFacts.j0 k l1 true l0_0 l0_1))
def impl_SelectFacts.T8 : Bool × List (List Nat × List Nat) := (true, [([], []), ([0], [0]), ([], []), ([2], [2]), ([], []), ([3, 4], [3, 4]), ([5], [5]), ([6], [6]), ([1, 7], [1, 7]), ([0, 1, 2, 3, 4, 5, 6, 7, 8], []), ([9, 8, 8, 0, 1, 2, 3, 4, 5, 6, 7, 8], [8, 9])])
def impl_SelectFacts.B8 : List Nat := [0, 1, 0, 4, 0, 28, 60, 124, 255, 511, 1023]
theorem impl_SelectFacts.tab8 : rtab .any (opsOf Tryd.f28 8) = impl_SelectFacts.T8 := by kernel_rfl
theorem impl_SelectFacts.bits8 : waitsOk impl_SelectFacts.T8.2 impl_SelectFacts.B8 = true := by kernel_rfl
set_option maxHeartbeats 8000000 in
set_option maxRecDepth 100000 in
theorem impl_SelectFacts.calls (k : Nat) (A0_0 : Option Addr) (c0_0 : Nat) (l0_0 : List (S68)) (A0_1 : Option Addr) (c0_1 : Nat) (l0_1 : List (S39)) (A1 : Option Addr) (c1 : Nat) (l1 : List Int) (r1 : List (S68)) (r2 : List (S39)) (r3 : Bool) (w : World) (hr0_0 : Kd.C k68 w A0_0 l0_0.length l0_0) (hc0_0 : l0_0.length ≤ c0_0) (hr0_1 : Kd.C k39 w A0_1 l0_1.length l0_1) (hc0_1 : l0_1.length ≤ c0_1) (hr1 : Kd.C (Kd.int .i64) w A1 l1.length l1) (hc1 : l1.length ≤ c1) (h : impl_SelectFacts.f k l0_0 l0_1 l1 = some (r1, r2, r3)) :
  Calls Tryd.prog 28 #[.agg #[.slice A0_0 l0_0.length c0_0, .slice A0_1 l0_1.length c0_1], .slice A1 l1.length c1] w fun e w' => ∃ v0_ v1_ : Value, e = .returned (.tuple #[.agg #[v0_, v1_], .bool r3]) ∧ Kd.R k68 68 w' w.heap.size (fun k_ => (w.heap.size ≤ k_)) v0_ r1 ∧ Kd.N k39 39 w' w.heap.size (fun k_ => (w.heap.size ≤ k_) ∧ some k_ ≠ (v0_ : Value).ownBlock) v1_ r2 ∧ Below w.heap.size w w' := by
 have hu31 := Tryd.underlying31
 have hu39 := Tryd.underlying39
 have HR0_0 := aM hr0_0
 have HC0_0 := aM hc0_0
 clear hr0_0 hc0_0
 have HR0_1 := aM hr0_1
 have HC0_1 := aM hc0_1
 clear hr0_1 hc0_1
 have HR1 := aM hr1
 have HC1 := aM hc1
 clear hr1 hc1
 have HB := aM (Below.refl w.heap.size w)
 have H : ((impl_IsValidDatabase.f l0_0 l0_1).bind fun t469 => (if t469 = true then ((impl_areIndices.f k l1 (l0_1.length : Int)).bind fun t470 => (impl_SelectFacts.j0 k l1 (!t470) l0_0 l0_1)) else (impl_SelectFacts.j0 k l1 true l0_0 l0_1))) = some (r1, r2, r3) := h
 clear h
 have HC3 := aM H
 clear H
 go_enter Tryd.func28, Tryd.ntmps28
 go_upto_region 1 with (first | ((with_reducible refine gate_dst (N := 2) rfl ?_); (try (refine gate_guard (by rfl) ?_; dsimp only)); refine bE 2 (cs := #[.slice A0_0 l0_0.length c0_0, .slice A0_1 l0_1.length c0_1]) (t := 31) ?_; intro gb467 hg w4 hbox hb; have BK467 := aM (hbox); have GW467 := aM ((by rw [hg]; exact (below_size aB) : w.heap.size ≤ gb467)); have GE467 := aM ((by rw [hg]; exact (below_size aB) : w.heap.size ≤ gb467)); replace HB := aM (below_step aB hb); clear hb hbox hg) | ((with_reducible refine gate_dst (N := 4) rfl ?_); (try (refine gate_guard (by rfl) ?_; dsimp only)); refine bE 4 (cs := #[.slice none 0 0, .slice none 0 0]) (t := 31) ?_; intro gb468 hg w5 hbox hb; have BK468 := aM (hbox); have GW468 := aM ((by rw [hg]; exact (below_size aG) : w.heap.size ≤ gb468)); have GE468 := aM ((by rw [hg]; exact (below_size aG) : w.heap.size ≤ gb468)); have NB467_468 := aM ((by rw [hg]; exact Nat.ne_of_lt (blk_lt (g := gb467) (o := .cells #[.slice A0_0 l0_0.length c0_0, .slice A0_1 l0_1.length c0_1] 31 (0, 0)) aK) : gb467 ≠ gb468)); have NB468_467 := aM ((by rw [hg]; exact Nat.ne_of_gt (blk_lt (g := gb467) (o := .cells #[.slice A0_0 l0_0.length c0_0, .slice A0_1 l0_1.length c0_1] 31 (0, 0)) aK) : gb468 ≠ gb467)); replace BK467 := aM (kB gb467 #[.slice A0_0 l0_0.length c0_0, .slice A0_1 l0_1.length c0_1] 31 hb); replace HB := aM (below_step aG hb); clear hb hbox hg))
 (try simp only [Act.put, List.setIfInBounds_toArray, List.set_cons_zero, List.set_cons_succ])
 go_cut [20] (fun v20 wc => ∃ (kq : Nat) (x20_2 : Bool), v20 = .bool x20_2 ∧ Aside0 (impl_SelectFacts.j0 kq l1 x20_2 l0_0 l0_1 = some (r1, r2, r3)) ∧ Aside0 (kq ≤ k) ∧ Aside0 (wc.heap[gb467]? = some (.cells #[(.slice A0_0 l0_0.length c0_0), (.slice A0_1 l0_1.length c0_1)] 31 (0, 0))) ∧ Aside0 (wc.heap[gb468]? = some (.cells #[(.slice none 0 0), (.slice none 0 0)] 31 (0, 0))) ∧ Aside0 (Below w.heap.size w wc))
 case first =>
  have H := HC3.out
  clear HC3
  replace H := bM H
  obtain ⟨t469, A60, H⟩ := H
  have A6 := aM A60
  clear A60
  by_cases c7 : t469 = true
  ·subst c7
   replace H := iT H
   replace H := bM H
   obtain ⟨t470, A80, H⟩ := H
   have A8 := aM A80
   clear A80
   have H' := aM H
   clear H
   have hnb9 := NB467_468.out
   have hnc9 := NB468_467.out
   have hcz10_0 : w5.cell? ⟨gb467, 0, none⟩ = some (.slice A0_0 l0_0.length c0_0) := (blk_cell BK467.out 0).trans rfl
   have hcz10_1 : w5.cell? ⟨gb467, 1, none⟩ = some (.slice A0_1 l0_1.length c0_1) := (blk_cell BK467.out 1).trans rfl
   have hfz10_0 := blk_frozen BK467.out 0
   have hfz10_1 := blk_frozen BK467.out 1
   go_wp2_with (first | ((with_reducible refine gate_callee (f := 34) rfl ?_); refine goesL_ (some 11) rfl rfl Tryd.func34 (by kernel_rfl) rfl #[.agg #[.slice A0_0 l0_0.length c0_0, .slice A0_1 l0_1.length c0_1]] rfl aA ?_; (with_reducible refine (impl_IsValidDatabase.calls _ _ l0_0 _ _ l0_1 true _ ?side1 ?side2 ?side3 ?side4 A6.out).mono ?_); (case side1 => exact aC); (case side2 => exact HC0_0.out); (case side3 => exact aC); (case side4 => exact HC0_1.out); rintro e w11 ⟨rfl, hb⟩; refine ⟨_, rfl, ?_⟩; have n0_ := aM (kB gb467 #[.slice A0_0 l0_0.length c0_0, .slice A0_1 l0_1.length c0_1] 31 hb); have n1_ := aM (kB gb468 #[.slice none 0 0, .slice none 0 0] 31 hb); have n2_ := aM (below_step aG hb); clear BK467; clear BK468; clear HB; have BK467 := n0_; have BK468 := n1_; have HB := n2_; clear n0_ n1_ n2_; (try clear hb); (try clear hb2); (try clear hk); (try clear hi); have hcz12_0 : w11.cell? ⟨gb467, 0, none⟩ = some (.slice A0_0 l0_0.length c0_0) := (blk_cell BK467.out 0).trans rfl; have hcz12_1 : w11.cell? ⟨gb467, 1, none⟩ = some (.slice A0_1 l0_1.length c0_1) := (blk_cell BK467.out 1).trans rfl; have hfz12_0 := blk_frozen BK467.out 0; have hfz12_1 := blk_frozen BK467.out 1) | (go_at_call 73; (with_reducible refine (impl_areIndices.calls k _ _ l1 (l0_1.length : Int) t470 _ ?side1 ?side2 A8.out).mono ?_); (case side1 => exact aC); (case side2 => exact HC1.out); rintro e w' ⟨rfl, ⟨nd, rfl⟩⟩))
   go_meet
   case rel => exact ⟨_, (!t470), aX, H', ⟨by first | omega | exact Nat.le_refl _⟩, ⟨aK⟩, ⟨aK⟩, ⟨aG⟩⟩
  ·replace c7 := Bool.eq_false_iff.mpr c7
   subst c7
   have H1 : (impl_SelectFacts.j0 k l1 true l0_0 l0_1) = some (r1, r2, r3) := by rw [if_neg (show ¬ (false = true) by decide)] at H; exact H
   clear H
   have H := H1
   clear H1
   have H' := aM H
   clear H
   have hnb13 := NB467_468.out
   have hnc13 := NB468_467.out
   have hcz14_0 : w5.cell? ⟨gb467, 0, none⟩ = some (.slice A0_0 l0_0.length c0_0) := (blk_cell BK467.out 0).trans rfl
   have hcz14_1 : w5.cell? ⟨gb467, 1, none⟩ = some (.slice A0_1 l0_1.length c0_1) := (blk_cell BK467.out 1).trans rfl
   have hfz14_0 := blk_frozen BK467.out 0
   have hfz14_1 := blk_frozen BK467.out 1
   go_wp2_with (first | ((with_reducible refine gate_callee (f := 34) rfl ?_); refine goesL_ (some 11) rfl rfl Tryd.func34 (by kernel_rfl) rfl #[.agg #[.slice A0_0 l0_0.length c0_0, .slice A0_1 l0_1.length c0_1]] rfl aA ?_; (with_reducible refine (impl_IsValidDatabase.calls _ _ l0_0 _ _ l0_1 false _ ?side1 ?side2 ?side3 ?side4 A6.out).mono ?_); (case side1 => exact aC); (case side2 => exact HC0_0.out); (case side3 => exact aC); (case side4 => exact HC0_1.out); rintro e w15 ⟨rfl, hb⟩; refine ⟨_, rfl, ?_⟩; have n0_ := aM (kB gb467 #[.slice A0_0 l0_0.length c0_0, .slice A0_1 l0_1.length c0_1] 31 hb); have n1_ := aM (kB gb468 #[.slice none 0 0, .slice none 0 0] 31 hb); have n2_ := aM (below_step aG hb); clear BK467; clear BK468; clear HB; have BK467 := n0_; have BK468 := n1_; have HB := n2_; clear n0_ n1_ n2_; (try clear hb); (try clear hb2); (try clear hk); (try clear hi)))
   go_meet
   case rel => exact ⟨_, (true), aX, H', ⟨by first | omega | exact Nat.le_refl _⟩, ⟨aK⟩, ⟨aK⟩, ⟨aG⟩⟩
 case rest =>
  clear HC3
  try clear c1
  try clear c2
  try clear p2
  try clear c3
  try clear c7
  try clear c9
  try clear c13
  try clear hcz10_0
  try clear hcz10_1
  try clear hcz12_0
  try clear hcz12_1
  try clear hcz14_0
  try clear hcz14_1
  try clear hfz10_0
  try clear hfz10_1
  try clear hfz12_0
  try clear hfz12_1
  try clear hfz14_0
  try clear hfz14_1
  obtain ⟨kq, x20_2, rfl, HA, HJ2, BK467, BK468, HB⟩ := hcut
  cases kq with
  | zero => exact absurd HA.out (by simp [impl_SelectFacts.j0])
  | succ kj2 =>
   have H := HA.out
   clear HA
   simp only [impl_SelectFacts.j0] at H
   by_cases c16 : x20_2 = true
   ·subst c16
    replace H := iT H
    simp only [Option.some.injEq, Prod.mk.injEq] at H
    obtain ⟨rfl, rfl, rfl⟩ := H
    have hnb17 := NB468_467.out
    have hnc17 := NB467_468.out
    have hcz18_0 : wc.cell? ⟨gb468, 0, none⟩ = some (.slice none 0 0) := (blk_cell BK468.out 0).trans rfl
    have hcz18_1 : wc.cell? ⟨gb468, 1, none⟩ = some (.slice none 0 0) := (blk_cell BK468.out 1).trans rfl
    have hfz18_0 := blk_frozen BK468.out 0
    have hfz18_1 := blk_frozen BK468.out 1
    go_wp2
    refine bodyPost_ret (results_ct rfl _ _ gb468 31 #[.slice none 0 0, .slice none 0 0] (0, 0) _ rfl (by (with_reducible repeat refine pB ?_); refine blk_put (cs := #[.slice none 0 0, .slice none 0 0]) ?_ 1 _ rfl; (with_reducible repeat refine pB ?_); refine blk_put (cs := #[.slice none 0 0, .slice none 0 0]) ?_ 0 _ rfl; (with_reducible repeat refine pB ?_); exact BK468.out) Tryd.underlying31 rfl (by kernel_rfl)) rfl ?_
    exact ⟨_, _, aE, by first | exact Kd.R_nil _ _ _ _ _ | exact Kd.N_nil _ _ _ _ _ | exact Kd.V_nil _ _ _ _ _ | exact Kd.Q_nil _ _ _ _ _ | exact Kd.S_nil _ _ _ _ _, by first | exact Kd.S_nil _ _ _ _ _ | exact Kd.N_nil _ _ _ _ _ | exact Kd.V_nil _ _ _ _ _ | exact Kd.Q_nil _ _ _ _ _ | exact Kd.R_nil _ _ _ _ _, aG⟩
   ·replace c16 := Bool.eq_false_iff.mpr c16
    subst c16
    have H1 : ((impl_copyDatabase.f kj2 l0_0 l0_1).bind fun bt471 => (impl_SelectFacts.l0 kj2 l1 (l1.length : Int) 0 bt471.1 bt471.2 bt471.1 ([] : List (S39)))) = some (r1, r2, r3) := by rw [if_neg (show ¬ (false = true) by decide)] at H; exact H
    clear H
    have H := H1
    clear H1
    replace H := bM H
    obtain ⟨⟨t471, t474⟩, A190, H⟩ := H
    dsimp only at H
    have A19 := aM A190
    clear A190
    have H' := aM H
    clear H
    have hnb20 := NB467_468.out
    have hnc20 := NB468_467.out
    have hcz21_0 : wc.cell? ⟨gb467, 0, none⟩ = some (.slice A0_0 l0_0.length c0_0) := (blk_cell BK467.out 0).trans rfl
    have hcz21_1 : wc.cell? ⟨gb467, 1, none⟩ = some (.slice A0_1 l0_1.length c0_1) := (blk_cell BK467.out 1).trans rfl
    have hfz21_0 := blk_frozen BK467.out 0
    have hfz21_1 := blk_frozen BK467.out 1
    go_wp2_with (first | ((with_reducible refine gate_callee (f := 74) rfl ?_); refine goesL_ (some 23) rfl rfl Tryd.func74 (by kernel_rfl) rfl #[.agg #[.slice A0_0 l0_0.length c0_0, .slice A0_1 l0_1.length c0_1]] rfl aA ?_; (with_reducible refine (impl_copyDatabase.calls kj2 _ _ l0_0 _ _ l0_1 t471 t474 _ ?side1 ?side2 ?side3 ?side4 A19.out).mono ?_); (case side1 => exact aC); (case side2 => exact HC0_0.out); (case side3 => exact aC); (case side4 => exact HC0_1.out); rintro e w22 ⟨v472, v475, rfl, ho0, ho1, hb⟩; refine ⟨_, rfl, ?_⟩; have n0_ := aM (Kd.R_lower (Kd.R_newM (M := fun k_ => (w.heap.size ≤ k_)) ho0 (below_size aG) (fun k_ h_ => h_)) (below_size aG)); have n1_ := aM (Kd.N_lower (Kd.N_mono (ok' := fun k_ => (w.heap.size ≤ k_) ∧ some k_ ≠ (v472 : Value).ownBlock ∧ k_ ≠ gb467 ∧ k_ ≠ gb468) (Kd.S_N (Kd.S_bound (Kd.S_apart' ho1 (Kd.R_typed ho0) (by decide)))) (fun k_ hk_ => ⟨(Nat.le_trans (below_size aG) hk_.2.1), hk_.1.2, (Kd.freshB (g := gb467) (o := .cells #[.slice A0_0 l0_0.length c0_0, .slice A0_1 l0_1.length c0_1] 31 (0, 0)) aK k_ hk_.2.1), (Kd.freshB (g := gb468) (o := .cells #[.slice none 0 0, .slice none 0 0] 31 (0, 0)) aK k_ hk_.2.1)⟩)) (below_size aG)); have n2_ := aM (kB gb467 #[.slice A0_0 l0_0.length c0_0, .slice A0_1 l0_1.length c0_1] 31 hb); have n3_ := aM (kB gb468 #[.slice none 0 0, .slice none 0 0] 31 hb); have n4_ := aM (below_step aG hb); clear BK467; clear BK468; clear HB; have HO473 := n0_; have HO476 := n1_; have BK467 := n2_; have BK468 := n3_; have HB := n4_; clear n0_ n1_ n2_ n3_ n4_; (try clear hb); (try clear hb2); (try clear hk); (try clear hi); (try clear ho0); (try clear ho1)) | ((with_reducible refine gate_dst (N := 6) rfl ?_); (try (refine gate_guard (by rfl) ?_; dsimp only)); refine bE 6 (cs := #[.slice none 0 0, .slice none 0 0]) (t := 31) ?_; intro gb477 hg w23 hbox hb; have n0_ := aM (Kd.R_below (aR HO473) hb); have n1_ := aM (Kd.N_below (Kd.N_elderB (aN HO476) gb477 (Nat.le_of_eq hg.symm)) hb); have n2_ := aM (kB gb467 #[.slice A0_0 l0_0.length c0_0, .slice A0_1 l0_1.length c0_1] 31 hb); have n3_ := aM (kB gb468 #[.slice none 0 0, .slice none 0 0] 31 hb); have n4_ := aM (below_step aG hb); have n5_ := aM (hbox); have n6_ := aM ((by rw [hg]; exact (below_size aG) : w.heap.size ≤ gb477)); have n7_ := aM ((by rw [hg]; exact (below_size aG) : w.heap.size ≤ gb477)); have n8_ := aM ((by rw [hg]; exact Nat.ne_of_lt (blk_lt (g := gb467) (o := .cells #[.slice A0_0 l0_0.length c0_0, .slice A0_1 l0_1.length c0_1] 31 (0, 0)) aK) : gb467 ≠ gb477)); have n9_ := aM ((by rw [hg]; exact Nat.ne_of_gt (blk_lt (g := gb467) (o := .cells #[.slice A0_0 l0_0.length c0_0, .slice A0_1 l0_1.length c0_1] 31 (0, 0)) aK) : gb477 ≠ gb467)); have n10_ := aM ((by rw [hg]; exact Nat.ne_of_lt (blk_lt (g := gb468) (o := .cells #[.slice none 0 0, .slice none 0 0] 31 (0, 0)) aK) : gb468 ≠ gb477)); have n11_ := aM ((by rw [hg]; exact Nat.ne_of_gt (blk_lt (g := gb468) (o := .cells #[.slice none 0 0, .slice none 0 0] 31 (0, 0)) aK) : gb477 ≠ gb468)); clear HO473; clear HO476; clear BK467; clear BK468; clear HB; have HO473 := n0_; have HO476 := n1_; have BK467 := n2_; have BK468 := n3_; have HB := n4_; have BK477 := n5_; have GW477 := n6_; have GE477 := n7_; have NB467_477 := n8_; have NB477_467 := n9_; have NB468_477 := n10_; have NB477_468 := n11_; clear n0_ n1_ n2_ n3_ n4_ n5_ n6_ n7_ n8_ n9_ n10_ n11_; clear hb hbox hg; obtain ⟨Ao24, co24, eo24⟩ := Kd.R_slice HO473.out; subst eo24; have hnb25 := NB477_467.out; have hnc25 := NB467_477.out; have hnb26 := NB477_468.out; have hnc26 := NB468_477.out; have hcz27_0 : w23.cell? ⟨gb477, 0, none⟩ = some (.slice none 0 0) := (blk_cell BK477.out 0).trans rfl; have hcz27_1 : w23.cell? ⟨gb477, 1, none⟩ = some (.slice none 0 0) := (blk_cell BK477.out 1).trans rfl; have hfz27_0 := blk_frozen BK477.out 0; have hfz27_1 := blk_frozen BK477.out 1; obtain ⟨Ao28, co28, eo28⟩ := Kd.N_slice HO476.out; subst eo28) | ((with_reducible refine gate_dst (N := 7) rfl ?_); (try (refine gate_guard (by rfl) ?_; dsimp only)); refine bE 7 (cs := #[.slice none 0 0, .slice none 0 0]) (t := 31) ?_; intro gb478 hg w29 hbox hb; have BK478 := aM (hbox); have GW478 := aM ((by rw [hg]; exact (below_size aG) : w.heap.size ≤ gb478)); have GE478 := aM ((by rw [hg]; exact (below_size aG) : w.heap.size ≤ gb478)); have NB467_478 := aM ((by rw [hg]; exact Nat.ne_of_lt (blk_lt (g := gb467) (o := .cells #[.slice A0_0 l0_0.length c0_0, .slice A0_1 l0_1.length c0_1] 31 (0, 0)) (by (with_reducible repeat refine pB ?_); refine blk_far ?_ NB467_477.out _; (with_reducible repeat refine pB ?_); refine blk_far ?_ NB467_477.out _; (with_reducible repeat refine pB ?_); exact BK467.out)) : gb467 ≠ gb478)); have NB478_467 := aM ((by rw [hg]; exact Nat.ne_of_gt (blk_lt (g := gb467) (o := .cells #[.slice A0_0 l0_0.length c0_0, .slice A0_1 l0_1.length c0_1] 31 (0, 0)) (by (with_reducible repeat refine pB ?_); refine blk_far ?_ NB467_477.out _; (with_reducible repeat refine pB ?_); refine blk_far ?_ NB467_477.out _; (with_reducible repeat refine pB ?_); exact BK467.out)) : gb478 ≠ gb467)); have NB468_478 := aM ((by rw [hg]; exact Nat.ne_of_lt (blk_lt (g := gb468) (o := .cells #[.slice none 0 0, .slice none 0 0] 31 (0, 0)) (by (with_reducible repeat refine pB ?_); refine blk_far ?_ NB468_477.out _; (with_reducible repeat refine pB ?_); refine blk_far ?_ NB468_477.out _; (with_reducible repeat refine pB ?_); exact BK468.out)) : gb468 ≠ gb478)); have NB478_468 := aM ((by rw [hg]; exact Nat.ne_of_gt (blk_lt (g := gb468) (o := .cells #[.slice none 0 0, .slice none 0 0] 31 (0, 0)) (by (with_reducible repeat refine pB ?_); refine blk_far ?_ NB468_477.out _; (with_reducible repeat refine pB ?_); refine blk_far ?_ NB468_477.out _; (with_reducible repeat refine pB ?_); exact BK468.out)) : gb478 ≠ gb468)); have NB477_478 := aM ((by rw [hg]; exact Nat.ne_of_lt (blk_lt (g := gb477) (o := .cells #[.slice Ao24 t471.length co24, .slice Ao28 t474.length co28] 31 (0, 0)) (by (with_reducible repeat refine pB ?_); refine blk_put (cs := #[.slice Ao24 t471.length co24, .slice none 0 0]) ?_ 1 _ rfl; (with_reducible repeat refine pB ?_); refine blk_put (cs := #[.slice none 0 0, .slice none 0 0]) ?_ 0 _ rfl; (with_reducible repeat refine pB ?_); exact BK477.out)) : gb477 ≠ gb478)); have NB478_477 := aM ((by rw [hg]; exact Nat.ne_of_gt (blk_lt (g := gb477) (o := .cells #[.slice Ao24 t471.length co24, .slice Ao28 t474.length co28] 31 (0, 0)) (by (with_reducible repeat refine pB ?_); refine blk_put (cs := #[.slice Ao24 t471.length co24, .slice none 0 0]) ?_ 1 _ rfl; (with_reducible repeat refine pB ?_); refine blk_put (cs := #[.slice none 0 0, .slice none 0 0]) ?_ 0 _ rfl; (with_reducible repeat refine pB ?_); exact BK477.out)) : gb478 ≠ gb477)); replace HO473 := aM (Kd.R_below (by (with_reducible repeat apply pR); exact (Kd.R_mono (Kd.R_far (p := ⟨gb477, 1, none⟩) (Kd.R_far (p := ⟨gb477, 0, none⟩) (Kd.R_types HO473.out BK477.out (by decide)) (fun _ hk => hk.2) (.slice Ao24 t471.length co24)) (fun _ hk => hk.2) (.slice Ao28 t474.length co28)) (fun _ h_ => h_.1))) hb); replace HO476 := aM (Kd.N_below (Kd.N_elderB (by (with_reducible repeat apply pN); exact (Kd.N_mono (Kd.N_far (p := ⟨gb477, 1, none⟩) (Kd.N_far (p := ⟨gb477, 0, none⟩) (Kd.N_mono HO476.out (fun k_ hk => (⟨hk, hk.2⟩ : _ ∧ k_ ≠ gb477))) (fun _ hk => hk.2) (.slice Ao24 t471.length co24)) (fun _ hk => hk.2) (.slice Ao28 t474.length co28)) (fun _ h_ => h_.1))) gb478 (Nat.le_of_eq hg.symm)) hb); replace BK467 := aM (blk_below (g := gb467) (o := .cells #[.slice A0_0 l0_0.length c0_0, .slice A0_1 l0_1.length c0_1] 31 (0, 0)) (by (with_reducible repeat refine pB ?_); refine blk_far ?_ NB467_477.out _; (with_reducible repeat refine pB ?_); refine blk_far ?_ NB467_477.out _; (with_reducible repeat refine pB ?_); exact BK467.out) hb); replace BK468 := aM (blk_below (g := gb468) (o := .cells #[.slice none 0 0, .slice none 0 0] 31 (0, 0)) (by (with_reducible repeat refine pB ?_); refine blk_far ?_ NB468_477.out _; (with_reducible repeat refine pB ?_); refine blk_far ?_ NB468_477.out _; (with_reducible repeat refine pB ?_); exact BK468.out) hb); replace BK477 := aM (blk_below (g := gb477) (o := .cells #[.slice Ao24 t471.length co24, .slice Ao28 t474.length co28] 31 (0, 0)) (by (with_reducible repeat refine pB ?_); refine blk_put (cs := #[.slice Ao24 t471.length co24, .slice none 0 0]) ?_ 1 _ rfl; (with_reducible repeat refine pB ?_); refine blk_put (cs := #[.slice none 0 0, .slice none 0 0]) ?_ 0 _ rfl; (with_reducible repeat refine pB ?_); exact BK477.out) hb); replace HB := aM (below_step aG hb); clear hb hbox hg; have hnb30 := NB478_467.out; have hnc30 := NB467_478.out; have hnb31 := NB478_468.out; have hnc31 := NB468_478.out; have hnb32 := NB478_477.out; have hnc32 := NB477_478.out; have hcz33_0 : w29.cell? ⟨gb478, 0, none⟩ = some (.slice none 0 0) := (blk_cell BK478.out 0).trans rfl; have hcz33_1 : w29.cell? ⟨gb478, 1, none⟩ = some (.slice none 0 0) := (blk_cell BK478.out 1).trans rfl; have hfz33_0 := blk_frozen BK478.out 0; have hfz33_1 := blk_frozen BK478.out 1))
    go_loopg [29] kj2 (fun kq v29 w' => ∃ (x29_2 : Int) (x479001_2 : List (S39)) (u479001 : Value), v29 = .int .i64 x29_2 ∧ Aside0 (impl_SelectFacts.l0 kq l1 (l1.length : Int) x29_2 t471 t474 t471 x479001_2 = some (r1, r2, r3)) ∧ Aside0 (kq ≤ kj2) ∧ Aside0 (Kd.R k68 68 w' w.heap.size (fun k_ => (w.heap.size ≤ k_)) (.slice Ao24 t471.length co24) t471) ∧ Aside0 (Kd.N k39 39 w' w.heap.size (fun k_ => (w.heap.size ≤ k_) ∧ some k_ ≠ ((.slice Ao24 t471.length co24) : Value).ownBlock ∧ some k_ ≠ ((.slice Ao24 t471.length co24) : Value).ownBlock ∧ some k_ ≠ (u479001 : Value).ownBlock ∧ k_ ≠ gb467 ∧ k_ ≠ gb468 ∧ k_ ≠ gb477 ∧ k_ ≠ gb478) (.slice Ao28 t474.length co28) t474) ∧ Aside0 (Kd.R k68 68 w' w.heap.size (fun k_ => (w.heap.size ≤ k_)) (.slice Ao24 t471.length co24) t471) ∧ Aside0 (Kd.N k39 39 w' w.heap.size (fun k_ => (w.heap.size ≤ k_) ∧ some k_ ≠ ((.slice Ao24 t471.length co24) : Value).ownBlock ∧ some k_ ≠ ((.slice Ao28 t474.length co28) : Value).ownBlock ∧ some k_ ≠ ((.slice Ao24 t471.length co24) : Value).ownBlock ∧ k_ ≠ gb467 ∧ k_ ≠ gb468 ∧ k_ ≠ gb477 ∧ k_ ≠ gb478) u479001 x479001_2) ∧ Aside0 (w'.heap[gb467]? = some (.cells #[(.slice A0_0 l0_0.length c0_0), (.slice A0_1 l0_1.length c0_1)] 31 (0, 0))) ∧ Aside0 (w'.heap[gb468]? = some (.cells #[(.slice none 0 0), (.slice none 0 0)] 31 (0, 0))) ∧ Aside0 (w'.heap[gb477]? = some (.cells #[(.slice Ao24 t471.length co24), (.slice Ao28 t474.length co28)] 31 (0, 0))) ∧ Aside0 (w'.heap[gb478]? = some (.cells #[(.slice Ao24 t471.length co24), u479001] 31 (0, 0))) ∧ Aside0 (Below w.heap.size w w'))
    case atStart => exact ⟨(0), (([] : List (S39))), (.slice none 0 0), aX, H', ⟨Nat.le_refl _⟩, ⟨by (with_reducible repeat apply pR); exact Kd.R_mono (Kd.R_far (p := ⟨gb478, 1, none⟩) (Kd.R_far (p := ⟨gb478, 0, none⟩) (Kd.R_types HO473.out BK478.out (by decide)) (fun _ hk => hk.2) (.slice Ao24 t471.length co24)) (fun _ hk => hk.2) (.slice none 0 0)) (fun _ hk => hk.1.1)⟩, ⟨by (with_reducible repeat apply pN); exact Kd.N_mono (Kd.N_far (p := ⟨gb478, 1, none⟩) (Kd.N_far (p := ⟨gb478, 0, none⟩) (Kd.N_mono HO476.out (fun k_ hk => (⟨hk, hk.2⟩ : _ ∧ k_ ≠ gb478))) (fun _ hk => hk.2) (.slice Ao24 t471.length co24)) (fun _ hk => hk.2) (.slice none 0 0)) (fun _ hk => ⟨hk.1.1.1.1, ⟨hk.1.1.1.2.1, ⟨hk.1.1.1.2.1, ⟨(by simp [Value.ownBlock]), ⟨hk.1.1.1.2.2.1, ⟨hk.1.1.1.2.2.2, ⟨hk.1.1.2, hk.1.2⟩⟩⟩⟩⟩⟩⟩)⟩, ⟨by (with_reducible repeat apply pR); exact Kd.R_mono (Kd.R_far (p := ⟨gb478, 1, none⟩) (Kd.R_far (p := ⟨gb478, 0, none⟩) (Kd.R_types HO473.out BK478.out (by decide)) (fun _ hk => hk.2) (.slice Ao24 t471.length co24)) (fun _ hk => hk.2) (.slice none 0 0)) (fun _ hk => hk.1.1)⟩, ⟨by first | exact Kd.S_nil _ _ _ _ _ | exact Kd.N_nil _ _ _ _ _ | exact Kd.V_nil _ _ _ _ _ | exact Kd.Q_nil _ _ _ _ _ | exact Kd.R_nil _ _ _ _ _⟩, ⟨by (with_reducible repeat refine pB ?_); refine blk_far ?_ NB467_478.out _; (with_reducible repeat refine pB ?_); refine blk_far ?_ NB467_478.out _; (with_reducible repeat refine pB ?_); exact BK467.out⟩, ⟨by (with_reducible repeat refine pB ?_); refine blk_far ?_ NB468_478.out _; (with_reducible repeat refine pB ?_); refine blk_far ?_ NB468_478.out _; (with_reducible repeat refine pB ?_); exact BK468.out⟩, ⟨by (with_reducible repeat refine pB ?_); refine blk_far ?_ NB477_478.out _; (with_reducible repeat refine pB ?_); refine blk_far ?_ NB477_478.out _; (with_reducible repeat refine pB ?_); exact BK477.out⟩, ⟨by (with_reducible repeat refine pB ?_); refine blk_put (cs := #[.slice Ao24 t471.length co24, .slice none 0 0]) ?_ 1 _ rfl; (with_reducible repeat refine pB ?_); refine blk_put (cs := #[.slice none 0 0, .slice none 0 0]) ?_ 0 _ rfl; (with_reducible repeat refine pB ?_); exact BK478.out⟩, ⟨aG⟩⟩
    case round =>
     clear H'
     try clear c1
     try clear c2
     try clear p2
     try clear c3
     try clear c7
     try clear c9
     try clear c13
     try clear c16
     try clear c17
     try clear c20
     try clear c25
     try clear c26
     try clear c28
     try clear c30
     try clear c31
     try clear c32
     try clear hcz10_0
     try clear hcz10_1
     try clear hcz12_0
     try clear hcz12_1
     try clear hcz14_0
     try clear hcz14_1
     try clear hcz18_0
     try clear hcz18_1
     try clear hcz21_0
     try clear hcz21_1
     try clear hcz27_0
     try clear hcz27_1
     try clear hcz33_0
     try clear hcz33_1
     try clear hfz10_0
     try clear hfz10_1
     try clear hfz12_0
     try clear hfz12_1
     try clear hfz14_0
     try clear hfz14_1
     try clear hfz18_0
     try clear hfz18_1
     try clear hfz21_0
     try clear hfz21_1
     try clear hfz27_0
     try clear hfz27_1
     try clear hfz33_0
     try clear hfz33_1
     try clear p2
     obtain ⟨x29_2, x479001_2, u479001, rfl, HA, HK2, HO_478000, HO_478001, HO_479000, HO_479001, BK467, BK468, BK477, BK478, HB⟩ := hrel
     cases gk with
     | zero => exact absurd HA.out (by simp [impl_SelectFacts.l0])
     | succ k2 =>
      have H := HA.out
      clear HA
      simp only [impl_SelectFacts.l0] at H
      by_cases c34 : x29_2 < (l1.length : Int)
      ·rw [if_pos c34] at H
       have c34b0 : decide (x29_2 < (l1.length : Int)) = true := decide_eq_true c34
       clear c34
       by_cases c35 : 0 ≤ x29_2
       ·rw [if_pos c35] at H
        have c35b0 : decide (0 ≤ x29_2) = true := decide_eq_true c35
        clear c35
        by_cases c36 : x29_2 < (l1.length : Int)
        ·rw [if_pos c36] at H
         have c36b0 : decide (x29_2 < (l1.length : Int)) = true := decide_eq_true c36
         clear c36
         by_cases c37 : 0 ≤ (rd l1 x29_2)
         ·rw [if_pos c37] at H
          have c37b0 : decide (0 ≤ (rd l1 x29_2)) = true := decide_eq_true c37
          clear c37
          by_cases c38 : (rd l1 x29_2) < (t474.length : Int)
          ·rw [if_pos c38] at H
           have c38b0 : decide ((rd l1 x29_2) < (t474.length : Int)) = true := decide_eq_true c38
           clear c38
           by_cases c39 : x479001_2.length < 4398046511104
           ·rw [if_pos c39] at H
            have LMc39 := aM c39
            clear c39
            obtain ⟨y481, hy481⟩ : ∃ y_ : List (S39), y_ = (x479001_2 ++ [(⟨(rd_T39 t474 (rd l1 x29_2)).f0, (rd_T39 t474 (rd l1 x29_2)).f1⟩ : S39)]) := ⟨_, rfl⟩
            first | replace H := bY hy481 H | rw [← hy481] at H
            have Ny481 := aM hy481
            clear hy481
            have H' := aM H
            clear H
            have p479 : 0 ≤ (x29_2 : Int) := aD
            have q479 : x29_2 < (l1.length : Int) := aD
            obtain ⟨ad479, e479, hx479_0⟩ := Kd.at_int HR1.out x29_2 p479 q479
            cases e479
            replace hx479_0 := (HB.out.cell (World.block_lt_of_cell? w _ hx479_0)).trans hx479_0
            replace p479 := eq_true p479
            replace q479 := eq_true q479
            try go_wp2
            replace HO_478000 := aM (Kd.R_drew HO_478000.out)
            replace HO_478001 := aM (Kd.N_drew HO_478001.out)
            replace HO_479000 := aM (Kd.R_drew HO_479000.out)
            replace HO_479001 := aM (Kd.N_drew HO_479001.out)
            replace BK467 := aM (blk_drew BK467.out)
            replace BK468 := aM (blk_drew BK468.out)
            replace BK477 := aM (blk_drew BK477.out)
            replace BK478 := aM (blk_drew BK478.out)
            replace HB := aM (below_drew1 HB.out)
            have p480 : 0 ≤ ((rd l1 x29_2) : Int) := aD
            have q480 : (rd l1 x29_2) < (t474.length : Int) := aD
            obtain ⟨ad480, A480_1, c480_1, e480, hx480_0, hx480_1, hl480_1, hi480_1⟩ := at_T39 (Kd.N_reads' HO_478001.out).2.2 (rd l1 x29_2) p480 q480
            cases e480
            obtain ⟨ce480, hce480, hMe480, hcc480⟩ := Kd.N_get HO_478001.out z39 (rd l1 x29_2) p480 (by first | exact q480 | exact aD | (have e_ := (Kd.N_reads' HO_478001.out).1; omega))
            obtain ⟨ua480_1, uc480_1, rfl, ul480_1, ge480_1⟩ := k39_openF hMe480
            have hv480_1 := hcc480 1 _ rfl
            rw [add_field _ _ 1 (by omega)] at hv480_1
            replace hv480_1 := Option.some.inj (hv480_1.symm.trans hx480_1)
            injection hv480_1 with hva_ hvn_ hvc_
            rw [hva_] at ge480_1
            rw [hvc_] at ul480_1
            have HL480_1 := aM (show Kd.V (Kd.int .i64) 3 _ w.heap.size _ _ ((rd_T39 t474 (rd l1 x29_2)).f1) from Kd.V_mk ul480_1 ge480_1)
            clear hva_ hvn_ hvc_ ge480_1 ul480_1
            clear hcc480 hce480
            have HR480_1 := aM hi480_1
            have HC480_1 := aM hl480_1
            clear hi480_1 hl480_1
            replace p480 := eq_true p480
            replace q480 := eq_true q480
            refine start_ (n := 11) (S := fun w' => w'.cell? ⟨gb478, 0, none⟩ = some (.slice Ao24 t471.length co24) ∧ w'.cell? ⟨gb478, 1, none⟩ = some (u479001) ∧ w'.cell? ⟨gb477, 0, none⟩ = some (.slice Ao24 t471.length co24) ∧ w'.cell? ⟨gb477, 1, none⟩ = some (.slice (some ad480) t474.length co28) ∧ w'.cell? (ad480.add (((rd l1 x29_2)).toNat * 2)) = some (.int .i64 ((rd_T39 t474 (rd l1 x29_2)).f0)) ∧ w'.cell? ⟨(ad480.add (((rd l1 x29_2)).toNat * 2)).block, (ad480.add (((rd l1 x29_2)).toNat * 2)).off + 1, none⟩ = some (.slice A480_1 ((rd_T39 t474 (rd l1 x29_2)).f1).length c480_1)) (ds := [8, 10]) #[false, false, false, false, false, false, false, false, false, false, false] (by kernel_rfl) rfl rfl ⟨(blk_cell BK478.out 0).trans rfl, (blk_cell BK478.out 1).trans rfl, (blk_cell BK477.out 0).trans rfl, (blk_cell BK477.out 1).trans rfl, hx480_0, hx480_1⟩ (fun hHeld => ?_); refine with_tabW impl_SelectFacts.tab8 impl_SelectFacts.bits8 (fun HT_ HW_ => ?_)
            generalize wr.drew = w40 at HO_478000 HO_478001 HO_479000 HO_479001 BK467 BK468 BK477 BK478 HB HL480_1 HR480_1 hx480_0 hx480_1 hHeld ⊢
            refine pU 0 33 ?_
            refine pU 2 35 ?_
            refine pU 4 37 ?_
            refine tU6 1 34 hHeld ?_
            refine tU6 3 36 hHeld ?_
            refine pU 5 38 ?_
            refine tU6 6 39 hHeld ?_
            refine oU 7 40 (fun K hK => ?_)
            refine value_ (w1 := ?_) (v := ?_) (by rfl) rfl ?_ ?_
            rotate_left 2
            ·go_simp
             constructor
             ·rfl
             ·rfl
            refine hK.out _ _ ⟨(blk_cell (blk_alloc BK478.out _) 0).trans rfl, (blk_cell (blk_alloc BK478.out _) 1).trans rfl, (blk_cell (blk_alloc BK477.out _) 0).trans rfl, (blk_cell (blk_alloc BK477.out _) 1).trans rfl, (World.cell?_alloc_lt _ _ _ (World.block_lt_of_cell? _ _ (hHeld.2.2.2.2.1))).trans (hHeld.2.2.2.2.1), (World.cell?_alloc_lt _ _ _ (World.block_lt_of_cell? _ _ (hHeld.2.2.2.2.2))).trans (hHeld.2.2.2.2.2)⟩ (fun hHeld => ?_)
            clear hK K
            refine nU 40 ?_
            refine last_ (i := 8) (N := some 41) #[true, true, true, true, true, true, true, true, true, false, false] rfl rfl (one_of HT_.out (by kernel_rfl)) (by decide) (fun K hK => ?_)
            refine Kd.N_append_step k39 (w0 := w) w.heap.size (by rfl) (.tmp 34) (.tmp 40) 29 39 (.agg #[(.int .i64 0), (.slice none 0 0)]) 32 rfl Tryd.underlying29 info39 rfl (by decide) (by omega) u479001 x479001_2 (⟨(rd_T39 t474 (rd l1 x29_2)).f0, (rd_T39 t474 (rd l1 x29_2)).f1⟩ : S39) [.int .i64 ((rd_T39 t474 (rd l1 x29_2)).f0), .slice A480_1 ((rd_T39 t474 (rd l1 x29_2)).f1).length c480_1] (fun k_ => (w.heap.size ≤ k_) ∧ some k_ ≠ (.slice Ao24 t471.length co24 : Value).ownBlock ∧ some k_ ≠ (.slice (some ad480) t474.length co28 : Value).ownBlock ∧ some k_ ≠ (.slice Ao24 t471.length co24 : Value).ownBlock ∧ k_ ≠ gb467 ∧ k_ ≠ gb468 ∧ k_ ≠ gb477 ∧ k_ ≠ gb478) (fun k_ => ((fun k_ => (w.heap.size ≤ k_) ∧ some k_ ≠ (.slice Ao24 t471.length co24 : Value).ownBlock ∧ some k_ ≠ (.slice (some ad480) t474.length co28 : Value).ownBlock ∧ some k_ ≠ (.slice Ao24 t471.length co24 : Value).ownBlock ∧ k_ ≠ gb467 ∧ k_ ≠ gb468 ∧ k_ ≠ gb477 ∧ k_ ≠ gb478)) k_ ∧ some k_ ≠ (u479001 : Value).ownBlock) rfl rfl ?aP (fun _ hk => hk) ?aF ?aO ?aB ?aS ?aL ?_
            (case aP => exact (k39_mkF _ _ (⟨(rd_T39 t474 (rd l1 x29_2)).f0, (rd_T39 t474 (rd l1 x29_2)).f1⟩ : S39) (Kd.V_reads' (Kd.V_mono (ok' := (fun k_ => ((fun k_ => (w.heap.size ≤ k_) ∧ some k_ ≠ (.slice Ao24 t471.length co24 : Value).ownBlock ∧ some k_ ≠ (.slice (some ad480) t474.length co28 : Value).ownBlock ∧ some k_ ≠ (.slice Ao24 t471.length co24 : Value).ownBlock ∧ k_ ≠ gb467 ∧ k_ ≠ gb468 ∧ k_ ≠ gb477 ∧ k_ ≠ gb478)) k_ ∧ some k_ ≠ (u479001 : Value).ownBlock)) (HL480_1.out) (fun k_ hk => ⟨⟨hk.1.1, ⟨hk.1.2.1, ⟨hk.2, ⟨hk.1.2.2.1, ⟨hk.1.2.2.2.2.1, ⟨hk.1.2.2.2.2.2.1, ⟨hk.1.2.2.2.2.2.2.1, hk.1.2.2.2.2.2.2.2⟩⟩⟩⟩⟩⟩⟩, hk.1.2.2.2.1⟩))).2.1 (Kd.V_F (Kd.V_mono (ok' := (fun k_ => ((fun k_ => (w.heap.size ≤ k_) ∧ some k_ ≠ (.slice Ao24 t471.length co24 : Value).ownBlock ∧ some k_ ≠ (.slice (some ad480) t474.length co28 : Value).ownBlock ∧ some k_ ≠ (.slice Ao24 t471.length co24 : Value).ownBlock ∧ k_ ≠ gb467 ∧ k_ ≠ gb468 ∧ k_ ≠ gb477 ∧ k_ ≠ gb478)) k_ ∧ some k_ ≠ (u479001 : Value).ownBlock)) (HL480_1.out) (fun k_ hk => ⟨⟨hk.1.1, ⟨hk.1.2.1, ⟨hk.2, ⟨hk.1.2.2.1, ⟨hk.1.2.2.2.2.1, ⟨hk.1.2.2.2.2.2.1, ⟨hk.1.2.2.2.2.2.2.1, hk.1.2.2.2.2.2.2.2⟩⟩⟩⟩⟩⟩⟩, hk.1.2.2.2.1⟩)))))
            (case aB => exact aG)
            (case aF => exact (fun k_ hk => ⟨(Nat.le_trans (below_size aG) hk), Kd.fresh' (Kd.R_lt (aR HO_478000)) k_ hk, Kd.fresh' (Kd.N_lt (aN HO_478001)) k_ hk, Kd.fresh' (Kd.R_lt (aR HO_479000)) k_ hk, Kd.freshB (g := gb467) (o := .cells #[.slice A0_0 l0_0.length c0_0, .slice A0_1 l0_1.length c0_1] 31 (0, 0)) aK k_ hk, Kd.freshB (g := gb468) (o := .cells #[.slice none 0 0, .slice none 0 0] 31 (0, 0)) aK k_ hk, Kd.freshB (g := gb477) (o := .cells #[.slice Ao24 t471.length co24, .slice (some ad480) t474.length co28] 31 (0, 0)) aK k_ hk, Kd.freshB (g := gb478) (o := .cells #[.slice Ao24 t471.length co24, u479001] 31 (0, 0)) aK k_ hk⟩))
            (case aO => exact (aN HO_479001))
            (case aS => exact (below_size aG))
            (case aL => have := LMc39.out; omega)
            intro v482 w41 ho hb hg hat
            rw [← Ny481.out] at ho
            have n0_ := aM (Kd.R_over' (aR HO_478000) (Kd.N_typed (aN HO_479001)) (by decide) hg)
            have n1_ := aM (Kd.N_afterv (ok := (fun k_ => (w.heap.size ≤ k_) ∧ some k_ ≠ (.slice Ao24 t471.length co24 : Value).ownBlock ∧ some k_ ≠ (.slice Ao24 t471.length co24 : Value).ownBlock ∧ k_ ≠ gb467 ∧ k_ ≠ gb468 ∧ k_ ≠ gb477 ∧ k_ ≠ gb478)) (by (with_reducible repeat apply pN); exact Kd.N_mono HO_478001.out (fun _ hk => ⟨⟨hk.1, ⟨hk.2.1, ⟨hk.2.2.1, ⟨hk.2.2.2.2.1, ⟨hk.2.2.2.2.2.1, ⟨hk.2.2.2.2.2.2.1, hk.2.2.2.2.2.2.2⟩⟩⟩⟩⟩⟩, hk.2.2.2.1⟩)) hg hat)
            have n2_ := aM (Kd.R_over' (aR HO_479000) (Kd.N_typed (aN HO_479001)) (by decide) hg)
            have n3_ := aM (blk_grown (g := gb467) (o := .cells #[.slice A0_0 l0_0.length c0_0, .slice A0_1 l0_1.length c0_1] 31 (0, 0)) aK hg (Kd.N_ne HO_479001.out BK467.out (by decide)))
            have n4_ := aM (blk_grown (g := gb468) (o := .cells #[.slice none 0 0, .slice none 0 0] 31 (0, 0)) aK hg (Kd.N_ne HO_479001.out BK468.out (by decide)))
            have n5_ := aM (blk_grown (g := gb477) (o := .cells #[.slice Ao24 t471.length co24, .slice (some ad480) t474.length co28] 31 (0, 0)) aK hg (Kd.N_ne HO_479001.out BK477.out (by decide)))
            have n6_ := aM (blk_grown (g := gb478) (o := .cells #[.slice Ao24 t471.length co24, u479001] 31 (0, 0)) aK hg (Kd.N_ne HO_479001.out BK478.out (by decide)))
            have n7_ := aM (Kd.V_afterv (ok := (fun k_ => (w.heap.size ≤ k_) ∧ some k_ ≠ (.slice Ao24 t471.length co24 : Value).ownBlock ∧ some k_ ≠ (.slice (some ad480) t474.length co28 : Value).ownBlock ∧ some k_ ≠ (.slice Ao24 t471.length co24 : Value).ownBlock ∧ k_ ≠ gb467 ∧ k_ ≠ gb468 ∧ k_ ≠ gb477 ∧ k_ ≠ gb478)) (by (with_reducible repeat apply pV); exact Kd.V_mono HL480_1.out (fun _ hk => ⟨⟨hk.1.1, ⟨hk.1.2.1, ⟨hk.2, ⟨hk.1.2.2.1, ⟨hk.1.2.2.2.2.1, ⟨hk.1.2.2.2.2.2.1, ⟨hk.1.2.2.2.2.2.2.1, hk.1.2.2.2.2.2.2.2⟩⟩⟩⟩⟩⟩⟩, hk.1.2.2.2.1⟩)) hg hat)
            have n8_ := aM (hb)
            have n9_ := aM (ho)
            clear HO_478000
            clear HO_478001
            clear HO_479000
            clear BK467
            clear BK468
            clear BK477
            clear BK478
            clear HL480_1
            clear HB
            clear HO_479001
            have HO_478000 := n0_
            have HO_478001 := n1_
            have HO_479000 := n2_
            have BK467 := n3_
            have BK468 := n4_
            have BK477 := n5_
            have BK478 := n6_
            have HL480_1 := n7_
            have HB := n8_
            have HO483 := n9_
            clear n0_ n1_ n2_ n3_ n4_ n5_ n6_ n7_ n8_ n9_
            clear ho hb hg hat
            obtain ⟨Ao42, co42, eo42⟩ := Kd.N_slice HO483.out
            (first | subst eo42 | (injection eo42 with f1_ f2_ f3_; have f4_ := f1_.symm; have f5_ := f3_.symm; clear f1_ f2_ f3_; subst f4_; subst f5_))
            refine hK.out _ _ ?_
            clear hK K
            refine nU 41 ?_
            refine pU 9 42 ?_
            refine last_ (i := 10) (N := none) #[true, true, true, true, true, true, true, true, true, true, true] rfl rfl (one_of HT_.out (by kernel_rfl)) (by decide) (fun K hK => ?_)
            have hs43 : w41.cell? ⟨gb478, 1, none⟩ = some (u479001) := (blk_cell BK478.out 1).trans rfl
            have hfs43 := blk_frozen BK478.out 1
            have hns43_0 := NB467_478.out
            have hns43_1 := NB468_478.out
            have hns43_2 := NB477_478.out
            have hms43_0 := NB478_467.out
            have hms43_1 := NB478_468.out
            have hms43_2 := NB478_477.out
            refine skip_ (w1 := ?_) (by rfl) rfl ?_ ?_
            rotate_left
            ·go_simp
             rfl
            refine hK.out _ _ ?_
            clear hK K
            refine done_ (done_of HT_.out (by kernel_rfl)) ?_
            try go_wp2
            go_roundg k2
            case measure => have := HJ2.out; have := HK2.out; omega
            case rel => exact ⟨(wrap64 (x29_2 + 1)), (y481), (.slice Ao42 y481.length co42), aX, H', ⟨by have := HJ2.out; have := HK2.out; omega⟩, ⟨by (with_reducible repeat apply pR); exact Kd.R_mono (Kd.R_far (p := ⟨gb478, 1, none⟩) (Kd.R_types HO_478000.out BK478.out (by decide)) (fun _ hk => hk.2) (.slice Ao42 y481.length co42)) (fun _ hk => hk.1)⟩, ⟨by (with_reducible repeat apply pN); exact Kd.N_mono (Kd.N_far (p := ⟨gb478, 1, none⟩) (Kd.N_mono HO_478001.out (fun k_ hk => (⟨hk, hk.1.2.2.2.2.2.2⟩ : _ ∧ k_ ≠ gb478))) (fun _ hk => hk.2) (.slice Ao42 y481.length co42)) (fun _ hk => ⟨hk.1.1.1, ⟨hk.1.1.2.1, ⟨hk.1.1.2.2.1, ⟨hk.1.2, ⟨hk.1.1.2.2.2.1, ⟨hk.1.1.2.2.2.2.1, ⟨hk.1.1.2.2.2.2.2.1, hk.1.1.2.2.2.2.2.2⟩⟩⟩⟩⟩⟩⟩)⟩, ⟨by (with_reducible repeat apply pR); exact Kd.R_mono (Kd.R_far (p := ⟨gb478, 1, none⟩) (Kd.R_types HO_479000.out BK478.out (by decide)) (fun _ hk => hk.2) (.slice Ao42 y481.length co42)) (fun _ hk => hk.1)⟩, ⟨by (with_reducible repeat apply pN); exact Kd.N_mono (Kd.N_far (p := ⟨gb478, 1, none⟩) (Kd.N_mono HO483.out (fun k_ hk => (⟨hk, hk.2.2.2.2.2.2.2⟩ : _ ∧ k_ ≠ gb478))) (fun _ hk => hk.2) (.slice Ao42 y481.length co42)) (fun _ hk => ⟨hk.1.1, ⟨hk.1.2.1, ⟨hk.1.2.2.1, ⟨hk.1.2.2.2.1, ⟨hk.1.2.2.2.2.1, ⟨hk.1.2.2.2.2.2.1, ⟨hk.1.2.2.2.2.2.2.1, hk.1.2.2.2.2.2.2.2⟩⟩⟩⟩⟩⟩⟩)⟩, ⟨by (with_reducible repeat refine pB ?_); refine blk_far ?_ NB467_478.out _; (with_reducible repeat refine pB ?_); exact BK467.out⟩, ⟨by (with_reducible repeat refine pB ?_); refine blk_far ?_ NB468_478.out _; (with_reducible repeat refine pB ?_); exact BK468.out⟩, ⟨by (with_reducible repeat refine pB ?_); refine blk_far ?_ NB477_478.out _; (with_reducible repeat refine pB ?_); exact BK477.out⟩, ⟨by (with_reducible repeat refine pB ?_); refine blk_put (cs := #[.slice Ao24 t471.length co24, u479001]) ?_ 1 _ rfl; (with_reducible repeat refine pB ?_); exact BK478.out⟩, ⟨aG⟩⟩
           ·rw [if_neg c39] at H
            exact absurd H (by simp)
          ·rw [if_neg c38] at H
           exact absurd H (by simp)
         ·rw [if_neg c37] at H
          exact absurd H (by simp)
        ·rw [if_neg c36] at H
         exact absurd H (by simp)
       ·rw [if_neg c35] at H
        exact absurd H (by simp)
      ·rw [if_neg c34] at H
       have c34b0 : decide (x29_2 < (l1.length : Int)) = false := decide_eq_false c34
       clear c34
       simp only [Option.some.injEq, Prod.mk.injEq] at H
       obtain ⟨rfl, rfl, rfl⟩ := H
       have hnb44 := NB478_467.out
       have hnc44 := NB467_478.out
       have hnb45 := NB478_468.out
       have hnc45 := NB468_478.out
       have hnb46 := NB478_477.out
       have hnc46 := NB477_478.out
       have hcz47_0 : wr.cell? ⟨gb478, 0, none⟩ = some (.slice Ao24 t471.length co24) := (blk_cell BK478.out 0).trans rfl
       have hcz47_1 : wr.cell? ⟨gb478, 1, none⟩ = some (u479001) := (blk_cell BK478.out 1).trans rfl
       have hfz47_0 := blk_frozen BK478.out 0
       have hfz47_1 := blk_frozen BK478.out 1
       have hnb48 := NB468_467.out
       have hnc48 := NB467_468.out
       have hnb49 := NB468_477.out
       have hnc49 := NB477_468.out
       have hcz50_0 : wr.cell? ⟨gb468, 0, none⟩ = some (.slice none 0 0) := (blk_cell BK468.out 0).trans rfl
       have hcz50_1 : wr.cell? ⟨gb468, 1, none⟩ = some (.slice none 0 0) := (blk_cell BK468.out 1).trans rfl
       have hfz50_0 := blk_frozen BK468.out 0
       have hfz50_1 := blk_frozen BK468.out 1
       obtain ⟨Ao51, co51, eo51⟩ := Kd.N_slice HO_479001.out
       subst eo51
       go_wp2
       refine bodyPost_ret (results_ct rfl _ _ gb468 31 #[.slice Ao24 t471.length co24, .slice Ao51 x479001_2.length co51] (0, 0) _ rfl (by (with_reducible repeat refine pB ?_); refine blk_put (cs := #[.slice Ao24 t471.length co24, .slice none 0 0]) ?_ 1 _ rfl; (with_reducible repeat refine pB ?_); refine blk_put (cs := #[.slice none 0 0, .slice none 0 0]) ?_ 0 _ rfl; (with_reducible repeat refine pB ?_); exact BK468.out) Tryd.underlying31 rfl (by kernel_rfl)) rfl ?_
       exact ⟨_, _, aE, by (with_reducible repeat apply pR); exact Kd.R_mono (Kd.R_far (p := ⟨gb468, 1, none⟩) (Kd.R_far (p := ⟨gb468, 0, none⟩) (Kd.R_types HO_479000.out BK468.out (by decide)) (fun _ hk => hk.2) (.slice Ao24 t471.length co24)) (fun _ hk => hk.2) (.slice Ao51 x479001_2.length co51)) (fun _ hk => hk.1), by (with_reducible repeat apply pN); exact Kd.N_mono (Kd.N_far (p := ⟨gb468, 1, none⟩) (Kd.N_far (p := ⟨gb468, 0, none⟩) (Kd.N_mono HO_479001.out (fun k_ hk => (⟨hk, hk.2.2.2.2.2.1⟩ : _ ∧ k_ ≠ gb468))) (fun _ hk => hk.2) (.slice Ao24 t471.length co24)) (fun _ hk => hk.2) (.slice Ao51 x479001_2.length co51)) (fun _ hk => ⟨hk.1.1, hk.1.2.2.2.1⟩), aG⟩

/-! ### spec_l4Set: function 75 -/
def spec_l4Set.l0 : Nat → List Int → Int → List (S68) → List (S39) → Option (Bool)
 | 0, _, _, _, _ => none
 | k + 1, x1, x5, x485000, x485001 => if x5 < (x1.length : Int) then (if 0 ≤ x5 then ((spec_l1In.f (rd x1 x5) 0 (wrap64 ((x485001.length : Int) - 1))).bind fun t486 => (if t486 = true then (if x5 > 0 then (if 0 ≤ (wrap64 (x5 - 1)) then (if (wrap64 (x5 - 1)) < (x1.length : Int) then (if (rd x1 x5) ≤ (rd x1 (wrap64 (x5 - 1))) then (some false) else (spec_l4Set.l0 k x1 (wrap64 (x5 + 1)) x485000 x485001)) else (none)) else (none)) else (spec_l4Set.l0 k x1 (wrap64 (x5 + 1)) x485000 x485001)) else (some false))) else (none)) else (some true)
def spec_l4Set.f (k : Nat) (l0_0 : List (S68)) (l0_1 : List (S39)) (l1 : List Int) : Option (Bool) := spec_l4Set.l0 k l1 0 l0_0 l0_1
set_option maxHeartbeats 8000000 in
set_option maxRecDepth 100000 in
theorem spec_l4Set.calls (k : Nat) (A0_0 : Option Addr) (c0_0 : Nat) (l0_0 : List (S68)) (A0_1 : Option Addr) (c0_1 : Nat) (l0_1 : List (S39)) (A1 : Option Addr) (c1 : Nat) (l1 : List Int) (r : Bool) (w : World) (hr0_0 : Kd.C k68 w A0_0 l0_0.length l0_0) (hc0_0 : l0_0.length ≤ c0_0) (hr0_1 : Kd.C k39 w A0_1 l0_1.length l0_1) (hc0_1 : l0_1.length ≤ c0_1) (hr1 : Kd.C (Kd.int .i64) w A1 l1.length l1) (hc1 : l1.length ≤ c1) (h : spec_l4Set.f k l0_0 l0_1 l1 = some r) :
  Calls Tryd.prog 75 #[.agg #[.slice A0_0 l0_0.length c0_0, .slice A0_1 l0_1.length c0_1], .slice A1 l1.length c1] w fun e w' => e = .returned (.bool r) ∧ Below w.heap.size w w' := by
 have hu31 := Tryd.underlying31
 obtain ⟨W, hW⟩ : ∃ W, w.alloc (.cells #[.slice A0_0 l0_0.length c0_0, .slice A0_1 l0_1.length c0_1] 31) = W := ⟨_, rfl⟩
 have q0 := qa (w := W) (p := ⟨w.heap.size, 0, none⟩) (v := .slice A0_0 l0_0.length c0_0) (by subst hW; go_simp)
 have q1 := qa (w := W) (p := ⟨w.heap.size, 1, none⟩) (v := .slice A0_1 l0_1.length c0_1) (by subst hW; go_simp)
 have HB : Below w.heap.size w W := by subst hW; exact zB
 have HW := Below.refl W.heap.size W
 have hb := aM HB
 have rg_ := @bcl w
 have rd_ := @bdr w
 have rG_ := @bcl W
 have rD_ := @bdr W
 unfold spec_l4Set.f at h
 ·go_enter Tryd.func75, Tryd.ntmps75
  go_wp2
  (repeat ((refine nw (w0 := w) zB ?_; intro W1 HB hb hd; have HW : Below W.heap.size W W1 := zB; (first | (refine Txt.rg (id := 4) [0, 1, 2, 3, 4, 5, 6, 7, 8, 9, 10, 11, 12, 13, 14, 15, 16, 17, 18, 19, 20, 21, 22, 23, 24, 25] (by kernel_rfl) (by kernel_rfl) ?_; simp only [List.map_cons, List.map_nil, List.getD_cons_zero, List.getD_cons_succ])); (repeat (first | (refine Txt.off rfl ?_; simp only [Act.put, List.setIfInBounds_toArray, List.set_cons_zero, List.set_cons_succ]) | (refine Txt.take rfl rfl ?_; intro K hK; go_big_quiet_op; go_big_quiet_on) | (refine Txt.call rfl rfl Tryd.func64 (by kernel_rfl) rfl (spec_l1In.calls _ _ _ ?_ _ ?h) rfl ?_; (case h => exact zA); rintro e w1 ⟨rfl, hb⟩; replace hb := hb.below; replace hb := aM hb; have HW : Below W.heap.size W w1 := zB; have HB : Below w.heap.size w w1 := zB; refine ⟨_, rfl, zS, ?_⟩; simp only [Act.put, List.setIfInBounds_toArray, List.set_cons_zero, List.set_cons_succ]))); refine Txt.nil ?_); (try go_wp2)))
  go_loopg [5] k (fun kq v5 w' => ∃ (x5_0 : Int), v5 = .int .i64 x5_0 ∧ spec_l4Set.l0 kq l1 x5_0 l0_0 l0_1 = some r ∧ Below W.heap.size W w')
  case atStart => exact ⟨_, zR, zA, zB⟩
  case round =>
   clear h
   obtain ⟨x5_0, rfl, h, hb⟩ := hrel
   replace hb := aM hb
   have HW : Below W.heap.size W wr := zB
   have HB : Below w.heap.size w wr := zB
   rcases gk with _ | kk0
   exact absurd h (by simp [spec_l4Set.l0])
   simp only [spec_l4Set.l0] at h
   replace h := il h; rcases h with ⟨c1, c1a, h⟩ | ⟨c1, c1a, h⟩
   replace h := ie h; rcases h with ⟨c2, c2a, h⟩ | ⟨c2, c2a, h⟩
   replace h := bs h; obtain ⟨t486, B3, h⟩ := h
   replace h := ib h; rcases h with ⟨rfl, h⟩ | ⟨rfl, h⟩
   replace h := ig h; rcases h with ⟨c5, c5a, h⟩ | ⟨c5, c5a, h⟩
   replace h := ie h; rcases h with ⟨c6, c6a, h⟩ | ⟨c6, c6a, h⟩
   replace h := il h; rcases h with ⟨c7, c7a, h⟩ | ⟨c7, c7a, h⟩
   replace h := ie h; rcases h with ⟨c8, c8a, h⟩ | ⟨c8, c8a, h⟩
   obtain rfl := si h
   obtain ⟨ad485, e485, hx485_0⟩ := Kd.at_int hr1 (x5_0 : Int) aD aD
   have p485 := eq_true (aD : 0 ≤ (x5_0 : Int))
   have q485 := eq_true (aD : x5_0 < (l1.length : Int))
   cases e485
   replace hx485_0 := qa hx485_0
   obtain ⟨ad487, e487, hx487_0⟩ := Kd.at_int hr1 (x5_0 : Int) aD aD
   have p487 := eq_true (aD : 0 ≤ (x5_0 : Int))
   have q487 := eq_true (aD : x5_0 < (l1.length : Int))
   cases e487
   replace hx487_0 := qa hx487_0
   obtain ⟨ad488, e488, hx488_0⟩ := Kd.at_int hr1 ((wrap64 (x5_0 - 1)) : Int) aD aD
   have p488 := eq_true (aD : 0 ≤ ((wrap64 (x5_0 - 1)) : Int))
   have q488 := eq_true (aD : (wrap64 (x5_0 - 1)) < (l1.length : Int))
   cases e488
   replace hx488_0 := qa hx488_0
   rotate_left
   obtain ⟨kf, hkf⟩ : ∃ kf, kf = kk0 := ⟨_, rfl⟩; rw [← hkf] at h
   obtain ⟨ad485, e485, hx485_0⟩ := Kd.at_int hr1 (x5_0 : Int) aD aD
   have p485 := eq_true (aD : 0 ≤ (x5_0 : Int))
   have q485 := eq_true (aD : x5_0 < (l1.length : Int))
   cases e485
   replace hx485_0 := qa hx485_0
   obtain ⟨ad487, e487, hx487_0⟩ := Kd.at_int hr1 (x5_0 : Int) aD aD
   have p487 := eq_true (aD : 0 ≤ (x5_0 : Int))
   have q487 := eq_true (aD : x5_0 < (l1.length : Int))
   cases e487
   replace hx487_0 := qa hx487_0
   obtain ⟨ad488, e488, hx488_0⟩ := Kd.at_int hr1 ((wrap64 (x5_0 - 1)) : Int) aD aD
   have p488 := eq_true (aD : 0 ≤ ((wrap64 (x5_0 - 1)) : Int))
   have q488 := eq_true (aD : (wrap64 (x5_0 - 1)) < (l1.length : Int))
   cases e488
   replace hx488_0 := qa hx488_0
   rotate_left
   exact absurd h (by simp)
   exact absurd h (by simp)
   obtain ⟨kf, hkf⟩ : ∃ kf, kf = kk0 := ⟨_, rfl⟩; rw [← hkf] at h
   obtain ⟨ad485, e485, hx485_0⟩ := Kd.at_int hr1 (x5_0 : Int) aD aD
   have p485 := eq_true (aD : 0 ≤ (x5_0 : Int))
   have q485 := eq_true (aD : x5_0 < (l1.length : Int))
   cases e485
   replace hx485_0 := qa hx485_0
   rotate_left
   obtain rfl := si h
   obtain ⟨ad485, e485, hx485_0⟩ := Kd.at_int hr1 (x5_0 : Int) aD aD
   have p485 := eq_true (aD : 0 ≤ (x5_0 : Int))
   have q485 := eq_true (aD : x5_0 < (l1.length : Int))
   cases e485
   replace hx485_0 := qa hx485_0
   rotate_left
   exact absurd h (by simp)
   obtain rfl := si h
   rotate_left
   all_goals (go_wp2; (repeat ((refine nw (w0 := w) zB ?_; intro W1 HB hb hd; have HW : Below W.heap.size W W1 := zB; (first | (refine Txt.rg (id := 4) [0, 1, 2, 3, 4, 5, 6, 7, 8, 9, 10, 11, 12, 13, 14, 15, 16, 17, 18, 19, 20, 21, 22, 23, 24, 25] (by kernel_rfl) (by kernel_rfl) ?_; simp only [List.map_cons, List.map_nil, List.getD_cons_zero, List.getD_cons_succ])); (repeat (first | (refine Txt.off rfl ?_; simp only [Act.put, List.setIfInBounds_toArray, List.set_cons_zero, List.set_cons_succ]) | (refine Txt.take rfl rfl ?_; intro K hK; go_big_quiet_op; go_big_quiet_on) | (refine Txt.call rfl rfl Tryd.func64 (by kernel_rfl) rfl (spec_l1In.calls _ _ _ ?_ _ ?h) rfl ?_; (case h => exact zA); rintro e w1 ⟨rfl, hb⟩; replace hb := hb.below; replace hb := aM hb; have HW : Below W.heap.size W w1 := zB; have HB : Below w.heap.size w w1 := zB; refine ⟨_, rfl, zS, ?_⟩; simp only [Act.put, List.setIfInBounds_toArray, List.set_cons_zero, List.set_cons_succ]))); refine Txt.nil ?_); (try go_wp2))); first | (go_ret; exact zE zB) | (go_roundg kf; (case measure => omega); (case rel => exact ⟨_, zR, zA, zB⟩)))

end Go.Proofs.YtckpikfbhlhhjaaDoor.PFnSelectFacts
