-- Laid by a program of this claim: what the functions come to, some of them proved by hand.
import Derived.Test.YtbdeimhlohhhiaaPFnExtendToRepairx0
import Derived.Test.YtbdeimhlohhhiaaPFnExtendToRepairx15
import Derived.Test.YtbdeimhlohhhiaaPFnExtendToRepairx17
namespace Go.Proofs.Ytbdeimhlohhhiaa.PFnExtendToRepair
open Go.RowKit Go.Proofs.YtbdeimhlohhhiaaW.PrintWords Go.Proofs.YtbdeimhlohhhiaaW.PrintLast Go.Proofs.YtbdeimhlohhhiaaW.PrintMore
attribute [local go_sem] max2_int min2_int max_two min_two max_three min_three max_four min_four   -- for this text's walks alone
set_option linter.unusedVariables false
set_option linter.unusedSimpArgs false

/-! ### impl_SelectFacts: function 40 -/
mutual
def impl_SelectFacts.j0 : Nat → List Int → Bool → List (S70) → List (S35) → Option ((List (S70)) × (List (S35)) × Bool)
 | 0, _, _, _, _ => none
 | k + 1, x1, x20, x595000, x595001 => if x20 = true then (some (([] : List (S70)), ([] : List (S35)), false)) else ((impl_copyDatabase.f k x595000 x595001).bind fun bt598 => (impl_SelectFacts.l0 k x1 (x1.length : Int) 0 bt598.1 bt598.2 bt598.1 ([] : List (S35))))
def impl_SelectFacts.l0 : Nat → List Int → Int → Int → List (S70) → List (S35) → List (S70) → List (S35) → Option ((List (S70)) × (List (S35)) × Bool)
 | 0, _, _, _, _, _, _, _ => none
 | k + 1, x27, x28, x29, x605000, x605001, x606000, x606001 => if x29 < x28 then (if 0 ≤ x29 then (if x29 < (x27.length : Int) then (if 0 ≤ (rd x27 x29) then (if (rd x27 x29) < (x605001.length : Int) then (if x606001.length < 4398046511104 then (impl_SelectFacts.l0 k x27 x28 (wrap64 (x29 + 1)) x605000 x605001 x606000 (x606001 ++ [(⟨(rd_T35 x605001 (rd x27 x29)).f0, (rd_T35 x605001 (rd x27 x29)).f1⟩ : S35)])) else (none)) else (none)) else (none)) else (none)) else (none)) else (some (x606000, x606001, true))
end
def impl_SelectFacts.f (k : Nat) (l0_0 : List (S70)) (l0_1 : List (S35)) (l1 : List Int) : Option ((List (S70)) × (List (S35)) × Bool) := (impl_IsValidDatabase.f l0_0 l0_1).bind fun t596 => (if t596 = true then ((impl_areIndices.f k l1 (l0_1.length : Int)).bind fun t597 => (impl_SelectFacts.j0 k l1 (!t597) l0_0 l0_1)) else (impl_SelectFacts.j0 k l1 true l0_0 l0_1))
def impl_SelectFacts.T8 : Bool × List (List Nat × List Nat) := (true, [([], []), ([0], [0]), ([], []), ([2], [2]), ([], []), ([3, 4], [3, 4]), ([5], [5]), ([6], [6]), ([1, 7], [1, 7]), ([0, 1, 2, 3, 4, 5, 6, 7, 8], []), ([9, 8, 8, 0, 1, 2, 3, 4, 5, 6, 7, 8], [8, 9])])
def impl_SelectFacts.B8 : List Nat := [0, 1, 0, 4, 0, 28, 60, 124, 255, 511, 1023]
theorem impl_SelectFacts.tab8 : rtab .any (opsOf Try.f40 8) = impl_SelectFacts.T8 := by kernel_rfl
theorem impl_SelectFacts.bits8 : waitsOk impl_SelectFacts.T8.2 impl_SelectFacts.B8 = true := by kernel_rfl
set_option maxHeartbeats 8000000 in
set_option maxRecDepth 100000 in
theorem impl_SelectFacts.calls (k : Nat) (A0_0 : Option Addr) (c0_0 : Nat) (l0_0 : List (S70)) (A0_1 : Option Addr) (c0_1 : Nat) (l0_1 : List (S35)) (A1 : Option Addr) (c1 : Nat) (l1 : List Int) (r1 : List (S70)) (r2 : List (S35)) (r3 : Bool) (w : World) (hr0_0 : Kd.C k70 w A0_0 l0_0.length l0_0) (hc0_0 : l0_0.length ≤ c0_0) (hr0_1 : Kd.C k35 w A0_1 l0_1.length l0_1) (hc0_1 : l0_1.length ≤ c0_1) (hr1 : Kd.C (Kd.int .i64) w A1 l1.length l1) (hc1 : l1.length ≤ c1) (h : impl_SelectFacts.f k l0_0 l0_1 l1 = some (r1, r2, r3)) :
  Calls Try.prog 40 #[.agg #[.slice A0_0 l0_0.length c0_0, .slice A0_1 l0_1.length c0_1], .slice A1 l1.length c1] w fun e w' => ∃ v0_ v1_ : Value, e = .returned (.tuple #[.agg #[v0_, v1_], .bool r3]) ∧ Kd.R k70 70 w' w.heap.size (fun k_ => (w.heap.size ≤ k_)) v0_ r1 ∧ Kd.N k35 35 w' w.heap.size (fun k_ => (w.heap.size ≤ k_) ∧ some k_ ≠ (v0_ : Value).ownBlock) v1_ r2 ∧ Below w.heap.size w w' := by
 have hu27 := Try.underlying27
 have hu35 := Try.underlying35
 have HR0_0 := aM hr0_0
 have HC0_0 := aM hc0_0
 clear hr0_0 hc0_0
 have HR0_1 := aM hr0_1
 have HC0_1 := aM hc0_1
 clear hr0_1 hc0_1
 have HR1 := aM hr1
 have HC1 := aM hc1
 clear hr1 hc1
 have HB := aM (Below.refl w.heap.size w)
 have H : ((impl_IsValidDatabase.f l0_0 l0_1).bind fun t596 => (if t596 = true then ((impl_areIndices.f k l1 (l0_1.length : Int)).bind fun t597 => (impl_SelectFacts.j0 k l1 (!t597) l0_0 l0_1)) else (impl_SelectFacts.j0 k l1 true l0_0 l0_1))) = some (r1, r2, r3) := h
 clear h
 have HC3 := aM H
 clear H
 go_enter Try.func40, Try.ntmps40
 go_upto_region 1 with (first | ((with_reducible refine gate_dst (N := 2) rfl ?_); (try (refine gate_guard (by rfl) ?_; dsimp only)); refine bE 2 (cs := #[.slice A0_0 l0_0.length c0_0, .slice A0_1 l0_1.length c0_1]) (t := 27) ?_; intro gb594 hg w4 hbox hb; have BK594 := aM (hbox); have GW594 := aM ((by rw [hg]; exact (below_size aB) : w.heap.size ≤ gb594)); have GE594 := aM ((by rw [hg]; exact (below_size aB) : w.heap.size ≤ gb594)); replace HB := aM (below_step aB hb); clear hb hbox hg) | ((with_reducible refine gate_dst (N := 4) rfl ?_); (try (refine gate_guard (by rfl) ?_; dsimp only)); refine bE 4 (cs := #[.slice none 0 0, .slice none 0 0]) (t := 27) ?_; intro gb595 hg w5 hbox hb; have BK595 := aM (hbox); have GW595 := aM ((by rw [hg]; exact (below_size aG) : w.heap.size ≤ gb595)); have GE595 := aM ((by rw [hg]; exact (below_size aG) : w.heap.size ≤ gb595)); have NB594_595 := aM ((by rw [hg]; exact Nat.ne_of_lt (blk_lt (g := gb594) (o := .cells #[.slice A0_0 l0_0.length c0_0, .slice A0_1 l0_1.length c0_1] 27 (0, 0)) aK) : gb594 ≠ gb595)); have NB595_594 := aM ((by rw [hg]; exact Nat.ne_of_gt (blk_lt (g := gb594) (o := .cells #[.slice A0_0 l0_0.length c0_0, .slice A0_1 l0_1.length c0_1] 27 (0, 0)) aK) : gb595 ≠ gb594)); replace BK594 := aM (blk_below (g := gb594) (o := .cells #[.slice A0_0 l0_0.length c0_0, .slice A0_1 l0_1.length c0_1] 27 (0, 0)) aK hb); replace HB := aM (below_step aG hb); clear hb hbox hg))
 (try simp only [Act.put, List.setIfInBounds_toArray, List.set_cons_zero, List.set_cons_succ])
 go_cut [20] (fun v20 wc => ∃ (kq : Nat) (x20_2 : Bool), v20 = .bool x20_2 ∧ Aside0 (impl_SelectFacts.j0 kq l1 x20_2 l0_0 l0_1 = some (r1, r2, r3)) ∧ Aside0 (kq ≤ k) ∧ Aside0 (wc.heap[gb594]? = some (.cells #[(.slice A0_0 l0_0.length c0_0), (.slice A0_1 l0_1.length c0_1)] 27 (0, 0))) ∧ Aside0 (wc.heap[gb595]? = some (.cells #[(.slice none 0 0), (.slice none 0 0)] 27 (0, 0))) ∧ Aside0 (Below w.heap.size w wc))
 case first =>
  have H := HC3.out
  clear HC3
  replace H := bM H
  obtain ⟨t596, A60, H⟩ := H
  have A6 := aM A60
  clear A60
  by_cases c7 : t596 = true
  ·subst c7
   replace H := iT H
   replace H := bM H
   obtain ⟨t597, A80, H⟩ := H
   have A8 := aM A80
   clear A80
   have H' := aM H
   clear H
   have hnb9 := NB594_595.out
   have hnc9 := NB595_594.out
   have hcz10_0 : w5.cell? ⟨gb594, 0, none⟩ = some (.slice A0_0 l0_0.length c0_0) := (blk_cell BK594.out 0).trans rfl
   have hcz10_1 : w5.cell? ⟨gb594, 1, none⟩ = some (.slice A0_1 l0_1.length c0_1) := (blk_cell BK594.out 1).trans rfl
   have hfz10_0 := blk_frozen BK594.out 0
   have hfz10_1 := blk_frozen BK594.out 1
   go_wp2_with (first | ((with_reducible refine gate_callee (f := 20) rfl ?_); refine goesL_ (some 11) rfl rfl Try.func20 (by kernel_rfl) rfl #[.agg #[.slice A0_0 l0_0.length c0_0, .slice A0_1 l0_1.length c0_1]] rfl aA ?_; (with_reducible refine (impl_IsValidDatabase.calls _ _ l0_0 _ _ l0_1 true _ ?side1 ?side2 ?side3 ?side4 A6.out).mono ?_); (case side1 => exact aC); (case side2 => exact HC0_0.out); (case side3 => exact aC); (case side4 => exact HC0_1.out); rintro e w11 ⟨rfl, hb⟩; refine ⟨_, rfl, ?_⟩; have n0_ := aM (blk_below (g := gb594) (o := .cells #[.slice A0_0 l0_0.length c0_0, .slice A0_1 l0_1.length c0_1] 27 (0, 0)) aK hb); have n1_ := aM (blk_below (g := gb595) (o := .cells #[.slice none 0 0, .slice none 0 0] 27 (0, 0)) aK hb); have n2_ := aM (below_step aG hb); clear BK594; clear BK595; clear HB; have BK594 := n0_; have BK595 := n1_; have HB := n2_; clear n0_ n1_ n2_; (try clear hb); (try clear hb2); (try clear hk); (try clear hi); have hcz12_0 : w11.cell? ⟨gb594, 0, none⟩ = some (.slice A0_0 l0_0.length c0_0) := (blk_cell BK594.out 0).trans rfl; have hcz12_1 : w11.cell? ⟨gb594, 1, none⟩ = some (.slice A0_1 l0_1.length c0_1) := (blk_cell BK594.out 1).trans rfl; have hfz12_0 := blk_frozen BK594.out 0; have hfz12_1 := blk_frozen BK594.out 1) | (go_at_call 74; (with_reducible refine (impl_areIndices.calls k _ _ l1 (l0_1.length : Int) t597 _ ?side1 ?side2 A8.out).mono ?_); (case side1 => exact aC); (case side2 => exact HC1.out); rintro e w' ⟨rfl, ⟨nd, rfl⟩⟩))
   go_meet
   case rel => exact ⟨_, (!t597), aX, H', ⟨by first | omega | exact Nat.le_refl _⟩, ⟨aK⟩, ⟨aK⟩, ⟨aG⟩⟩
  ·replace c7 := Bool.eq_false_iff.mpr c7
   subst c7
   have H1 : (impl_SelectFacts.j0 k l1 true l0_0 l0_1) = some (r1, r2, r3) := by rw [if_neg (show ¬ (false = true) by decide)] at H; exact H
   clear H
   have H := H1
   clear H1
   have H' := aM H
   clear H
   have hnb13 := NB594_595.out
   have hnc13 := NB595_594.out
   have hcz14_0 : w5.cell? ⟨gb594, 0, none⟩ = some (.slice A0_0 l0_0.length c0_0) := (blk_cell BK594.out 0).trans rfl
   have hcz14_1 : w5.cell? ⟨gb594, 1, none⟩ = some (.slice A0_1 l0_1.length c0_1) := (blk_cell BK594.out 1).trans rfl
   have hfz14_0 := blk_frozen BK594.out 0
   have hfz14_1 := blk_frozen BK594.out 1
   go_wp2_with (first | ((with_reducible refine gate_callee (f := 20) rfl ?_); refine goesL_ (some 11) rfl rfl Try.func20 (by kernel_rfl) rfl #[.agg #[.slice A0_0 l0_0.length c0_0, .slice A0_1 l0_1.length c0_1]] rfl aA ?_; (with_reducible refine (impl_IsValidDatabase.calls _ _ l0_0 _ _ l0_1 false _ ?side1 ?side2 ?side3 ?side4 A6.out).mono ?_); (case side1 => exact aC); (case side2 => exact HC0_0.out); (case side3 => exact aC); (case side4 => exact HC0_1.out); rintro e w15 ⟨rfl, hb⟩; refine ⟨_, rfl, ?_⟩; have n0_ := aM (blk_below (g := gb594) (o := .cells #[.slice A0_0 l0_0.length c0_0, .slice A0_1 l0_1.length c0_1] 27 (0, 0)) aK hb); have n1_ := aM (blk_below (g := gb595) (o := .cells #[.slice none 0 0, .slice none 0 0] 27 (0, 0)) aK hb); have n2_ := aM (below_step aG hb); clear BK594; clear BK595; clear HB; have BK594 := n0_; have BK595 := n1_; have HB := n2_; clear n0_ n1_ n2_; (try clear hb); (try clear hb2); (try clear hk); (try clear hi)))
   go_meet
   case rel => exact ⟨_, (true), aX, H', ⟨by first | omega | exact Nat.le_refl _⟩, ⟨aK⟩, ⟨aK⟩, ⟨aG⟩⟩
 case rest =>
  clear HC3
  try clear c1
  try clear c2
  try clear p2
  try clear c4
  try clear c7
  try clear c9
  try clear c13
  try clear hcz10_0
  try clear hcz10_1
  try clear hcz12_0
  try clear hcz12_1
  try clear hcz14_0
  try clear hcz14_1
  try clear hfz10_0
  try clear hfz10_1
  try clear hfz12_0
  try clear hfz12_1
  try clear hfz14_0
  try clear hfz14_1
  obtain ⟨kq, x20_2, rfl, HA, HJ2, BK594, BK595, HB⟩ := hcut
  cases kq with
  | zero => exact absurd HA.out (by simp [impl_SelectFacts.j0])
  | succ kj2 =>
   have H := HA.out
   clear HA
   simp only [impl_SelectFacts.j0] at H
   by_cases c16 : x20_2 = true
   ·subst c16
    replace H := iT H
    simp only [Option.some.injEq, Prod.mk.injEq] at H
    obtain ⟨rfl, rfl, rfl⟩ := H
    have hnb17 := NB595_594.out
    have hnc17 := NB594_595.out
    have hcz18_0 : wc.cell? ⟨gb595, 0, none⟩ = some (.slice none 0 0) := (blk_cell BK595.out 0).trans rfl
    have hcz18_1 : wc.cell? ⟨gb595, 1, none⟩ = some (.slice none 0 0) := (blk_cell BK595.out 1).trans rfl
    have hfz18_0 := blk_frozen BK595.out 0
    have hfz18_1 := blk_frozen BK595.out 1
    go_wp2
    refine bodyPost_ret (results_ct rfl _ _ gb595 27 #[.slice none 0 0, .slice none 0 0] (0, 0) _ rfl (by (with_reducible repeat refine pB ?_); refine blk_put (cs := #[.slice none 0 0, .slice none 0 0]) ?_ 1 _ rfl; (with_reducible repeat refine pB ?_); refine blk_put (cs := #[.slice none 0 0, .slice none 0 0]) ?_ 0 _ rfl; (with_reducible repeat refine pB ?_); exact BK595.out) Try.underlying27 rfl (by kernel_rfl)) rfl ?_
    exact ⟨_, _, aE, by first | exact Kd.R_nil _ _ _ _ _ | exact Kd.N_nil _ _ _ _ _ | exact Kd.V_nil _ _ _ _ _ | exact Kd.Q_nil _ _ _ _ _ | exact Kd.S_nil _ _ _ _ _, by first | exact Kd.S_nil _ _ _ _ _ | exact Kd.N_nil _ _ _ _ _ | exact Kd.V_nil _ _ _ _ _ | exact Kd.Q_nil _ _ _ _ _ | exact Kd.R_nil _ _ _ _ _, aG⟩
   ·replace c16 := Bool.eq_false_iff.mpr c16
    subst c16
    have H1 : ((impl_copyDatabase.f kj2 l0_0 l0_1).bind fun bt598 => (impl_SelectFacts.l0 kj2 l1 (l1.length : Int) 0 bt598.1 bt598.2 bt598.1 ([] : List (S35)))) = some (r1, r2, r3) := by rw [if_neg (show ¬ (false = true) by decide)] at H; exact H
    clear H
    have H := H1
    clear H1
    replace H := bM H
    obtain ⟨⟨t598, t601⟩, A190, H⟩ := H
    dsimp only at H
    have A19 := aM A190
    clear A190
    have H' := aM H
    clear H
    have hnb20 := NB594_595.out
    have hnc20 := NB595_594.out
    have hcz21_0 : wc.cell? ⟨gb594, 0, none⟩ = some (.slice A0_0 l0_0.length c0_0) := (blk_cell BK594.out 0).trans rfl
    have hcz21_1 : wc.cell? ⟨gb594, 1, none⟩ = some (.slice A0_1 l0_1.length c0_1) := (blk_cell BK594.out 1).trans rfl
    have hfz21_0 := blk_frozen BK594.out 0
    have hfz21_1 := blk_frozen BK594.out 1
    go_wp2_with (first | ((with_reducible refine gate_callee (f := 52) rfl ?_); refine goesL_ (some 23) rfl rfl Try.func52 (by kernel_rfl) rfl #[.agg #[.slice A0_0 l0_0.length c0_0, .slice A0_1 l0_1.length c0_1]] rfl aA ?_; (with_reducible refine (impl_copyDatabase.calls kj2 _ _ l0_0 _ _ l0_1 t598 t601 _ ?side1 ?side2 ?side3 ?side4 A19.out).mono ?_); (case side1 => exact aC); (case side2 => exact HC0_0.out); (case side3 => exact aC); (case side4 => exact HC0_1.out); rintro e w22 ⟨v599, v602, rfl, ho0, ho1, hb⟩; refine ⟨_, rfl, ?_⟩; have n0_ := aM (Kd.R_lower (Kd.R_newM (M := fun k_ => (w.heap.size ≤ k_)) ho0 (below_size aG) (fun k_ h_ => h_)) (below_size aG)); have n1_ := aM (Kd.N_lower (Kd.N_mono (ok' := fun k_ => (w.heap.size ≤ k_) ∧ some k_ ≠ (v599 : Value).ownBlock ∧ k_ ≠ gb594 ∧ k_ ≠ gb595) (Kd.S_N (Kd.S_bound (Kd.S_apart' ho1 (Kd.R_typed ho0) (by decide)))) (fun k_ hk_ => ⟨(Nat.le_trans (below_size aG) hk_.2.1), hk_.1.2, (Kd.freshB (g := gb594) (o := .cells #[.slice A0_0 l0_0.length c0_0, .slice A0_1 l0_1.length c0_1] 27 (0, 0)) aK k_ hk_.2.1), (Kd.freshB (g := gb595) (o := .cells #[.slice none 0 0, .slice none 0 0] 27 (0, 0)) aK k_ hk_.2.1)⟩)) (below_size aG)); have n2_ := aM (blk_below (g := gb594) (o := .cells #[.slice A0_0 l0_0.length c0_0, .slice A0_1 l0_1.length c0_1] 27 (0, 0)) aK hb); have n3_ := aM (blk_below (g := gb595) (o := .cells #[.slice none 0 0, .slice none 0 0] 27 (0, 0)) aK hb); have n4_ := aM (below_step aG hb); clear BK594; clear BK595; clear HB; have HO600 := n0_; have HO603 := n1_; have BK594 := n2_; have BK595 := n3_; have HB := n4_; clear n0_ n1_ n2_ n3_ n4_; (try clear hb); (try clear hb2); (try clear hk); (try clear hi); (try clear ho0); (try clear ho1)) | ((with_reducible refine gate_dst (N := 6) rfl ?_); (try (refine gate_guard (by rfl) ?_; dsimp only)); refine bE 6 (cs := #[.slice none 0 0, .slice none 0 0]) (t := 27) ?_; intro gb604 hg w23 hbox hb; have n0_ := aM (Kd.R_below (aR HO600) hb); have n1_ := aM (Kd.N_below (Kd.N_elderB (aN HO603) gb604 (Nat.le_of_eq hg.symm)) hb); have n2_ := aM (blk_below (g := gb594) (o := .cells #[.slice A0_0 l0_0.length c0_0, .slice A0_1 l0_1.length c0_1] 27 (0, 0)) aK hb); have n3_ := aM (blk_below (g := gb595) (o := .cells #[.slice none 0 0, .slice none 0 0] 27 (0, 0)) aK hb); have n4_ := aM (below_step aG hb); have n5_ := aM (hbox); have n6_ := aM ((by rw [hg]; exact (below_size aG) : w.heap.size ≤ gb604)); have n7_ := aM ((by rw [hg]; exact (below_size aG) : w.heap.size ≤ gb604)); have n8_ := aM ((by rw [hg]; exact Nat.ne_of_lt (blk_lt (g := gb594) (o := .cells #[.slice A0_0 l0_0.length c0_0, .slice A0_1 l0_1.length c0_1] 27 (0, 0)) aK) : gb594 ≠ gb604)); have n9_ := aM ((by rw [hg]; exact Nat.ne_of_gt (blk_lt (g := gb594) (o := .cells #[.slice A0_0 l0_0.length c0_0, .slice A0_1 l0_1.length c0_1] 27 (0, 0)) aK) : gb604 ≠ gb594)); have n10_ := aM ((by rw [hg]; exact Nat.ne_of_lt (blk_lt (g := gb595) (o := .cells #[.slice none 0 0, .slice none 0 0] 27 (0, 0)) aK) : gb595 ≠ gb604)); have n11_ := aM ((by rw [hg]; exact Nat.ne_of_gt (blk_lt (g := gb595) (o := .cells #[.slice none 0 0, .slice none 0 0] 27 (0, 0)) aK) : gb604 ≠ gb595)); clear HO600; clear HO603; clear BK594; clear BK595; clear HB; have HO600 := n0_; have HO603 := n1_; have BK594 := n2_; have BK595 := n3_; have HB := n4_; have BK604 := n5_; have GW604 := n6_; have GE604 := n7_; have NB594_604 := n8_; have NB604_594 := n9_; have NB595_604 := n10_; have NB604_595 := n11_; clear n0_ n1_ n2_ n3_ n4_ n5_ n6_ n7_ n8_ n9_ n10_ n11_; clear hb hbox hg; obtain ⟨Ao24, co24, eo24⟩ := Kd.R_slice HO600.out; subst eo24; have hnb25 := NB604_594.out; have hnc25 := NB594_604.out; have hnb26 := NB604_595.out; have hnc26 := NB595_604.out; have hcz27_0 : w23.cell? ⟨gb604, 0, none⟩ = some (.slice none 0 0) := (blk_cell BK604.out 0).trans rfl; have hcz27_1 : w23.cell? ⟨gb604, 1, none⟩ = some (.slice none 0 0) := (blk_cell BK604.out 1).trans rfl; have hfz27_0 := blk_frozen BK604.out 0; have hfz27_1 := blk_frozen BK604.out 1; obtain ⟨Ao28, co28, eo28⟩ := Kd.N_slice HO603.out; subst eo28) | ((with_reducible refine gate_dst (N := 7) rfl ?_); (try (refine gate_guard (by rfl) ?_; dsimp only)); refine bE 7 (cs := #[.slice none 0 0, .slice none 0 0]) (t := 27) ?_; intro gb605 hg w29 hbox hb; have BK605 := aM (hbox); have GW605 := aM ((by rw [hg]; exact (below_size aG) : w.heap.size ≤ gb605)); have GE605 := aM ((by rw [hg]; exact (below_size aG) : w.heap.size ≤ gb605)); have NB594_605 := aM ((by rw [hg]; exact Nat.ne_of_lt (blk_lt (g := gb594) (o := .cells #[.slice A0_0 l0_0.length c0_0, .slice A0_1 l0_1.length c0_1] 27 (0, 0)) (by (with_reducible repeat refine pB ?_); refine blk_far ?_ NB594_604.out _; (with_reducible repeat refine pB ?_); refine blk_far ?_ NB594_604.out _; (with_reducible repeat refine pB ?_); exact BK594.out)) : gb594 ≠ gb605)); have NB605_594 := aM ((by rw [hg]; exact Nat.ne_of_gt (blk_lt (g := gb594) (o := .cells #[.slice A0_0 l0_0.length c0_0, .slice A0_1 l0_1.length c0_1] 27 (0, 0)) (by (with_reducible repeat refine pB ?_); refine blk_far ?_ NB594_604.out _; (with_reducible repeat refine pB ?_); refine blk_far ?_ NB594_604.out _; (with_reducible repeat refine pB ?_); exact BK594.out)) : gb605 ≠ gb594)); have NB595_605 := aM ((by rw [hg]; exact Nat.ne_of_lt (blk_lt (g := gb595) (o := .cells #[.slice none 0 0, .slice none 0 0] 27 (0, 0)) (by (with_reducible repeat refine pB ?_); refine blk_far ?_ NB595_604.out _; (with_reducible repeat refine pB ?_); refine blk_far ?_ NB595_604.out _; (with_reducible repeat refine pB ?_); exact BK595.out)) : gb595 ≠ gb605)); have NB605_595 := aM ((by rw [hg]; exact Nat.ne_of_gt (blk_lt (g := gb595) (o := .cells #[.slice none 0 0, .slice none 0 0] 27 (0, 0)) (by (with_reducible repeat refine pB ?_); refine blk_far ?_ NB595_604.out _; (with_reducible repeat refine pB ?_); refine blk_far ?_ NB595_604.out _; (with_reducible repeat refine pB ?_); exact BK595.out)) : gb605 ≠ gb595)); have NB604_605 := aM ((by rw [hg]; exact Nat.ne_of_lt (blk_lt (g := gb604) (o := .cells #[.slice Ao24 t598.length co24, .slice Ao28 t601.length co28] 27 (0, 0)) (by (with_reducible repeat refine pB ?_); refine blk_put (cs := #[.slice Ao24 t598.length co24, .slice none 0 0]) ?_ 1 _ rfl; (with_reducible repeat refine pB ?_); refine blk_put (cs := #[.slice none 0 0, .slice none 0 0]) ?_ 0 _ rfl; (with_reducible repeat refine pB ?_); exact BK604.out)) : gb604 ≠ gb605)); have NB605_604 := aM ((by rw [hg]; exact Nat.ne_of_gt (blk_lt (g := gb604) (o := .cells #[.slice Ao24 t598.length co24, .slice Ao28 t601.length co28] 27 (0, 0)) (by (with_reducible repeat refine pB ?_); refine blk_put (cs := #[.slice Ao24 t598.length co24, .slice none 0 0]) ?_ 1 _ rfl; (with_reducible repeat refine pB ?_); refine blk_put (cs := #[.slice none 0 0, .slice none 0 0]) ?_ 0 _ rfl; (with_reducible repeat refine pB ?_); exact BK604.out)) : gb605 ≠ gb604)); replace HO600 := aM (Kd.R_below (by (with_reducible repeat apply pR); exact (Kd.R_mono (Kd.R_far (p := ⟨gb604, 1, none⟩) (Kd.R_far (p := ⟨gb604, 0, none⟩) (Kd.R_types HO600.out BK604.out (by decide)) (fun _ hk => hk.2) (.slice Ao24 t598.length co24)) (fun _ hk => hk.2) (.slice Ao28 t601.length co28)) (fun _ h_ => h_.1))) hb); replace HO603 := aM (Kd.N_below (Kd.N_elderB (by (with_reducible repeat apply pN); exact (Kd.N_mono (Kd.N_far (p := ⟨gb604, 1, none⟩) (Kd.N_far (p := ⟨gb604, 0, none⟩) (Kd.N_mono HO603.out (fun k_ hk => (⟨hk, hk.2⟩ : _ ∧ k_ ≠ gb604))) (fun _ hk => hk.2) (.slice Ao24 t598.length co24)) (fun _ hk => hk.2) (.slice Ao28 t601.length co28)) (fun _ h_ => h_.1))) gb605 (Nat.le_of_eq hg.symm)) hb); replace BK594 := aM (blk_below (g := gb594) (o := .cells #[.slice A0_0 l0_0.length c0_0, .slice A0_1 l0_1.length c0_1] 27 (0, 0)) (by (with_reducible repeat refine pB ?_); refine blk_far ?_ NB594_604.out _; (with_reducible repeat refine pB ?_); refine blk_far ?_ NB594_604.out _; (with_reducible repeat refine pB ?_); exact BK594.out) hb); replace BK595 := aM (blk_below (g := gb595) (o := .cells #[.slice none 0 0, .slice none 0 0] 27 (0, 0)) (by (with_reducible repeat refine pB ?_); refine blk_far ?_ NB595_604.out _; (with_reducible repeat refine pB ?_); refine blk_far ?_ NB595_604.out _; (with_reducible repeat refine pB ?_); exact BK595.out) hb); replace BK604 := aM (blk_below (g := gb604) (o := .cells #[.slice Ao24 t598.length co24, .slice Ao28 t601.length co28] 27 (0, 0)) (by (with_reducible repeat refine pB ?_); refine blk_put (cs := #[.slice Ao24 t598.length co24, .slice none 0 0]) ?_ 1 _ rfl; (with_reducible repeat refine pB ?_); refine blk_put (cs := #[.slice none 0 0, .slice none 0 0]) ?_ 0 _ rfl; (with_reducible repeat refine pB ?_); exact BK604.out) hb); replace HB := aM (below_step aG hb); clear hb hbox hg; have hnb30 := NB605_594.out; have hnc30 := NB594_605.out; have hnb31 := NB605_595.out; have hnc31 := NB595_605.out; have hnb32 := NB605_604.out; have hnc32 := NB604_605.out; have hcz33_0 : w29.cell? ⟨gb605, 0, none⟩ = some (.slice none 0 0) := (blk_cell BK605.out 0).trans rfl; have hcz33_1 : w29.cell? ⟨gb605, 1, none⟩ = some (.slice none 0 0) := (blk_cell BK605.out 1).trans rfl; have hfz33_0 := blk_frozen BK605.out 0; have hfz33_1 := blk_frozen BK605.out 1))
    go_loopg [29] kj2 (fun kq v29 w' => ∃ (x29_2 : Int) (x606001_2 : List (S35)) (u606001 : Value), v29 = .int .i64 x29_2 ∧ Aside0 (impl_SelectFacts.l0 kq l1 (l1.length : Int) x29_2 t598 t601 t598 x606001_2 = some (r1, r2, r3)) ∧ Aside0 (kq ≤ kj2) ∧ Aside0 (Kd.R k70 70 w' w.heap.size (fun k_ => (w.heap.size ≤ k_)) (.slice Ao24 t598.length co24) t598) ∧ Aside0 (Kd.N k35 35 w' w.heap.size (fun k_ => (w.heap.size ≤ k_) ∧ some k_ ≠ ((.slice Ao24 t598.length co24) : Value).ownBlock ∧ some k_ ≠ ((.slice Ao24 t598.length co24) : Value).ownBlock ∧ some k_ ≠ (u606001 : Value).ownBlock ∧ k_ ≠ gb594 ∧ k_ ≠ gb595 ∧ k_ ≠ gb604 ∧ k_ ≠ gb605) (.slice Ao28 t601.length co28) t601) ∧ Aside0 (Kd.R k70 70 w' w.heap.size (fun k_ => (w.heap.size ≤ k_)) (.slice Ao24 t598.length co24) t598) ∧ Aside0 (Kd.N k35 35 w' w.heap.size (fun k_ => (w.heap.size ≤ k_) ∧ some k_ ≠ ((.slice Ao24 t598.length co24) : Value).ownBlock ∧ some k_ ≠ ((.slice Ao28 t601.length co28) : Value).ownBlock ∧ some k_ ≠ ((.slice Ao24 t598.length co24) : Value).ownBlock ∧ k_ ≠ gb594 ∧ k_ ≠ gb595 ∧ k_ ≠ gb604 ∧ k_ ≠ gb605) u606001 x606001_2) ∧ Aside0 (w'.heap[gb594]? = some (.cells #[(.slice A0_0 l0_0.length c0_0), (.slice A0_1 l0_1.length c0_1)] 27 (0, 0))) ∧ Aside0 (w'.heap[gb595]? = some (.cells #[(.slice none 0 0), (.slice none 0 0)] 27 (0, 0))) ∧ Aside0 (w'.heap[gb604]? = some (.cells #[(.slice Ao24 t598.length co24), (.slice Ao28 t601.length co28)] 27 (0, 0))) ∧ Aside0 (w'.heap[gb605]? = some (.cells #[(.slice Ao24 t598.length co24), u606001] 27 (0, 0))) ∧ Aside0 (Below w.heap.size w w'))
    case atStart => exact ⟨(0), (([] : List (S35))), (.slice none 0 0), aX, H', ⟨Nat.le_refl _⟩, ⟨by (with_reducible repeat apply pR); exact Kd.R_mono (Kd.R_far (p := ⟨gb605, 1, none⟩) (Kd.R_far (p := ⟨gb605, 0, none⟩) (Kd.R_types HO600.out BK605.out (by decide)) (fun _ hk => hk.2) (.slice Ao24 t598.length co24)) (fun _ hk => hk.2) (.slice none 0 0)) (fun _ hk => hk.1.1)⟩, ⟨by (with_reducible repeat apply pN); exact Kd.N_mono (Kd.N_far (p := ⟨gb605, 1, none⟩) (Kd.N_far (p := ⟨gb605, 0, none⟩) (Kd.N_mono HO603.out (fun k_ hk => (⟨hk, hk.2⟩ : _ ∧ k_ ≠ gb605))) (fun _ hk => hk.2) (.slice Ao24 t598.length co24)) (fun _ hk => hk.2) (.slice none 0 0)) (fun _ hk => ⟨hk.1.1.1.1, ⟨hk.1.1.1.2.1, ⟨hk.1.1.1.2.1, ⟨(by simp [Value.ownBlock]), ⟨hk.1.1.1.2.2.1, ⟨hk.1.1.1.2.2.2, ⟨hk.1.1.2, hk.1.2⟩⟩⟩⟩⟩⟩⟩)⟩, ⟨by (with_reducible repeat apply pR); exact Kd.R_mono (Kd.R_far (p := ⟨gb605, 1, none⟩) (Kd.R_far (p := ⟨gb605, 0, none⟩) (Kd.R_types HO600.out BK605.out (by decide)) (fun _ hk => hk.2) (.slice Ao24 t598.length co24)) (fun _ hk => hk.2) (.slice none 0 0)) (fun _ hk => hk.1.1)⟩, ⟨by first | exact Kd.S_nil _ _ _ _ _ | exact Kd.N_nil _ _ _ _ _ | exact Kd.V_nil _ _ _ _ _ | exact Kd.Q_nil _ _ _ _ _ | exact Kd.R_nil _ _ _ _ _⟩, ⟨by (with_reducible repeat refine pB ?_); refine blk_far ?_ NB594_605.out _; (with_reducible repeat refine pB ?_); refine blk_far ?_ NB594_605.out _; (with_reducible repeat refine pB ?_); exact BK594.out⟩, ⟨by (with_reducible repeat refine pB ?_); refine blk_far ?_ NB595_605.out _; (with_reducible repeat refine pB ?_); refine blk_far ?_ NB595_605.out _; (with_reducible repeat refine pB ?_); exact BK595.out⟩, ⟨by (with_reducible repeat refine pB ?_); refine blk_far ?_ NB604_605.out _; (with_reducible repeat refine pB ?_); refine blk_far ?_ NB604_605.out _; (with_reducible repeat refine pB ?_); exact BK604.out⟩, ⟨by (with_reducible repeat refine pB ?_); refine blk_put (cs := #[.slice Ao24 t598.length co24, .slice none 0 0]) ?_ 1 _ rfl; (with_reducible repeat refine pB ?_); refine blk_put (cs := #[.slice none 0 0, .slice none 0 0]) ?_ 0 _ rfl; (with_reducible repeat refine pB ?_); exact BK605.out⟩, ⟨aG⟩⟩
    case round =>
     clear H'
     try clear c1
     try clear c2
     try clear p2
     try clear c3
     try clear c4
     try clear c5
     try clear c7
     try clear c9
     try clear c13
     try clear c16
     try clear c17
     try clear c20
     try clear c25
     try clear c26
     try clear c30
     try clear c31
     try clear c32
     try clear hcz10_0
     try clear hcz10_1
     try clear hcz12_0
     try clear hcz12_1
     try clear hcz14_0
     try clear hcz14_1
     try clear hcz18_0
     try clear hcz18_1
     try clear hcz21_0
     try clear hcz21_1
     try clear hcz27_0
     try clear hcz27_1
     try clear hcz33_0
     try clear hcz33_1
     try clear hfz10_0
     try clear hfz10_1
     try clear hfz12_0
     try clear hfz12_1
     try clear hfz14_0
     try clear hfz14_1
     try clear hfz18_0
     try clear hfz18_1
     try clear hfz21_0
     try clear hfz21_1
     try clear hfz27_0
     try clear hfz27_1
     try clear hfz33_0
     try clear hfz33_1
     try clear p2
     obtain ⟨x29_2, x606001_2, u606001, rfl, HA, HK2, HO_605000, HO_605001, HO_606000, HO_606001, BK594, BK595, BK604, BK605, HB⟩ := hrel
     cases gk with
     | zero => exact absurd HA.out (by simp [impl_SelectFacts.l0])
     | succ k2 =>
      have H := HA.out
      clear HA
      simp only [impl_SelectFacts.l0] at H
      by_cases c34 : x29_2 < (l1.length : Int)
      ·rw [if_pos c34] at H
       have c34b0 : decide (x29_2 < (l1.length : Int)) = true := decide_eq_true c34
       clear c34
       by_cases c35 : 0 ≤ x29_2
       ·rw [if_pos c35] at H
        have c35b0 : decide (0 ≤ x29_2) = true := decide_eq_true c35
        clear c35
        by_cases c36 : x29_2 < (l1.length : Int)
        ·rw [if_pos c36] at H
         have c36b0 : decide (x29_2 < (l1.length : Int)) = true := decide_eq_true c36
         clear c36
         by_cases c37 : 0 ≤ (rd l1 x29_2)
         ·rw [if_pos c37] at H
          have c37b0 : decide (0 ≤ (rd l1 x29_2)) = true := decide_eq_true c37
          clear c37
          by_cases c38 : (rd l1 x29_2) < (t601.length : Int)
          ·rw [if_pos c38] at H
           have c38b0 : decide ((rd l1 x29_2) < (t601.length : Int)) = true := decide_eq_true c38
           clear c38
           by_cases c39 : x606001_2.length < 4398046511104
           ·rw [if_pos c39] at H
            have LMc39 := aM c39
            clear c39
            obtain ⟨y608, hy608⟩ : ∃ y_ : List (S35), y_ = (x606001_2 ++ [(⟨(rd_T35 t601 (rd l1 x29_2)).f0, (rd_T35 t601 (rd l1 x29_2)).f1⟩ : S35)]) := ⟨_, rfl⟩
            first | replace H := bY hy608 H | rw [← hy608] at H
            have Ny608 := aM hy608
            clear hy608
            have H' := aM H
            clear H
            have p606 : 0 ≤ (x29_2 : Int) := aD
            have q606 : x29_2 < (l1.length : Int) := aD
            obtain ⟨ad606, e606, hx606_0⟩ := Kd.at_int HR1.out x29_2 p606 q606
            cases e606
            replace hx606_0 := (HB.out.cell (World.block_lt_of_cell? w _ hx606_0)).trans hx606_0
            replace p606 := eq_true p606
            replace q606 := eq_true q606
            try go_wp2
            replace HO_605000 := aM (Kd.R_drew HO_605000.out)
            replace HO_605001 := aM (Kd.N_drew HO_605001.out)
            replace HO_606000 := aM (Kd.R_drew HO_606000.out)
            replace HO_606001 := aM (Kd.N_drew HO_606001.out)
            replace BK594 := aM (blk_drew BK594.out)
            replace BK595 := aM (blk_drew BK595.out)
            replace BK604 := aM (blk_drew BK604.out)
            replace BK605 := aM (blk_drew BK605.out)
            replace HB := aM (below_drew1 HB.out)
            have p607 : 0 ≤ ((rd l1 x29_2) : Int) := aD
            have q607 : (rd l1 x29_2) < (t601.length : Int) := aD
            obtain ⟨ad607, A607_1, c607_1, e607, hx607_0, hx607_1, hl607_1, hi607_1⟩ := at_T35 (Kd.N_reads' HO_605001.out).2.2 (rd l1 x29_2) p607 q607
            cases e607
            obtain ⟨ce607, hce607, hMe607, hcc607⟩ := Kd.N_get HO_605001.out z35 (rd l1 x29_2) p607 (by first | exact q607 | exact aD | (have e_ := (Kd.N_reads' HO_605001.out).1; omega))
            obtain ⟨ua607_1, uc607_1, rfl, ul607_1, ge607_1⟩ := k35_openF hMe607
            have hv607_1 := hcc607 1 _ rfl
            rw [add_field _ _ 1 (by omega)] at hv607_1
            replace hv607_1 := Option.some.inj (hv607_1.symm.trans hx607_1)
            injection hv607_1 with hva_ hvn_ hvc_
            rw [hva_] at ge607_1
            rw [hvc_] at ul607_1
            have HL607_1 := aM (show Kd.V (Kd.int .i64) 3 _ w.heap.size _ _ ((rd_T35 t601 (rd l1 x29_2)).f1) from Kd.V_mk ul607_1 ge607_1)
            clear hva_ hvn_ hvc_ ge607_1 ul607_1
            clear hcc607 hce607
            have HR607_1 := aM hi607_1
            have HC607_1 := aM hl607_1
            clear hi607_1 hl607_1
            replace p607 := eq_true p607
            replace q607 := eq_true q607
            refine start_ (n := 11) (S := fun w' => w'.cell? ⟨gb605, 0, none⟩ = some (.slice Ao24 t598.length co24) ∧ w'.cell? ⟨gb605, 1, none⟩ = some (u606001) ∧ w'.cell? ⟨gb604, 0, none⟩ = some (.slice Ao24 t598.length co24) ∧ w'.cell? ⟨gb604, 1, none⟩ = some (.slice (some ad607) t601.length co28) ∧ w'.cell? (ad607.add (((rd l1 x29_2)).toNat * 2)) = some (.int .i64 ((rd_T35 t601 (rd l1 x29_2)).f0)) ∧ w'.cell? ⟨(ad607.add (((rd l1 x29_2)).toNat * 2)).block, (ad607.add (((rd l1 x29_2)).toNat * 2)).off + 1, none⟩ = some (.slice A607_1 ((rd_T35 t601 (rd l1 x29_2)).f1).length c607_1)) (ds := [8, 10]) #[false, false, false, false, false, false, false, false, false, false, false] (by kernel_rfl) rfl rfl ⟨(blk_cell BK605.out 0).trans rfl, (blk_cell BK605.out 1).trans rfl, (blk_cell BK604.out 0).trans rfl, (blk_cell BK604.out 1).trans rfl, hx607_0, hx607_1⟩ (fun hHeld => ?_); refine with_tabW impl_SelectFacts.tab8 impl_SelectFacts.bits8 (fun HT_ HW_ => ?_)
            generalize wr.drew = w40 at HO_605000 HO_605001 HO_606000 HO_606001 BK594 BK595 BK604 BK605 HB HL607_1 HR607_1 hx607_0 hx607_1 hHeld ⊢
            refine pU 0 33 ?_
            refine pU 2 35 ?_
            refine pU 4 37 ?_
            refine tU6 1 34 hHeld ?_
            refine tU6 3 36 hHeld ?_
            refine pU 5 38 ?_
            refine tU6 6 39 hHeld ?_
            refine oU 7 40 (fun K hK => ?_)
            refine value_ (w1 := ?_) (v := ?_) (by rfl) rfl ?_ ?_
            rotate_left 2
            ·go_simp
             constructor
             ·rfl
             ·rfl
            refine hK.out _ _ ⟨(blk_cell (blk_alloc BK605.out _) 0).trans rfl, (blk_cell (blk_alloc BK605.out _) 1).trans rfl, (blk_cell (blk_alloc BK604.out _) 0).trans rfl, (blk_cell (blk_alloc BK604.out _) 1).trans rfl, (World.cell?_alloc_lt _ _ _ (World.block_lt_of_cell? _ _ (hHeld.2.2.2.2.1))).trans (hHeld.2.2.2.2.1), (World.cell?_alloc_lt _ _ _ (World.block_lt_of_cell? _ _ (hHeld.2.2.2.2.2))).trans (hHeld.2.2.2.2.2)⟩ (fun hHeld => ?_)
            clear hK K
            refine nU 40 ?_
            refine last_ (i := 8) (N := some 41) #[true, true, true, true, true, true, true, true, true, false, false] rfl rfl (one_of HT_.out (by kernel_rfl)) (by decide) (fun K hK => ?_)
            refine Kd.N_append_step k35 (w0 := w) w.heap.size (by rfl) (.tmp 34) (.tmp 40) 25 35 (.agg #[(.int .i64 0), (.slice none 0 0)]) 32 rfl Try.underlying25 info35 rfl (by decide) (by omega) u606001 x606001_2 (⟨(rd_T35 t601 (rd l1 x29_2)).f0, (rd_T35 t601 (rd l1 x29_2)).f1⟩ : S35) [.int .i64 ((rd_T35 t601 (rd l1 x29_2)).f0), .slice A607_1 ((rd_T35 t601 (rd l1 x29_2)).f1).length c607_1] (fun k_ => (w.heap.size ≤ k_) ∧ some k_ ≠ (.slice Ao24 t598.length co24 : Value).ownBlock ∧ some k_ ≠ (.slice (some ad607) t601.length co28 : Value).ownBlock ∧ some k_ ≠ (.slice Ao24 t598.length co24 : Value).ownBlock ∧ k_ ≠ gb594 ∧ k_ ≠ gb595 ∧ k_ ≠ gb604 ∧ k_ ≠ gb605) (fun k_ => ((fun k_ => (w.heap.size ≤ k_) ∧ some k_ ≠ (.slice Ao24 t598.length co24 : Value).ownBlock ∧ some k_ ≠ (.slice (some ad607) t601.length co28 : Value).ownBlock ∧ some k_ ≠ (.slice Ao24 t598.length co24 : Value).ownBlock ∧ k_ ≠ gb594 ∧ k_ ≠ gb595 ∧ k_ ≠ gb604 ∧ k_ ≠ gb605)) k_ ∧ some k_ ≠ (u606001 : Value).ownBlock) rfl rfl ?aP (fun _ hk => hk) ?aF ?aO ?aB ?aS ?aL ?_
            (case aP => exact (k35_mkF _ _ (⟨(rd_T35 t601 (rd l1 x29_2)).f0, (rd_T35 t601 (rd l1 x29_2)).f1⟩ : S35) (Kd.V_reads' (Kd.V_mono (ok' := (fun k_ => ((fun k_ => (w.heap.size ≤ k_) ∧ some k_ ≠ (.slice Ao24 t598.length co24 : Value).ownBlock ∧ some k_ ≠ (.slice (some ad607) t601.length co28 : Value).ownBlock ∧ some k_ ≠ (.slice Ao24 t598.length co24 : Value).ownBlock ∧ k_ ≠ gb594 ∧ k_ ≠ gb595 ∧ k_ ≠ gb604 ∧ k_ ≠ gb605)) k_ ∧ some k_ ≠ (u606001 : Value).ownBlock)) (HL607_1.out) (fun k_ hk => ⟨⟨hk.1.1, ⟨hk.1.2.1, ⟨hk.2, ⟨hk.1.2.2.1, ⟨hk.1.2.2.2.2.1, ⟨hk.1.2.2.2.2.2.1, ⟨hk.1.2.2.2.2.2.2.1, hk.1.2.2.2.2.2.2.2⟩⟩⟩⟩⟩⟩⟩, hk.1.2.2.2.1⟩))).2.1 (Kd.V_F (Kd.V_mono (ok' := (fun k_ => ((fun k_ => (w.heap.size ≤ k_) ∧ some k_ ≠ (.slice Ao24 t598.length co24 : Value).ownBlock ∧ some k_ ≠ (.slice (some ad607) t601.length co28 : Value).ownBlock ∧ some k_ ≠ (.slice Ao24 t598.length co24 : Value).ownBlock ∧ k_ ≠ gb594 ∧ k_ ≠ gb595 ∧ k_ ≠ gb604 ∧ k_ ≠ gb605)) k_ ∧ some k_ ≠ (u606001 : Value).ownBlock)) (HL607_1.out) (fun k_ hk => ⟨⟨hk.1.1, ⟨hk.1.2.1, ⟨hk.2, ⟨hk.1.2.2.1, ⟨hk.1.2.2.2.2.1, ⟨hk.1.2.2.2.2.2.1, ⟨hk.1.2.2.2.2.2.2.1, hk.1.2.2.2.2.2.2.2⟩⟩⟩⟩⟩⟩⟩, hk.1.2.2.2.1⟩)))))
            (case aB => exact aG)
            (case aF => exact (fun k_ hk => ⟨(Nat.le_trans (below_size aG) hk), Kd.fresh' (Kd.R_lt (aR HO_605000)) k_ hk, Kd.fresh' (Kd.N_lt (aN HO_605001)) k_ hk, Kd.fresh' (Kd.R_lt (aR HO_606000)) k_ hk, Kd.freshB (g := gb594) (o := .cells #[.slice A0_0 l0_0.length c0_0, .slice A0_1 l0_1.length c0_1] 27 (0, 0)) aK k_ hk, Kd.freshB (g := gb595) (o := .cells #[.slice none 0 0, .slice none 0 0] 27 (0, 0)) aK k_ hk, Kd.freshB (g := gb604) (o := .cells #[.slice Ao24 t598.length co24, .slice (some ad607) t601.length co28] 27 (0, 0)) aK k_ hk, Kd.freshB (g := gb605) (o := .cells #[.slice Ao24 t598.length co24, u606001] 27 (0, 0)) aK k_ hk⟩))
            (case aO => exact (aN HO_606001))
            (case aS => exact (below_size aG))
            (case aL => have := LMc39.out; omega)
            intro v609 w41 ho hb hg hat
            rw [← Ny608.out] at ho
            have n0_ := aM (Kd.R_over' (aR HO_605000) (Kd.N_typed (aN HO_606001)) (by decide) hg)
            have n1_ := aM (Kd.N_afterv (ok := (fun k_ => (w.heap.size ≤ k_) ∧ some k_ ≠ (.slice Ao24 t598.length co24 : Value).ownBlock ∧ some k_ ≠ (.slice Ao24 t598.length co24 : Value).ownBlock ∧ k_ ≠ gb594 ∧ k_ ≠ gb595 ∧ k_ ≠ gb604 ∧ k_ ≠ gb605)) (by (with_reducible repeat apply pN); exact Kd.N_mono HO_605001.out (fun _ hk => ⟨⟨hk.1, ⟨hk.2.1, ⟨hk.2.2.1, ⟨hk.2.2.2.2.1, ⟨hk.2.2.2.2.2.1, ⟨hk.2.2.2.2.2.2.1, hk.2.2.2.2.2.2.2⟩⟩⟩⟩⟩⟩, hk.2.2.2.1⟩)) hg hat)
            have n2_ := aM (Kd.R_over' (aR HO_606000) (Kd.N_typed (aN HO_606001)) (by decide) hg)
            have n3_ := aM (blk_grown (g := gb594) (o := .cells #[.slice A0_0 l0_0.length c0_0, .slice A0_1 l0_1.length c0_1] 27 (0, 0)) aK hg (Kd.N_ne HO_606001.out BK594.out (by decide)))
            have n4_ := aM (blk_grown (g := gb595) (o := .cells #[.slice none 0 0, .slice none 0 0] 27 (0, 0)) aK hg (Kd.N_ne HO_606001.out BK595.out (by decide)))
            have n5_ := aM (blk_grown (g := gb604) (o := .cells #[.slice Ao24 t598.length co24, .slice (some ad607) t601.length co28] 27 (0, 0)) aK hg (Kd.N_ne HO_606001.out BK604.out (by decide)))
            have n6_ := aM (blk_grown (g := gb605) (o := .cells #[.slice Ao24 t598.length co24, u606001] 27 (0, 0)) aK hg (Kd.N_ne HO_606001.out BK605.out (by decide)))
            have n7_ := aM (Kd.V_afterv (ok := (fun k_ => (w.heap.size ≤ k_) ∧ some k_ ≠ (.slice Ao24 t598.length co24 : Value).ownBlock ∧ some k_ ≠ (.slice (some ad607) t601.length co28 : Value).ownBlock ∧ some k_ ≠ (.slice Ao24 t598.length co24 : Value).ownBlock ∧ k_ ≠ gb594 ∧ k_ ≠ gb595 ∧ k_ ≠ gb604 ∧ k_ ≠ gb605)) (by (with_reducible repeat (first | apply Kd.V_alloc | apply Kd.V_drewN | apply Kd.V_drew)); exact Kd.V_mono HL607_1.out (fun _ hk => ⟨⟨hk.1.1, ⟨hk.1.2.1, ⟨hk.2, ⟨hk.1.2.2.1, ⟨hk.1.2.2.2.2.1, ⟨hk.1.2.2.2.2.2.1, ⟨hk.1.2.2.2.2.2.2.1, hk.1.2.2.2.2.2.2.2⟩⟩⟩⟩⟩⟩⟩, hk.1.2.2.2.1⟩)) hg hat)
            have n8_ := aM (hb)
            have n9_ := aM (ho)
            clear HO_605000
            clear HO_605001
            clear HO_606000
            clear BK594
            clear BK595
            clear BK604
            clear BK605
            clear HL607_1
            clear HB
            clear HO_606001
            have HO_605000 := n0_
            have HO_605001 := n1_
            have HO_606000 := n2_
            have BK594 := n3_
            have BK595 := n4_
            have BK604 := n5_
            have BK605 := n6_
            have HL607_1 := n7_
            have HB := n8_
            have HO610 := n9_
            clear n0_ n1_ n2_ n3_ n4_ n5_ n6_ n7_ n8_ n9_
            clear ho hb hg hat
            obtain ⟨Ao42, co42, eo42⟩ := Kd.N_slice HO610.out
            (first | subst eo42 | (injection eo42 with f1_ f2_ f3_; have f4_ := f1_.symm; have f5_ := f3_.symm; clear f1_ f2_ f3_; subst f4_; subst f5_))
            refine hK.out _ _ ?_
            clear hK K
            refine nU 41 ?_
            refine pU 9 42 ?_
            refine last_ (i := 10) (N := none) #[true, true, true, true, true, true, true, true, true, true, true] rfl rfl (one_of HT_.out (by kernel_rfl)) (by decide) (fun K hK => ?_)
            have hs43 : w41.cell? ⟨gb605, 1, none⟩ = some (u606001) := (blk_cell BK605.out 1).trans rfl
            have hfs43 := blk_frozen BK605.out 1
            have hns43_0 := NB594_605.out
            have hns43_1 := NB595_605.out
            have hns43_2 := NB604_605.out
            have hms43_0 := NB605_594.out
            have hms43_1 := NB605_595.out
            have hms43_2 := NB605_604.out
            refine skip_ (w1 := ?_) (by rfl) rfl ?_ ?_
            rotate_left
            ·go_simp
             rfl
            refine hK.out _ _ ?_
            clear hK K
            refine done_ (done_of HT_.out (by kernel_rfl)) ?_
            try go_wp2
            go_roundg k2
            case measure => have := HJ2.out; have := HK2.out; omega
            case rel => exact ⟨(wrap64 (x29_2 + 1)), (y608), (.slice Ao42 y608.length co42), aX, H', ⟨by have := HJ2.out; have := HK2.out; omega⟩, ⟨by (with_reducible repeat apply pR); exact Kd.R_mono (Kd.R_far (p := ⟨gb605, 1, none⟩) (Kd.R_types HO_605000.out BK605.out (by decide)) (fun _ hk => hk.2) (.slice Ao42 y608.length co42)) (fun _ hk => hk.1)⟩, ⟨by (with_reducible repeat apply pN); exact Kd.N_mono (Kd.N_far (p := ⟨gb605, 1, none⟩) (Kd.N_mono HO_605001.out (fun k_ hk => (⟨hk, hk.1.2.2.2.2.2.2⟩ : _ ∧ k_ ≠ gb605))) (fun _ hk => hk.2) (.slice Ao42 y608.length co42)) (fun _ hk => ⟨hk.1.1.1, ⟨hk.1.1.2.1, ⟨hk.1.1.2.2.1, ⟨hk.1.2, ⟨hk.1.1.2.2.2.1, ⟨hk.1.1.2.2.2.2.1, ⟨hk.1.1.2.2.2.2.2.1, hk.1.1.2.2.2.2.2.2⟩⟩⟩⟩⟩⟩⟩)⟩, ⟨by (with_reducible repeat apply pR); exact Kd.R_mono (Kd.R_far (p := ⟨gb605, 1, none⟩) (Kd.R_types HO_606000.out BK605.out (by decide)) (fun _ hk => hk.2) (.slice Ao42 y608.length co42)) (fun _ hk => hk.1)⟩, ⟨by (with_reducible repeat apply pN); exact Kd.N_mono (Kd.N_far (p := ⟨gb605, 1, none⟩) (Kd.N_mono HO610.out (fun k_ hk => (⟨hk, hk.2.2.2.2.2.2.2⟩ : _ ∧ k_ ≠ gb605))) (fun _ hk => hk.2) (.slice Ao42 y608.length co42)) (fun _ hk => ⟨hk.1.1, ⟨hk.1.2.1, ⟨hk.1.2.2.1, ⟨hk.1.2.2.2.1, ⟨hk.1.2.2.2.2.1, ⟨hk.1.2.2.2.2.2.1, ⟨hk.1.2.2.2.2.2.2.1, hk.1.2.2.2.2.2.2.2⟩⟩⟩⟩⟩⟩⟩)⟩, ⟨by (with_reducible repeat refine pB ?_); refine blk_far ?_ NB594_605.out _; (with_reducible repeat refine pB ?_); exact BK594.out⟩, ⟨by (with_reducible repeat refine pB ?_); refine blk_far ?_ NB595_605.out _; (with_reducible repeat refine pB ?_); exact BK595.out⟩, ⟨by (with_reducible repeat refine pB ?_); refine blk_far ?_ NB604_605.out _; (with_reducible repeat refine pB ?_); exact BK604.out⟩, ⟨by (with_reducible repeat refine pB ?_); refine blk_put (cs := #[.slice Ao24 t598.length co24, u606001]) ?_ 1 _ rfl; (with_reducible repeat refine pB ?_); exact BK605.out⟩, ⟨aG⟩⟩
           ·rw [if_neg c39] at H
            exact absurd H (by simp)
          ·rw [if_neg c38] at H
           exact absurd H (by simp)
         ·rw [if_neg c37] at H
          exact absurd H (by simp)
        ·rw [if_neg c36] at H
         exact absurd H (by simp)
       ·rw [if_neg c35] at H
        exact absurd H (by simp)
      ·rw [if_neg c34] at H
       have c34b0 : decide (x29_2 < (l1.length : Int)) = false := decide_eq_false c34
       clear c34
       simp only [Option.some.injEq, Prod.mk.injEq] at H
       obtain ⟨rfl, rfl, rfl⟩ := H
       have hnb44 := NB605_594.out
       have hnc44 := NB594_605.out
       have hnb45 := NB605_595.out
       have hnc45 := NB595_605.out
       have hnb46 := NB605_604.out
       have hnc46 := NB604_605.out
       have hcz47_0 : wr.cell? ⟨gb605, 0, none⟩ = some (.slice Ao24 t598.length co24) := (blk_cell BK605.out 0).trans rfl
       have hcz47_1 : wr.cell? ⟨gb605, 1, none⟩ = some (u606001) := (blk_cell BK605.out 1).trans rfl
       have hfz47_0 := blk_frozen BK605.out 0
       have hfz47_1 := blk_frozen BK605.out 1
       have hnb48 := NB595_594.out
       have hnc48 := NB594_595.out
       have hnb49 := NB595_604.out
       have hnc49 := NB604_595.out
       have hcz50_0 : wr.cell? ⟨gb595, 0, none⟩ = some (.slice none 0 0) := (blk_cell BK595.out 0).trans rfl
       have hcz50_1 : wr.cell? ⟨gb595, 1, none⟩ = some (.slice none 0 0) := (blk_cell BK595.out 1).trans rfl
       have hfz50_0 := blk_frozen BK595.out 0
       have hfz50_1 := blk_frozen BK595.out 1
       obtain ⟨Ao51, co51, eo51⟩ := Kd.N_slice HO_606001.out
       subst eo51
       go_wp2
       refine bodyPost_ret (results_ct rfl _ _ gb595 27 #[.slice Ao24 t598.length co24, .slice Ao51 x606001_2.length co51] (0, 0) _ rfl (by (with_reducible repeat refine pB ?_); refine blk_put (cs := #[.slice Ao24 t598.length co24, .slice none 0 0]) ?_ 1 _ rfl; (with_reducible repeat refine pB ?_); refine blk_put (cs := #[.slice none 0 0, .slice none 0 0]) ?_ 0 _ rfl; (with_reducible repeat refine pB ?_); exact BK595.out) Try.underlying27 rfl (by kernel_rfl)) rfl ?_
       exact ⟨_, _, aE, by (with_reducible repeat apply pR); exact Kd.R_mono (Kd.R_far (p := ⟨gb595, 1, none⟩) (Kd.R_far (p := ⟨gb595, 0, none⟩) (Kd.R_types HO_606000.out BK595.out (by decide)) (fun _ hk => hk.2) (.slice Ao24 t598.length co24)) (fun _ hk => hk.2) (.slice Ao51 x606001_2.length co51)) (fun _ hk => hk.1), by (with_reducible repeat apply pN); exact Kd.N_mono (Kd.N_far (p := ⟨gb595, 1, none⟩) (Kd.N_far (p := ⟨gb595, 0, none⟩) (Kd.N_mono HO_606001.out (fun k_ hk => (⟨hk, hk.2.2.2.2.2.1⟩ : _ ∧ k_ ≠ gb595))) (fun _ hk => hk.2) (.slice Ao24 t598.length co24)) (fun _ hk => hk.2) (.slice Ao51 x606001_2.length co51)) (fun _ hk => ⟨hk.1.1, hk.1.2.2.2.1⟩), aG⟩

/-! ### impl_IsPartialRepair: function 29 -/
def impl_IsPartialRepair.f (k : Nat) (l0_0 : List (S70)) (l0_1 : List (S35)) (l1 : List Int) : Option (Bool) := (impl_SelectFacts.f k l0_0 l0_1 l1).bind fun bt612 => (if bt612.2.2 = true then ((impl_IsConsistent.f k bt612.1 bt612.2.1).bind fun t620 => (some t620)) else (some false))
set_option maxHeartbeats 8000000 in
set_option maxRecDepth 100000 in
theorem impl_IsPartialRepair.calls (k : Nat) (A0_0 : Option Addr) (c0_0 : Nat) (l0_0 : List (S70)) (A0_1 : Option Addr) (c0_1 : Nat) (l0_1 : List (S35)) (A1 : Option Addr) (c1 : Nat) (l1 : List Int) (r : Bool) (w : World) (hr0_0 : Kd.C k70 w A0_0 l0_0.length l0_0) (hc0_0 : l0_0.length ≤ c0_0) (hr0_1 : Kd.C k35 w A0_1 l0_1.length l0_1) (hc0_1 : l0_1.length ≤ c0_1) (hr1 : Kd.C (Kd.int .i64) w A1 l1.length l1) (hc1 : l1.length ≤ c1) (h : impl_IsPartialRepair.f k l0_0 l0_1 l1 = some r) :
  Calls Try.prog 29 #[.agg #[.slice A0_0 l0_0.length c0_0, .slice A0_1 l0_1.length c0_1], .slice A1 l1.length c1] w fun e w' => e = .returned (.bool r) ∧ Below w.heap.size w w' := by
 have hu27 := Try.underlying27
 have HR0_0 := aM hr0_0
 have HC0_0 := aM hc0_0
 clear hr0_0 hc0_0
 have HR0_1 := aM hr0_1
 have HC0_1 := aM hc0_1
 clear hr0_1 hc0_1
 have HR1 := aM hr1
 have HC1 := aM hc1
 clear hr1 hc1
 have HB := aM (Below.refl w.heap.size w)
 have H : ((impl_SelectFacts.f k l0_0 l0_1 l1).bind fun bt612 => (if bt612.2.2 = true then ((impl_IsConsistent.f k bt612.1 bt612.2.1).bind fun t620 => (some t620)) else (some false))) = some r := h
 clear h
 replace H := bM H
 obtain ⟨⟨t612, t615, t618⟩, A30, H⟩ := H
 dsimp only at H
 have A3 := aM A30
 clear A30
 by_cases c4 : t618 = true
 ·subst c4
  replace H := iT H
  replace H := bM H
  obtain ⟨t620, A50, H⟩ := H
  have A5 := aM A50
  clear A50
  obtain rfl := Option.some.inj H
  go_enter Try.func29, Try.ntmps29
  go_wp2_with (first | ((with_reducible refine gate_dst (N := 2) rfl ?_); refine bE 2 (cs := #[.slice A0_0 l0_0.length c0_0, .slice A0_1 l0_1.length c0_1]) (t := 27) ?_; intro gb611 hg w6 hbox hb; have BK611 := aM (hbox); have GW611 := aM ((by rw [hg]; exact (below_size aB) : w.heap.size ≤ gb611)); have GE611 := aM ((by rw [hg]; exact (below_size aB) : w.heap.size ≤ gb611)); replace HB := aM (below_step aB hb); clear hb hbox hg; have hcz7_0 : w6.cell? ⟨gb611, 0, none⟩ = some (.slice A0_0 l0_0.length c0_0) := (blk_cell BK611.out 0).trans rfl; have hcz7_1 : w6.cell? ⟨gb611, 1, none⟩ = some (.slice A0_1 l0_1.length c0_1) := (blk_cell BK611.out 1).trans rfl; have hfz7_0 := blk_frozen BK611.out 0; have hfz7_1 := blk_frozen BK611.out 1) | ((with_reducible refine gate_callee (f := 40) rfl ?_); refine goesL_ (some 10) rfl rfl Try.func40 (by kernel_rfl) rfl #[.agg #[.slice A0_0 l0_0.length c0_0, .slice A0_1 l0_1.length c0_1], .slice A1 l1.length c1] rfl aA ?_; (with_reducible refine (impl_SelectFacts.calls k _ _ l0_0 _ _ l0_1 _ _ l1 t612 t615 true _ ?side1 ?side2 ?side3 ?side4 ?side5 ?side6 A3.out).mono ?_); (case side1 => exact aC); (case side2 => exact HC0_0.out); (case side3 => exact aC); (case side4 => exact HC0_1.out); (case side5 => exact aC); (case side6 => exact HC1.out); rintro e w8 ⟨v613, v616, rfl, ho0, ho1, hb⟩; refine ⟨_, rfl, ?_⟩; have HO614 := aM (Kd.R_lower (Kd.R_mono (ok' := fun k_ => True) ho0 (fun _ hk_ => trivial)) (below_size aG)); have HO617 := aM (Kd.N_lower (Kd.N_mono (ok' := fun k_ => some k_ ≠ (v613 : Value).ownBlock ∧ k_ ≠ gb611) ho1 (fun k_ hk_ => ⟨hk_.2, (Kd.freshB (g := gb611) (o := .cells #[.slice A0_0 l0_0.length c0_0, .slice A0_1 l0_1.length c0_1] 27 (0, 0)) aK k_ hk_.1)⟩)) (below_size aG)); replace BK611 := aM (blk_below (g := gb611) (o := .cells #[.slice A0_0 l0_0.length c0_0, .slice A0_1 l0_1.length c0_1] 27 (0, 0)) aK hb); replace HB := aM (below_step aG hb); (try clear hb); (try clear hb2); (try clear hk); (try clear hi); (try clear ho0); (try clear ho1)) | ((with_reducible refine gate_dst (N := 5) rfl ?_); refine bE 5 (cs := #[.slice none 0 0, .slice none 0 0]) (t := 27) ?_; intro gb619 hg w9 hbox hb; have BK619 := aM (hbox); have GW619 := aM ((by rw [hg]; exact (below_size aG) : w.heap.size ≤ gb619)); have GE619 := aM ((by rw [hg]; exact (below_size aG) : w.heap.size ≤ gb619)); have NB611_619 := aM ((by rw [hg]; exact Nat.ne_of_lt (blk_lt (g := gb611) (o := .cells #[.slice A0_0 l0_0.length c0_0, .slice A0_1 l0_1.length c0_1] 27 (0, 0)) aK) : gb611 ≠ gb619)); have NB619_611 := aM ((by rw [hg]; exact Nat.ne_of_gt (blk_lt (g := gb611) (o := .cells #[.slice A0_0 l0_0.length c0_0, .slice A0_1 l0_1.length c0_1] 27 (0, 0)) aK) : gb619 ≠ gb611)); replace HO614 := aM (Kd.R_below (aR HO614) hb); replace HO617 := aM (Kd.N_below (Kd.N_elderB (aN HO617) gb619 (Nat.le_of_eq hg.symm)) hb); replace BK611 := aM (blk_below (g := gb611) (o := .cells #[.slice A0_0 l0_0.length c0_0, .slice A0_1 l0_1.length c0_1] 27 (0, 0)) aK hb); replace HB := aM (below_step aG hb); clear hb hbox hg; obtain ⟨Ao10, co10, eo10⟩ := Kd.R_slice HO614.out; subst eo10; have hnb11 := NB619_611.out; have hnc11 := NB611_619.out; have hcz12_0 : w9.cell? ⟨gb619, 0, none⟩ = some (.slice none 0 0) := (blk_cell BK619.out 0).trans rfl; have hcz12_1 : w9.cell? ⟨gb619, 1, none⟩ = some (.slice none 0 0) := (blk_cell BK619.out 1).trans rfl; have hfz12_0 := blk_frozen BK619.out 0; have hfz12_1 := blk_frozen BK619.out 1; obtain ⟨Ao13, co13, eo13⟩ := Kd.N_slice HO617.out; subst eo13) | (go_at_call 16; (with_reducible refine (impl_IsConsistent.calls k _ _ t612 _ _ t615 t620 _ ?side1 ?side2 ?side3 ?side4 A5.out).mono ?_); (case side1 => refine (Kd.R_reads' (e := 70) (base := w.heap.size) (ok := fun k_ => True) (n := t612.length) (c := co10) ?_).2.2; exact (by (with_reducible repeat apply pR); exact (Kd.R_mono (Kd.R_far (p := ⟨gb619, 1, none⟩) (Kd.R_far (p := ⟨gb619, 0, none⟩) (Kd.R_types HO614.out BK619.out (by decide)) (fun _ hk => hk.2) (.slice Ao10 t612.length co10)) (fun _ hk => hk.2) (.slice Ao13 t615.length co13)) (fun _ h_ => h_.1)))); (case side2 => exact (Kd.R_reads' HO614.out).2.1); (case side3 => refine (Kd.N_reads' (e := 35) (base := w.heap.size) (ok := fun k_ => ((some k_ ≠ (.slice Ao10 t612.length co10 : Value).ownBlock ∧ k_ ≠ gb611) ∧ k_ ≠ gb619)) (n := t615.length) (c := co13) ?_).2.2; exact (by (with_reducible repeat apply pN); exact (Kd.N_mono (Kd.N_far (p := ⟨gb619, 1, none⟩) (Kd.N_far (p := ⟨gb619, 0, none⟩) (Kd.N_mono HO617.out (fun k_ hk => (⟨hk, hk.2⟩ : _ ∧ k_ ≠ gb619))) (fun _ hk => hk.2) (.slice Ao10 t612.length co10)) (fun _ hk => hk.2) (.slice Ao13 t615.length co13)) (fun _ h_ => h_.1)))); (case side4 => exact (Kd.N_reads' HO617.out).2.1); rintro e w14 ⟨rfl, hb⟩; replace HO614 := aM (Kd.R_below (by (with_reducible repeat apply pR); exact (Kd.R_mono (Kd.R_far (p := ⟨gb619, 1, none⟩) (Kd.R_far (p := ⟨gb619, 0, none⟩) (Kd.R_types HO614.out BK619.out (by decide)) (fun _ hk => hk.2) (.slice Ao10 t612.length co10)) (fun _ hk => hk.2) (.slice Ao13 t615.length co13)) (fun _ h_ => h_.1))) hb); replace HO617 := aM (Kd.N_below (by (with_reducible repeat apply pN); exact (Kd.N_mono (Kd.N_far (p := ⟨gb619, 1, none⟩) (Kd.N_far (p := ⟨gb619, 0, none⟩) (Kd.N_mono HO617.out (fun k_ hk => (⟨hk, hk.2⟩ : _ ∧ k_ ≠ gb619))) (fun _ hk => hk.2) (.slice Ao10 t612.length co10)) (fun _ hk => hk.2) (.slice Ao13 t615.length co13)) (fun _ h_ => h_.1))) hb); replace BK611 := aM (blk_below (g := gb611) (o := .cells #[.slice A0_0 l0_0.length c0_0, .slice A0_1 l0_1.length c0_1] 27 (0, 0)) (by (with_reducible repeat refine pB ?_); refine blk_far ?_ NB611_619.out _; (with_reducible repeat refine pB ?_); refine blk_far ?_ NB611_619.out _; (with_reducible repeat refine pB ?_); exact BK611.out) hb); replace BK619 := aM (blk_below (g := gb619) (o := .cells #[.slice Ao10 t612.length co10, .slice Ao13 t615.length co13] 27 (0, 0)) (by (with_reducible repeat refine pB ?_); refine blk_put (cs := #[.slice Ao10 t612.length co10, .slice none 0 0]) ?_ 1 _ rfl; (with_reducible repeat refine pB ?_); refine blk_put (cs := #[.slice none 0 0, .slice none 0 0]) ?_ 0 _ rfl; (with_reducible repeat refine pB ?_); exact BK619.out) hb); replace HB := aM (below_step aG hb); (try clear hb); (try clear hb2); (try clear hk); (try clear hi)))
  go_ret
  exact ⟨aE, aG⟩
 ·replace c4 := Bool.eq_false_iff.mpr c4
  subst c4
  have H1 : (some false) = some r := by rw [if_neg (show ¬ (false = true) by decide)] at H; exact H
  clear H
  have H := H1
  clear H1
  obtain rfl := Option.some.inj H
  go_enter Try.func29, Try.ntmps29
  go_wp2_with (first | ((with_reducible refine gate_dst (N := 2) rfl ?_); refine bE 2 (cs := #[.slice A0_0 l0_0.length c0_0, .slice A0_1 l0_1.length c0_1]) (t := 27) ?_; intro gb611 hg w15 hbox hb; have BK611 := aM (hbox); have GW611 := aM ((by rw [hg]; exact (below_size aB) : w.heap.size ≤ gb611)); have GE611 := aM ((by rw [hg]; exact (below_size aB) : w.heap.size ≤ gb611)); replace HB := aM (below_step aB hb); clear hb hbox hg; have hcz16_0 : w15.cell? ⟨gb611, 0, none⟩ = some (.slice A0_0 l0_0.length c0_0) := (blk_cell BK611.out 0).trans rfl; have hcz16_1 : w15.cell? ⟨gb611, 1, none⟩ = some (.slice A0_1 l0_1.length c0_1) := (blk_cell BK611.out 1).trans rfl; have hfz16_0 := blk_frozen BK611.out 0; have hfz16_1 := blk_frozen BK611.out 1) | ((with_reducible refine gate_callee (f := 40) rfl ?_); refine goesL_ (some 10) rfl rfl Try.func40 (by kernel_rfl) rfl #[.agg #[.slice A0_0 l0_0.length c0_0, .slice A0_1 l0_1.length c0_1], .slice A1 l1.length c1] rfl aA ?_; (with_reducible refine (impl_SelectFacts.calls k _ _ l0_0 _ _ l0_1 _ _ l1 t612 t615 false _ ?side1 ?side2 ?side3 ?side4 ?side5 ?side6 A3.out).mono ?_); (case side1 => exact aC); (case side2 => exact HC0_0.out); (case side3 => exact aC); (case side4 => exact HC0_1.out); (case side5 => exact aC); (case side6 => exact HC1.out); rintro e w17 ⟨v613, v616, rfl, ho0, ho1, hb⟩; refine ⟨_, rfl, ?_⟩; have HO614 := aM (Kd.R_lower (Kd.R_mono (ok' := fun k_ => True) ho0 (fun _ hk_ => trivial)) (below_size aG)); have HO617 := aM (Kd.N_lower (Kd.N_mono (ok' := fun k_ => some k_ ≠ (v613 : Value).ownBlock ∧ k_ ≠ gb611) ho1 (fun k_ hk_ => ⟨hk_.2, (Kd.freshB (g := gb611) (o := .cells #[.slice A0_0 l0_0.length c0_0, .slice A0_1 l0_1.length c0_1] 27 (0, 0)) aK k_ hk_.1)⟩)) (below_size aG)); replace BK611 := aM (blk_below (g := gb611) (o := .cells #[.slice A0_0 l0_0.length c0_0, .slice A0_1 l0_1.length c0_1] 27 (0, 0)) aK hb); replace HB := aM (below_step aG hb); (try clear hb); (try clear hb2); (try clear hk); (try clear hi); (try clear ho0); (try clear ho1)) | ((with_reducible refine gate_dst (N := 5) rfl ?_); refine bE 5 (cs := #[.slice none 0 0, .slice none 0 0]) (t := 27) ?_; intro gb619 hg w18 hbox hb; have BK619 := aM (hbox); have GW619 := aM ((by rw [hg]; exact (below_size aG) : w.heap.size ≤ gb619)); have GE619 := aM ((by rw [hg]; exact (below_size aG) : w.heap.size ≤ gb619)); have NB611_619 := aM ((by rw [hg]; exact Nat.ne_of_lt (blk_lt (g := gb611) (o := .cells #[.slice A0_0 l0_0.length c0_0, .slice A0_1 l0_1.length c0_1] 27 (0, 0)) aK) : gb611 ≠ gb619)); have NB619_611 := aM ((by rw [hg]; exact Nat.ne_of_gt (blk_lt (g := gb611) (o := .cells #[.slice A0_0 l0_0.length c0_0, .slice A0_1 l0_1.length c0_1] 27 (0, 0)) aK) : gb619 ≠ gb611)); replace HO614 := aM (Kd.R_below (aR HO614) hb); replace HO617 := aM (Kd.N_below (Kd.N_elderB (aN HO617) gb619 (Nat.le_of_eq hg.symm)) hb); replace BK611 := aM (blk_below (g := gb611) (o := .cells #[.slice A0_0 l0_0.length c0_0, .slice A0_1 l0_1.length c0_1] 27 (0, 0)) aK hb); replace HB := aM (below_step aG hb); clear hb hbox hg; obtain ⟨Ao19, co19, eo19⟩ := Kd.R_slice HO614.out; subst eo19; have hnb20 := NB619_611.out; have hnc20 := NB611_619.out; have hcz21_0 : w18.cell? ⟨gb619, 0, none⟩ = some (.slice none 0 0) := (blk_cell BK619.out 0).trans rfl; have hcz21_1 : w18.cell? ⟨gb619, 1, none⟩ = some (.slice none 0 0) := (blk_cell BK619.out 1).trans rfl; have hfz21_0 := blk_frozen BK619.out 0; have hfz21_1 := blk_frozen BK619.out 1; obtain ⟨Ao22, co22, eo22⟩ := Kd.N_slice HO617.out; subst eo22))
  go_ret
  exact ⟨aE, aG⟩

/-! ### slices_Index_int_int: function 73 -/
def slices_Index_int_int.l0 : Nat → List Int → Int → Int → Int → Option (Int)
 | 0, _, _, _, _ => none
 | k + 1, x0, x1, x7, x8 => if x8 < x7 then (if 0 ≤ x8 then (if x8 < (x0.length : Int) then (if x1 = (rd x0 x8) then (some x8) else (slices_Index_int_int.l0 k x0 x1 x7 (wrap64 (x8 + 1)))) else (none)) else (none)) else (some (-1))
def slices_Index_int_int.f (k : Nat) (l0 : List Int) (a1 : Int) : Option (Int) := slices_Index_int_int.l0 k l0 a1 (l0.length : Int) 0
set_option maxHeartbeats 8000000 in
set_option maxRecDepth 100000 in
theorem slices_Index_int_int.calls (k : Nat) (A0 : Option Addr) (c0 : Nat) (l0 : List Int) (a1 : Int) (r : Int) (w : World) (hr0 : Kd.C (Kd.int .i64) w A0 l0.length l0) (hc0 : l0.length ≤ c0) (h : slices_Index_int_int.f k l0 a1 = some r) :
  Calls Try.prog 73 #[.slice A0 l0.length c0, .int .i64 a1] w fun e w' => e = .returned (.int .i64 r) ∧ Drawn0 w w' := by
 unfold slices_Index_int_int.f at h
 ·go_enter Try.func73, Try.ntmps73
  go_wp2
  go_loopg [8] k (fun kq v8 w' => ∃ (x8_0 : Int), v8 = .int .i64 x8_0 ∧ slices_Index_int_int.l0 kq l0 a1 (l0.length : Int) x8_0 = some r ∧ Drawn0 w w')
  case atStart => exact ⟨_, zR, zA, zD⟩
  case round =>
   clear h
   obtain ⟨x8_0, rfl, h, hb⟩ := hrel
   have hd := hb
   replace hb := hb.below
   replace hb := aM hb
   have HB : Below w.heap.size w wr := zB
   rcases gk with _ | kk0
   exact absurd h (by simp [slices_Index_int_int.l0])
   simp only [slices_Index_int_int.l0] at h
   replace h := il h; rcases h with ⟨c1, c1a, h⟩ | ⟨c1, c1a, h⟩
   replace h := ie h; rcases h with ⟨c2, c2a, h⟩ | ⟨c2, c2a, h⟩
   replace h := il h; rcases h with ⟨c3, c3a, h⟩ | ⟨c3, c3a, h⟩
   replace h := iq h; rcases h with ⟨c4, ⟨c4a, c4b⟩, h⟩ | ⟨c4, ⟨c4a, c4b⟩, h⟩
   obtain rfl := si h
   obtain ⟨ad621, e621, hx621_0⟩ := Kd.at_int hr0 (x8_0 : Int) aD aD
   have p621 := eq_true (aD : 0 ≤ (x8_0 : Int))
   have q621 := eq_true (aD : x8_0 < (l0.length : Int))
   cases e621
   replace hx621_0 := qa hx621_0
   rotate_left
   obtain ⟨kf, hkf⟩ : ∃ kf, kf = kk0 := ⟨_, rfl⟩; rw [← hkf] at h
   obtain ⟨ad621, e621, hx621_0⟩ := Kd.at_int hr0 (x8_0 : Int) aD aD
   have p621 := eq_true (aD : 0 ≤ (x8_0 : Int))
   have q621 := eq_true (aD : x8_0 < (l0.length : Int))
   cases e621
   replace hx621_0 := qa hx621_0
   rotate_left
   exact absurd h (by simp)
   exact absurd h (by simp)
   obtain rfl := si h
   rotate_left
   all_goals (go_wp2; first | (go_ret; exact zE zD) | (go_roundg kf; (case measure => omega); (case rel => exact ⟨_, zR, zA, zD⟩)))

/-! ### slices_Contains_int_int: function 50 -/
def slices_Contains_int_int.f (k : Nat) (l0 : List Int) (a1 : Int) : Option (Bool) := (slices_Index_int_int.f k l0 a1).bind fun t622 => (some (decide (t622 ≥ 0)))
set_option maxHeartbeats 8000000 in
set_option maxRecDepth 100000 in
theorem slices_Contains_int_int.calls (k : Nat) (A0 : Option Addr) (c0 : Nat) (l0 : List Int) (a1 : Int) (r : Bool) (w : World) (hr0 : Kd.C (Kd.int .i64) w A0 l0.length l0) (hc0 : l0.length ≤ c0) (h : slices_Contains_int_int.f k l0 a1 = some r) :
  Calls Try.prog 50 #[.slice A0 l0.length c0, .int .i64 a1] w fun e w' => e = .returned (.bool r) ∧ Drawn0 w w' := by
 unfold slices_Contains_int_int.f at h
 replace h := bs h; obtain ⟨t622, B0, h⟩ := h
 obtain rfl := si h
 rotate_left
 all_goals (go_enter Try.func50, Try.ntmps50; go_wp2_with (first | (go_at_call 73; refine (slices_Index_int_int.calls ?_ _ _ _ _ ?_ _ ?_ ?_ ?h).mono ?_; (case h => exact zA); (iterate 2 (first | exact zC | exact zA)); rintro e w1 ⟨rfl, hb⟩; have hd := hb; replace hb := hb.below; replace hb := aM hb; have HB : Below w.heap.size w w1 := zB)); go_ret; exact zE zD)

end Go.Proofs.Ytbdeimhlohhhiaa.PFnExtendToRepair
