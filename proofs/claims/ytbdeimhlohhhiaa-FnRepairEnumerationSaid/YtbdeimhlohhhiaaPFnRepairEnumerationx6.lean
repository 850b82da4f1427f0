import Derived.Test.YtbdeimhlohhhiaaPFnRepairEnumerationx0
import Derived.Test.YtbdeimhlohhhiaaPFnRepairEnumerationx2
import Derived.Test.YtbdeimhlohhhiaaPFnRepairEnumerationx5
namespace Go.Proofs.Ytbdeimhlohhhiaa.PFnRepairEnumeration
open Go.RowKit Go.Proofs.YtbdeimhlohhhiaaW.PrintWords Go.Proofs.YtbdeimhlohhhiaaW.PrintLast Go.Proofs.YtbdeimhlohhhiaaW.PrintMore
attribute [local go_sem] max2_int min2_int max_two min_two max_three min_three max_four min_four
set_option linter.unusedVariables false
set_option linter.unusedSimpArgs false

/-! ### impl_SelectFacts: function 40 -/
mutual
def impl_SelectFacts.j0 : Nat → List Int → Bool → List (S70) → List (S35) → Option ((List (S70)) × (List (S35)) × Bool)
 | 0, _, _, _, _ => none
 | k + 1, x1, x20, x185000, x185001 => if x20 = true then (some (([] : List (S70)), ([] : List (S35)), false)) else ((impl_copyDatabase.f k x185000 x185001).bind fun bt188 => (impl_SelectFacts.l0 k x1 (x1.length : Int) 0 bt188.1 bt188.2 bt188.1 ([] : List (S35))))
def impl_SelectFacts.l0 : Nat → List Int → Int → Int → List (S70) → List (S35) → List (S70) → List (S35) → Option ((List (S70)) × (List (S35)) × Bool)
 | 0, _, _, _, _, _, _, _ => none
 | k + 1, x27, x28, x29, x195000, x195001, x196000, x196001 => if x29 < x28 then (if 0 ≤ x29 then (if x29 < (x27.length : Int) then (if 0 ≤ (rd x27 x29) then (if (rd x27 x29) < (x195001.length : Int) then (if x196001.length < 4398046511104 then (impl_SelectFacts.l0 k x27 x28 (wrap64 (x29 + 1)) x195000 x195001 x196000 (x196001 ++ [(⟨(rd_T35 x195001 (rd x27 x29)).f0, (rd_T35 x195001 (rd x27 x29)).f1⟩ : S35)])) else (none)) else (none)) else (none)) else (none)) else (none)) else (some (x196000, x196001, true))
end
def impl_SelectFacts.f (k : Nat) (l0_0 : List (S70)) (l0_1 : List (S35)) (l1 : List Int) : Option ((List (S70)) × (List (S35)) × Bool) := (impl_IsValidDatabase.f l0_0 l0_1).bind fun t186 => (if t186 = true then ((impl_areIndices.f k l1 (l0_1.length : Int)).bind fun t187 => (impl_SelectFacts.j0 k l1 (!t187) l0_0 l0_1)) else (impl_SelectFacts.j0 k l1 true l0_0 l0_1))
def impl_SelectFacts.T8 : Bool × List (List Nat × List Nat) := (true, [([], []), ([0], [0]), ([], []), ([2], [2]), ([], []), ([3, 4], [3, 4]), ([5], [5]), ([6], [6]), ([1, 7], [1, 7]), ([0, 1, 2, 3, 4, 5, 6, 7, 8], []), ([9, 8, 8, 0, 1, 2, 3, 4, 5, 6, 7, 8], [8, 9])])
def impl_SelectFacts.B8 : List Nat := [0, 1, 0, 4, 0, 28, 60, 124, 255, 511, 1023]
theorem impl_SelectFacts.tab8 : rtab .any (opsOf Try.f40 8) = impl_SelectFacts.T8 := by kernel_rfl
theorem impl_SelectFacts.bits8 : waitsOk impl_SelectFacts.T8.2 impl_SelectFacts.B8 = true := by kernel_rfl
set_option maxHeartbeats 8000000 in
set_option maxRecDepth 100000 in
theorem impl_SelectFacts.calls (k : Nat) (A0_0 : Option Addr) (c0_0 : Nat) (l0_0 : List (S70)) (A0_1 : Option Addr) (c0_1 : Nat) (l0_1 : List (S35)) (A1 : Option Addr) (c1 : Nat) (l1 : List Int) (r1 : List (S70)) (r2 : List (S35)) (r3 : Bool) (w : World) (hr0_0 : Kd.C k70 w A0_0 l0_0.length l0_0) (hc0_0 : l0_0.length ≤ c0_0) (hr0_1 : Kd.C k35 w A0_1 l0_1.length l0_1) (hc0_1 : l0_1.length ≤ c0_1) (hr1 : Kd.C (Kd.int .i64) w A1 l1.length l1) (hc1 : l1.length ≤ c1) (h : impl_SelectFacts.f k l0_0 l0_1 l1 = some (r1, r2, r3)) :
  Calls Try.prog 40 #[.agg #[.slice A0_0 l0_0.length c0_0, .slice A0_1 l0_1.length c0_1], .slice A1 l1.length c1] w fun e w' => ∃ v0_ v1_ : Value, e = .returned (.tuple #[.agg #[v0_, v1_], .bool r3]) ∧ Kd.R k70 70 w' w.heap.size (fun k_ => (w.heap.size ≤ k_)) v0_ r1 ∧ Kd.N k35 35 w' w.heap.size (fun k_ => (w.heap.size ≤ k_) ∧ some k_ ≠ (v0_ : Value).ownBlock) v1_ r2 ∧ Below w.heap.size w w' := by
 have hu27 := Try.underlying27
 have hu35 := Try.underlying35
 have HR0_0 := aM hr0_0
 have HC0_0 := aM hc0_0
 clear hr0_0 hc0_0
 have HR0_1 := aM hr0_1
 have HC0_1 := aM hc0_1
 clear hr0_1 hc0_1
 have HR1 := aM hr1
 have HC1 := aM hc1
 clear hr1 hc1
 have HB := aM (Below.refl w.heap.size w)
 have H : ((impl_IsValidDatabase.f l0_0 l0_1).bind fun t186 => (if t186 = true then ((impl_areIndices.f k l1 (l0_1.length : Int)).bind fun t187 => (impl_SelectFacts.j0 k l1 (!t187) l0_0 l0_1)) else (impl_SelectFacts.j0 k l1 true l0_0 l0_1))) = some (r1, r2, r3) := h
 clear h
 have HC3 := aM H
 clear H
 go_enter Try.func40, Try.ntmps40
 go_upto_region 1 with (first | ((with_reducible refine gate_dst (N := 2) rfl ?_); (try (refine gate_guard (by rfl) ?_; dsimp only)); refine bE 2 (cs := #[.slice A0_0 l0_0.length c0_0, .slice A0_1 l0_1.length c0_1]) (t := 27) ?_; intro gb184 hg w4 hbox hb; have BK184 := aM (hbox); have GW184 := aM ((by rw [hg]; exact (below_size aB) : w.heap.size ≤ gb184)); have GE184 := aM ((by rw [hg]; exact (below_size aB) : w.heap.size ≤ gb184)); replace HB := aM (below_step aB hb); clear hb hbox hg) | ((with_reducible refine gate_dst (N := 4) rfl ?_); (try (refine gate_guard (by rfl) ?_; dsimp only)); refine bE 4 (cs := #[.slice none 0 0, .slice none 0 0]) (t := 27) ?_; intro gb185 hg w5 hbox hb; have BK185 := aM (hbox); have GW185 := aM ((by rw [hg]; exact (below_size aG) : w.heap.size ≤ gb185)); have GE185 := aM ((by rw [hg]; exact (below_size aG) : w.heap.size ≤ gb185)); have NB184_185 := aM ((by rw [hg]; exact Nat.ne_of_lt (blk_lt (g := gb184) (o := .cells #[.slice A0_0 l0_0.length c0_0, .slice A0_1 l0_1.length c0_1] 27 (0, 0)) aK) : gb184 ≠ gb185)); have NB185_184 := aM ((by rw [hg]; exact Nat.ne_of_gt (blk_lt (g := gb184) (o := .cells #[.slice A0_0 l0_0.length c0_0, .slice A0_1 l0_1.length c0_1] 27 (0, 0)) aK) : gb185 ≠ gb184)); replace BK184 := aM (kB gb184 #[.slice A0_0 l0_0.length c0_0, .slice A0_1 l0_1.length c0_1] 27 hb); replace HB := aM (below_step aG hb); clear hb hbox hg))
 (try simp only [Act.put, List.setIfInBounds_toArray, List.set_cons_zero, List.set_cons_succ])
 go_cut [20] (fun v20 wc => ∃ (kq : Nat) (x20_2 : Bool), v20 = .bool x20_2 ∧ Aside0 (impl_SelectFacts.j0 kq l1 x20_2 l0_0 l0_1 = some (r1, r2, r3)) ∧ Aside0 (kq ≤ k) ∧ Aside0 (wc.heap[gb184]? = some (.cells #[(.slice A0_0 l0_0.length c0_0), (.slice A0_1 l0_1.length c0_1)] 27 (0, 0))) ∧ Aside0 (wc.heap[gb185]? = some (.cells #[(.slice none 0 0), (.slice none 0 0)] 27 (0, 0))) ∧ Aside0 (Below w.heap.size w wc))
 case first =>
  have H := HC3.out
  clear HC3
  replace H := bM H
  obtain ⟨t186, A60, H⟩ := H
  have A6 := aM A60
  clear A60
  by_cases c7 : t186 = true
  ·subst c7
   replace H := iT H
   replace H := bM H
   obtain ⟨t187, A80, H⟩ := H
   have A8 := aM A80
   clear A80
   have H' := aM H
   clear H
   have hnb9 := NB184_185.out
   have hnc9 := NB185_184.out
   have hcz10_0 : w5.cell? ⟨gb184, 0, none⟩ = some (.slice A0_0 l0_0.length c0_0) := (blk_cell BK184.out 0).trans rfl
   have hcz10_1 : w5.cell? ⟨gb184, 1, none⟩ = some (.slice A0_1 l0_1.length c0_1) := (blk_cell BK184.out 1).trans rfl
   have hfz10_0 := blk_frozen BK184.out 0
   have hfz10_1 := blk_frozen BK184.out 1
   go_wp2_with (first | ((with_reducible refine gate_callee (f := 20) rfl ?_); refine goesL_ (some 11) rfl rfl Try.func20 (by kernel_rfl) rfl #[.agg #[.slice A0_0 l0_0.length c0_0, .slice A0_1 l0_1.length c0_1]] rfl aA ?_; (with_reducible refine (impl_IsValidDatabase.calls _ _ l0_0 _ _ l0_1 true _ ?side1 ?side2 ?side3 ?side4 A6.out).mono ?_); (case side1 => exact aC); (case side2 => exact HC0_0.out); (case side3 => exact aC); (case side4 => exact HC0_1.out); rintro e w11 ⟨rfl, hb⟩; refine ⟨_, rfl, ?_⟩; have n0_ := aM (kB gb184 #[.slice A0_0 l0_0.length c0_0, .slice A0_1 l0_1.length c0_1] 27 hb); have n1_ := aM (kB gb185 #[.slice none 0 0, .slice none 0 0] 27 hb); have n2_ := aM (below_step aG hb); clear BK184; clear BK185; clear HB; have BK184 := n0_; have BK185 := n1_; have HB := n2_; clear n0_ n1_ n2_; (try clear hb); (try clear hb2); (try clear hk); (try clear hi); have hcz12_0 : w11.cell? ⟨gb184, 0, none⟩ = some (.slice A0_0 l0_0.length c0_0) := (blk_cell BK184.out 0).trans rfl; have hcz12_1 : w11.cell? ⟨gb184, 1, none⟩ = some (.slice A0_1 l0_1.length c0_1) := (blk_cell BK184.out 1).trans rfl; have hfz12_0 := blk_frozen BK184.out 0; have hfz12_1 := blk_frozen BK184.out 1) | (go_at_call 74; (with_reducible refine (impl_areIndices.calls k _ _ l1 (l0_1.length : Int) t187 _ ?side1 ?side2 A8.out).mono ?_); (case side1 => exact aC); (case side2 => exact HC1.out); rintro e w' ⟨rfl, ⟨nd, rfl⟩⟩))
   go_meet
   case rel => exact ⟨_, (!t187), aX, H', ⟨by first | omega | exact Nat.le_refl _⟩, ⟨aK⟩, ⟨aK⟩, ⟨aG⟩⟩
  ·replace c7 := Bool.eq_false_iff.mpr c7
   subst c7
   have H1 : (impl_SelectFacts.j0 k l1 true l0_0 l0_1) = some (r1, r2, r3) := by rw [if_neg (show ¬ (false = true) by decide)] at H; exact H
   clear H
   have H := H1
   clear H1
   have H' := aM H
   clear H
   have hnb13 := NB184_185.out
   have hnc13 := NB185_184.out
   have hcz14_0 : w5.cell? ⟨gb184, 0, none⟩ = some (.slice A0_0 l0_0.length c0_0) := (blk_cell BK184.out 0).trans rfl
   have hcz14_1 : w5.cell? ⟨gb184, 1, none⟩ = some (.slice A0_1 l0_1.length c0_1) := (blk_cell BK184.out 1).trans rfl
   have hfz14_0 := blk_frozen BK184.out 0
   have hfz14_1 := blk_frozen BK184.out 1
   go_wp2_with (first | ((with_reducible refine gate_callee (f := 20) rfl ?_); refine goesL_ (some 11) rfl rfl Try.func20 (by kernel_rfl) rfl #[.agg #[.slice A0_0 l0_0.length c0_0, .slice A0_1 l0_1.length c0_1]] rfl aA ?_; (with_reducible refine (impl_IsValidDatabase.calls _ _ l0_0 _ _ l0_1 false _ ?side1 ?side2 ?side3 ?side4 A6.out).mono ?_); (case side1 => exact aC); (case side2 => exact HC0_0.out); (case side3 => exact aC); (case side4 => exact HC0_1.out); rintro e w15 ⟨rfl, hb⟩; refine ⟨_, rfl, ?_⟩; have n0_ := aM (kB gb184 #[.slice A0_0 l0_0.length c0_0, .slice A0_1 l0_1.length c0_1] 27 hb); have n1_ := aM (kB gb185 #[.slice none 0 0, .slice none 0 0] 27 hb); have n2_ := aM (below_step aG hb); clear BK184; clear BK185; clear HB; have BK184 := n0_; have BK185 := n1_; have HB := n2_; clear n0_ n1_ n2_; (try clear hb); (try clear hb2); (try clear hk); (try clear hi)))
   go_meet
   case rel => exact ⟨_, (true), aX, H', ⟨by first | omega | exact Nat.le_refl _⟩, ⟨aK⟩, ⟨aK⟩, ⟨aG⟩⟩
 case rest =>
  clear HC3
  try clear c1
  try clear c2
  try clear p2
  try clear c4
  try clear c7
  try clear c9
  try clear c13
  try clear hcz10_0
  try clear hcz10_1
  try clear hcz12_0
  try clear hcz12_1
  try clear hcz14_0
  try clear hcz14_1
  try clear hfz10_0
  try clear hfz10_1
  try clear hfz12_0
  try clear hfz12_1
  try clear hfz14_0
  try clear hfz14_1
  obtain ⟨kq, x20_2, rfl, HA, HJ2, BK184, BK185, HB⟩ := hcut
  cases kq with
  | zero => exact absurd HA.out (by simp [impl_SelectFacts.j0])
  | succ kj2 =>
   have H := HA.out
   clear HA
   simp only [impl_SelectFacts.j0] at H
   by_cases c16 : x20_2 = true
   ·subst c16
    replace H := iT H
    simp only [Option.some.injEq, Prod.mk.injEq] at H
    obtain ⟨rfl, rfl, rfl⟩ := H
    have hnb17 := NB185_184.out
    have hnc17 := NB184_185.out
    have hcz18_0 : wc.cell? ⟨gb185, 0, none⟩ = some (.slice none 0 0) := (blk_cell BK185.out 0).trans rfl
    have hcz18_1 : wc.cell? ⟨gb185, 1, none⟩ = some (.slice none 0 0) := (blk_cell BK185.out 1).trans rfl
    have hfz18_0 := blk_frozen BK185.out 0
    have hfz18_1 := blk_frozen BK185.out 1
    go_wp2
    refine bodyPost_ret (results_ct rfl _ _ gb185 27 #[.slice none 0 0, .slice none 0 0] (0, 0) _ rfl (by (with_reducible repeat refine pB ?_); refine blk_put (cs := #[.slice none 0 0, .slice none 0 0]) ?_ 1 _ rfl; (with_reducible repeat refine pB ?_); refine blk_put (cs := #[.slice none 0 0, .slice none 0 0]) ?_ 0 _ rfl; (with_reducible repeat refine pB ?_); exact BK185.out) Try.underlying27 rfl (by kernel_rfl)) rfl ?_
    exact ⟨_, _, aE, by first | exact Kd.R_nil _ _ _ _ _ | exact Kd.N_nil _ _ _ _ _ | exact Kd.V_nil _ _ _ _ _ | exact Kd.Q_nil _ _ _ _ _ | exact Kd.S_nil _ _ _ _ _, by first | exact Kd.S_nil _ _ _ _ _ | exact Kd.N_nil _ _ _ _ _ | exact Kd.V_nil _ _ _ _ _ | exact Kd.Q_nil _ _ _ _ _ | exact Kd.R_nil _ _ _ _ _, aG⟩
   ·replace c16 := Bool.eq_false_iff.mpr c16
    subst c16
    have H1 : ((impl_copyDatabase.f kj2 l0_0 l0_1).bind fun bt188 => (impl_SelectFacts.l0 kj2 l1 (l1.length : Int) 0 bt188.1 bt188.2 bt188.1 ([] : List (S35)))) = some (r1, r2, r3) := by rw [if_neg (show ¬ (false = true) by decide)] at H; exact H
    clear H
    have H := H1
    clear H1
    replace H := bM H
    obtain ⟨⟨t188, t191⟩, A190, H⟩ := H
    dsimp only at H
    have A19 := aM A190
    clear A190
    have H' := aM H
    clear H
    have hnb20 := NB184_185.out
    have hnc20 := NB185_184.out
    have hcz21_0 : wc.cell? ⟨gb184, 0, none⟩ = some (.slice A0_0 l0_0.length c0_0) := (blk_cell BK184.out 0).trans rfl
    have hcz21_1 : wc.cell? ⟨gb184, 1, none⟩ = some (.slice A0_1 l0_1.length c0_1) := (blk_cell BK184.out 1).trans rfl
    have hfz21_0 := blk_frozen BK184.out 0
    have hfz21_1 := blk_frozen BK184.out 1
    go_wp2_with (first | ((with_reducible refine gate_callee (f := 52) rfl ?_); refine goesL_ (some 23) rfl rfl Try.func52 (by kernel_rfl) rfl #[.agg #[.slice A0_0 l0_0.length c0_0, .slice A0_1 l0_1.length c0_1]] rfl aA ?_; (with_reducible refine (impl_copyDatabase.calls kj2 _ _ l0_0 _ _ l0_1 t188 t191 _ ?side1 ?side2 ?side3 ?side4 A19.out).mono ?_); (case side1 => exact aC); (case side2 => exact HC0_0.out); (case side3 => exact aC); (case side4 => exact HC0_1.out); rintro e w22 ⟨v189, v192, rfl, ho0, ho1, hb⟩; refine ⟨_, rfl, ?_⟩; have n0_ := aM (Kd.R_lower (Kd.R_newM (M := fun k_ => (w.heap.size ≤ k_)) ho0 (below_size aG) (fun k_ h_ => h_)) (below_size aG)); have n1_ := aM (Kd.N_lower (Kd.N_mono (ok' := fun k_ => (w.heap.size ≤ k_) ∧ some k_ ≠ (v189 : Value).ownBlock ∧ k_ ≠ gb184 ∧ k_ ≠ gb185) (Kd.S_N (Kd.S_bound (Kd.S_apart' ho1 (Kd.R_typed ho0) (by decide)))) (fun k_ hk_ => ⟨(Nat.le_trans (below_size aG) hk_.2.1), hk_.1.2, (Kd.freshB (g := gb184) (o := .cells #[.slice A0_0 l0_0.length c0_0, .slice A0_1 l0_1.length c0_1] 27 (0, 0)) aK k_ hk_.2.1), (Kd.freshB (g := gb185) (o := .cells #[.slice none 0 0, .slice none 0 0] 27 (0, 0)) aK k_ hk_.2.1)⟩)) (below_size aG)); have n2_ := aM (kB gb184 #[.slice A0_0 l0_0.length c0_0, .slice A0_1 l0_1.length c0_1] 27 hb); have n3_ := aM (kB gb185 #[.slice none 0 0, .slice none 0 0] 27 hb); have n4_ := aM (below_step aG hb); clear BK184; clear BK185; clear HB; have HO190 := n0_; have HO193 := n1_; have BK184 := n2_; have BK185 := n3_; have HB := n4_; clear n0_ n1_ n2_ n3_ n4_; (try clear hb); (try clear hb2); (try clear hk); (try clear hi); (try clear ho0); (try clear ho1)) | ((with_reducible refine gate_dst (N := 6) rfl ?_); (try (refine gate_guard (by rfl) ?_; dsimp only)); refine bE 6 (cs := #[.slice none 0 0, .slice none 0 0]) (t := 27) ?_; intro gb194 hg w23 hbox hb; have n0_ := aM (Kd.R_below (aR HO190) hb); have n1_ := aM (Kd.N_below (Kd.N_elderB (aN HO193) gb194 (Nat.le_of_eq hg.symm)) hb); have n2_ := aM (kB gb184 #[.slice A0_0 l0_0.length c0_0, .slice A0_1 l0_1.length c0_1] 27 hb); have n3_ := aM (kB gb185 #[.slice none 0 0, .slice none 0 0] 27 hb); have n4_ := aM (below_step aG hb); have n5_ := aM (hbox); have n6_ := aM ((by rw [hg]; exact (below_size aG) : w.heap.size ≤ gb194)); have n7_ := aM ((by rw [hg]; exact (below_size aG) : w.heap.size ≤ gb194)); have n8_ := aM ((by rw [hg]; exact Nat.ne_of_lt (blk_lt (g := gb184) (o := .cells #[.slice A0_0 l0_0.length c0_0, .slice A0_1 l0_1.length c0_1] 27 (0, 0)) aK) : gb184 ≠ gb194)); have n9_ := aM ((by rw [hg]; exact Nat.ne_of_gt (blk_lt (g := gb184) (o := .cells #[.slice A0_0 l0_0.length c0_0, .slice A0_1 l0_1.length c0_1] 27 (0, 0)) aK) : gb194 ≠ gb184)); have n10_ := aM ((by rw [hg]; exact Nat.ne_of_lt (blk_lt (g := gb185) (o := .cells #[.slice none 0 0, .slice none 0 0] 27 (0, 0)) aK) : gb185 ≠ gb194)); have n11_ := aM ((by rw [hg]; exact Nat.ne_of_gt (blk_lt (g := gb185) (o := .cells #[.slice none 0 0, .slice none 0 0] 27 (0, 0)) aK) : gb194 ≠ gb185)); clear HO190; clear HO193; clear BK184; clear BK185; clear HB; have HO190 := n0_; have HO193 := n1_; have BK184 := n2_; have BK185 := n3_; have HB := n4_; have BK194 := n5_; have GW194 := n6_; have GE194 := n7_; have NB184_194 := n8_; have NB194_184 := n9_; have NB185_194 := n10_; have NB194_185 := n11_; clear n0_ n1_ n2_ n3_ n4_ n5_ n6_ n7_ n8_ n9_ n10_ n11_; clear hb hbox hg; obtain ⟨Ao24, co24, eo24⟩ := Kd.R_slice HO190.out; subst eo24; have hnb25 := NB194_184.out; have hnc25 := NB184_194.out; have hnb26 := NB194_185.out; have hnc26 := NB185_194.out; have hcz27_0 : w23.cell? ⟨gb194, 0, none⟩ = some (.slice none 0 0) := (blk_cell BK194.out 0).trans rfl; have hcz27_1 : w23.cell? ⟨gb194, 1, none⟩ = some (.slice none 0 0) := (blk_cell BK194.out 1).trans rfl; have hfz27_0 := blk_frozen BK194.out 0; have hfz27_1 := blk_frozen BK194.out 1; obtain ⟨Ao28, co28, eo28⟩ := Kd.N_slice HO193.out; subst eo28) | ((with_reducible refine gate_dst (N := 7) rfl ?_); (try (refine gate_guard (by rfl) ?_; dsimp only)); refine bE 7 (cs := #[.slice none 0 0, .slice none 0 0]) (t := 27) ?_; intro gb195 hg w29 hbox hb; have BK195 := aM (hbox); have GW195 := aM ((by rw [hg]; exact (below_size aG) : w.heap.size ≤ gb195)); have GE195 := aM ((by rw [hg]; exact (below_size aG) : w.heap.size ≤ gb195)); have NB184_195 := aM ((by rw [hg]; exact Nat.ne_of_lt (blk_lt (g := gb184) (o := .cells #[.slice A0_0 l0_0.length c0_0, .slice A0_1 l0_1.length c0_1] 27 (0, 0)) (by (with_reducible repeat refine pB ?_); refine blk_far ?_ NB184_194.out _; (with_reducible repeat refine pB ?_); refine blk_far ?_ NB184_194.out _; (with_reducible repeat refine pB ?_); exact BK184.out)) : gb184 ≠ gb195)); have NB195_184 := aM ((by rw [hg]; exact Nat.ne_of_gt (blk_lt (g := gb184) (o := .cells #[.slice A0_0 l0_0.length c0_0, .slice A0_1 l0_1.length c0_1] 27 (0, 0)) (by (with_reducible repeat refine pB ?_); refine blk_far ?_ NB184_194.out _; (with_reducible repeat refine pB ?_); refine blk_far ?_ NB184_194.out _; (with_reducible repeat refine pB ?_); exact BK184.out)) : gb195 ≠ gb184)); have NB185_195 := aM ((by rw [hg]; exact Nat.ne_of_lt (blk_lt (g := gb185) (o := .cells #[.slice none 0 0, .slice none 0 0] 27 (0, 0)) (by (with_reducible repeat refine pB ?_); refine blk_far ?_ NB185_194.out _; (with_reducible repeat refine pB ?_); refine blk_far ?_ NB185_194.out _; (with_reducible repeat refine pB ?_); exact BK185.out)) : gb185 ≠ gb195)); have NB195_185 := aM ((by rw [hg]; exact Nat.ne_of_gt (blk_lt (g := gb185) (o := .cells #[.slice none 0 0, .slice none 0 0] 27 (0, 0)) (by (with_reducible repeat refine pB ?_); refine blk_far ?_ NB185_194.out _; (with_reducible repeat refine pB ?_); refine blk_far ?_ NB185_194.out _; (with_reducible repeat refine pB ?_); exact BK185.out)) : gb195 ≠ gb185)); have NB194_195 := aM ((by rw [hg]; exact Nat.ne_of_lt (blk_lt (g := gb194) (o := .cells #[.slice Ao24 t188.length co24, .slice Ao28 t191.length co28] 27 (0, 0)) (by (with_reducible repeat refine pB ?_); refine blk_put (cs := #[.slice Ao24 t188.length co24, .slice none 0 0]) ?_ 1 _ rfl; (with_reducible repeat refine pB ?_); refine blk_put (cs := #[.slice none 0 0, .slice none 0 0]) ?_ 0 _ rfl; (with_reducible repeat refine pB ?_); exact BK194.out)) : gb194 ≠ gb195)); have NB195_194 := aM ((by rw [hg]; exact Nat.ne_of_gt (blk_lt (g := gb194) (o := .cells #[.slice Ao24 t188.length co24, .slice Ao28 t191.length co28] 27 (0, 0)) (by (with_reducible repeat refine pB ?_); refine blk_put (cs := #[.slice Ao24 t188.length co24, .slice none 0 0]) ?_ 1 _ rfl; (with_reducible repeat refine pB ?_); refine blk_put (cs := #[.slice none 0 0, .slice none 0 0]) ?_ 0 _ rfl; (with_reducible repeat refine pB ?_); exact BK194.out)) : gb195 ≠ gb194)); replace HO190 := aM (Kd.R_below (by (with_reducible repeat apply pR); exact (Kd.R_mono (Kd.R_far (p := ⟨gb194, 1, none⟩) (Kd.R_far (p := ⟨gb194, 0, none⟩) (Kd.R_types HO190.out BK194.out (by decide)) (fun _ hk => hk.2) (.slice Ao24 t188.length co24)) (fun _ hk => hk.2) (.slice Ao28 t191.length co28)) (fun _ h_ => h_.1))) hb); replace HO193 := aM (Kd.N_below (Kd.N_elderB (by (with_reducible repeat apply pN); exact (Kd.N_mono (Kd.N_far (p := ⟨gb194, 1, none⟩) (Kd.N_far (p := ⟨gb194, 0, none⟩) (Kd.N_mono HO193.out (fun k_ hk => (⟨hk, hk.2⟩ : _ ∧ k_ ≠ gb194))) (fun _ hk => hk.2) (.slice Ao24 t188.length co24)) (fun _ hk => hk.2) (.slice Ao28 t191.length co28)) (fun _ h_ => h_.1))) gb195 (Nat.le_of_eq hg.symm)) hb); replace BK184 := aM (blk_below (g := gb184) (o := .cells #[.slice A0_0 l0_0.length c0_0, .slice A0_1 l0_1.length c0_1] 27 (0, 0)) (by (with_reducible repeat refine pB ?_); refine blk_far ?_ NB184_194.out _; (with_reducible repeat refine pB ?_); refine blk_far ?_ NB184_194.out _; (with_reducible repeat refine pB ?_); exact BK184.out) hb); replace BK185 := aM (blk_below (g := gb185) (o := .cells #[.slice none 0 0, .slice none 0 0] 27 (0, 0)) (by (with_reducible repeat refine pB ?_); refine blk_far ?_ NB185_194.out _; (with_reducible repeat refine pB ?_); refine blk_far ?_ NB185_194.out _; (with_reducible repeat refine pB ?_); exact BK185.out) hb); replace BK194 := aM (blk_below (g := gb194) (o := .cells #[.slice Ao24 t188.length co24, .slice Ao28 t191.length co28] 27 (0, 0)) (by (with_reducible repeat refine pB ?_); refine blk_put (cs := #[.slice Ao24 t188.length co24, .slice none 0 0]) ?_ 1 _ rfl; (with_reducible repeat refine pB ?_); refine blk_put (cs := #[.slice none 0 0, .slice none 0 0]) ?_ 0 _ rfl; (with_reducible repeat refine pB ?_); exact BK194.out) hb); replace HB := aM (below_step aG hb); clear hb hbox hg; have hnb30 := NB195_184.out; have hnc30 := NB184_195.out; have hnb31 := NB195_185.out; have hnc31 := NB185_195.out; have hnb32 := NB195_194.out; have hnc32 := NB194_195.out; have hcz33_0 : w29.cell? ⟨gb195, 0, none⟩ = some (.slice none 0 0) := (blk_cell BK195.out 0).trans rfl; have hcz33_1 : w29.cell? ⟨gb195, 1, none⟩ = some (.slice none 0 0) := (blk_cell BK195.out 1).trans rfl; have hfz33_0 := blk_frozen BK195.out 0; have hfz33_1 := blk_frozen BK195.out 1))
    go_loopg [29] kj2 (fun kq v29 w' => ∃ (x29_2 : Int) (x196001_2 : List (S35)) (u196001 : Value), v29 = .int .i64 x29_2 ∧ Aside0 (impl_SelectFacts.l0 kq l1 (l1.length : Int) x29_2 t188 t191 t188 x196001_2 = some (r1, r2, r3)) ∧ Aside0 (kq ≤ kj2) ∧ Aside0 (Kd.R k70 70 w' w.heap.size (fun k_ => (w.heap.size ≤ k_)) (.slice Ao24 t188.length co24) t188) ∧ Aside0 (Kd.N k35 35 w' w.heap.size (fun k_ => (w.heap.size ≤ k_) ∧ some k_ ≠ ((.slice Ao24 t188.length co24) : Value).ownBlock ∧ some k_ ≠ ((.slice Ao24 t188.length co24) : Value).ownBlock ∧ some k_ ≠ (u196001 : Value).ownBlock ∧ k_ ≠ gb184 ∧ k_ ≠ gb185 ∧ k_ ≠ gb194 ∧ k_ ≠ gb195) (.slice Ao28 t191.length co28) t191) ∧ Aside0 (Kd.R k70 70 w' w.heap.size (fun k_ => (w.heap.size ≤ k_)) (.slice Ao24 t188.length co24) t188) ∧ Aside0 (Kd.N k35 35 w' w.heap.size (fun k_ => (w.heap.size ≤ k_) ∧ some k_ ≠ ((.slice Ao24 t188.length co24) : Value).ownBlock ∧ some k_ ≠ ((.slice Ao28 t191.length co28) : Value).ownBlock ∧ some k_ ≠ ((.slice Ao24 t188.length co24) : Value).ownBlock ∧ k_ ≠ gb184 ∧ k_ ≠ gb185 ∧ k_ ≠ gb194 ∧ k_ ≠ gb195) u196001 x196001_2) ∧ Aside0 (w'.heap[gb184]? = some (.cells #[(.slice A0_0 l0_0.length c0_0), (.slice A0_1 l0_1.length c0_1)] 27 (0, 0))) ∧ Aside0 (w'.heap[gb185]? = some (.cells #[(.slice none 0 0), (.slice none 0 0)] 27 (0, 0))) ∧ Aside0 (w'.heap[gb194]? = some (.cells #[(.slice Ao24 t188.length co24), (.slice Ao28 t191.length co28)] 27 (0, 0))) ∧ Aside0 (w'.heap[gb195]? = some (.cells #[(.slice Ao24 t188.length co24), u196001] 27 (0, 0))) ∧ Aside0 (Below w.heap.size w w'))
    case atStart => exact ⟨(0), (([] : List (S35))), (.slice none 0 0), aX, H', ⟨Nat.le_refl _⟩, ⟨by (with_reducible repeat apply pR); exact Kd.R_mono (Kd.R_far (p := ⟨gb195, 1, none⟩) (Kd.R_far (p := ⟨gb195, 0, none⟩) (Kd.R_types HO190.out BK195.out (by decide)) (fun _ hk => hk.2) (.slice Ao24 t188.length co24)) (fun _ hk => hk.2) (.slice none 0 0)) (fun _ hk => hk.1.1)⟩, ⟨by (with_reducible repeat apply pN); exact Kd.N_mono (Kd.N_far (p := ⟨gb195, 1, none⟩) (Kd.N_far (p := ⟨gb195, 0, none⟩) (Kd.N_mono HO193.out (fun k_ hk => (⟨hk, hk.2⟩ : _ ∧ k_ ≠ gb195))) (fun _ hk => hk.2) (.slice Ao24 t188.length co24)) (fun _ hk => hk.2) (.slice none 0 0)) (fun _ hk => ⟨hk.1.1.1.1, ⟨hk.1.1.1.2.1, ⟨hk.1.1.1.2.1, ⟨(by simp [Value.ownBlock]), ⟨hk.1.1.1.2.2.1, ⟨hk.1.1.1.2.2.2, ⟨hk.1.1.2, hk.1.2⟩⟩⟩⟩⟩⟩⟩)⟩, ⟨by (with_reducible repeat apply pR); exact Kd.R_mono (Kd.R_far (p := ⟨gb195, 1, none⟩) (Kd.R_far (p := ⟨gb195, 0, none⟩) (Kd.R_types HO190.out BK195.out (by decide)) (fun _ hk => hk.2) (.slice Ao24 t188.length co24)) (fun _ hk => hk.2) (.slice none 0 0)) (fun _ hk => hk.1.1)⟩, ⟨by first | exact Kd.S_nil _ _ _ _ _ | exact Kd.N_nil _ _ _ _ _ | exact Kd.V_nil _ _ _ _ _ | exact Kd.Q_nil _ _ _ _ _ | exact Kd.R_nil _ _ _ _ _⟩, ⟨by (with_reducible repeat refine pB ?_); refine blk_far ?_ NB184_195.out _; (with_reducible repeat refine pB ?_); refine blk_far ?_ NB184_195.out _; (with_reducible repeat refine pB ?_); exact BK184.out⟩, ⟨by (with_reducible repeat refine pB ?_); refine blk_far ?_ NB185_195.out _; (with_reducible repeat refine pB ?_); refine blk_far ?_ NB185_195.out _; (with_reducible repeat refine pB ?_); exact BK185.out⟩, ⟨by (with_reducible repeat refine pB ?_); refine blk_far ?_ NB194_195.out _; (with_reducible repeat refine pB ?_); refine blk_far ?_ NB194_195.out _; (with_reducible repeat refine pB ?_); exact BK194.out⟩, ⟨by (with_reducible repeat refine pB ?_); refine blk_put (cs := #[.slice Ao24 t188.length co24, .slice none 0 0]) ?_ 1 _ rfl; (with_reducible repeat refine pB ?_); refine blk_put (cs := #[.slice none 0 0, .slice none 0 0]) ?_ 0 _ rfl; (with_reducible repeat refine pB ?_); exact BK195.out⟩, ⟨aG⟩⟩
    case round =>
     clear H'
     try clear c1
     try clear c2
     try clear p2
     try clear c3
     try clear c4
     try clear c5
     try clear c7
     try clear c9
     try clear c13
     try clear c16
     try clear c17
     try clear c20
     try clear c25
     try clear c26
     try clear c30
     try clear c31
     try clear c32
     try clear hcz10_0
     try clear hcz10_1
     try clear hcz12_0
     try clear hcz12_1
     try clear hcz14_0
     try clear hcz14_1
     try clear hcz18_0
     try clear hcz18_1
     try clear hcz21_0
     try clear hcz21_1
     try clear hcz27_0
     try clear hcz27_1
     try clear hcz33_0
     try clear hcz33_1
     try clear hfz10_0
     try clear hfz10_1
     try clear hfz12_0
     try clear hfz12_1
     try clear hfz14_0
     try clear hfz14_1
     try clear hfz18_0
     try clear hfz18_1
     try clear hfz21_0
     try clear hfz21_1
     try clear hfz27_0
     try clear hfz27_1
     try clear hfz33_0
     try clear hfz33_1
     try clear p2
     obtain ⟨x29_2, x196001_2, u196001, rfl, HA, HK2, HO_195000, HO_195001, HO_196000, HO_196001, BK184, BK185, BK194, BK195, HB⟩ := hrel
     cases gk with
     | zero => exact absurd HA.out (by simp [impl_SelectFacts.l0])
     | succ k2 =>
      have H := HA.out
      clear HA
      simp only [impl_SelectFacts.l0] at H
      by_cases c34 : x29_2 < (l1.length : Int)
      ·rw [if_pos c34] at H
       have c34b0 : decide (x29_2 < (l1.length : Int)) = true := decide_eq_true c34
       clear c34
       by_cases c35 : 0 ≤ x29_2
       ·rw [if_pos c35] at H
        have c35b0 : decide (0 ≤ x29_2) = true := decide_eq_true c35
        clear c35
        by_cases c36 : x29_2 < (l1.length : Int)
        ·rw [if_pos c36] at H
         have c36b0 : decide (x29_2 < (l1.length : Int)) = true := decide_eq_true c36
         clear c36
         by_cases c37 : 0 ≤ (rd l1 x29_2)
         ·rw [if_pos c37] at H
          have c37b0 : decide (0 ≤ (rd l1 x29_2)) = true := decide_eq_true c37
          clear c37
          by_cases c38 : (rd l1 x29_2) < (t191.length : Int)
          ·rw [if_pos c38] at H
           have c38b0 : decide ((rd l1 x29_2) < (t191.length : Int)) = true := decide_eq_true c38
           clear c38
           by_cases c39 : x196001_2.length < 4398046511104
           ·rw [if_pos c39] at H
            have LMc39 := aM c39
            clear c39
            obtain ⟨y198, hy198⟩ : ∃ y_ : List (S35), y_ = (x196001_2 ++ [(⟨(rd_T35 t191 (rd l1 x29_2)).f0, (rd_T35 t191 (rd l1 x29_2)).f1⟩ : S35)]) := ⟨_, rfl⟩
            first | replace H := bY hy198 H | rw [← hy198] at H
            have Ny198 := aM hy198
            clear hy198
            have H' := aM H
            clear H
            have p196 : 0 ≤ (x29_2 : Int) := aD
            have q196 : x29_2 < (l1.length : Int) := aD
            obtain ⟨ad196, e196, hx196_0⟩ := Kd.at_int HR1.out x29_2 p196 q196
            cases e196
            replace hx196_0 := (HB.out.cell (World.block_lt_of_cell? w _ hx196_0)).trans hx196_0
            replace p196 := eq_true p196
            replace q196 := eq_true q196
            try go_wp2
            replace HO_195000 := aM (Kd.R_drew HO_195000.out)
            replace HO_195001 := aM (Kd.N_drew HO_195001.out)
            replace HO_196000 := aM (Kd.R_drew HO_196000.out)
            replace HO_196001 := aM (Kd.N_drew HO_196001.out)
            replace BK184 := aM (blk_drew BK184.out)
            replace BK185 := aM (blk_drew BK185.out)
            replace BK194 := aM (blk_drew BK194.out)
            replace BK195 := aM (blk_drew BK195.out)
            replace HB := aM (below_drew1 HB.out)
            have p197 : 0 ≤ ((rd l1 x29_2) : Int) := aD
            have q197 : (rd l1 x29_2) < (t191.length : Int) := aD
            obtain ⟨ad197, A197_1, c197_1, e197, hx197_0, hx197_1, hl197_1, hi197_1⟩ := at_T35 (Kd.N_reads' HO_195001.out).2.2 (rd l1 x29_2) p197 q197
            cases e197
            obtain ⟨ce197, hce197, hMe197, hcc197⟩ := Kd.N_get HO_195001.out z35 (rd l1 x29_2) p197 (by first | exact q197 | exact aD | (have e_ := (Kd.N_reads' HO_195001.out).1; omega))
            obtain ⟨ua197_1, uc197_1, rfl, ul197_1, ge197_1⟩ := k35_openF hMe197
            have hv197_1 := hcc197 1 _ rfl
            rw [add_field _ _ 1 (by omega)] at hv197_1
            replace hv197_1 := Option.some.inj (hv197_1.symm.trans hx197_1)
            injection hv197_1 with hva_ hvn_ hvc_
            rw [hva_] at ge197_1
            rw [hvc_] at ul197_1
            have HL197_1 := aM (show Kd.V (Kd.int .i64) 3 _ w.heap.size _ _ ((rd_T35 t191 (rd l1 x29_2)).f1) from Kd.V_mk ul197_1 ge197_1)
            clear hva_ hvn_ hvc_ ge197_1 ul197_1
            clear hcc197 hce197
            have HR197_1 := aM hi197_1
            have HC197_1 := aM hl197_1
            clear hi197_1 hl197_1
            replace p197 := eq_true p197
            replace q197 := eq_true q197
            refine start_ (n := 11) (S := fun w' => w'.cell? ⟨gb195, 0, none⟩ = some (.slice Ao24 t188.length co24) ∧ w'.cell? ⟨gb195, 1, none⟩ = some (u196001) ∧ w'.cell? ⟨gb194, 0, none⟩ = some (.slice Ao24 t188.length co24) ∧ w'.cell? ⟨gb194, 1, none⟩ = some (.slice (some ad197) t191.length co28) ∧ w'.cell? (ad197.add (((rd l1 x29_2)).toNat * 2)) = some (.int .i64 ((rd_T35 t191 (rd l1 x29_2)).f0)) ∧ w'.cell? ⟨(ad197.add (((rd l1 x29_2)).toNat * 2)).block, (ad197.add (((rd l1 x29_2)).toNat * 2)).off + 1, none⟩ = some (.slice A197_1 ((rd_T35 t191 (rd l1 x29_2)).f1).length c197_1)) (ds := [8, 10]) #[false, false, false, false, false, false, false, false, false, false, false] (by kernel_rfl) rfl rfl ⟨(blk_cell BK195.out 0).trans rfl, (blk_cell BK195.out 1).trans rfl, (blk_cell BK194.out 0).trans rfl, (blk_cell BK194.out 1).trans rfl, hx197_0, hx197_1⟩ (fun hHeld => ?_); refine with_tabW impl_SelectFacts.tab8 impl_SelectFacts.bits8 (fun HT_ HW_ => ?_)
            generalize wr.drew = w40 at HO_195000 HO_195001 HO_196000 HO_196001 BK184 BK185 BK194 BK195 HB HL197_1 HR197_1 hx197_0 hx197_1 hHeld ⊢
            refine pU 0 33 ?_
            refine pU 2 35 ?_
            refine pU 4 37 ?_
            refine tU6 1 34 hHeld ?_
            refine tU6 3 36 hHeld ?_
            refine pU 5 38 ?_
            refine tU6 6 39 hHeld ?_
            refine oU 7 40 (fun K hK => ?_)
            refine value_ (w1 := ?_) (v := ?_) (by rfl) rfl ?_ ?_
            rotate_left 2
            ·go_simp
             constructor
             ·rfl
             ·rfl
            refine hK.out _ _ ⟨(blk_cell (blk_alloc BK195.out _) 0).trans rfl, (blk_cell (blk_alloc BK195.out _) 1).trans rfl, (blk_cell (blk_alloc BK194.out _) 0).trans rfl, (blk_cell (blk_alloc BK194.out _) 1).trans rfl, (World.cell?_alloc_lt _ _ _ (World.block_lt_of_cell? _ _ (hHeld.2.2.2.2.1))).trans (hHeld.2.2.2.2.1), (World.cell?_alloc_lt _ _ _ (World.block_lt_of_cell? _ _ (hHeld.2.2.2.2.2))).trans (hHeld.2.2.2.2.2)⟩ (fun hHeld => ?_)
            clear hK K
            refine nU 40 ?_
            refine last_ (i := 8) (N := some 41) #[true, true, true, true, true, true, true, true, true, false, false] rfl rfl (one_of HT_.out (by kernel_rfl)) (by decide) (fun K hK => ?_)
            refine Kd.N_append_step k35 (w0 := w) w.heap.size (by rfl) (.tmp 34) (.tmp 40) 25 35 (.agg #[(.int .i64 0), (.slice none 0 0)]) 32 rfl Try.underlying25 info35 rfl (by decide) (by omega) u196001 x196001_2 (⟨(rd_T35 t191 (rd l1 x29_2)).f0, (rd_T35 t191 (rd l1 x29_2)).f1⟩ : S35) [.int .i64 ((rd_T35 t191 (rd l1 x29_2)).f0), .slice A197_1 ((rd_T35 t191 (rd l1 x29_2)).f1).length c197_1] (fun k_ => (w.heap.size ≤ k_) ∧ some k_ ≠ (.slice Ao24 t188.length co24 : Value).ownBlock ∧ some k_ ≠ (.slice (some ad197) t191.length co28 : Value).ownBlock ∧ some k_ ≠ (.slice Ao24 t188.length co24 : Value).ownBlock ∧ k_ ≠ gb184 ∧ k_ ≠ gb185 ∧ k_ ≠ gb194 ∧ k_ ≠ gb195) (fun k_ => ((fun k_ => (w.heap.size ≤ k_) ∧ some k_ ≠ (.slice Ao24 t188.length co24 : Value).ownBlock ∧ some k_ ≠ (.slice (some ad197) t191.length co28 : Value).ownBlock ∧ some k_ ≠ (.slice Ao24 t188.length co24 : Value).ownBlock ∧ k_ ≠ gb184 ∧ k_ ≠ gb185 ∧ k_ ≠ gb194 ∧ k_ ≠ gb195)) k_ ∧ some k_ ≠ (u196001 : Value).ownBlock) rfl rfl ?aP (fun _ hk => hk) ?aF ?aO ?aB ?aS ?aL ?_
            (case aP => exact (k35_mkF _ _ (⟨(rd_T35 t191 (rd l1 x29_2)).f0, (rd_T35 t191 (rd l1 x29_2)).f1⟩ : S35) (Kd.V_reads' (Kd.V_mono (ok' := (fun k_ => ((fun k_ => (w.heap.size ≤ k_) ∧ some k_ ≠ (.slice Ao24 t188.length co24 : Value).ownBlock ∧ some k_ ≠ (.slice (some ad197) t191.length co28 : Value).ownBlock ∧ some k_ ≠ (.slice Ao24 t188.length co24 : Value).ownBlock ∧ k_ ≠ gb184 ∧ k_ ≠ gb185 ∧ k_ ≠ gb194 ∧ k_ ≠ gb195)) k_ ∧ some k_ ≠ (u196001 : Value).ownBlock)) (HL197_1.out) (fun k_ hk => ⟨⟨hk.1.1, ⟨hk.1.2.1, ⟨hk.2, ⟨hk.1.2.2.1, ⟨hk.1.2.2.2.2.1, ⟨hk.1.2.2.2.2.2.1, ⟨hk.1.2.2.2.2.2.2.1, hk.1.2.2.2.2.2.2.2⟩⟩⟩⟩⟩⟩⟩, hk.1.2.2.2.1⟩))).2.1 (Kd.V_F (Kd.V_mono (ok' := (fun k_ => ((fun k_ => (w.heap.size ≤ k_) ∧ some k_ ≠ (.slice Ao24 t188.length co24 : Value).ownBlock ∧ some k_ ≠ (.slice (some ad197) t191.length co28 : Value).ownBlock ∧ some k_ ≠ (.slice Ao24 t188.length co24 : Value).ownBlock ∧ k_ ≠ gb184 ∧ k_ ≠ gb185 ∧ k_ ≠ gb194 ∧ k_ ≠ gb195)) k_ ∧ some k_ ≠ (u196001 : Value).ownBlock)) (HL197_1.out) (fun k_ hk => ⟨⟨hk.1.1, ⟨hk.1.2.1, ⟨hk.2, ⟨hk.1.2.2.1, ⟨hk.1.2.2.2.2.1, ⟨hk.1.2.2.2.2.2.1, ⟨hk.1.2.2.2.2.2.2.1, hk.1.2.2.2.2.2.2.2⟩⟩⟩⟩⟩⟩⟩, hk.1.2.2.2.1⟩)))))
            (case aB => exact aG)
            (case aF => exact (fun k_ hk => ⟨(Nat.le_trans (below_size aG) hk), Kd.fresh' (Kd.R_lt (aR HO_195000)) k_ hk, Kd.fresh' (Kd.N_lt (aN HO_195001)) k_ hk, Kd.fresh' (Kd.R_lt (aR HO_196000)) k_ hk, Kd.freshB (g := gb184) (o := .cells #[.slice A0_0 l0_0.length c0_0, .slice A0_1 l0_1.length c0_1] 27 (0, 0)) aK k_ hk, Kd.freshB (g := gb185) (o := .cells #[.slice none 0 0, .slice none 0 0] 27 (0, 0)) aK k_ hk, Kd.freshB (g := gb194) (o := .cells #[.slice Ao24 t188.length co24, .slice (some ad197) t191.length co28] 27 (0, 0)) aK k_ hk, Kd.freshB (g := gb195) (o := .cells #[.slice Ao24 t188.length co24, u196001] 27 (0, 0)) aK k_ hk⟩))
            (case aO => exact (aN HO_196001))
            (case aS => exact (below_size aG))
            (case aL => have := LMc39.out; omega)
            intro v199 w41 ho hb hg hat
            rw [← Ny198.out] at ho
            have n0_ := aM (Kd.R_over' (aR HO_195000) (Kd.N_typed (aN HO_196001)) (by decide) hg)
            have n1_ := aM (Kd.N_afterv (ok := (fun k_ => (w.heap.size ≤ k_) ∧ some k_ ≠ (.slice Ao24 t188.length co24 : Value).ownBlock ∧ some k_ ≠ (.slice Ao24 t188.length co24 : Value).ownBlock ∧ k_ ≠ gb184 ∧ k_ ≠ gb185 ∧ k_ ≠ gb194 ∧ k_ ≠ gb195)) (by (with_reducible repeat apply pN); exact Kd.N_mono HO_195001.out (fun _ hk => ⟨⟨hk.1, ⟨hk.2.1, ⟨hk.2.2.1, ⟨hk.2.2.2.2.1, ⟨hk.2.2.2.2.2.1, ⟨hk.2.2.2.2.2.2.1, hk.2.2.2.2.2.2.2⟩⟩⟩⟩⟩⟩, hk.2.2.2.1⟩)) hg hat)
            have n2_ := aM (Kd.R_over' (aR HO_196000) (Kd.N_typed (aN HO_196001)) (by decide) hg)
            have n3_ := aM (blk_grown (g := gb184) (o := .cells #[.slice A0_0 l0_0.length c0_0, .slice A0_1 l0_1.length c0_1] 27 (0, 0)) aK hg (Kd.N_ne HO_196001.out BK184.out (by decide)))
            have n4_ := aM (blk_grown (g := gb185) (o := .cells #[.slice none 0 0, .slice none 0 0] 27 (0, 0)) aK hg (Kd.N_ne HO_196001.out BK185.out (by decide)))
            have n5_ := aM (blk_grown (g := gb194) (o := .cells #[.slice Ao24 t188.length co24, .slice (some ad197) t191.length co28] 27 (0, 0)) aK hg (Kd.N_ne HO_196001.out BK194.out (by decide)))
            have n6_ := aM (blk_grown (g := gb195) (o := .cells #[.slice Ao24 t188.length co24, u196001] 27 (0, 0)) aK hg (Kd.N_ne HO_196001.out BK195.out (by decide)))
            have n7_ := aM (Kd.V_afterv (ok := (fun k_ => (w.heap.size ≤ k_) ∧ some k_ ≠ (.slice Ao24 t188.length co24 : Value).ownBlock ∧ some k_ ≠ (.slice (some ad197) t191.length co28 : Value).ownBlock ∧ some k_ ≠ (.slice Ao24 t188.length co24 : Value).ownBlock ∧ k_ ≠ gb184 ∧ k_ ≠ gb185 ∧ k_ ≠ gb194 ∧ k_ ≠ gb195)) (by (with_reducible repeat apply pV); exact Kd.V_mono HL197_1.out (fun _ hk => ⟨⟨hk.1.1, ⟨hk.1.2.1, ⟨hk.2, ⟨hk.1.2.2.1, ⟨hk.1.2.2.2.2.1, ⟨hk.1.2.2.2.2.2.1, ⟨hk.1.2.2.2.2.2.2.1, hk.1.2.2.2.2.2.2.2⟩⟩⟩⟩⟩⟩⟩, hk.1.2.2.2.1⟩)) hg hat)
            have n8_ := aM (hb)
            have n9_ := aM (ho)
            clear HO_195000
            clear HO_195001
            clear HO_196000
            clear BK184
            clear BK185
            clear BK194
            clear BK195
            clear HL197_1
            clear HB
            clear HO_196001
            have HO_195000 := n0_
            have HO_195001 := n1_
            have HO_196000 := n2_
            have BK184 := n3_
            have BK185 := n4_
            have BK194 := n5_
            have BK195 := n6_
            have HL197_1 := n7_
            have HB := n8_
            have HO200 := n9_
            clear n0_ n1_ n2_ n3_ n4_ n5_ n6_ n7_ n8_ n9_
            clear ho hb hg hat
            obtain ⟨Ao42, co42, eo42⟩ := Kd.N_slice HO200.out
            (first | subst eo42 | (injection eo42 with f1_ f2_ f3_; have f4_ := f1_.symm; have f5_ := f3_.symm; clear f1_ f2_ f3_; subst f4_; subst f5_))
            refine hK.out _ _ ?_
            clear hK K
            refine nU 41 ?_
            refine pU 9 42 ?_
            refine last_ (i := 10) (N := none) #[true, true, true, true, true, true, true, true, true, true, true] rfl rfl (one_of HT_.out (by kernel_rfl)) (by decide) (fun K hK => ?_)
            have hs43 : w41.cell? ⟨gb195, 1, none⟩ = some (u196001) := (blk_cell BK195.out 1).trans rfl
            have hfs43 := blk_frozen BK195.out 1
            have hns43_0 := NB184_195.out
            have hns43_1 := NB185_195.out
            have hns43_2 := NB194_195.out
            have hms43_0 := NB195_184.out
            have hms43_1 := NB195_185.out
            have hms43_2 := NB195_194.out
            refine skip_ (w1 := ?_) (by rfl) rfl ?_ ?_
            rotate_left
            ·go_simp
             rfl
            refine hK.out _ _ ?_
            clear hK K
            refine done_ (done_of HT_.out (by kernel_rfl)) ?_
            try go_wp2
            go_roundg k2
            case measure => have := HJ2.out; have := HK2.out; omega
            case rel => exact ⟨(wrap64 (x29_2 + 1)), (y198), (.slice Ao42 y198.length co42), aX, H', ⟨by have := HJ2.out; have := HK2.out; omega⟩, ⟨by (with_reducible repeat apply pR); exact Kd.R_mono (Kd.R_far (p := ⟨gb195, 1, none⟩) (Kd.R_types HO_195000.out BK195.out (by decide)) (fun _ hk => hk.2) (.slice Ao42 y198.length co42)) (fun _ hk => hk.1)⟩, ⟨by (with_reducible repeat apply pN); exact Kd.N_mono (Kd.N_far (p := ⟨gb195, 1, none⟩) (Kd.N_mono HO_195001.out (fun k_ hk => (⟨hk, hk.1.2.2.2.2.2.2⟩ : _ ∧ k_ ≠ gb195))) (fun _ hk => hk.2) (.slice Ao42 y198.length co42)) (fun _ hk => ⟨hk.1.1.1, ⟨hk.1.1.2.1, ⟨hk.1.1.2.2.1, ⟨hk.1.2, ⟨hk.1.1.2.2.2.1, ⟨hk.1.1.2.2.2.2.1, ⟨hk.1.1.2.2.2.2.2.1, hk.1.1.2.2.2.2.2.2⟩⟩⟩⟩⟩⟩⟩)⟩, ⟨by (with_reducible repeat apply pR); exact Kd.R_mono (Kd.R_far (p := ⟨gb195, 1, none⟩) (Kd.R_types HO_196000.out BK195.out (by decide)) (fun _ hk => hk.2) (.slice Ao42 y198.length co42)) (fun _ hk => hk.1)⟩, ⟨by (with_reducible repeat apply pN); exact Kd.N_mono (Kd.N_far (p := ⟨gb195, 1, none⟩) (Kd.N_mono HO200.out (fun k_ hk => (⟨hk, hk.2.2.2.2.2.2.2⟩ : _ ∧ k_ ≠ gb195))) (fun _ hk => hk.2) (.slice Ao42 y198.length co42)) (fun _ hk => ⟨hk.1.1, ⟨hk.1.2.1, ⟨hk.1.2.2.1, ⟨hk.1.2.2.2.1, ⟨hk.1.2.2.2.2.1, ⟨hk.1.2.2.2.2.2.1, ⟨hk.1.2.2.2.2.2.2.1, hk.1.2.2.2.2.2.2.2⟩⟩⟩⟩⟩⟩⟩)⟩, ⟨by (with_reducible repeat refine pB ?_); refine blk_far ?_ NB184_195.out _; (with_reducible repeat refine pB ?_); exact BK184.out⟩, ⟨by (with_reducible repeat refine pB ?_); refine blk_far ?_ NB185_195.out _; (with_reducible repeat refine pB ?_); exact BK185.out⟩, ⟨by (with_reducible repeat refine pB ?_); refine blk_far ?_ NB194_195.out _; (with_reducible repeat refine pB ?_); exact BK194.out⟩, ⟨by (with_reducible repeat refine pB ?_); refine blk_put (cs := #[.slice Ao24 t188.length co24, u196001]) ?_ 1 _ rfl; (with_reducible repeat refine pB ?_); exact BK195.out⟩, ⟨aG⟩⟩
           ·rw [if_neg c39] at H
            exact absurd H (by simp)
          ·rw [if_neg c38] at H
           exact absurd H (by simp)
         ·rw [if_neg c37] at H
          exact absurd H (by simp)
        ·rw [if_neg c36] at H
         exact absurd H (by simp)
       ·rw [if_neg c35] at H
        exact absurd H (by simp)
      ·rw [if_neg c34] at H
       have c34b0 : decide (x29_2 < (l1.length : Int)) = false := decide_eq_false c34
       clear c34
       simp only [Option.some.injEq, Prod.mk.injEq] at H
       obtain ⟨rfl, rfl, rfl⟩ := H
       have hnb44 := NB195_184.out
       have hnc44 := NB184_195.out
       have hnb45 := NB195_185.out
       have hnc45 := NB185_195.out
       have hnb46 := NB195_194.out
       have hnc46 := NB194_195.out
       have hcz47_0 : wr.cell? ⟨gb195, 0, none⟩ = some (.slice Ao24 t188.length co24) := (blk_cell BK195.out 0).trans rfl
       have hcz47_1 : wr.cell? ⟨gb195, 1, none⟩ = some (u196001) := (blk_cell BK195.out 1).trans rfl
       have hfz47_0 := blk_frozen BK195.out 0
       have hfz47_1 := blk_frozen BK195.out 1
       have hnb48 := NB185_184.out
       have hnc48 := NB184_185.out
       have hnb49 := NB185_194.out
       have hnc49 := NB194_185.out
       have hcz50_0 : wr.cell? ⟨gb185, 0, none⟩ = some (.slice none 0 0) := (blk_cell BK185.out 0).trans rfl
       have hcz50_1 : wr.cell? ⟨gb185, 1, none⟩ = some (.slice none 0 0) := (blk_cell BK185.out 1).trans rfl
       have hfz50_0 := blk_frozen BK185.out 0
       have hfz50_1 := blk_frozen BK185.out 1
       obtain ⟨Ao51, co51, eo51⟩ := Kd.N_slice HO_196001.out
       subst eo51
       go_wp2
       refine bodyPost_ret (results_ct rfl _ _ gb185 27 #[.slice Ao24 t188.length co24, .slice Ao51 x196001_2.length co51] (0, 0) _ rfl (by (with_reducible repeat refine pB ?_); refine blk_put (cs := #[.slice Ao24 t188.length co24, .slice none 0 0]) ?_ 1 _ rfl; (with_reducible repeat refine pB ?_); refine blk_put (cs := #[.slice none 0 0, .slice none 0 0]) ?_ 0 _ rfl; (with_reducible repeat refine pB ?_); exact BK185.out) Try.underlying27 rfl (by kernel_rfl)) rfl ?_
       exact ⟨_, _, aE, by (with_reducible repeat apply pR); exact Kd.R_mono (Kd.R_far (p := ⟨gb185, 1, none⟩) (Kd.R_far (p := ⟨gb185, 0, none⟩) (Kd.R_types HO_196000.out BK185.out (by decide)) (fun _ hk => hk.2) (.slice Ao24 t188.length co24)) (fun _ hk => hk.2) (.slice Ao51 x196001_2.length co51)) (fun _ hk => hk.1), by (with_reducible repeat apply pN); exact Kd.N_mono (Kd.N_far (p := ⟨gb185, 1, none⟩) (Kd.N_far (p := ⟨gb185, 0, none⟩) (Kd.N_mono HO_196001.out (fun k_ hk => (⟨hk, hk.2.2.2.2.2.1⟩ : _ ∧ k_ ≠ gb185))) (fun _ hk => hk.2) (.slice Ao24 t188.length co24)) (fun _ hk => hk.2) (.slice Ao51 x196001_2.length co51)) (fun _ hk => ⟨hk.1.1, hk.1.2.2.2.1⟩), aG⟩

/-! ### impl_IsPartialRepair: function 29 -/
def impl_IsPartialRepair.f (k : Nat) (l0_0 : List (S70)) (l0_1 : List (S35)) (l1 : List Int) : Option (Bool) := (impl_SelectFacts.f k l0_0 l0_1 l1).bind fun bt202 => (if bt202.2.2 = true then ((impl_IsConsistent.f k bt202.1 bt202.2.1).bind fun t210 => (some t210)) else (some false))
set_option maxHeartbeats 8000000 in
set_option maxRecDepth 100000 in
theorem impl_IsPartialRepair.calls (k : Nat) (A0_0 : Option Addr) (c0_0 : Nat) (l0_0 : List (S70)) (A0_1 : Option Addr) (c0_1 : Nat) (l0_1 : List (S35)) (A1 : Option Addr) (c1 : Nat) (l1 : List Int) (r : Bool) (w : World) (hr0_0 : Kd.C k70 w A0_0 l0_0.length l0_0) (hc0_0 : l0_0.length ≤ c0_0) (hr0_1 : Kd.C k35 w A0_1 l0_1.length l0_1) (hc0_1 : l0_1.length ≤ c0_1) (hr1 : Kd.C (Kd.int .i64) w A1 l1.length l1) (hc1 : l1.length ≤ c1) (h : impl_IsPartialRepair.f k l0_0 l0_1 l1 = some r) :
  Calls Try.prog 29 #[.agg #[.slice A0_0 l0_0.length c0_0, .slice A0_1 l0_1.length c0_1], .slice A1 l1.length c1] w fun e w' => e = .returned (.bool r) ∧ Below w.heap.size w w' := by
 have hu27 := Try.underlying27
 have HR0_0 := aM hr0_0
 have HC0_0 := aM hc0_0
 clear hr0_0 hc0_0
 have HR0_1 := aM hr0_1
 have HC0_1 := aM hc0_1
 clear hr0_1 hc0_1
 have HR1 := aM hr1
 have HC1 := aM hc1
 clear hr1 hc1
 have HB := aM (Below.refl w.heap.size w)
 have H : ((impl_SelectFacts.f k l0_0 l0_1 l1).bind fun bt202 => (if bt202.2.2 = true then ((impl_IsConsistent.f k bt202.1 bt202.2.1).bind fun t210 => (some t210)) else (some false))) = some r := h
 clear h
 replace H := bM H
 obtain ⟨⟨t202, t205, t208⟩, A30, H⟩ := H
 dsimp only at H
 have A3 := aM A30
 clear A30
 by_cases c4 : t208 = true
 ·subst c4
  replace H := iT H
  replace H := bM H
  obtain ⟨t210, A50, H⟩ := H
  have A5 := aM A50
  clear A50
  obtain rfl := Option.some.inj H
  go_enter Try.func29, Try.ntmps29
  go_wp2_with (first | ((with_reducible refine gate_dst (N := 2) rfl ?_); refine bE 2 (cs := #[.slice A0_0 l0_0.length c0_0, .slice A0_1 l0_1.length c0_1]) (t := 27) ?_; intro gb201 hg w6 hbox hb; have BK201 := aM (hbox); have GW201 := aM ((by rw [hg]; exact (below_size aB) : w.heap.size ≤ gb201)); have GE201 := aM ((by rw [hg]; exact (below_size aB) : w.heap.size ≤ gb201)); replace HB := aM (below_step aB hb); clear hb hbox hg; have hcz7_0 : w6.cell? ⟨gb201, 0, none⟩ = some (.slice A0_0 l0_0.length c0_0) := (blk_cell BK201.out 0).trans rfl; have hcz7_1 : w6.cell? ⟨gb201, 1, none⟩ = some (.slice A0_1 l0_1.length c0_1) := (blk_cell BK201.out 1).trans rfl; have hfz7_0 := blk_frozen BK201.out 0; have hfz7_1 := blk_frozen BK201.out 1) | ((with_reducible refine gate_callee (f := 40) rfl ?_); refine goesL_ (some 10) rfl rfl Try.func40 (by kernel_rfl) rfl #[.agg #[.slice A0_0 l0_0.length c0_0, .slice A0_1 l0_1.length c0_1], .slice A1 l1.length c1] rfl aA ?_; (with_reducible refine (impl_SelectFacts.calls k _ _ l0_0 _ _ l0_1 _ _ l1 t202 t205 true _ ?side1 ?side2 ?side3 ?side4 ?side5 ?side6 A3.out).mono ?_); (case side1 => exact aC); (case side2 => exact HC0_0.out); (case side3 => exact aC); (case side4 => exact HC0_1.out); (case side5 => exact aC); (case side6 => exact HC1.out); rintro e w8 ⟨v203, v206, rfl, ho0, ho1, hb⟩; refine ⟨_, rfl, ?_⟩; have HO204 := aM (Kd.R_lower (Kd.R_mono (ok' := fun k_ => True) ho0 (fun _ hk_ => trivial)) (below_size aG)); have HO207 := aM (Kd.N_lower (Kd.N_mono (ok' := fun k_ => some k_ ≠ (v203 : Value).ownBlock ∧ k_ ≠ gb201) ho1 (fun k_ hk_ => ⟨hk_.2, (Kd.freshB (g := gb201) (o := .cells #[.slice A0_0 l0_0.length c0_0, .slice A0_1 l0_1.length c0_1] 27 (0, 0)) aK k_ hk_.1)⟩)) (below_size aG)); replace BK201 := aM (kB gb201 #[.slice A0_0 l0_0.length c0_0, .slice A0_1 l0_1.length c0_1] 27 hb); replace HB := aM (below_step aG hb); (try clear hb); (try clear hb2); (try clear hk); (try clear hi); (try clear ho0); (try clear ho1)) | ((with_reducible refine gate_dst (N := 5) rfl ?_); refine bE 5 (cs := #[.slice none 0 0, .slice none 0 0]) (t := 27) ?_; intro gb209 hg w9 hbox hb; have BK209 := aM (hbox); have GW209 := aM ((by rw [hg]; exact (below_size aG) : w.heap.size ≤ gb209)); have GE209 := aM ((by rw [hg]; exact (below_size aG) : w.heap.size ≤ gb209)); have NB201_209 := aM ((by rw [hg]; exact Nat.ne_of_lt (blk_lt (g := gb201) (o := .cells #[.slice A0_0 l0_0.length c0_0, .slice A0_1 l0_1.length c0_1] 27 (0, 0)) aK) : gb201 ≠ gb209)); have NB209_201 := aM ((by rw [hg]; exact Nat.ne_of_gt (blk_lt (g := gb201) (o := .cells #[.slice A0_0 l0_0.length c0_0, .slice A0_1 l0_1.length c0_1] 27 (0, 0)) aK) : gb209 ≠ gb201)); replace HO204 := aM (Kd.R_below (aR HO204) hb); replace HO207 := aM (Kd.N_below (Kd.N_elderB (aN HO207) gb209 (Nat.le_of_eq hg.symm)) hb); replace BK201 := aM (kB gb201 #[.slice A0_0 l0_0.length c0_0, .slice A0_1 l0_1.length c0_1] 27 hb); replace HB := aM (below_step aG hb); clear hb hbox hg; obtain ⟨Ao10, co10, eo10⟩ := Kd.R_slice HO204.out; subst eo10; have hnb11 := NB209_201.out; have hnc11 := NB201_209.out; have hcz12_0 : w9.cell? ⟨gb209, 0, none⟩ = some (.slice none 0 0) := (blk_cell BK209.out 0).trans rfl; have hcz12_1 : w9.cell? ⟨gb209, 1, none⟩ = some (.slice none 0 0) := (blk_cell BK209.out 1).trans rfl; have hfz12_0 := blk_frozen BK209.out 0; have hfz12_1 := blk_frozen BK209.out 1; obtain ⟨Ao13, co13, eo13⟩ := Kd.N_slice HO207.out; subst eo13) | (go_at_call 16; (with_reducible refine (impl_IsConsistent.calls k _ _ t202 _ _ t205 t210 _ ?side1 ?side2 ?side3 ?side4 A5.out).mono ?_); (case side1 => refine (Kd.R_reads' (e := 70) (base := w.heap.size) (ok := fun k_ => True) (n := t202.length) (c := co10) ?_).2.2; exact (by (with_reducible repeat apply pR); exact (Kd.R_mono (Kd.R_far (p := ⟨gb209, 1, none⟩) (Kd.R_far (p := ⟨gb209, 0, none⟩) (Kd.R_types HO204.out BK209.out (by decide)) (fun _ hk => hk.2) (.slice Ao10 t202.length co10)) (fun _ hk => hk.2) (.slice Ao13 t205.length co13)) (fun _ h_ => h_.1)))); (case side2 => exact (Kd.R_reads' HO204.out).2.1); (case side3 => refine (Kd.N_reads' (e := 35) (base := w.heap.size) (ok := fun k_ => ((some k_ ≠ (.slice Ao10 t202.length co10 : Value).ownBlock ∧ k_ ≠ gb201) ∧ k_ ≠ gb209)) (n := t205.length) (c := co13) ?_).2.2; exact (by (with_reducible repeat apply pN); exact (Kd.N_mono (Kd.N_far (p := ⟨gb209, 1, none⟩) (Kd.N_far (p := ⟨gb209, 0, none⟩) (Kd.N_mono HO207.out (fun k_ hk => (⟨hk, hk.2⟩ : _ ∧ k_ ≠ gb209))) (fun _ hk => hk.2) (.slice Ao10 t202.length co10)) (fun _ hk => hk.2) (.slice Ao13 t205.length co13)) (fun _ h_ => h_.1)))); (case side4 => exact (Kd.N_reads' HO207.out).2.1); rintro e w14 ⟨rfl, hb⟩; replace HO204 := aM (Kd.R_below (by (with_reducible repeat apply pR); exact (Kd.R_mono (Kd.R_far (p := ⟨gb209, 1, none⟩) (Kd.R_far (p := ⟨gb209, 0, none⟩) (Kd.R_types HO204.out BK209.out (by decide)) (fun _ hk => hk.2) (.slice Ao10 t202.length co10)) (fun _ hk => hk.2) (.slice Ao13 t205.length co13)) (fun _ h_ => h_.1))) hb); replace HO207 := aM (Kd.N_below (by (with_reducible repeat apply pN); exact (Kd.N_mono (Kd.N_far (p := ⟨gb209, 1, none⟩) (Kd.N_far (p := ⟨gb209, 0, none⟩) (Kd.N_mono HO207.out (fun k_ hk => (⟨hk, hk.2⟩ : _ ∧ k_ ≠ gb209))) (fun _ hk => hk.2) (.slice Ao10 t202.length co10)) (fun _ hk => hk.2) (.slice Ao13 t205.length co13)) (fun _ h_ => h_.1))) hb); replace BK201 := aM (blk_below (g := gb201) (o := .cells #[.slice A0_0 l0_0.length c0_0, .slice A0_1 l0_1.length c0_1] 27 (0, 0)) (by (with_reducible repeat refine pB ?_); refine blk_far ?_ NB201_209.out _; (with_reducible repeat refine pB ?_); refine blk_far ?_ NB201_209.out _; (with_reducible repeat refine pB ?_); exact BK201.out) hb); replace BK209 := aM (blk_below (g := gb209) (o := .cells #[.slice Ao10 t202.length co10, .slice Ao13 t205.length co13] 27 (0, 0)) (by (with_reducible repeat refine pB ?_); refine blk_put (cs := #[.slice Ao10 t202.length co10, .slice none 0 0]) ?_ 1 _ rfl; (with_reducible repeat refine pB ?_); refine blk_put (cs := #[.slice none 0 0, .slice none 0 0]) ?_ 0 _ rfl; (with_reducible repeat refine pB ?_); exact BK209.out) hb); replace HB := aM (below_step aG hb); (try clear hb); (try clear hb2); (try clear hk); (try clear hi)))
  go_ret
  exact ⟨aE, aG⟩
 ·replace c4 := Bool.eq_false_iff.mpr c4
  subst c4
  have H1 : (some false) = some r := by rw [if_neg (show ¬ (false = true) by decide)] at H; exact H
  clear H
  have H := H1
  clear H1
  obtain rfl := Option.some.inj H
  go_enter Try.func29, Try.ntmps29
  go_wp2_with (first | ((with_reducible refine gate_dst (N := 2) rfl ?_); refine bE 2 (cs := #[.slice A0_0 l0_0.length c0_0, .slice A0_1 l0_1.length c0_1]) (t := 27) ?_; intro gb201 hg w15 hbox hb; have BK201 := aM (hbox); have GW201 := aM ((by rw [hg]; exact (below_size aB) : w.heap.size ≤ gb201)); have GE201 := aM ((by rw [hg]; exact (below_size aB) : w.heap.size ≤ gb201)); replace HB := aM (below_step aB hb); clear hb hbox hg; have hcz16_0 : w15.cell? ⟨gb201, 0, none⟩ = some (.slice A0_0 l0_0.length c0_0) := (blk_cell BK201.out 0).trans rfl; have hcz16_1 : w15.cell? ⟨gb201, 1, none⟩ = some (.slice A0_1 l0_1.length c0_1) := (blk_cell BK201.out 1).trans rfl; have hfz16_0 := blk_frozen BK201.out 0; have hfz16_1 := blk_frozen BK201.out 1) | ((with_reducible refine gate_callee (f := 40) rfl ?_); refine goesL_ (some 10) rfl rfl Try.func40 (by kernel_rfl) rfl #[.agg #[.slice A0_0 l0_0.length c0_0, .slice A0_1 l0_1.length c0_1], .slice A1 l1.length c1] rfl aA ?_; (with_reducible refine (impl_SelectFacts.calls k _ _ l0_0 _ _ l0_1 _ _ l1 t202 t205 false _ ?side1 ?side2 ?side3 ?side4 ?side5 ?side6 A3.out).mono ?_); (case side1 => exact aC); (case side2 => exact HC0_0.out); (case side3 => exact aC); (case side4 => exact HC0_1.out); (case side5 => exact aC); (case side6 => exact HC1.out); rintro e w17 ⟨v203, v206, rfl, ho0, ho1, hb⟩; refine ⟨_, rfl, ?_⟩; have HO204 := aM (Kd.R_lower (Kd.R_mono (ok' := fun k_ => True) ho0 (fun _ hk_ => trivial)) (below_size aG)); have HO207 := aM (Kd.N_lower (Kd.N_mono (ok' := fun k_ => some k_ ≠ (v203 : Value).ownBlock ∧ k_ ≠ gb201) ho1 (fun k_ hk_ => ⟨hk_.2, (Kd.freshB (g := gb201) (o := .cells #[.slice A0_0 l0_0.length c0_0, .slice A0_1 l0_1.length c0_1] 27 (0, 0)) aK k_ hk_.1)⟩)) (below_size aG)); replace BK201 := aM (kB gb201 #[.slice A0_0 l0_0.length c0_0, .slice A0_1 l0_1.length c0_1] 27 hb); replace HB := aM (below_step aG hb); (try clear hb); (try clear hb2); (try clear hk); (try clear hi); (try clear ho0); (try clear ho1)) | ((with_reducible refine gate_dst (N := 5) rfl ?_); refine bE 5 (cs := #[.slice none 0 0, .slice none 0 0]) (t := 27) ?_; intro gb209 hg w18 hbox hb; have BK209 := aM (hbox); have GW209 := aM ((by rw [hg]; exact (below_size aG) : w.heap.size ≤ gb209)); have GE209 := aM ((by rw [hg]; exact (below_size aG) : w.heap.size ≤ gb209)); have NB201_209 := aM ((by rw [hg]; exact Nat.ne_of_lt (blk_lt (g := gb201) (o := .cells #[.slice A0_0 l0_0.length c0_0, .slice A0_1 l0_1.length c0_1] 27 (0, 0)) aK) : gb201 ≠ gb209)); have NB209_201 := aM ((by rw [hg]; exact Nat.ne_of_gt (blk_lt (g := gb201) (o := .cells #[.slice A0_0 l0_0.length c0_0, .slice A0_1 l0_1.length c0_1] 27 (0, 0)) aK) : gb209 ≠ gb201)); replace HO204 := aM (Kd.R_below (aR HO204) hb); replace HO207 := aM (Kd.N_below (Kd.N_elderB (aN HO207) gb209 (Nat.le_of_eq hg.symm)) hb); replace BK201 := aM (kB gb201 #[.slice A0_0 l0_0.length c0_0, .slice A0_1 l0_1.length c0_1] 27 hb); replace HB := aM (below_step aG hb); clear hb hbox hg; obtain ⟨Ao19, co19, eo19⟩ := Kd.R_slice HO204.out; subst eo19; have hnb20 := NB209_201.out; have hnc20 := NB201_209.out; have hcz21_0 : w18.cell? ⟨gb209, 0, none⟩ = some (.slice none 0 0) := (blk_cell BK209.out 0).trans rfl; have hcz21_1 : w18.cell? ⟨gb209, 1, none⟩ = some (.slice none 0 0) := (blk_cell BK209.out 1).trans rfl; have hfz21_0 := blk_frozen BK209.out 0; have hfz21_1 := blk_frozen BK209.out 1; obtain ⟨Ao22, co22, eo22⟩ := Kd.N_slice HO207.out; subst eo22))
  go_ret
  exact ⟨aE, aG⟩

/-! ### impl_IsRepair: function 31 -/
def impl_IsRepair.f (k : Nat) (l0_0 : List (S70)) (l0_1 : List (S35)) (l1 : List Int) : Option (Bool) := (impl_IsPartialRepair.f k l0_0 l0_1 l1).bind fun t212 => (if t212 = true then ((impl_Blocks.f k l0_0 l0_1).bind fun t213 => (some ((l1.length : Int) == (t213.length : Int)))) else (some false))
set_option maxHeartbeats 8000000 in
set_option maxRecDepth 100000 in
theorem impl_IsRepair.calls (k : Nat) (A0_0 : Option Addr) (c0_0 : Nat) (l0_0 : List (S70)) (A0_1 : Option Addr) (c0_1 : Nat) (l0_1 : List (S35)) (A1 : Option Addr) (c1 : Nat) (l1 : List Int) (r : Bool) (w : World) (hr0_0 : Kd.C k70 w A0_0 l0_0.length l0_0) (hc0_0 : l0_0.length ≤ c0_0) (hr0_1 : Kd.C k35 w A0_1 l0_1.length l0_1) (hc0_1 : l0_1.length ≤ c0_1) (hr1 : Kd.C (Kd.int .i64) w A1 l1.length l1) (hc1 : l1.length ≤ c1) (h : impl_IsRepair.f k l0_0 l0_1 l1 = some r) :
  Calls Try.prog 31 #[.agg #[.slice A0_0 l0_0.length c0_0, .slice A0_1 l0_1.length c0_1], .slice A1 l1.length c1] w fun e w' => e = .returned (.bool r) ∧ Below w.heap.size w w' := by
 have hu27 := Try.underlying27
 obtain ⟨W, hW⟩ : ∃ W, w.alloc (.cells #[.slice A0_0 l0_0.length c0_0, .slice A0_1 l0_1.length c0_1] 27) = W := ⟨_, rfl⟩
 have q0 := qa (w := W) (p := ⟨w.heap.size, 0, none⟩) (v := .slice A0_0 l0_0.length c0_0) (by subst hW; go_simp)
 have q1 := qa (w := W) (p := ⟨w.heap.size, 1, none⟩) (v := .slice A0_1 l0_1.length c0_1) (by subst hW; go_simp)
 have HB : Below w.heap.size w W := by subst hW; exact zB
 have HW := Below.refl W.heap.size W
 have hb := aM HB
 unfold impl_IsRepair.f at h
 replace h := bs h; obtain ⟨t212, B0, h⟩ := h
 replace h := ib h; rcases h with ⟨rfl, h⟩ | ⟨rfl, h⟩
 replace h := bs h; obtain ⟨t213, B2, h⟩ := h
 obtain rfl := si h
 rotate_left
 obtain rfl := si h
 rotate_left
 all_goals (go_enter Try.func31, Try.ntmps31; go_wp2_with (first | (go_at_call 29; refine (impl_IsPartialRepair.calls ?_ _ _ _ _ _ _ _ _ _ ?_ _ ?_ ?_ ?_ ?_ ?_ ?_ ?h).mono ?_; (case h => exact zA); (iterate 6 (first | exact zC | exact zA)); rintro e w1 ⟨rfl, hb⟩; replace hb := aM hb; have HW : Below W.heap.size W w1 := zB; have HB : Below w.heap.size w w1 := zB) | (go_at_call 9; refine (impl_Blocks.calls ?_ _ _ _ _ _ _ ?_ _ ?_ ?_ ?_ ?_ ?h).mono ?_; (case h => exact zA); (iterate 4 (first | exact zC | exact zA)); rintro e w1 ⟨v0, rfl, ho0, hb⟩; obtain ⟨A0, c0, rfl, hc0, hC0⟩ := Kd.R_reads (Kd.S_R ho0); replace hb := aM hb; have HW : Below W.heap.size W w1 := zB; have HB : Below w.heap.size w w1 := zB)); go_ret; exact zE zB)

/-! ### spec_l1In: function 70 -/
def spec_l1In.f (a0 : Int) (a1 : Int) (a2 : Int) : Option (Bool) := if a0 ≥ a1 then (some (decide (a0 ≤ a2))) else (some false)
set_option maxHeartbeats 8000000 in
set_option maxRecDepth 100000 in
theorem spec_l1In.calls (a0 : Int) (a1 : Int) (a2 : Int) (r : Bool) (w : World) (h : spec_l1In.f a0 a1 a2 = some r) :
  Calls Try.prog 70 #[.int .i64 a0, .int .i64 a1, .int .i64 a2] w fun e w' => e = .returned (.bool r) ∧ Drawn0 w w' := by
 unfold spec_l1In.f at h
 replace h := ih h; rcases h with ⟨c0, c0a, h⟩ | ⟨c0, c0a, h⟩
 obtain rfl := si h
 rotate_left
 obtain rfl := si h
 rotate_left
 all_goals (go_enter Try.func70, Try.ntmps70; go_wp2; go_ret; exact zE zD)

end Go.Proofs.Ytbdeimhlohhhiaa.PFnRepairEnumeration
