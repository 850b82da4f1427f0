import Derived.Test.YtbdeimhlohhhiaaPFnRepairEnumerationx0
import Derived.Test.YtbdeimhlohhhiaaPFnRepairEnumerationx1
import Derived.Test.YtbdeimhlohhhiaaPFnRepairEnumerationx2
import Derived.Test.YtbdeimhlohhhiaaPFnRepairEnumerationx4
namespace Go.Proofs.Ytbdeimhlohhhiaa.PFnRepairEnumeration
open Go.RowKit Go.Proofs.YtbdeimhlohhhiaaW.PrintWords Go.Proofs.YtbdeimhlohhhiaaW.PrintLast Go.Proofs.YtbdeimhlohhhiaaW.PrintMore
attribute [local go_sem] max2_int min2_int max_two min_two max_three min_three max_four min_four
set_option linter.unusedVariables false
set_option linter.unusedSimpArgs false

/-! ### impl_Blocks: function 9 -/
def impl_Blocks.f (k : Nat) (l0_0 : List (S70)) (l0_1 : List (S35)) : Option ((List (List Int))) := (impl_IsValidDatabase.f l0_0 l0_1).bind fun t149 => (if t149 = true then ((impl_blocks.f k l0_0 l0_1).bind fun t150 => (some t150)) else (some ([] : List (List Int))))
set_option maxHeartbeats 8000000 in
set_option maxRecDepth 100000 in
theorem impl_Blocks.calls (k : Nat) (A0_0 : Option Addr) (c0_0 : Nat) (l0_0 : List (S70)) (A0_1 : Option Addr) (c0_1 : Nat) (l0_1 : List (S35)) (r : List (List Int)) (w : World) (hr0_0 : Kd.C k70 w A0_0 l0_0.length l0_0) (hc0_0 : l0_0.length ≤ c0_0) (hr0_1 : Kd.C k35 w A0_1 l0_1.length l0_1) (hc0_1 : l0_1.length ≤ c0_1) (h : impl_Blocks.f k l0_0 l0_1 = some r) :
  Calls Try.prog 9 #[.agg #[.slice A0_0 l0_0.length c0_0, .slice A0_1 l0_1.length c0_1]] w fun e w' => ∃ v0_ : Value, e = .returned (v0_) ∧ Kd.S (Kd.slice 3 (Kd.int .i64)) 32 w' w.heap.size (fun _ => True) v0_ r ∧ Below w.heap.size w w' := by
 have hu27 := Try.underlying27
 have HR0_0 := aM hr0_0
 have HC0_0 := aM hc0_0
 clear hr0_0 hc0_0
 have HR0_1 := aM hr0_1
 have HC0_1 := aM hc0_1
 clear hr0_1 hc0_1
 have HB := aM (Below.refl w.heap.size w)
 have H : ((impl_IsValidDatabase.f l0_0 l0_1).bind fun t149 => (if t149 = true then ((impl_blocks.f k l0_0 l0_1).bind fun t150 => (some t150)) else (some ([] : List (List Int))))) = some r := h
 clear h
 replace H := bM H
 obtain ⟨t149, A20, H⟩ := H
 have A2 := aM A20
 clear A20
 by_cases c3 : t149 = true
 ·subst c3
  replace H := iT H
  replace H := bM H
  obtain ⟨t150, A40, H⟩ := H
  have A4 := aM A40
  clear A40
  obtain rfl := Option.some.inj H
  go_enter Try.func9, Try.ntmps9
  go_wp2_with (first | ((with_reducible refine gate_dst (N := 1) rfl ?_); refine bE 1 (cs := #[.slice A0_0 l0_0.length c0_0, .slice A0_1 l0_1.length c0_1]) (t := 27) ?_; intro gb148 hg w5 hbox hb; have BK148 := aM (hbox); have GW148 := aM ((by rw [hg]; exact (below_size aB) : w.heap.size ≤ gb148)); have GE148 := aM ((by rw [hg]; exact (below_size aB) : w.heap.size ≤ gb148)); replace HB := aM (below_step aB hb); clear hb hbox hg; have hcz6_0 : w5.cell? ⟨gb148, 0, none⟩ = some (.slice A0_0 l0_0.length c0_0) := (blk_cell BK148.out 0).trans rfl; have hcz6_1 : w5.cell? ⟨gb148, 1, none⟩ = some (.slice A0_1 l0_1.length c0_1) := (blk_cell BK148.out 1).trans rfl; have hfz6_0 := blk_frozen BK148.out 0; have hfz6_1 := blk_frozen BK148.out 1) | ((with_reducible refine gate_callee (f := 20) rfl ?_); refine goesL_ (some 4) rfl rfl Try.func20 (by kernel_rfl) rfl #[.agg #[.slice A0_0 l0_0.length c0_0, .slice A0_1 l0_1.length c0_1]] rfl aA ?_; (with_reducible refine (impl_IsValidDatabase.calls _ _ l0_0 _ _ l0_1 true _ ?side1 ?side2 ?side3 ?side4 A2.out).mono ?_); (case side1 => exact aC); (case side2 => exact HC0_0.out); (case side3 => exact aC); (case side4 => exact HC0_1.out); rintro e w7 ⟨rfl, hb⟩; refine ⟨_, rfl, ?_⟩; replace BK148 := aM (kB gb148 #[.slice A0_0 l0_0.length c0_0, .slice A0_1 l0_1.length c0_1] 27 hb); replace HB := aM (below_step aG hb); (try clear hb); (try clear hb2); (try clear hk); (try clear hi); have hcz8_0 : w7.cell? ⟨gb148, 0, none⟩ = some (.slice A0_0 l0_0.length c0_0) := (blk_cell BK148.out 0).trans rfl; have hcz8_1 : w7.cell? ⟨gb148, 1, none⟩ = some (.slice A0_1 l0_1.length c0_1) := (blk_cell BK148.out 1).trans rfl; have hfz8_0 := blk_frozen BK148.out 0; have hfz8_1 := blk_frozen BK148.out 1) | ((with_reducible refine gate_callee (f := 44) rfl ?_); refine goesL_ (some 7) rfl rfl Try.func44 (by kernel_rfl) rfl #[.agg #[.slice A0_0 l0_0.length c0_0, .slice A0_1 l0_1.length c0_1]] rfl aA ?_; (with_reducible refine (impl_blocks.calls k _ _ l0_0 _ _ l0_1 t150 _ ?side1 ?side2 ?side3 ?side4 A4.out).mono ?_); (case side1 => exact aC); (case side2 => exact HC0_0.out); (case side3 => exact aC); (case side4 => exact HC0_1.out); rintro e w9 ⟨v151, rfl, ho0, hb⟩; refine ⟨_, rfl, ?_⟩; have HO152 := aM (Kd.S_lower ho0 (below_size aG)); replace BK148 := aM (kB gb148 #[.slice A0_0 l0_0.length c0_0, .slice A0_1 l0_1.length c0_1] 27 hb); replace HB := aM (below_step aG hb); (try clear hb); (try clear hb2); (try clear hk); (try clear hi); (try clear ho0)))
  go_ret
  exact ⟨_, aE, aS HO152, aG⟩
 ·replace c3 := Bool.eq_false_iff.mpr c3
  subst c3
  have H1 : (some ([] : List (List Int))) = some r := by rw [if_neg (show ¬ (false = true) by decide)] at H; exact H
  clear H
  have H := H1
  clear H1
  obtain rfl := Option.some.inj H
  go_enter Try.func9, Try.ntmps9
  go_wp2_with (first | ((with_reducible refine gate_dst (N := 1) rfl ?_); refine bE 1 (cs := #[.slice A0_0 l0_0.length c0_0, .slice A0_1 l0_1.length c0_1]) (t := 27) ?_; intro gb148 hg w10 hbox hb; have BK148 := aM (hbox); have GW148 := aM ((by rw [hg]; exact (below_size aB) : w.heap.size ≤ gb148)); have GE148 := aM ((by rw [hg]; exact (below_size aB) : w.heap.size ≤ gb148)); replace HB := aM (below_step aB hb); clear hb hbox hg; have hcz11_0 : w10.cell? ⟨gb148, 0, none⟩ = some (.slice A0_0 l0_0.length c0_0) := (blk_cell BK148.out 0).trans rfl; have hcz11_1 : w10.cell? ⟨gb148, 1, none⟩ = some (.slice A0_1 l0_1.length c0_1) := (blk_cell BK148.out 1).trans rfl; have hfz11_0 := blk_frozen BK148.out 0; have hfz11_1 := blk_frozen BK148.out 1) | ((with_reducible refine gate_callee (f := 20) rfl ?_); refine goesL_ (some 4) rfl rfl Try.func20 (by kernel_rfl) rfl #[.agg #[.slice A0_0 l0_0.length c0_0, .slice A0_1 l0_1.length c0_1]] rfl aA ?_; (with_reducible refine (impl_IsValidDatabase.calls _ _ l0_0 _ _ l0_1 false _ ?side1 ?side2 ?side3 ?side4 A2.out).mono ?_); (case side1 => exact aC); (case side2 => exact HC0_0.out); (case side3 => exact aC); (case side4 => exact HC0_1.out); rintro e w12 ⟨rfl, hb⟩; refine ⟨_, rfl, ?_⟩; replace BK148 := aM (kB gb148 #[.slice A0_0 l0_0.length c0_0, .slice A0_1 l0_1.length c0_1] 27 hb); replace HB := aM (below_step aG hb); (try clear hb); (try clear hb2); (try clear hk); (try clear hi)))
  go_ret
  exact ⟨_, aE, by first | exact Kd.S_nil _ _ _ _ _ | exact Kd.N_nil _ _ _ _ _ | exact Kd.V_nil _ _ _ _ _ | exact Kd.Q_nil _ _ _ _ _ | exact Kd.R_nil _ _ _ _ _, aG⟩

/-! ### impl_IsConsistent: function 16 -/
def impl_IsConsistent.f (k : Nat) (l0_0 : List (S70)) (l0_1 : List (S35)) : Option (Bool) := (impl_IsValidDatabase.f l0_0 l0_1).bind fun t154 => (if t154 = true then ((impl_blocks.f k l0_0 l0_1).bind fun t155 => (some ((t155.length : Int) == (l0_1.length : Int)))) else (some false))
set_option maxHeartbeats 8000000 in
set_option maxRecDepth 100000 in
theorem impl_IsConsistent.calls (k : Nat) (A0_0 : Option Addr) (c0_0 : Nat) (l0_0 : List (S70)) (A0_1 : Option Addr) (c0_1 : Nat) (l0_1 : List (S35)) (r : Bool) (w : World) (hr0_0 : Kd.C k70 w A0_0 l0_0.length l0_0) (hc0_0 : l0_0.length ≤ c0_0) (hr0_1 : Kd.C k35 w A0_1 l0_1.length l0_1) (hc0_1 : l0_1.length ≤ c0_1) (h : impl_IsConsistent.f k l0_0 l0_1 = some r) :
  Calls Try.prog 16 #[.agg #[.slice A0_0 l0_0.length c0_0, .slice A0_1 l0_1.length c0_1]] w fun e w' => e = .returned (.bool r) ∧ Below w.heap.size w w' := by
 have hu27 := Try.underlying27
 obtain ⟨W, hW⟩ : ∃ W, w.alloc (.cells #[.slice A0_0 l0_0.length c0_0, .slice A0_1 l0_1.length c0_1] 27) = W := ⟨_, rfl⟩
 have q0 := qa (w := W) (p := ⟨w.heap.size, 0, none⟩) (v := .slice A0_0 l0_0.length c0_0) (by subst hW; go_simp)
 have q1 := qa (w := W) (p := ⟨w.heap.size, 1, none⟩) (v := .slice A0_1 l0_1.length c0_1) (by subst hW; go_simp)
 have HB : Below w.heap.size w W := by subst hW; exact zB
 have HW := Below.refl W.heap.size W
 have hb := aM HB
 have rg_ := @bcl w
 have rd_ := @bdr w
 have rG_ := @bcl W
 have rD_ := @bdr W
 unfold impl_IsConsistent.f at h
 replace h := bs h; obtain ⟨t154, B0, h⟩ := h
 replace h := ib h; rcases h with ⟨rfl, h⟩ | ⟨rfl, h⟩
 replace h := bs h; obtain ⟨t155, B2, h⟩ := h
 obtain rfl := si h
 rotate_left
 obtain rfl := si h
 rotate_left
 all_goals (go_enter Try.func16, Try.ntmps16; go_wp2; (repeat ((refine nw (w0 := w) zB ?_; intro W1 HB hb hd; have HW : Below W.heap.size W W1 := zB; (first | (refine Txt.rg (id := 1) [0, 1, 2, 3, 6, 7, 8, 4, 5, 9, 10, 11] (by kernel_rfl) (by kernel_rfl) ?_; simp only [List.map_cons, List.map_nil, List.getD_cons_zero, List.getD_cons_succ])); (repeat (first | (refine Txt.off rfl ?_; simp only [Act.put, List.setIfInBounds_toArray, List.set_cons_zero, List.set_cons_succ]) | (refine Txt.take rfl rfl ?_; intro K hK; go_big_quiet_op; go_big_quiet_on) | (refine Txt.call rfl rfl Try.func20 (by kernel_rfl) rfl (impl_IsValidDatabase.calls _ _ _ _ _ _ ?_ _ ?_ ?_ ?_ ?_ ?h) rfl ?_; (case h => exact zA); (iterate 4 (first | exact zC | exact zA)); rintro e w1 ⟨rfl, hb⟩; replace hb := aM hb; have HW : Below W.heap.size W w1 := zB; have HB : Below w.heap.size w w1 := zB; refine ⟨_, rfl, zS, ?_⟩; simp only [Act.put, List.setIfInBounds_toArray, List.set_cons_zero, List.set_cons_succ]) | (refine Txt.call rfl rfl Try.func44 (by kernel_rfl) rfl (impl_blocks.calls ?_ _ _ _ _ _ _ ?_ _ ?_ ?_ ?_ ?_ ?h) rfl ?_; (case h => exact zA); (iterate 4 (first | exact zC | exact zA)); rintro e w1 ⟨v0, rfl, ho0, hb⟩; obtain ⟨A0, c0, rfl, hc0, hC0⟩ := Kd.R_reads (Kd.S_R ho0); replace hb := aM hb; have HW : Below W.heap.size W w1 := zB; have HB : Below w.heap.size w w1 := zB; refine ⟨_, rfl, zS, ?_⟩; simp only [Act.put, List.setIfInBounds_toArray, List.set_cons_zero, List.set_cons_succ]))); refine Txt.nil ?_); (try go_wp2))); go_ret; exact zE zB)

/-! ### impl_copyDatabase: function 52 -/
def impl_copyDatabase.l0 : Nat → List (S35) → Int → Int → List (S70) → List (S35) → Option ((List (S70)) × (List (S35)))
 | 0, _, _, _, _, _ => none
 | k + 1, x13, x14, x15, x170000, x170001 => if x15 < x14 then (if 0 ≤ x15 then (if x15 < (x13.length : Int) then ((some (([] : List Int) : List Int)).bind fun y172 => (if y172.length + ((rd_T35 x13 x15).f1).length < 17592186044416 then (if x170001.length < 4398046511104 then (impl_copyDatabase.l0 k x13 x14 (wrap64 (x15 + 1)) x170000 (x170001 ++ [(⟨(rd_T35 x13 x15).f0, (y172 ++ ((rd_T35 x13 x15).f1))⟩ : S35)])) else (none)) else (none))) else (none)) else (none)) else (some (x170000, x170001))
def impl_copyDatabase.f (k : Nat) (l0_0 : List (S70)) (l0_1 : List (S35)) : Option ((List (S70)) × (List (S35))) := (some (([] : List (S70)) : List (S70))).bind fun y160 => (if y160.length + l0_0.length < 4398046511104 then (impl_copyDatabase.l0 k l0_1 (l0_1.length : Int) 0 (y160 ++ l0_0) (([] : List (S35)))) else (none))
def impl_copyDatabase.T5 : Bool × List (List Nat × List Nat) := (true, [([], []), ([0], [0]), ([], []), ([2], [2]), ([], []), ([], []), ([5], [5]), ([4, 6], [4, 6]), ([3, 7], [3, 7]), ([8], [8]), ([1, 9, 7], [1, 9]), ([0, 1, 2, 3, 4, 5, 6, 7, 8, 9, 10], []), ([11, 10, 10, 0, 1, 2, 3, 4, 5, 6, 7, 8, 9, 10], [10, 11])])
def impl_copyDatabase.B5 : List Nat := [0, 1, 0, 4, 0, 0, 32, 112, 252, 508, 1023, 2047, 4095]
theorem impl_copyDatabase.tab5 : rtab .any (opsOf Try.f52 5) = impl_copyDatabase.T5 := by kernel_rfl
theorem impl_copyDatabase.bits5 : waitsOk impl_copyDatabase.T5.2 impl_copyDatabase.B5 = true := by kernel_rfl
set_option maxHeartbeats 8000000 in
set_option maxRecDepth 100000 in
theorem impl_copyDatabase.calls (k : Nat) (A0_0 : Option Addr) (c0_0 : Nat) (l0_0 : List (S70)) (A0_1 : Option Addr) (c0_1 : Nat) (l0_1 : List (S35)) (r1 : List (S70)) (r2 : List (S35)) (w : World) (hr0_0 : Kd.C k70 w A0_0 l0_0.length l0_0) (hc0_0 : l0_0.length ≤ c0_0) (hr0_1 : Kd.C k35 w A0_1 l0_1.length l0_1) (hc0_1 : l0_1.length ≤ c0_1) (h : impl_copyDatabase.f k l0_0 l0_1 = some (r1, r2)) :
  Calls Try.prog 52 #[.agg #[.slice A0_0 l0_0.length c0_0, .slice A0_1 l0_1.length c0_1]] w fun e w' => ∃ v0_ v1_ : Value, e = .returned (.agg #[v0_, v1_]) ∧ Kd.R k70 70 w' w.heap.size (fun _ => True) v0_ r1 ∧ Kd.S k35 35 w' w.heap.size (fun _ => True) v1_ r2 ∧ Below w.heap.size w w' := by
 have hu27 := Try.underlying27
 have hu35 := Try.underlying35
 have HR0_0 := aM hr0_0
 have HC0_0 := aM hc0_0
 clear hr0_0 hc0_0
 have HR0_1 := aM hr0_1
 have HC0_1 := aM hc0_1
 clear hr0_1 hc0_1
 have HB := aM (Below.refl w.heap.size w)
 have H : ((some (([] : List (S70)) : List (S70))).bind fun y160 => (if y160.length + l0_0.length < 4398046511104 then (impl_copyDatabase.l0 k l0_1 (l0_1.length : Int) 0 (y160 ++ l0_0) (([] : List (S35)))) else (none))) = some (r1, r2) := h
 clear h
 obtain ⟨y160, hy160⟩ : ∃ y_ : List (S70), y_ = (([] : List (S70))) := ⟨_, rfl⟩
 first | replace H := bY hy160 H | rw [← hy160] at H
 have Ny160 := aM hy160
 clear hy160
 by_cases c2 : y160.length + l0_0.length < 4398046511104
 ·rw [if_pos c2] at H
  have LMc2 := aM c2
  clear c2
  obtain ⟨y163, hy163⟩ : ∃ y_ : List (S70), y_ = (y160 ++ l0_0) := ⟨_, rfl⟩
  first | replace H := bY hy163 H | rw [← hy163] at H
  have Ny163 := aM hy163
  clear hy163
  obtain ⟨y166, hy166⟩ : ∃ y_ : List (S35), y_ = (([] : List (S35))) := ⟨_, rfl⟩
  first | replace H := bY hy166 H | rw [← hy166] at H
  have Ny166 := aM hy166
  clear hy166
  have H' := aM H
  clear H
  go_enter Try.func52, Try.ntmps52
  go_wp2_with (first | ((with_reducible refine gate_dst (N := 1) rfl ?_); refine bE 1 (cs := #[.slice A0_0 l0_0.length c0_0, .slice A0_1 l0_1.length c0_1]) (t := 27) ?_; intro gb158 hg w3 hbox hb; have BK158 := aM (hbox); have GW158 := aM ((by rw [hg]; exact (below_size aB) : w.heap.size ≤ gb158)); have GE158 := aM ((by rw [hg]; exact (below_size aB) : w.heap.size ≤ gb158)); replace HB := aM (below_step aB hb); clear hb hbox hg) | ((with_reducible refine gate_dst (N := 2) rfl ?_); refine bE 2 (cs := #[.slice none 0 0, .slice none 0 0]) (t := 27) ?_; intro gb159 hg w4 hbox hb; have BK159 := aM (hbox); have GW159 := aM ((by rw [hg]; exact (below_size aG) : w.heap.size ≤ gb159)); have GE159 := aM ((by rw [hg]; exact (below_size aG) : w.heap.size ≤ gb159)); have NB158_159 := aM ((by rw [hg]; exact Nat.ne_of_lt (blk_lt (g := gb158) (o := .cells #[.slice A0_0 l0_0.length c0_0, .slice A0_1 l0_1.length c0_1] 27 (0, 0)) aK) : gb158 ≠ gb159)); have NB159_158 := aM ((by rw [hg]; exact Nat.ne_of_gt (blk_lt (g := gb158) (o := .cells #[.slice A0_0 l0_0.length c0_0, .slice A0_1 l0_1.length c0_1] 27 (0, 0)) aK) : gb159 ≠ gb158)); replace BK158 := aM (kB gb158 #[.slice A0_0 l0_0.length c0_0, .slice A0_1 l0_1.length c0_1] 27 hb); replace HB := aM (below_step aG hb); clear hb hbox hg) | ((with_reducible refine gate_dst (N := 6) rfl ?_); refine Kd.R_lit k70 _ 70 ?hg (N := 6) ?hd (xs := ([] : List (S70))) (inner := []) (ok := fun _ => True) (okp := fun _ => True) ?hr ?hp (fun _ hk => hk) trivial (Below.refl _ _) (Nat.le_refl _) (by simp) ?_; (case hd => rfl); (case hg => rfl); (case hr => first | (go_simp; done) | (go_simp; rfl)); (case hp => exact (Reps.none _ _)); intro v161 w5 ho6 hb hg_ hnew_; clear hg_ hnew_; (first | rw [← Ny160.out] at ho6 | (simp only [Int.reduceToNat] at ho6; rw [← Ny160.out] at ho6)); have n0_ := aM (Kd.R_lower ho6 (below_size aG)); have n1_ := aM (kB gb158 #[.slice A0_0 l0_0.length c0_0, .slice A0_1 l0_1.length c0_1] 27 hb); have n2_ := aM (kB gb159 #[.slice none 0 0, .slice none 0 0] 27 hb); have n3_ := aM (below_step aG hb); clear BK158; clear BK159; clear HB; have HO162 := n0_; have BK158 := n1_; have BK159 := n2_; have HB := n3_; clear n0_ n1_ n2_ n3_; clear hb ho6; have hnb7 := NB158_159.out; have hnc7 := NB159_158.out; have hcz8_0 : w5.cell? ⟨gb158, 0, none⟩ = some (.slice A0_0 l0_0.length c0_0) := (blk_cell BK158.out 0).trans rfl; have hcz8_1 : w5.cell? ⟨gb158, 1, none⟩ = some (.slice A0_1 l0_1.length c0_1) := (blk_cell BK158.out 1).trans rfl; have hfz8_0 := blk_frozen BK158.out 0; have hfz8_1 := blk_frozen BK158.out 1) | ((with_reducible refine gate_builtin (b := .append) (xs := #[.tmp 6, .tmp 8]) rfl ?_); at_builtin; refine Kd.R_append_rows k70 (w0 := w) w.heap.size rfl (.tmp 6) (.tmp 8) 24 70 (.agg #[(.string ⟨#[]⟩), (.int .i64 0), (.int .i64 0)]) 32 rfl Try.underlying24 info70 rfl (by decide) (by omega) v161 y160 l0_0 _ _ _ (fun _ => True) (fun _ => False) rfl rfl ?aO ?aR (fun _ _ h => h) (fun _ h => h.elim) ?aF ?aB ?aS ?aL ?_; (case aR => exact aC); (case aB => exact aG); (case aF => exact (fun _ _ => trivial)); (case aO => exact (aR HO162)); (case aS => exact (below_size aG)); (case aL => have := LMc2.out; omega); intro v164 w9 ho hb hg hat; rw [← Ny163.out] at ho; have n0_ := aM (blk_grown (g := gb158) (o := .cells #[.slice A0_0 l0_0.length c0_0, .slice A0_1 l0_1.length c0_1] 27 (0, 0)) aK hg (Kd.R_ne HO162.out BK158.out (by decide))); have n1_ := aM (blk_grown (g := gb159) (o := .cells #[.slice none 0 0, .slice none 0 0] 27 (0, 0)) aK hg (Kd.R_ne HO162.out BK159.out (by decide))); have n2_ := aM (hb); have n3_ := aM (ho); clear BK158; clear BK159; clear HB; clear HO162; have BK158 := n0_; have BK159 := n1_; have HB := n2_; have HO165 := n3_; clear n0_ n1_ n2_ n3_; clear ho hb hg hat) | ((with_reducible refine gate_dst (N := 10) rfl ?_); refine Kd.S_lit k35 _ 35 ?hg (N := 10) ?hd (xs := ([] : List (S35))) (inner := []) (ok := fun _ => True) (okp := fun _ => True) ?hr ?hp (fun _ hk => hk) trivial (Below.refl _ _) (Nat.le_refl _) (by simp) ?_; (case hd => rfl); (case hg => rfl); (case hr => first | (go_simp; done) | (go_simp; rfl)); (case hp => exact (Reps.none _ _)); intro v167 w10 ho11 hb hg_ hnew_; clear hg_ hnew_; (first | rw [← Ny166.out] at ho11 | (simp only [Int.reduceToNat] at ho11; rw [← Ny166.out] at ho11)); have n0_ := aM (Kd.R_below (aR HO165) hb); have n1_ := aM (Kd.S_lower ho11 (below_size aG)); have n2_ := aM (kB gb158 #[.slice A0_0 l0_0.length c0_0, .slice A0_1 l0_1.length c0_1] 27 hb); have n3_ := aM (kB gb159 #[.slice none 0 0, .slice none 0 0] 27 hb); have n4_ := aM (below_step aG hb); clear HO165; clear BK158; clear BK159; clear HB; have HO165 := n0_; have HO168 := n1_; have BK158 := n2_; have BK159 := n3_; have HB := n4_; clear n0_ n1_ n2_ n3_ n4_; clear hb ho11; obtain ⟨Ao12, co12, eo12⟩ := Kd.S_slice HO168.out; subst eo12; obtain ⟨Ao13, co13, eo13⟩ := Kd.R_slice HO165.out; subst eo13) | ((with_reducible refine gate_dst (N := 3) rfl ?_); refine bE 3 (cs := #[.slice none 0 0, .slice none 0 0]) (t := 27) ?_; intro gb169 hg w14 hbox hb; have n0_ := aM (Kd.R_below (aR HO165) hb); have n1_ := aM (Kd.S_below (aS HO168) hb); have n2_ := aM (kB gb158 #[.slice A0_0 l0_0.length c0_0, .slice A0_1 l0_1.length c0_1] 27 hb); have n3_ := aM (kB gb159 #[.slice none 0 0, .slice none 0 0] 27 hb); have n4_ := aM (below_step aG hb); have n5_ := aM (hbox); have n6_ := aM ((by rw [hg]; exact (below_size aG) : w.heap.size ≤ gb169)); have n7_ := aM ((by rw [hg]; exact (below_size aG) : w.heap.size ≤ gb169)); have n8_ := aM ((by rw [hg]; exact Nat.ne_of_lt (blk_lt (g := gb158) (o := .cells #[.slice A0_0 l0_0.length c0_0, .slice A0_1 l0_1.length c0_1] 27 (0, 0)) aK) : gb158 ≠ gb169)); have n9_ := aM ((by rw [hg]; exact Nat.ne_of_gt (blk_lt (g := gb158) (o := .cells #[.slice A0_0 l0_0.length c0_0, .slice A0_1 l0_1.length c0_1] 27 (0, 0)) aK) : gb169 ≠ gb158)); have n10_ := aM ((by rw [hg]; exact Nat.ne_of_lt (blk_lt (g := gb159) (o := .cells #[.slice none 0 0, .slice none 0 0] 27 (0, 0)) aK) : gb159 ≠ gb169)); have n11_ := aM ((by rw [hg]; exact Nat.ne_of_gt (blk_lt (g := gb159) (o := .cells #[.slice none 0 0, .slice none 0 0] 27 (0, 0)) aK) : gb169 ≠ gb159)); clear HO165; clear HO168; clear BK158; clear BK159; clear HB; have HO165 := n0_; have HO168 := n1_; have BK158 := n2_; have BK159 := n3_; have HB := n4_; have BK169 := n5_; have GW169 := n6_; have GE169 := n7_; have NB158_169 := n8_; have NB169_158 := n9_; have NB159_169 := n10_; have NB169_159 := n11_; clear n0_ n1_ n2_ n3_ n4_ n5_ n6_ n7_ n8_ n9_ n10_ n11_; clear hb hbox hg; have hnb15 := NB169_158.out; have hnc15 := NB158_169.out; have hnb16 := NB169_159.out; have hnc16 := NB159_169.out; have hcz17_0 : w14.cell? ⟨gb169, 0, none⟩ = some (.slice none 0 0) := (blk_cell BK169.out 0).trans rfl; have hcz17_1 : w14.cell? ⟨gb169, 1, none⟩ = some (.slice none 0 0) := (blk_cell BK169.out 1).trans rfl; have hfz17_0 := blk_frozen BK169.out 0; have hfz17_1 := blk_frozen BK169.out 1; have hcz18_0 : w14.cell? ⟨gb158, 0, none⟩ = some (.slice A0_0 l0_0.length c0_0) := (blk_cell BK158.out 0).trans rfl; have hcz18_1 : w14.cell? ⟨gb158, 1, none⟩ = some (.slice A0_1 l0_1.length c0_1) := (blk_cell BK158.out 1).trans rfl; have hfz18_0 := blk_frozen BK158.out 0; have hfz18_1 := blk_frozen BK158.out 1))
  go_loopg [15] k (fun kq v15 w' => ∃ (x15_1 : Int) (x170001_1 : List (S35)) (u170001 : Value), v15 = .int .i64 x15_1 ∧ Aside0 (impl_copyDatabase.l0 kq l0_1 (l0_1.length : Int) x15_1 y163 x170001_1 = some (r1, r2)) ∧ Aside0 (kq ≤ k) ∧ Aside0 (Kd.R k70 70 w' w.heap.size (fun _ => True) (.slice Ao13 y163.length co13) y163) ∧ Aside0 (Kd.S k35 35 w' w.heap.size (fun _ => True) u170001 x170001_1) ∧ Aside0 (w'.heap[gb158]? = some (.cells #[(.slice A0_0 l0_0.length c0_0), (.slice A0_1 l0_1.length c0_1)] 27 (0, 0))) ∧ Aside0 (w'.heap[gb159]? = some (.cells #[(.slice none 0 0), (.slice none 0 0)] 27 (0, 0))) ∧ Aside0 (w'.heap[gb169]? = some (.cells #[(.slice Ao13 y163.length co13), u170001] 27 (0, 0))) ∧ Aside0 (Below w.heap.size w w'))
  case atStart => exact ⟨(0), (y166), (.slice Ao12 y166.length co12), aX, H', ⟨Nat.le_refl _⟩, ⟨by (with_reducible repeat apply pR); exact Kd.R_mono (Kd.R_far (p := ⟨gb169, 1, none⟩) (Kd.R_far (p := ⟨gb169, 0, none⟩) (Kd.R_types HO165.out BK169.out (by decide)) (fun _ hk => hk.2) (.slice Ao13 y163.length co13)) (fun _ hk => hk.2) (.slice Ao12 y166.length co12)) (fun _ hk => trivial)⟩, ⟨by (with_reducible repeat apply pS); exact Kd.S_mono (Kd.S_far (p := ⟨gb169, 1, none⟩) (Kd.S_far (p := ⟨gb169, 0, none⟩) (Kd.S_types HO168.out BK169.out (by decide)) (fun _ hk => hk.2) (.slice Ao13 y163.length co13)) (fun _ hk => hk.2) (.slice Ao12 y166.length co12)) (fun _ hk => trivial)⟩, ⟨by (with_reducible repeat refine pB ?_); refine blk_far ?_ NB158_169.out _; (with_reducible repeat refine pB ?_); refine blk_far ?_ NB158_169.out _; (with_reducible repeat refine pB ?_); exact BK158.out⟩, ⟨by (with_reducible repeat refine pB ?_); refine blk_far ?_ NB159_169.out _; (with_reducible repeat refine pB ?_); refine blk_far ?_ NB159_169.out _; (with_reducible repeat refine pB ?_); exact BK159.out⟩, ⟨by (with_reducible repeat refine pB ?_); refine blk_put (cs := #[.slice Ao13 y163.length co13, .slice none 0 0]) ?_ 1 _ rfl; (with_reducible repeat refine pB ?_); refine blk_put (cs := #[.slice none 0 0, .slice none 0 0]) ?_ 0 _ rfl; (with_reducible repeat refine pB ?_); exact BK169.out⟩, ⟨aG⟩⟩
  case round =>
   clear H'
   try clear c1
   try clear c2
   try clear p2
   try clear c5
   try clear c7
   try clear c15
   try clear c16
   try clear hcz17_0
   try clear hcz17_1
   try clear hcz18_0
   try clear hcz18_1
   try clear hcz8_0
   try clear hcz8_1
   try clear hfz17_0
   try clear hfz17_1
   try clear hfz18_0
   try clear hfz18_1
   try clear hfz8_0
   try clear hfz8_1
   obtain ⟨x15_1, x170001_1, u170001, rfl, HA, HK1, HO_170000, HO_170001, BK158, BK159, BK169, HB⟩ := hrel
   cases gk with
   | zero => exact absurd HA.out (by simp [impl_copyDatabase.l0])
   | succ k1 =>
    have H := HA.out
    clear HA
    simp only [impl_copyDatabase.l0] at H
    by_cases c19 : x15_1 < (l0_1.length : Int)
    ·rw [if_pos c19] at H
     have c19b0 : decide (x15_1 < (l0_1.length : Int)) = true := decide_eq_true c19
     clear c19
     by_cases c20 : 0 ≤ x15_1
     ·rw [if_pos c20] at H
      have c20b0 : decide (0 ≤ x15_1) = true := decide_eq_true c20
      clear c20
      by_cases c21 : x15_1 < (l0_1.length : Int)
      ·rw [if_pos c21] at H
       have c21b0 : decide (x15_1 < (l0_1.length : Int)) = true := decide_eq_true c21
       clear c21
       obtain ⟨y172, hy172⟩ : ∃ y_ : List Int, y_ = (([] : List Int)) := ⟨_, rfl⟩
       first | replace H := bY hy172 H | rw [← hy172] at H
       have Ny172 := aM hy172
       clear hy172
       by_cases c22 : y172.length + ((rd_T35 l0_1 x15_1).f1).length < 17592186044416
       ·rw [if_pos c22] at H
        have LMc22 := aM c22
        clear c22
        obtain ⟨y175, hy175⟩ : ∃ y_ : List Int, y_ = (y172 ++ ((rd_T35 l0_1 x15_1).f1)) := ⟨_, rfl⟩
        first | replace H := bY hy175 H | rw [← hy175] at H
        have Ny175 := aM hy175
        clear hy175
        by_cases c23 : x170001_1.length < 4398046511104
        ·rw [if_pos c23] at H
         have LMc23 := aM c23
         clear c23
         obtain ⟨y178, hy178⟩ : ∃ y_ : List (S35), y_ = (x170001_1 ++ [(⟨(rd_T35 l0_1 x15_1).f0, y175⟩ : S35)]) := ⟨_, rfl⟩
         first | replace H := bY hy178 H | rw [← hy178] at H
         have Ny178 := aM hy178
         clear hy178
         have H' := aM H
         clear H
         have p170 : 0 ≤ (x15_1 : Int) := aD
         have q170 : x15_1 < (l0_1.length : Int) := aD
         obtain ⟨ad170, A170_1, c170_1, e170, hx170_0, hx170_1, hl170_1, hi170_1⟩ := at_T35 HR0_1.out x15_1 p170 q170
         cases e170
         replace hx170_0 := (HB.out.cell (World.block_lt_of_cell? w _ hx170_0)).trans hx170_0
         replace hx170_1 := (HB.out.cell (World.block_lt_of_cell? w _ hx170_1)).trans hx170_1
         have HR170_1 := aM hi170_1
         have HC170_1 := aM hl170_1
         clear hi170_1 hl170_1
         replace p170 := eq_true p170
         replace q170 := eq_true q170
         try go_wp2_with (first | ((with_reducible refine gate_dst (N := 5) rfl ?_); refine bE 5 (cs := #[.int .i64 0, .slice none 0 0]) (t := 35) ?_; intro gb171 hg w24 hbox hb; have n0_ := aM (Kd.R_below (aR HO_170000) hb); have n1_ := aM (Kd.S_below (Kd.S_elderB (aS HO_170001) gb171 (Nat.le_of_eq hg.symm)) hb); have n2_ := aM (kB gb158 #[.slice A0_0 l0_0.length c0_0, .slice (some ad170) l0_1.length c0_1] 27 hb); have n3_ := aM (kB gb159 #[.slice none 0 0, .slice none 0 0] 27 hb); have n4_ := aM (kB gb169 #[.slice Ao13 y163.length co13, u170001] 27 hb); have n5_ := aM (below_step aG hb); have n6_ := aM (hbox); have n7_ := aM ((by rw [hg]; exact (below_size aG) : w.heap.size ≤ gb171)); have n8_ := aM ((by rw [hg]; exact (below_size aG) : w.heap.size ≤ gb171)); have n9_ := aM ((by rw [hg]; exact Nat.ne_of_lt (blk_lt (g := gb158) (o := .cells #[.slice A0_0 l0_0.length c0_0, .slice (some ad170) l0_1.length c0_1] 27 (0, 0)) aK) : gb158 ≠ gb171)); have n10_ := aM ((by rw [hg]; exact Nat.ne_of_gt (blk_lt (g := gb158) (o := .cells #[.slice A0_0 l0_0.length c0_0, .slice (some ad170) l0_1.length c0_1] 27 (0, 0)) aK) : gb171 ≠ gb158)); have n11_ := aM ((by rw [hg]; exact Nat.ne_of_lt (blk_lt (g := gb159) (o := .cells #[.slice none 0 0, .slice none 0 0] 27 (0, 0)) aK) : gb159 ≠ gb171)); have n12_ := aM ((by rw [hg]; exact Nat.ne_of_gt (blk_lt (g := gb159) (o := .cells #[.slice none 0 0, .slice none 0 0] 27 (0, 0)) aK) : gb171 ≠ gb159)); have n13_ := aM ((by rw [hg]; exact Nat.ne_of_lt (blk_lt (g := gb169) (o := .cells #[.slice Ao13 y163.length co13, u170001] 27 (0, 0)) aK) : gb169 ≠ gb171)); have n14_ := aM ((by rw [hg]; exact Nat.ne_of_gt (blk_lt (g := gb169) (o := .cells #[.slice Ao13 y163.length co13, u170001] 27 (0, 0)) aK) : gb171 ≠ gb169)); clear HO_170000; clear HO_170001; clear BK158; clear BK159; clear BK169; clear HB; have HO_170000 := n0_; have HO_170001 := n1_; have BK158 := n2_; have BK159 := n3_; have BK169 := n4_; have HB := n5_; have BK171 := n6_; have GW171 := n7_; have GE171 := n8_; have NB158_171 := n9_; have NB171_158 := n10_; have NB159_171 := n11_; have NB171_159 := n12_; have NB169_171 := n13_; have NB171_169 := n14_; clear n0_ n1_ n2_ n3_ n4_ n5_ n6_ n7_ n8_ n9_ n10_ n11_ n12_ n13_ n14_; clear hb hbox hg; have hnb25 := NB171_158.out; have hnc25 := NB158_171.out; have hnb26 := NB171_159.out; have hnc26 := NB159_171.out; have hnb27 := NB171_169.out; have hnc27 := NB169_171.out; have hcz28_0 : w24.cell? ⟨gb171, 0, none⟩ = some (.int .i64 0) := (blk_cell BK171.out 0).trans rfl; have hcz28_1 : w24.cell? ⟨gb171, 1, none⟩ = some (.slice none 0 0) := (blk_cell BK171.out 1).trans rfl; have hfz28_0 := blk_frozen BK171.out 0; have hfz28_1 := blk_frozen BK171.out 1))
         have n0_ : Aside0 (Kd.R k70 70 ((w24.setCell ⟨gb171, 0, none⟩ (.int .i64 ((rd_T35 l0_1 x15_1).f0))).setCell ⟨gb171, 1, none⟩ (.slice A170_1 ((rd_T35 l0_1 x15_1).f1).length c170_1)) w.heap.size (fun _ => True) (.slice Ao13 y163.length co13) y163) := ⟨by (with_reducible repeat apply pR); exact Kd.R_mono (Kd.R_far (p := ⟨gb171, 1, none⟩) (Kd.R_far (p := ⟨gb171, 0, none⟩) (Kd.R_types HO_170000.out BK171.out (by decide)) (fun _ hk => hk.2) (.int .i64 ((rd_T35 l0_1 x15_1).f0))) (fun _ hk => hk.2) (.slice A170_1 ((rd_T35 l0_1 x15_1).f1).length c170_1)) (fun _ hk => trivial)⟩
         have n1_ : Aside0 (Kd.S k35 35 ((w24.setCell ⟨gb171, 0, none⟩ (.int .i64 ((rd_T35 l0_1 x15_1).f0))).setCell ⟨gb171, 1, none⟩ (.slice A170_1 ((rd_T35 l0_1 x15_1).f1).length c170_1)) w.heap.size (fun k_ => k_ ≠ gb171) u170001 x170001_1) := ⟨by (with_reducible repeat apply pS); exact Kd.S_mono (Kd.S_far (p := ⟨gb171, 1, none⟩) (Kd.S_far (p := ⟨gb171, 0, none⟩) (Kd.S_mono HO_170001.out (fun k_ hk => (⟨hk, hk.2⟩ : _ ∧ k_ ≠ gb171))) (fun _ hk => hk.2) (.int .i64 ((rd_T35 l0_1 x15_1).f0))) (fun _ hk => hk.2) (.slice A170_1 ((rd_T35 l0_1 x15_1).f1).length c170_1)) (fun _ hk => hk.1.2)⟩
         have n2_ : Aside0 (((w24.setCell ⟨gb171, 0, none⟩ (.int .i64 ((rd_T35 l0_1 x15_1).f0))).setCell ⟨gb171, 1, none⟩ (.slice A170_1 ((rd_T35 l0_1 x15_1).f1).length c170_1)).heap[gb158]? = some (.cells #[.slice A0_0 l0_0.length c0_0, .slice (some ad170) l0_1.length c0_1] 27 (0, 0))) := ⟨by (with_reducible repeat refine pB ?_); refine blk_far ?_ NB158_171.out _; (with_reducible repeat refine pB ?_); refine blk_far ?_ NB158_171.out _; (with_reducible repeat refine pB ?_); exact BK158.out⟩
         have n3_ : Aside0 (((w24.setCell ⟨gb171, 0, none⟩ (.int .i64 ((rd_T35 l0_1 x15_1).f0))).setCell ⟨gb171, 1, none⟩ (.slice A170_1 ((rd_T35 l0_1 x15_1).f1).length c170_1)).heap[gb159]? = some (.cells #[.slice none 0 0, .slice none 0 0] 27 (0, 0))) := ⟨by (with_reducible repeat refine pB ?_); refine blk_far ?_ NB159_171.out _; (with_reducible repeat refine pB ?_); refine blk_far ?_ NB159_171.out _; (with_reducible repeat refine pB ?_); exact BK159.out⟩
         have n4_ : Aside0 (((w24.setCell ⟨gb171, 0, none⟩ (.int .i64 ((rd_T35 l0_1 x15_1).f0))).setCell ⟨gb171, 1, none⟩ (.slice A170_1 ((rd_T35 l0_1 x15_1).f1).length c170_1)).heap[gb169]? = some (.cells #[.slice Ao13 y163.length co13, u170001] 27 (0, 0))) := ⟨by (with_reducible repeat refine pB ?_); refine blk_far ?_ NB169_171.out _; (with_reducible repeat refine pB ?_); refine blk_far ?_ NB169_171.out _; (with_reducible repeat refine pB ?_); exact BK169.out⟩
         have n5_ : Aside0 (((w24.setCell ⟨gb171, 0, none⟩ (.int .i64 ((rd_T35 l0_1 x15_1).f0))).setCell ⟨gb171, 1, none⟩ (.slice A170_1 ((rd_T35 l0_1 x15_1).f1).length c170_1)).heap[gb171]? = some (.cells #[.int .i64 ((rd_T35 l0_1 x15_1).f0), .slice A170_1 ((rd_T35 l0_1 x15_1).f1).length c170_1] 35 (0, 0))) := ⟨by (with_reducible repeat refine pB ?_); refine blk_put (cs := #[.int .i64 ((rd_T35 l0_1 x15_1).f0), .slice none 0 0]) ?_ 1 _ rfl; (with_reducible repeat refine pB ?_); refine blk_put (cs := #[.int .i64 0, .slice none 0 0]) ?_ 0 _ rfl; (with_reducible repeat refine pB ?_); exact BK171.out⟩
         have n6_ : Aside0 (Below w.heap.size w ((w24.setCell ⟨gb171, 0, none⟩ (.int .i64 ((rd_T35 l0_1 x15_1).f0))).setCell ⟨gb171, 1, none⟩ (.slice A170_1 ((rd_T35 l0_1 x15_1).f1).length c170_1))) := ⟨aG⟩
         (try clear HO_170000)
         (try clear HO_170001)
         (try clear BK158)
         (try clear BK159)
         (try clear BK169)
         (try clear BK171)
         (try clear HB)
         generalize ((w24.setCell ⟨gb171, 0, none⟩ (.int .i64 ((rd_T35 l0_1 x15_1).f0))).setCell ⟨gb171, 1, none⟩ (.slice A170_1 ((rd_T35 l0_1 x15_1).f1).length c170_1)) = w29 at n0_ n1_ n2_ n3_ n4_ n5_ n6_ ⊢
         have HO_170000 := n0_
         have HO_170001 := n1_
         have BK158 := n2_
         have BK159 := n3_
         have BK169 := n4_
         have BK171 := n5_
         have HB := n6_
         clear n0_ n1_ n2_ n3_ n4_ n5_ n6_
         replace HO_170000 := aM (Kd.R_drew HO_170000.out)
         replace HO_170001 := aM (Kd.S_drew HO_170001.out)
         replace BK158 := aM (blk_drew BK158.out)
         replace BK159 := aM (blk_drew BK159.out)
         replace BK169 := aM (blk_drew BK169.out)
         replace BK171 := aM (blk_drew BK171.out)
         replace HB := aM (below_drew1 HB.out)
         refine start_ (n := 13) (S := fun w' => w'.cell? ⟨gb169, 0, none⟩ = some (.slice Ao13 y163.length co13) ∧ w'.cell? ⟨gb169, 1, none⟩ = some (u170001) ∧ w'.cell? ⟨gb171, 0, none⟩ = some (.int .i64 ((rd_T35 l0_1 x15_1).f0)) ∧ w'.cell? ⟨gb171, 1, none⟩ = some (.slice A170_1 ((rd_T35 l0_1 x15_1).f1).length c170_1)) (ds := [12]) #[false, false, false, false, false, false, false, false, false, false, false, false, false] (by kernel_rfl) rfl rfl ⟨(blk_cell BK169.out 0).trans rfl, (blk_cell BK169.out 1).trans rfl, (blk_cell BK171.out 0).trans rfl, (blk_cell BK171.out 1).trans rfl⟩ (fun hHeld => ?_); refine with_tabW impl_copyDatabase.tab5 impl_copyDatabase.bits5 (fun HT_ HW_ => ?_)
         generalize w29.drew = w30 at HO_170000 HO_170001 BK158 BK159 BK169 BK171 HB hHeld ⊢
         refine pU 0 19 ?_
         refine pU 2 21 ?_
         refine pU 5 24 ?_
         refine tU4 1 20 hHeld ?_
         refine tU4 3 22 hHeld ?_
         refine tU4 6 25 hHeld ?_
         refine oU 4 23 (fun K hK => ?_)
         refine Kd.R_lit_step (Kd.int .i64) _ 3 ?hg (N := 23) ?hd (xs := ([] : List Int)) (inner := []) (ok := fun _ => True) (okp := fun _ => True) ?hr ?hp (fun _ hk => hk) trivial (Below.refl _ _) (Nat.le_refl _) (by simp) ?_; (case hd => rfl); (case hg => rfl); (case hr => first | (go_simp; done) | (go_simp; rfl)); (case hp => exact (Reps.none _ _))
         intro v173 w31 ho32 hb hg_ hnew_
         clear hg_ hnew_
         (first | rw [← Ny172.out] at ho32 | (simp only [Int.reduceToNat] at ho32; rw [← Ny172.out] at ho32))
         have n0_ := aM (Kd.R_below (aR HO_170000) hb)
         have n1_ := aM (Kd.S_elder' (aS HO_170001) (Kd.R_base ho32) hb)
         have n2_ := aM (Kd.R_lower ho32 (below_size aG))
         have n3_ := aM (kB gb158 #[.slice A0_0 l0_0.length c0_0, .slice (some ad170) l0_1.length c0_1] 27 hb)
         have n4_ := aM (kB gb159 #[.slice none 0 0, .slice none 0 0] 27 hb)
         have n5_ := aM (kB gb169 #[.slice Ao13 y163.length co13, u170001] 27 hb)
         have n6_ := aM (kB gb171 #[.int .i64 ((rd_T35 l0_1 x15_1).f0), .slice A170_1 ((rd_T35 l0_1 x15_1).f1).length c170_1] 35 hb)
         have n7_ := aM (below_step aG hb)
         clear HO_170000
         clear HO_170001
         clear BK158
         clear BK159
         clear BK169
         clear BK171
         clear HB
         have HO_170000 := n0_
         have HO_170001 := n1_
         have HO174 := n2_
         have BK158 := n3_
         have BK159 := n4_
         have BK169 := n5_
         have BK171 := n6_
         have HB := n7_
         clear n0_ n1_ n2_ n3_ n4_ n5_ n6_ n7_
         clear hb ho32
         refine hK.out _ _ ⟨(blk_cell BK169.out 0).trans rfl, (blk_cell BK169.out 1).trans rfl, (blk_cell BK171.out 0).trans rfl, (blk_cell BK171.out 1).trans rfl⟩ (fun hHeld => ?_)
         clear hK K
         refine nU 23 ?_
         refine oU 7 26 (fun K hK => ?_)
         refine Kd.R_append_rows_step (Kd.int .i64) (w0 := w) w.heap.size (by rfl) (.tmp 23) (.tmp 25) 32 3 (.int .i64 0) 8 rfl Try.underlying32 info3 rfl (by decide) (by omega) v173 y172 ((rd_T35 l0_1 x15_1).f1) _ _ _ (fun _ => True) (fun _ => False) rfl rfl ?aO ?aR (fun _ _ h => h) (fun _ h => h.elim) ?aF ?aB ?aS ?aL ?_
         (case aR => exact aC)
         (case aB => exact aG)
         (case aF => exact (fun _ _ => trivial))
         (case aO => exact (aR HO174))
         (case aS => exact (below_size aG))
         (case aL => have := LMc22.out; omega)
         intro v176 w33 ho hb hg hat
         rw [← Ny175.out] at ho
         have n0_ := aM (Kd.R_over' (aR HO_170000) (Kd.R_typed (aR HO174)) (by decide) hg)
         have n1_ := aM (Kd.S_after (ok := (fun k_ => k_ ≠ gb171)) (aS HO_170001) hg hat)
         have n2_ := aM (blk_grown (g := gb158) (o := .cells #[.slice A0_0 l0_0.length c0_0, .slice (some ad170) l0_1.length c0_1] 27 (0, 0)) aK hg (Kd.R_ne HO174.out BK158.out (by decide)))
         have n3_ := aM (blk_grown (g := gb159) (o := .cells #[.slice none 0 0, .slice none 0 0] 27 (0, 0)) aK hg (Kd.R_ne HO174.out BK159.out (by decide)))
         have n4_ := aM (blk_grown (g := gb169) (o := .cells #[.slice Ao13 y163.length co13, u170001] 27 (0, 0)) aK hg (Kd.R_ne HO174.out BK169.out (by decide)))
         have n5_ := aM (blk_grown (g := gb171) (o := .cells #[.int .i64 ((rd_T35 l0_1 x15_1).f0), .slice A170_1 ((rd_T35 l0_1 x15_1).f1).length c170_1] 35 (0, 0)) aK hg (Kd.R_ne HO174.out BK171.out (by decide)))
         have n6_ := aM (hb)
         have n7_ := aM (ho)
         clear HO_170000
         clear HO_170001
         clear BK158
         clear BK159
         clear BK169
         clear BK171
         clear HB
         clear HO174
         have HO_170000 := n0_
         have HO_170001 := n1_
         have BK158 := n2_
         have BK159 := n3_
         have BK169 := n4_
         have BK171 := n5_
         have HB := n6_
         have HO177 := n7_
         clear n0_ n1_ n2_ n3_ n4_ n5_ n6_ n7_
         clear ho hb hg hat
         obtain ⟨Ao34, co34, eo34⟩ := Kd.R_slice HO177.out
         (first | subst eo34 | (injection eo34 with f1_ f2_ f3_; have f4_ := f1_.symm; have f5_ := f3_.symm; clear f1_ f2_ f3_; subst f4_; subst f5_))
         refine hK.out _ _ ⟨(blk_cell BK169.out 0).trans rfl, (blk_cell BK169.out 1).trans rfl, (blk_cell BK171.out 0).trans rfl, (blk_cell BK171.out 1).trans rfl⟩ (fun hHeld => ?_)
         clear hK K
         refine nU 26 ?_
         refine pU 8 27 ?_
         refine oU 9 28 (fun K hK => ?_)
         refine value_ (w1 := ?_) (v := ?_) (by rfl) rfl ?_ ?_
         rotate_left 2
         ·go_simp
          constructor
          ·rfl
          ·rfl
         refine hK.out _ _ ⟨(blk_cell (blk_alloc BK169.out _) 0).trans rfl, (blk_cell (blk_alloc BK169.out _) 1).trans rfl, (blk_cell (blk_alloc BK171.out _) 0).trans rfl, (blk_cell (blk_alloc BK171.out _) 1).trans rfl⟩ (fun hHeld => ?_)
         clear hK K
         refine nU 28 ?_
         refine oU 10 29 (fun K hK => ?_)
         refine Kd.S_append_step k35 (w0 := w) w.heap.size (by rfl) (.tmp 20) (.tmp 28) 25 35 (.agg #[(.int .i64 0), (.slice none 0 0)]) 32 rfl Try.underlying25 info35 rfl (by decide) (by omega) u170001 x170001_1 (⟨(rd_T35 l0_1 x15_1).f0, y175⟩ : S35) [.int .i64 ((rd_T35 l0_1 x15_1).f0), .slice Ao34 y175.length co34] (fun k_ => k_ ≠ gb171) (fun k_ => some k_ = (.slice Ao34 y175.length co34 : Value).ownBlock) rfl rfl ?aP (fun k_ hk_ => ((Kd.R_mono (ok' := fun k_ => ((fun k_ => k_ ≠ gb171)) k_ ∧ some k_ ≠ (u170001 : Value).ownBlock) (Kd.R_types (Kd.R_apart' (HO177.out) (Kd.S_typed HO_170001.out) (by decide)) BK171.out (by decide)) (fun k_ hk => ⟨hk.2, hk.1.2⟩))).1 k_ hk_.symm) ?aF ?aO ?aB ?aS ?aL ?_
         (case aP => exact k35_mkM _ _ _ (⟨(rd_T35 l0_1 x15_1).f0, y175⟩ : S35) (Kd.R_mono (Kd.R_tight rfl (Kd.R_mono (ok' := fun k_ => ((fun k_ => k_ ≠ gb171)) k_ ∧ some k_ ≠ (u170001 : Value).ownBlock) (Kd.R_types (Kd.R_apart' (HO177.out) (Kd.S_typed HO_170001.out) (by decide)) BK171.out (by decide)) (fun k_ hk => ⟨hk.2, hk.1.2⟩))) (fun _ h_ => h_)))
         (case aB => exact aG)
         (case aF => exact (fun k_ hk => Kd.freshB (g := gb171) (o := .cells #[.int .i64 ((rd_T35 l0_1 x15_1).f0), .slice A170_1 ((rd_T35 l0_1 x15_1).f1).length c170_1] 35 (0, 0)) aK k_ hk))
         (case aO => exact (by (with_reducible repeat apply pS); exact Kd.S_mono HO_170001.out (fun k_ hk => ⟨hk.1, fun e_ => hk.2 e_⟩)))
         (case aS => exact (below_size aG))
         (case aL => have := LMc23.out; omega)
         intro v179 w35 ho hb hg hat
         rw [← Ny178.out] at ho
         have n0_ := aM (Kd.R_over' (aR HO_170000) (Kd.S_typed (aS HO_170001)) (by decide) hg)
         have n1_ := aM (blk_grown (g := gb158) (o := .cells #[.slice A0_0 l0_0.length c0_0, .slice (some ad170) l0_1.length c0_1] 27 (0, 0)) aK hg (Kd.S_ne HO_170001.out BK158.out (by decide)))
         have n2_ := aM (blk_grown (g := gb159) (o := .cells #[.slice none 0 0, .slice none 0 0] 27 (0, 0)) aK hg (Kd.S_ne HO_170001.out BK159.out (by decide)))
         have n3_ := aM (blk_grown (g := gb169) (o := .cells #[.slice Ao13 y163.length co13, u170001] 27 (0, 0)) aK hg (Kd.S_ne HO_170001.out BK169.out (by decide)))
         have n4_ := aM (blk_grown (g := gb171) (o := .cells #[.int .i64 ((rd_T35 l0_1 x15_1).f0), .slice A170_1 ((rd_T35 l0_1 x15_1).f1).length c170_1] 35 (0, 0)) aK hg (Kd.S_away HO_170001.out (fun _ hk => hk.1)))
         have n5_ := aM (hb)
         have n6_ := aM (ho)
         clear HO_170000
         clear BK158
         clear BK159
         clear BK169
         clear BK171
         clear HB
         clear HO_170001
         clear HO177
         have HO_170000 := n0_
         have BK158 := n1_
         have BK159 := n2_
         have BK169 := n3_
         have BK171 := n4_
         have HB := n5_
         have HO180 := n6_
         clear n0_ n1_ n2_ n3_ n4_ n5_ n6_
         clear ho hb hg hat
         obtain ⟨Ao36, co36, eo36⟩ := Kd.S_slice HO180.out
         (first | subst eo36 | (injection eo36 with f1_ f2_ f3_; have f4_ := f1_.symm; have f5_ := f3_.symm; clear f1_ f2_ f3_; subst f4_; subst f5_))
         refine hK.out _ _ ⟨(blk_cell BK169.out 0).trans rfl, (blk_cell BK169.out 1).trans rfl, (blk_cell BK171.out 0).trans rfl, (blk_cell BK171.out 1).trans rfl⟩ (fun hHeld => ?_)
         clear hK K
         refine nU 29 ?_
         refine pU 11 30 ?_
         refine last_ (i := 12) (N := none) #[true, true, true, true, true, true, true, true, true, true, true, true, true] rfl rfl (one_of HT_.out (by kernel_rfl)) (by decide) (fun K hK => ?_)
         have hs37 : w35.cell? ⟨gb169, 1, none⟩ = some (u170001) := (blk_cell BK169.out 1).trans rfl
         have hfs37 := blk_frozen BK169.out 1
         have hns37_0 := NB158_169.out
         have hns37_1 := NB159_169.out
         have hns37_3 := NB171_169.out
         have hms37_0 := NB169_158.out
         have hms37_1 := NB169_159.out
         have hms37_3 := NB169_171.out
         refine skip_ (w1 := ?_) (by rfl) rfl ?_ ?_
         rotate_left
         ·go_simp
          rfl
         refine hK.out _ _ ?_
         clear hK K
         refine done_ (done_of HT_.out (by kernel_rfl)) ?_
         try go_wp2
         go_roundg k1
         case measure => have := HK1.out; omega
         case rel => exact ⟨(wrap64 (x15_1 + 1)), (y178), (.slice Ao36 y178.length co36), aX, H', ⟨by have := HK1.out; omega⟩, ⟨by (with_reducible repeat apply pR); exact Kd.R_mono (Kd.R_far (p := ⟨gb169, 1, none⟩) (Kd.R_types HO_170000.out BK169.out (by decide)) (fun _ hk => hk.2) (.slice Ao36 y178.length co36)) (fun _ hk => trivial)⟩, ⟨by (with_reducible repeat apply pS); exact Kd.S_mono (Kd.S_far (p := ⟨gb169, 1, none⟩) (Kd.S_types HO180.out BK169.out (by decide)) (fun _ hk => hk.2) (.slice Ao36 y178.length co36)) (fun _ hk => trivial)⟩, ⟨by (with_reducible repeat refine pB ?_); refine blk_far ?_ NB158_169.out _; (with_reducible repeat refine pB ?_); exact BK158.out⟩, ⟨by (with_reducible repeat refine pB ?_); refine blk_far ?_ NB159_169.out _; (with_reducible repeat refine pB ?_); exact BK159.out⟩, ⟨by (with_reducible repeat refine pB ?_); refine blk_put (cs := #[.slice Ao13 y163.length co13, u170001]) ?_ 1 _ rfl; (with_reducible repeat refine pB ?_); exact BK169.out⟩, ⟨aG⟩⟩
        ·rw [if_neg c23] at H
         exact absurd H (by simp)
       ·rw [if_neg c22] at H
        exact absurd H (by simp)
      ·rw [if_neg c21] at H
       exact absurd H (by simp)
     ·rw [if_neg c20] at H
      exact absurd H (by simp)
    ·rw [if_neg c19] at H
     have c19b0 : decide (x15_1 < (l0_1.length : Int)) = false := decide_eq_false c19
     clear c19
     simp only [Option.some.injEq, Prod.mk.injEq] at H
     obtain ⟨rfl, rfl⟩ := H
     have hnb38 := NB169_158.out
     have hnc38 := NB158_169.out
     have hnb39 := NB169_159.out
     have hnc39 := NB159_169.out
     have hcz40_0 : wr.cell? ⟨gb169, 0, none⟩ = some (.slice Ao13 y163.length co13) := (blk_cell BK169.out 0).trans rfl
     have hcz40_1 : wr.cell? ⟨gb169, 1, none⟩ = some (u170001) := (blk_cell BK169.out 1).trans rfl
     have hfz40_0 := blk_frozen BK169.out 0
     have hfz40_1 := blk_frozen BK169.out 1
     have hnb41 := NB159_158.out
     have hnc41 := NB158_159.out
     have hcz42_0 : wr.cell? ⟨gb159, 0, none⟩ = some (.slice none 0 0) := (blk_cell BK159.out 0).trans rfl
     have hcz42_1 : wr.cell? ⟨gb159, 1, none⟩ = some (.slice none 0 0) := (blk_cell BK159.out 1).trans rfl
     have hfz42_0 := blk_frozen BK159.out 0
     have hfz42_1 := blk_frozen BK159.out 1
     obtain ⟨Ao43, co43, eo43⟩ := Kd.S_slice HO_170001.out
     subst eo43
     go_wp2
     refine bodyPost_ret (results_cell_row rfl _ _ gb159 27 #[.slice Ao13 y163.length co13, .slice Ao43 x170001_1.length co43] (0, 0) _ rfl (by (with_reducible repeat refine pB ?_); refine blk_put (cs := #[.slice Ao13 y163.length co13, .slice none 0 0]) ?_ 1 _ rfl; (with_reducible repeat refine pB ?_); refine blk_put (cs := #[.slice none 0 0, .slice none 0 0]) ?_ 0 _ rfl; (with_reducible repeat refine pB ?_); exact BK159.out) Try.underlying27 rfl (by kernel_rfl)) rfl ?_
     exact ⟨_, _, aE, by (with_reducible repeat apply pR); exact Kd.R_mono (Kd.R_far (p := ⟨gb159, 1, none⟩) (Kd.R_far (p := ⟨gb159, 0, none⟩) (Kd.R_types HO_170000.out BK159.out (by decide)) (fun _ hk => hk.2) (.slice Ao13 y163.length co13)) (fun _ hk => hk.2) (.slice Ao43 x170001_1.length co43)) (fun _ hk => trivial), by (with_reducible repeat apply pS); exact Kd.S_mono (Kd.S_far (p := ⟨gb159, 1, none⟩) (Kd.S_far (p := ⟨gb159, 0, none⟩) (Kd.S_types HO_170001.out BK159.out (by decide)) (fun _ hk => hk.2) (.slice Ao13 y163.length co13)) (fun _ hk => hk.2) (.slice Ao43 x170001_1.length co43)) (fun _ hk => trivial), aG⟩
 ·rw [if_neg c2] at H
  exact absurd H (by simp)

/-! ### impl_areIndices: function 74 -/
def impl_areIndices.l0 : Nat → List Int → Int → List Int → Int → Int → Option (Bool)
 | 0, _, _, _, _, _ => none
 | k + 1, x0, x1, x7, x8, x9 => if x9 < x8 then (if 0 ≤ x9 then (if x9 < (x7.length : Int) then ((impl_within.f (rd x7 x9) 0 (wrap64 (x1 - 1))).bind fun t182 => (if t182 = true then (if x9 > 0 then (if 0 ≤ (wrap64 (x9 - 1)) then (if (wrap64 (x9 - 1)) < (x0.length : Int) then (if (rd x0 (wrap64 (x9 - 1))) ≥ (rd x7 x9) then (some false) else (impl_areIndices.l0 k x0 x1 x7 x8 (wrap64 (x9 + 1)))) else (none)) else (none)) else (impl_areIndices.l0 k x0 x1 x7 x8 (wrap64 (x9 + 1)))) else (some false))) else (none)) else (none)) else (some true)
def impl_areIndices.f (k : Nat) (l0 : List Int) (a1 : Int) : Option (Bool) := impl_areIndices.l0 k l0 a1 l0 (l0.length : Int) 0
set_option maxHeartbeats 8000000 in
set_option maxRecDepth 100000 in
theorem impl_areIndices.calls (k : Nat) (A0 : Option Addr) (c0 : Nat) (l0 : List Int) (a1 : Int) (r : Bool) (w : World) (hr0 : Kd.C (Kd.int .i64) w A0 l0.length l0) (hc0 : l0.length ≤ c0) (h : impl_areIndices.f k l0 a1 = some r) :
  Calls Try.prog 74 #[.slice A0 l0.length c0, .int .i64 a1] w fun e w' => e = .returned (.bool r) ∧ Drawn0 w w' := by
 unfold impl_areIndices.f at h
 ·go_enter Try.func74, Try.ntmps74
  go_wp2_with (first | (go_at_call 68; refine (impl_within.calls _ _ _ ?_ _ ?h).mono ?_; (case h => exact zA); rintro e w1 ⟨rfl, hb⟩; have hd := hb; replace hb := hb.below; replace hb := aM hb; have HB : Below w.heap.size w w1 := zB))
  go_loopg [9] k (fun kq v9 w' => ∃ (x9_0 : Int), v9 = .int .i64 x9_0 ∧ impl_areIndices.l0 kq l0 a1 l0 (l0.length : Int) x9_0 = some r ∧ Drawn0 w w')
  case atStart => exact ⟨_, zR, zA, zD⟩
  case round =>
   clear h
   obtain ⟨x9_0, rfl, h, hb⟩ := hrel
   have hd := hb
   replace hb := hb.below
   replace hb := aM hb
   have HB : Below w.heap.size w wr := zB
   rcases gk with _ | kk0
   exact absurd h (by simp [impl_areIndices.l0])
   simp only [impl_areIndices.l0] at h
   replace h := il h; rcases h with ⟨c1, c1a, h⟩ | ⟨c1, c1a, h⟩
   replace h := ie h; rcases h with ⟨c2, c2a, h⟩ | ⟨c2, c2a, h⟩
   replace h := il h; rcases h with ⟨c3, c3a, h⟩ | ⟨c3, c3a, h⟩
   replace h := bs h; obtain ⟨t182, B4, h⟩ := h
   replace h := ib h; rcases h with ⟨rfl, h⟩ | ⟨rfl, h⟩
   replace h := ig h; rcases h with ⟨c6, c6a, h⟩ | ⟨c6, c6a, h⟩
   replace h := ie h; rcases h with ⟨c7, c7a, h⟩ | ⟨c7, c7a, h⟩
   replace h := il h; rcases h with ⟨c8, c8a, h⟩ | ⟨c8, c8a, h⟩
   replace h := ih h; rcases h with ⟨c9, c9a, h⟩ | ⟨c9, c9a, h⟩
   obtain rfl := si h
   obtain ⟨ad181, e181, hx181_0⟩ := Kd.at_int hr0 (x9_0 : Int) aD aD
   have p181 := eq_true (aD : 0 ≤ (x9_0 : Int))
   have q181 := eq_true (aD : x9_0 < (l0.length : Int))
   cases e181
   replace hx181_0 := qa hx181_0
   obtain ⟨ad183, e183, hx183_0⟩ := Kd.at_int hr0 ((wrap64 (x9_0 - 1)) : Int) aD aD
   have p183 := eq_true (aD : 0 ≤ ((wrap64 (x9_0 - 1)) : Int))
   have q183 := eq_true (aD : (wrap64 (x9_0 - 1)) < (l0.length : Int))
   cases e183
   replace hx183_0 := qa hx183_0
   rotate_left
   obtain ⟨kf, hkf⟩ : ∃ kf, kf = kk0 := ⟨_, rfl⟩; rw [← hkf] at h
   obtain ⟨ad181, e181, hx181_0⟩ := Kd.at_int hr0 (x9_0 : Int) aD aD
   have p181 := eq_true (aD : 0 ≤ (x9_0 : Int))
   have q181 := eq_true (aD : x9_0 < (l0.length : Int))
   cases e181
   replace hx181_0 := qa hx181_0
   obtain ⟨ad183, e183, hx183_0⟩ := Kd.at_int hr0 ((wrap64 (x9_0 - 1)) : Int) aD aD
   have p183 := eq_true (aD : 0 ≤ ((wrap64 (x9_0 - 1)) : Int))
   have q183 := eq_true (aD : (wrap64 (x9_0 - 1)) < (l0.length : Int))
   cases e183
   replace hx183_0 := qa hx183_0
   rotate_left
   exact absurd h (by simp)
   exact absurd h (by simp)
   obtain ⟨kf, hkf⟩ : ∃ kf, kf = kk0 := ⟨_, rfl⟩; rw [← hkf] at h
   obtain ⟨ad181, e181, hx181_0⟩ := Kd.at_int hr0 (x9_0 : Int) aD aD
   have p181 := eq_true (aD : 0 ≤ (x9_0 : Int))
   have q181 := eq_true (aD : x9_0 < (l0.length : Int))
   cases e181
   replace hx181_0 := qa hx181_0
   rotate_left
   obtain rfl := si h
   obtain ⟨ad181, e181, hx181_0⟩ := Kd.at_int hr0 (x9_0 : Int) aD aD
   have p181 := eq_true (aD : 0 ≤ (x9_0 : Int))
   have q181 := eq_true (aD : x9_0 < (l0.length : Int))
   cases e181
   replace hx181_0 := qa hx181_0
   rotate_left
   exact absurd h (by simp)
   exact absurd h (by simp)
   obtain rfl := si h
   rotate_left
   all_goals (go_wp2_with (first | (go_at_call 68; refine (impl_within.calls _ _ _ ?_ _ ?h).mono ?_; (case h => exact zA); rintro e w1 ⟨rfl, hb⟩; have hd := hb; replace hb := hb.below; replace hb := aM hb; have HB : Below w.heap.size w w1 := zB)); first | (go_ret; exact zE zD) | (go_roundg kf; (case measure => omega); (case rel => exact ⟨_, zR, zA, zD⟩)))

end Go.Proofs.Ytbdeimhlohhhiaa.PFnRepairEnumeration
