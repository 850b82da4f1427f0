-- Laid by a program of this claim: what the functions come to, some of them proved by hand.
import Derived.Test.YtbdeimhlohhhiaaPFnExtendToRepairx0
import Derived.Test.YtbdeimhlohhhiaaPFnExtendToRepairx1
import Derived.Test.YtbdeimhlohhhiaaPFnExtendToRepairx15
import Derived.Test.YtbdeimhlohhhiaaPFnExtendToRepairx16
namespace Go.Proofs.Ytbdeimhlohhhiaa.PFnExtendToRepair
open Go.RowKit Go.Proofs.YtbdeimhlohhhiaaW.PrintWords Go.Proofs.YtbdeimhlohhhiaaW.PrintLast Go.Proofs.YtbdeimhlohhhiaaW.PrintMore
attribute [local go_sem] max2_int min2_int max_two min_two max_three min_three max_four min_four   -- for this text's walks alone
set_option linter.unusedVariables false
set_option linter.unusedSimpArgs false

/-! ### impl_IsConsistent: function 16 -/
def impl_IsConsistent.f (k : Nat) (l0_0 : List (S70)) (l0_1 : List (S35)) : Option (Bool) := (impl_IsValidDatabase.f l0_0 l0_1).bind fun t564 => (if t564 = true then ((impl_blocks.f k l0_0 l0_1).bind fun t565 => (some ((t565.length : Int) == (l0_1.length : Int)))) else (some false))
set_option maxHeartbeats 8000000 in
set_option maxRecDepth 100000 in
theorem impl_IsConsistent.calls (k : Nat) (A0_0 : Option Addr) (c0_0 : Nat) (l0_0 : List (S70)) (A0_1 : Option Addr) (c0_1 : Nat) (l0_1 : List (S35)) (r : Bool) (w : World) (hr0_0 : Kd.C k70 w A0_0 l0_0.length l0_0) (hc0_0 : l0_0.length ≤ c0_0) (hr0_1 : Kd.C k35 w A0_1 l0_1.length l0_1) (hc0_1 : l0_1.length ≤ c0_1) (h : impl_IsConsistent.f k l0_0 l0_1 = some r) :
  Calls Try.prog 16 #[.agg #[.slice A0_0 l0_0.length c0_0, .slice A0_1 l0_1.length c0_1]] w fun e w' => e = .returned (.bool r) ∧ Below w.heap.size w w' := by
 have hu27 := Try.underlying27
 obtain ⟨W, hW⟩ : ∃ W, w.alloc (.cells #[.slice A0_0 l0_0.length c0_0, .slice A0_1 l0_1.length c0_1] 27) = W := ⟨_, rfl⟩
 have q0 := qa (w := W) (p := ⟨w.heap.size, 0, none⟩) (v := .slice A0_0 l0_0.length c0_0) (by subst hW; go_simp)
 have q1 := qa (w := W) (p := ⟨w.heap.size, 1, none⟩) (v := .slice A0_1 l0_1.length c0_1) (by subst hW; go_simp)
 have HB : Below w.heap.size w W := by subst hW; exact zB
 have HW := Below.refl W.heap.size W
 have hb := aM HB
 have rg_ := @bcl w
 have rd_ := @bdr w
 have rG_ := @bcl W
 have rD_ := @bdr W
 unfold impl_IsConsistent.f at h
 replace h := bs h; obtain ⟨t564, B0, h⟩ := h
 replace h := ib h; rcases h with ⟨rfl, h⟩ | ⟨rfl, h⟩
 replace h := bs h; obtain ⟨t565, B2, h⟩ := h
 obtain rfl := si h
 rotate_left
 obtain rfl := si h
 rotate_left
 all_goals (go_enter Try.func16, Try.ntmps16; go_wp2; (repeat ((refine nw (w0 := w) zB ?_; intro W1 HB hb hd; have HW : Below W.heap.size W W1 := zB; (first | (refine Txt.rg (id := 1) [0, 1, 2, 3, 6, 7, 8, 4, 5, 9, 10, 11] (by kernel_rfl) (by kernel_rfl) ?_; simp only [List.map_cons, List.map_nil, List.getD_cons_zero, List.getD_cons_succ])); (repeat (first | (refine Txt.off rfl ?_; simp only [Act.put, List.setIfInBounds_toArray, List.set_cons_zero, List.set_cons_succ]) | (refine Txt.take rfl rfl ?_; intro K hK; go_big_quiet_op; go_big_quiet_on) | (refine Txt.call rfl rfl Try.func20 (by kernel_rfl) rfl (impl_IsValidDatabase.calls _ _ _ _ _ _ ?_ _ ?_ ?_ ?_ ?_ ?h) rfl ?_; (case h => exact zA); (iterate 4 (first | exact zC | exact zA)); rintro e w1 ⟨rfl, hb⟩; replace hb := aM hb; have HW : Below W.heap.size W w1 := zB; have HB : Below w.heap.size w w1 := zB; refine ⟨_, rfl, zS, ?_⟩; simp only [Act.put, List.setIfInBounds_toArray, List.set_cons_zero, List.set_cons_succ]) | (refine Txt.call rfl rfl Try.func44 (by kernel_rfl) rfl (impl_blocks.calls ?_ _ _ _ _ _ _ ?_ _ ?_ ?_ ?_ ?_ ?h) rfl ?_; (case h => exact zA); (iterate 4 (first | exact zC | exact zA)); rintro e w1 ⟨v0, rfl, ho0, hb⟩; obtain ⟨A0, c0, rfl, hc0, hC0⟩ := Kd.R_reads (Kd.S_R ho0); replace hb := aM hb; have HW : Below W.heap.size W w1 := zB; have HB : Below w.heap.size w w1 := zB; refine ⟨_, rfl, zS, ?_⟩; simp only [Act.put, List.setIfInBounds_toArray, List.set_cons_zero, List.set_cons_succ]))); refine Txt.nil ?_); (try go_wp2))); go_ret; exact zE zB)

/-! ### impl_copyDatabase: function 52 -/
def impl_copyDatabase.l0 : Nat → List (S35) → Int → Int → List (S70) → List (S35) → Option ((List (S70)) × (List (S35)))
 | 0, _, _, _, _, _ => none
 | k + 1, x13, x14, x15, x580000, x580001 => if x15 < x14 then (if 0 ≤ x15 then (if x15 < (x13.length : Int) then ((some (([] : List Int) : List Int)).bind fun y582 => (if y582.length + ((rd_T35 x13 x15).f1).length < 17592186044416 then (if x580001.length < 4398046511104 then (impl_copyDatabase.l0 k x13 x14 (wrap64 (x15 + 1)) x580000 (x580001 ++ [(⟨(rd_T35 x13 x15).f0, (y582 ++ ((rd_T35 x13 x15).f1))⟩ : S35)])) else (none)) else (none))) else (none)) else (none)) else (some (x580000, x580001))
def impl_copyDatabase.f (k : Nat) (l0_0 : List (S70)) (l0_1 : List (S35)) : Option ((List (S70)) × (List (S35))) := (some (([] : List (S70)) : List (S70))).bind fun y570 => (if y570.length + l0_0.length < 4398046511104 then (impl_copyDatabase.l0 k l0_1 (l0_1.length : Int) 0 (y570 ++ l0_0) (([] : List (S35)))) else (none))
def impl_copyDatabase.T5 : Bool × List (List Nat × List Nat) := (true, [([], []), ([0], [0]), ([], []), ([2], [2]), ([], []), ([], []), ([5], [5]), ([4, 6], [4, 6]), ([3, 7], [3, 7]), ([8], [8]), ([1, 9, 7], [1, 9]), ([0, 1, 2, 3, 4, 5, 6, 7, 8, 9, 10], []), ([11, 10, 10, 0, 1, 2, 3, 4, 5, 6, 7, 8, 9, 10], [10, 11])])
def impl_copyDatabase.B5 : List Nat := [0, 1, 0, 4, 0, 0, 32, 112, 252, 508, 1023, 2047, 4095]
theorem impl_copyDatabase.tab5 : rtab .any (opsOf Try.f52 5) = impl_copyDatabase.T5 := by kernel_rfl
theorem impl_copyDatabase.bits5 : waitsOk impl_copyDatabase.T5.2 impl_copyDatabase.B5 = true := by kernel_rfl
set_option maxHeartbeats 8000000 in
set_option maxRecDepth 100000 in
theorem impl_copyDatabase.calls (k : Nat) (A0_0 : Option Addr) (c0_0 : Nat) (l0_0 : List (S70)) (A0_1 : Option Addr) (c0_1 : Nat) (l0_1 : List (S35)) (r1 : List (S70)) (r2 : List (S35)) (w : World) (hr0_0 : Kd.C k70 w A0_0 l0_0.length l0_0) (hc0_0 : l0_0.length ≤ c0_0) (hr0_1 : Kd.C k35 w A0_1 l0_1.length l0_1) (hc0_1 : l0_1.length ≤ c0_1) (h : impl_copyDatabase.f k l0_0 l0_1 = some (r1, r2)) :
  Calls Try.prog 52 #[.agg #[.slice A0_0 l0_0.length c0_0, .slice A0_1 l0_1.length c0_1]] w fun e w' => ∃ v0_ v1_ : Value, e = .returned (.agg #[v0_, v1_]) ∧ Kd.R k70 70 w' w.heap.size (fun _ => True) v0_ r1 ∧ Kd.S k35 35 w' w.heap.size (fun _ => True) v1_ r2 ∧ Below w.heap.size w w' := by
 have hu27 := Try.underlying27
 have hu35 := Try.underlying35
 have HR0_0 := aM hr0_0
 have HC0_0 := aM hc0_0
 clear hr0_0 hc0_0
 have HR0_1 := aM hr0_1
 have HC0_1 := aM hc0_1
 clear hr0_1 hc0_1
 have HB := aM (Below.refl w.heap.size w)
 have H : ((some (([] : List (S70)) : List (S70))).bind fun y570 => (if y570.length + l0_0.length < 4398046511104 then (impl_copyDatabase.l0 k l0_1 (l0_1.length : Int) 0 (y570 ++ l0_0) (([] : List (S35)))) else (none))) = some (r1, r2) := h
 clear h
 obtain ⟨y570, hy570⟩ : ∃ y_ : List (S70), y_ = (([] : List (S70))) := ⟨_, rfl⟩
 first | replace H := bY hy570 H | rw [← hy570] at H
 have Ny570 := aM hy570
 clear hy570
 by_cases c2 : y570.length + l0_0.length < 4398046511104
 ·rw [if_pos c2] at H
  have LMc2 := aM c2
  clear c2
  obtain ⟨y573, hy573⟩ : ∃ y_ : List (S70), y_ = (y570 ++ l0_0) := ⟨_, rfl⟩
  first | replace H := bY hy573 H | rw [← hy573] at H
  have Ny573 := aM hy573
  clear hy573
  obtain ⟨y576, hy576⟩ : ∃ y_ : List (S35), y_ = (([] : List (S35))) := ⟨_, rfl⟩
  first | replace H := bY hy576 H | rw [← hy576] at H
  have Ny576 := aM hy576
  clear hy576
  have H' := aM H
  clear H
  go_enter Try.func52, Try.ntmps52
  go_wp2_with (first | ((with_reducible refine gate_dst (N := 1) rfl ?_); refine bE 1 (cs := #[.slice A0_0 l0_0.length c0_0, .slice A0_1 l0_1.length c0_1]) (t := 27) ?_; intro gb568 hg w3 hbox hb; have BK568 := aM (hbox); have GW568 := aM ((by rw [hg]; exact (below_size aB) : w.heap.size ≤ gb568)); have GE568 := aM ((by rw [hg]; exact (below_size aB) : w.heap.size ≤ gb568)); replace HB := aM (below_step aB hb); clear hb hbox hg) | ((with_reducible refine gate_dst (N := 2) rfl ?_); refine bE 2 (cs := #[.slice none 0 0, .slice none 0 0]) (t := 27) ?_; intro gb569 hg w4 hbox hb; have BK569 := aM (hbox); have GW569 := aM ((by rw [hg]; exact (below_size aG) : w.heap.size ≤ gb569)); have GE569 := aM ((by rw [hg]; exact (below_size aG) : w.heap.size ≤ gb569)); have NB568_569 := aM ((by rw [hg]; exact Nat.ne_of_lt (blk_lt (g := gb568) (o := .cells #[.slice A0_0 l0_0.length c0_0, .slice A0_1 l0_1.length c0_1] 27 (0, 0)) aK) : gb568 ≠ gb569)); have NB569_568 := aM ((by rw [hg]; exact Nat.ne_of_gt (blk_lt (g := gb568) (o := .cells #[.slice A0_0 l0_0.length c0_0, .slice A0_1 l0_1.length c0_1] 27 (0, 0)) aK) : gb569 ≠ gb568)); replace BK568 := aM (blk_below (g := gb568) (o := .cells #[.slice A0_0 l0_0.length c0_0, .slice A0_1 l0_1.length c0_1] 27 (0, 0)) aK hb); replace HB := aM (below_step aG hb); clear hb hbox hg) | ((with_reducible refine gate_dst (N := 6) rfl ?_); refine Kd.R_lit k70 _ 70 ?hg (N := 6) ?hd (xs := ([] : List (S70))) (inner := []) (ok := fun _ => True) (okp := fun _ => True) ?hr ?hp (fun _ hk => hk) trivial (Below.refl _ _) (Nat.le_refl _) (by simp) ?_; (case hd => rfl); (case hg => rfl); (case hr => first | (go_simp; done) | (go_simp; rfl)); (case hp => exact (Reps.none _ _)); intro v571 w5 ho6 hb hg_ hnew_; clear hg_ hnew_; (first | rw [← Ny570.out] at ho6 | (simp only [Int.reduceToNat] at ho6; rw [← Ny570.out] at ho6)); have n0_ := aM (Kd.R_lower ho6 (below_size aG)); have n1_ := aM (blk_below (g := gb568) (o := .cells #[.slice A0_0 l0_0.length c0_0, .slice A0_1 l0_1.length c0_1] 27 (0, 0)) aK hb); have n2_ := aM (blk_below (g := gb569) (o := .cells #[.slice none 0 0, .slice none 0 0] 27 (0, 0)) aK hb); have n3_ := aM (below_step aG hb); clear BK568; clear BK569; clear HB; have HO572 := n0_; have BK568 := n1_; have BK569 := n2_; have HB := n3_; clear n0_ n1_ n2_ n3_; clear hb ho6; have hnb7 := NB568_569.out; have hnc7 := NB569_568.out; have hcz8_0 : w5.cell? ⟨gb568, 0, none⟩ = some (.slice A0_0 l0_0.length c0_0) := (blk_cell BK568.out 0).trans rfl; have hcz8_1 : w5.cell? ⟨gb568, 1, none⟩ = some (.slice A0_1 l0_1.length c0_1) := (blk_cell BK568.out 1).trans rfl; have hfz8_0 := blk_frozen BK568.out 0; have hfz8_1 := blk_frozen BK568.out 1) | ((with_reducible refine gate_builtin (b := .append) (xs := #[.tmp 6, .tmp 8]) rfl ?_); at_builtin; refine Kd.R_append_rows k70 (w0 := w) w.heap.size rfl (.tmp 6) (.tmp 8) 24 70 (.agg #[(.string ⟨#[]⟩), (.int .i64 0), (.int .i64 0)]) 32 rfl Try.underlying24 info70 rfl (by decide) (by omega) v571 y570 l0_0 _ _ _ (fun _ => True) (fun _ => False) rfl rfl ?aO ?aR (fun _ _ h => h) (fun _ h => h.elim) ?aF ?aB ?aS ?aL ?_; (case aR => exact aC); (case aB => exact aG); (case aF => exact (fun _ _ => trivial)); (case aO => exact (aR HO572)); (case aS => exact (below_size aG)); (case aL => have := LMc2.out; omega); intro v574 w9 ho hb hg hat; rw [← Ny573.out] at ho; have n0_ := aM (blk_grown (g := gb568) (o := .cells #[.slice A0_0 l0_0.length c0_0, .slice A0_1 l0_1.length c0_1] 27 (0, 0)) aK hg (Kd.R_ne HO572.out BK568.out (by decide))); have n1_ := aM (blk_grown (g := gb569) (o := .cells #[.slice none 0 0, .slice none 0 0] 27 (0, 0)) aK hg (Kd.R_ne HO572.out BK569.out (by decide))); have n2_ := aM (hb); have n3_ := aM (ho); clear BK568; clear BK569; clear HB; clear HO572; have BK568 := n0_; have BK569 := n1_; have HB := n2_; have HO575 := n3_; clear n0_ n1_ n2_ n3_; clear ho hb hg hat) | ((with_reducible refine gate_dst (N := 10) rfl ?_); refine Kd.S_lit k35 _ 35 ?hg (N := 10) ?hd (xs := ([] : List (S35))) (inner := []) (ok := fun _ => True) (okp := fun _ => True) ?hr ?hp (fun _ hk => hk) trivial (Below.refl _ _) (Nat.le_refl _) (by simp) ?_; (case hd => rfl); (case hg => rfl); (case hr => first | (go_simp; done) | (go_simp; rfl)); (case hp => exact (Reps.none _ _)); intro v577 w10 ho11 hb hg_ hnew_; clear hg_ hnew_; (first | rw [← Ny576.out] at ho11 | (simp only [Int.reduceToNat] at ho11; rw [← Ny576.out] at ho11)); have n0_ := aM (Kd.R_below (aR HO575) hb); have n1_ := aM (Kd.S_lower ho11 (below_size aG)); have n2_ := aM (blk_below (g := gb568) (o := .cells #[.slice A0_0 l0_0.length c0_0, .slice A0_1 l0_1.length c0_1] 27 (0, 0)) aK hb); have n3_ := aM (blk_below (g := gb569) (o := .cells #[.slice none 0 0, .slice none 0 0] 27 (0, 0)) aK hb); have n4_ := aM (below_step aG hb); clear HO575; clear BK568; clear BK569; clear HB; have HO575 := n0_; have HO578 := n1_; have BK568 := n2_; have BK569 := n3_; have HB := n4_; clear n0_ n1_ n2_ n3_ n4_; clear hb ho11; obtain ⟨Ao12, co12, eo12⟩ := Kd.S_slice HO578.out; subst eo12; obtain ⟨Ao13, co13, eo13⟩ := Kd.R_slice HO575.out; subst eo13) | ((with_reducible refine gate_dst (N := 3) rfl ?_); refine bE 3 (cs := #[.slice none 0 0, .slice none 0 0]) (t := 27) ?_; intro gb579 hg w14 hbox hb; have n0_ := aM (Kd.R_below (aR HO575) hb); have n1_ := aM (Kd.S_below (aS HO578) hb); have n2_ := aM (blk_below (g := gb568) (o := .cells #[.slice A0_0 l0_0.length c0_0, .slice A0_1 l0_1.length c0_1] 27 (0, 0)) aK hb); have n3_ := aM (blk_below (g := gb569) (o := .cells #[.slice none 0 0, .slice none 0 0] 27 (0, 0)) aK hb); have n4_ := aM (below_step aG hb); have n5_ := aM (hbox); have n6_ := aM ((by rw [hg]; exact (below_size aG) : w.heap.size ≤ gb579)); have n7_ := aM ((by rw [hg]; exact (below_size aG) : w.heap.size ≤ gb579)); have n8_ := aM ((by rw [hg]; exact Nat.ne_of_lt (blk_lt (g := gb568) (o := .cells #[.slice A0_0 l0_0.length c0_0, .slice A0_1 l0_1.length c0_1] 27 (0, 0)) aK) : gb568 ≠ gb579)); have n9_ := aM ((by rw [hg]; exact Nat.ne_of_gt (blk_lt (g := gb568) (o := .cells #[.slice A0_0 l0_0.length c0_0, .slice A0_1 l0_1.length c0_1] 27 (0, 0)) aK) : gb579 ≠ gb568)); have n10_ := aM ((by rw [hg]; exact Nat.ne_of_lt (blk_lt (g := gb569) (o := .cells #[.slice none 0 0, .slice none 0 0] 27 (0, 0)) aK) : gb569 ≠ gb579)); have n11_ := aM ((by rw [hg]; exact Nat.ne_of_gt (blk_lt (g := gb569) (o := .cells #[.slice none 0 0, .slice none 0 0] 27 (0, 0)) aK) : gb579 ≠ gb569)); clear HO575; clear HO578; clear BK568; clear BK569; clear HB; have HO575 := n0_; have HO578 := n1_; have BK568 := n2_; have BK569 := n3_; have HB := n4_; have BK579 := n5_; have GW579 := n6_; have GE579 := n7_; have NB568_579 := n8_; have NB579_568 := n9_; have NB569_579 := n10_; have NB579_569 := n11_; clear n0_ n1_ n2_ n3_ n4_ n5_ n6_ n7_ n8_ n9_ n10_ n11_; clear hb hbox hg; have hnb15 := NB579_568.out; have hnc15 := NB568_579.out; have hnb16 := NB579_569.out; have hnc16 := NB569_579.out; have hcz17_0 : w14.cell? ⟨gb579, 0, none⟩ = some (.slice none 0 0) := (blk_cell BK579.out 0).trans rfl; have hcz17_1 : w14.cell? ⟨gb579, 1, none⟩ = some (.slice none 0 0) := (blk_cell BK579.out 1).trans rfl; have hfz17_0 := blk_frozen BK579.out 0; have hfz17_1 := blk_frozen BK579.out 1; have hcz18_0 : w14.cell? ⟨gb568, 0, none⟩ = some (.slice A0_0 l0_0.length c0_0) := (blk_cell BK568.out 0).trans rfl; have hcz18_1 : w14.cell? ⟨gb568, 1, none⟩ = some (.slice A0_1 l0_1.length c0_1) := (blk_cell BK568.out 1).trans rfl; have hfz18_0 := blk_frozen BK568.out 0; have hfz18_1 := blk_frozen BK568.out 1))
  go_loopg [15] k (fun kq v15 w' => ∃ (x15_1 : Int) (x580001_1 : List (S35)) (u580001 : Value), v15 = .int .i64 x15_1 ∧ Aside0 (impl_copyDatabase.l0 kq l0_1 (l0_1.length : Int) x15_1 y573 x580001_1 = some (r1, r2)) ∧ Aside0 (kq ≤ k) ∧ Aside0 (Kd.R k70 70 w' w.heap.size (fun _ => True) (.slice Ao13 y573.length co13) y573) ∧ Aside0 (Kd.S k35 35 w' w.heap.size (fun _ => True) u580001 x580001_1) ∧ Aside0 (w'.heap[gb568]? = some (.cells #[(.slice A0_0 l0_0.length c0_0), (.slice A0_1 l0_1.length c0_1)] 27 (0, 0))) ∧ Aside0 (w'.heap[gb569]? = some (.cells #[(.slice none 0 0), (.slice none 0 0)] 27 (0, 0))) ∧ Aside0 (w'.heap[gb579]? = some (.cells #[(.slice Ao13 y573.length co13), u580001] 27 (0, 0))) ∧ Aside0 (Below w.heap.size w w'))
  case atStart => exact ⟨(0), (y576), (.slice Ao12 y576.length co12), aX, H', ⟨Nat.le_refl _⟩, ⟨by (with_reducible repeat apply pR); exact Kd.R_mono (Kd.R_far (p := ⟨gb579, 1, none⟩) (Kd.R_far (p := ⟨gb579, 0, none⟩) (Kd.R_types HO575.out BK579.out (by decide)) (fun _ hk => hk.2) (.slice Ao13 y573.length co13)) (fun _ hk => hk.2) (.slice Ao12 y576.length co12)) (fun _ hk => trivial)⟩, ⟨by (with_reducible repeat apply pS); exact Kd.S_mono (Kd.S_far (p := ⟨gb579, 1, none⟩) (Kd.S_far (p := ⟨gb579, 0, none⟩) (Kd.S_types HO578.out BK579.out (by decide)) (fun _ hk => hk.2) (.slice Ao13 y573.length co13)) (fun _ hk => hk.2) (.slice Ao12 y576.length co12)) (fun _ hk => trivial)⟩, ⟨by (with_reducible repeat refine pB ?_); refine blk_far ?_ NB568_579.out _; (with_reducible repeat refine pB ?_); refine blk_far ?_ NB568_579.out _; (with_reducible repeat refine pB ?_); exact BK568.out⟩, ⟨by (with_reducible repeat refine pB ?_); refine blk_far ?_ NB569_579.out _; (with_reducible repeat refine pB ?_); refine blk_far ?_ NB569_579.out _; (with_reducible repeat refine pB ?_); exact BK569.out⟩, ⟨by (with_reducible repeat refine pB ?_); refine blk_put (cs := #[.slice Ao13 y573.length co13, .slice none 0 0]) ?_ 1 _ rfl; (with_reducible repeat refine pB ?_); refine blk_put (cs := #[.slice none 0 0, .slice none 0 0]) ?_ 0 _ rfl; (with_reducible repeat refine pB ?_); exact BK579.out⟩, ⟨aG⟩⟩
  case round =>
   clear H'
   try clear c1
   try clear c2
   try clear p2
   try clear c5
   try clear c7
   try clear c15
   try clear c16
   try clear hcz17_0
   try clear hcz17_1
   try clear hcz18_0
   try clear hcz18_1
   try clear hcz8_0
   try clear hcz8_1
   try clear hfz17_0
   try clear hfz17_1
   try clear hfz18_0
   try clear hfz18_1
   try clear hfz8_0
   try clear hfz8_1
   obtain ⟨x15_1, x580001_1, u580001, rfl, HA, HK1, HO_580000, HO_580001, BK568, BK569, BK579, HB⟩ := hrel
   cases gk with
   | zero => exact absurd HA.out (by simp [impl_copyDatabase.l0])
   | succ k1 =>
    have H := HA.out
    clear HA
    simp only [impl_copyDatabase.l0] at H
    by_cases c19 : x15_1 < (l0_1.length : Int)
    ·rw [if_pos c19] at H
     have c19b0 : decide (x15_1 < (l0_1.length : Int)) = true := decide_eq_true c19
     clear c19
     by_cases c20 : 0 ≤ x15_1
     ·rw [if_pos c20] at H
      have c20b0 : decide (0 ≤ x15_1) = true := decide_eq_true c20
      clear c20
      by_cases c21 : x15_1 < (l0_1.length : Int)
      ·rw [if_pos c21] at H
       have c21b0 : decide (x15_1 < (l0_1.length : Int)) = true := decide_eq_true c21
       clear c21
       obtain ⟨y582, hy582⟩ : ∃ y_ : List Int, y_ = (([] : List Int)) := ⟨_, rfl⟩
       first | replace H := bY hy582 H | rw [← hy582] at H
       have Ny582 := aM hy582
       clear hy582
       by_cases c22 : y582.length + ((rd_T35 l0_1 x15_1).f1).length < 17592186044416
       ·rw [if_pos c22] at H
        have LMc22 := aM c22
        clear c22
        obtain ⟨y585, hy585⟩ : ∃ y_ : List Int, y_ = (y582 ++ ((rd_T35 l0_1 x15_1).f1)) := ⟨_, rfl⟩
        first | replace H := bY hy585 H | rw [← hy585] at H
        have Ny585 := aM hy585
        clear hy585
        by_cases c23 : x580001_1.length < 4398046511104
        ·rw [if_pos c23] at H
         have LMc23 := aM c23
         clear c23
         obtain ⟨y588, hy588⟩ : ∃ y_ : List (S35), y_ = (x580001_1 ++ [(⟨(rd_T35 l0_1 x15_1).f0, y585⟩ : S35)]) := ⟨_, rfl⟩
         first | replace H := bY hy588 H | rw [← hy588] at H
         have Ny588 := aM hy588
         clear hy588
         have H' := aM H
         clear H
         have p580 : 0 ≤ (x15_1 : Int) := aD
         have q580 : x15_1 < (l0_1.length : Int) := aD
         obtain ⟨ad580, A580_1, c580_1, e580, hx580_0, hx580_1, hl580_1, hi580_1⟩ := at_T35 HR0_1.out x15_1 p580 q580
         cases e580
         replace hx580_0 := (HB.out.cell (World.block_lt_of_cell? w _ hx580_0)).trans hx580_0
         replace hx580_1 := (HB.out.cell (World.block_lt_of_cell? w _ hx580_1)).trans hx580_1
         have HR580_1 := aM hi580_1
         have HC580_1 := aM hl580_1
         clear hi580_1 hl580_1
         replace p580 := eq_true p580
         replace q580 := eq_true q580
         try go_wp2_with (first | ((with_reducible refine gate_dst (N := 5) rfl ?_); refine bE 5 (cs := #[.int .i64 0, .slice none 0 0]) (t := 35) ?_; intro gb581 hg w24 hbox hb; have n0_ := aM (Kd.R_below (aR HO_580000) hb); have n1_ := aM (Kd.S_below (Kd.S_elderB (aS HO_580001) gb581 (Nat.le_of_eq hg.symm)) hb); have n2_ := aM (blk_below (g := gb568) (o := .cells #[.slice A0_0 l0_0.length c0_0, .slice (some ad580) l0_1.length c0_1] 27 (0, 0)) aK hb); have n3_ := aM (blk_below (g := gb569) (o := .cells #[.slice none 0 0, .slice none 0 0] 27 (0, 0)) aK hb); have n4_ := aM (blk_below (g := gb579) (o := .cells #[.slice Ao13 y573.length co13, u580001] 27 (0, 0)) aK hb); have n5_ := aM (below_step aG hb); have n6_ := aM (hbox); have n7_ := aM ((by rw [hg]; exact (below_size aG) : w.heap.size ≤ gb581)); have n8_ := aM ((by rw [hg]; exact (below_size aG) : w.heap.size ≤ gb581)); have n9_ := aM ((by rw [hg]; exact Nat.ne_of_lt (blk_lt (g := gb568) (o := .cells #[.slice A0_0 l0_0.length c0_0, .slice (some ad580) l0_1.length c0_1] 27 (0, 0)) aK) : gb568 ≠ gb581)); have n10_ := aM ((by rw [hg]; exact Nat.ne_of_gt (blk_lt (g := gb568) (o := .cells #[.slice A0_0 l0_0.length c0_0, .slice (some ad580) l0_1.length c0_1] 27 (0, 0)) aK) : gb581 ≠ gb568)); have n11_ := aM ((by rw [hg]; exact Nat.ne_of_lt (blk_lt (g := gb569) (o := .cells #[.slice none 0 0, .slice none 0 0] 27 (0, 0)) aK) : gb569 ≠ gb581)); have n12_ := aM ((by rw [hg]; exact Nat.ne_of_gt (blk_lt (g := gb569) (o := .cells #[.slice none 0 0, .slice none 0 0] 27 (0, 0)) aK) : gb581 ≠ gb569)); have n13_ := aM ((by rw [hg]; exact Nat.ne_of_lt (blk_lt (g := gb579) (o := .cells #[.slice Ao13 y573.length co13, u580001] 27 (0, 0)) aK) : gb579 ≠ gb581)); have n14_ := aM ((by rw [hg]; exact Nat.ne_of_gt (blk_lt (g := gb579) (o := .cells #[.slice Ao13 y573.length co13, u580001] 27 (0, 0)) aK) : gb581 ≠ gb579)); clear HO_580000; clear HO_580001; clear BK568; clear BK569; clear BK579; clear HB; have HO_580000 := n0_; have HO_580001 := n1_; have BK568 := n2_; have BK569 := n3_; have BK579 := n4_; have HB := n5_; have BK581 := n6_; have GW581 := n7_; have GE581 := n8_; have NB568_581 := n9_; have NB581_568 := n10_; have NB569_581 := n11_; have NB581_569 := n12_; have NB579_581 := n13_; have NB581_579 := n14_; clear n0_ n1_ n2_ n3_ n4_ n5_ n6_ n7_ n8_ n9_ n10_ n11_ n12_ n13_ n14_; clear hb hbox hg; have hnb25 := NB581_568.out; have hnc25 := NB568_581.out; have hnb26 := NB581_569.out; have hnc26 := NB569_581.out; have hnb27 := NB581_579.out; have hnc27 := NB579_581.out; have hcz28_0 : w24.cell? ⟨gb581, 0, none⟩ = some (.int .i64 0) := (blk_cell BK581.out 0).trans rfl; have hcz28_1 : w24.cell? ⟨gb581, 1, none⟩ = some (.slice none 0 0) := (blk_cell BK581.out 1).trans rfl; have hfz28_0 := blk_frozen BK581.out 0; have hfz28_1 := blk_frozen BK581.out 1))
         have n0_ : Aside0 (Kd.R k70 70 ((w24.setCell ⟨gb581, 0, none⟩ (.int .i64 ((rd_T35 l0_1 x15_1).f0))).setCell ⟨gb581, 1, none⟩ (.slice A580_1 ((rd_T35 l0_1 x15_1).f1).length c580_1)) w.heap.size (fun _ => True) (.slice Ao13 y573.length co13) y573) := ⟨by (with_reducible repeat apply pR); exact Kd.R_mono (Kd.R_far (p := ⟨gb581, 1, none⟩) (Kd.R_far (p := ⟨gb581, 0, none⟩) (Kd.R_types HO_580000.out BK581.out (by decide)) (fun _ hk => hk.2) (.int .i64 ((rd_T35 l0_1 x15_1).f0))) (fun _ hk => hk.2) (.slice A580_1 ((rd_T35 l0_1 x15_1).f1).length c580_1)) (fun _ hk => trivial)⟩
         have n1_ : Aside0 (Kd.S k35 35 ((w24.setCell ⟨gb581, 0, none⟩ (.int .i64 ((rd_T35 l0_1 x15_1).f0))).setCell ⟨gb581, 1, none⟩ (.slice A580_1 ((rd_T35 l0_1 x15_1).f1).length c580_1)) w.heap.size (fun k_ => k_ ≠ gb581) u580001 x580001_1) := ⟨by (with_reducible repeat apply pS); exact Kd.S_mono (Kd.S_far (p := ⟨gb581, 1, none⟩) (Kd.S_far (p := ⟨gb581, 0, none⟩) (Kd.S_mono HO_580001.out (fun k_ hk => (⟨hk, hk.2⟩ : _ ∧ k_ ≠ gb581))) (fun _ hk => hk.2) (.int .i64 ((rd_T35 l0_1 x15_1).f0))) (fun _ hk => hk.2) (.slice A580_1 ((rd_T35 l0_1 x15_1).f1).length c580_1)) (fun _ hk => hk.1.2)⟩
         have n2_ : Aside0 (((w24.setCell ⟨gb581, 0, none⟩ (.int .i64 ((rd_T35 l0_1 x15_1).f0))).setCell ⟨gb581, 1, none⟩ (.slice A580_1 ((rd_T35 l0_1 x15_1).f1).length c580_1)).heap[gb568]? = some (.cells #[.slice A0_0 l0_0.length c0_0, .slice (some ad580) l0_1.length c0_1] 27 (0, 0))) := ⟨by (with_reducible repeat refine pB ?_); refine blk_far ?_ NB568_581.out _; (with_reducible repeat refine pB ?_); refine blk_far ?_ NB568_581.out _; (with_reducible repeat refine pB ?_); exact BK568.out⟩
         have n3_ : Aside0 (((w24.setCell ⟨gb581, 0, none⟩ (.int .i64 ((rd_T35 l0_1 x15_1).f0))).setCell ⟨gb581, 1, none⟩ (.slice A580_1 ((rd_T35 l0_1 x15_1).f1).length c580_1)).heap[gb569]? = some (.cells #[.slice none 0 0, .slice none 0 0] 27 (0, 0))) := ⟨by (with_reducible repeat refine pB ?_); refine blk_far ?_ NB569_581.out _; (with_reducible repeat refine pB ?_); refine blk_far ?_ NB569_581.out _; (with_reducible repeat refine pB ?_); exact BK569.out⟩
         have n4_ : Aside0 (((w24.setCell ⟨gb581, 0, none⟩ (.int .i64 ((rd_T35 l0_1 x15_1).f0))).setCell ⟨gb581, 1, none⟩ (.slice A580_1 ((rd_T35 l0_1 x15_1).f1).length c580_1)).heap[gb579]? = some (.cells #[.slice Ao13 y573.length co13, u580001] 27 (0, 0))) := ⟨by (with_reducible repeat refine pB ?_); refine blk_far ?_ NB579_581.out _; (with_reducible repeat refine pB ?_); refine blk_far ?_ NB579_581.out _; (with_reducible repeat refine pB ?_); exact BK579.out⟩
         have n5_ : Aside0 (((w24.setCell ⟨gb581, 0, none⟩ (.int .i64 ((rd_T35 l0_1 x15_1).f0))).setCell ⟨gb581, 1, none⟩ (.slice A580_1 ((rd_T35 l0_1 x15_1).f1).length c580_1)).heap[gb581]? = some (.cells #[.int .i64 ((rd_T35 l0_1 x15_1).f0), .slice A580_1 ((rd_T35 l0_1 x15_1).f1).length c580_1] 35 (0, 0))) := ⟨by (with_reducible repeat refine pB ?_); refine blk_put (cs := #[.int .i64 ((rd_T35 l0_1 x15_1).f0), .slice none 0 0]) ?_ 1 _ rfl; (with_reducible repeat refine pB ?_); refine blk_put (cs := #[.int .i64 0, .slice none 0 0]) ?_ 0 _ rfl; (with_reducible repeat refine pB ?_); exact BK581.out⟩
         have n6_ : Aside0 (Below w.heap.size w ((w24.setCell ⟨gb581, 0, none⟩ (.int .i64 ((rd_T35 l0_1 x15_1).f0))).setCell ⟨gb581, 1, none⟩ (.slice A580_1 ((rd_T35 l0_1 x15_1).f1).length c580_1))) := ⟨aG⟩
         (try clear HO_580000)
         (try clear HO_580001)
         (try clear BK568)
         (try clear BK569)
         (try clear BK579)
         (try clear BK581)
         (try clear HB)
         generalize ((w24.setCell ⟨gb581, 0, none⟩ (.int .i64 ((rd_T35 l0_1 x15_1).f0))).setCell ⟨gb581, 1, none⟩ (.slice A580_1 ((rd_T35 l0_1 x15_1).f1).length c580_1)) = w29 at n0_ n1_ n2_ n3_ n4_ n5_ n6_ ⊢
         have HO_580000 := n0_
         have HO_580001 := n1_
         have BK568 := n2_
         have BK569 := n3_
         have BK579 := n4_
         have BK581 := n5_
         have HB := n6_
         clear n0_ n1_ n2_ n3_ n4_ n5_ n6_
         replace HO_580000 := aM (Kd.R_drew HO_580000.out)
         replace HO_580001 := aM (Kd.S_drew HO_580001.out)
         replace BK568 := aM (blk_drew BK568.out)
         replace BK569 := aM (blk_drew BK569.out)
         replace BK579 := aM (blk_drew BK579.out)
         replace BK581 := aM (blk_drew BK581.out)
         replace HB := aM (below_drew1 HB.out)
         refine start_ (n := 13) (S := fun w' => w'.cell? ⟨gb579, 0, none⟩ = some (.slice Ao13 y573.length co13) ∧ w'.cell? ⟨gb579, 1, none⟩ = some (u580001) ∧ w'.cell? ⟨gb581, 0, none⟩ = some (.int .i64 ((rd_T35 l0_1 x15_1).f0)) ∧ w'.cell? ⟨gb581, 1, none⟩ = some (.slice A580_1 ((rd_T35 l0_1 x15_1).f1).length c580_1)) (ds := [12]) #[false, false, false, false, false, false, false, false, false, false, false, false, false] (by kernel_rfl) rfl rfl ⟨(blk_cell BK579.out 0).trans rfl, (blk_cell BK579.out 1).trans rfl, (blk_cell BK581.out 0).trans rfl, (blk_cell BK581.out 1).trans rfl⟩ (fun hHeld => ?_); refine with_tabW impl_copyDatabase.tab5 impl_copyDatabase.bits5 (fun HT_ HW_ => ?_)
         generalize w29.drew = w30 at HO_580000 HO_580001 BK568 BK569 BK579 BK581 HB hHeld ⊢
         refine pU 0 19 ?_
         refine pU 2 21 ?_
         refine pU 5 24 ?_
         refine tU4 1 20 hHeld ?_
         refine tU4 3 22 hHeld ?_
         refine tU4 6 25 hHeld ?_
         refine oU 4 23 (fun K hK => ?_)
         refine Kd.R_lit_step (Kd.int .i64) _ 3 ?hg (N := 23) ?hd (xs := ([] : List Int)) (inner := []) (ok := fun _ => True) (okp := fun _ => True) ?hr ?hp (fun _ hk => hk) trivial (Below.refl _ _) (Nat.le_refl _) (by simp) ?_; (case hd => rfl); (case hg => rfl); (case hr => first | (go_simp; done) | (go_simp; rfl)); (case hp => exact (Reps.none _ _))
         intro v583 w31 ho32 hb hg_ hnew_
         clear hg_ hnew_
         (first | rw [← Ny582.out] at ho32 | (simp only [Int.reduceToNat] at ho32; rw [← Ny582.out] at ho32))
         have n0_ := aM (Kd.R_below (aR HO_580000) hb)
         have n1_ := aM (Kd.S_elder' (aS HO_580001) (Kd.R_base ho32) hb)
         have n2_ := aM (Kd.R_lower ho32 (below_size aG))
         have n3_ := aM (blk_below (g := gb568) (o := .cells #[.slice A0_0 l0_0.length c0_0, .slice (some ad580) l0_1.length c0_1] 27 (0, 0)) aK hb)
         have n4_ := aM (blk_below (g := gb569) (o := .cells #[.slice none 0 0, .slice none 0 0] 27 (0, 0)) aK hb)
         have n5_ := aM (blk_below (g := gb579) (o := .cells #[.slice Ao13 y573.length co13, u580001] 27 (0, 0)) aK hb)
         have n6_ := aM (blk_below (g := gb581) (o := .cells #[.int .i64 ((rd_T35 l0_1 x15_1).f0), .slice A580_1 ((rd_T35 l0_1 x15_1).f1).length c580_1] 35 (0, 0)) aK hb)
         have n7_ := aM (below_step aG hb)
         clear HO_580000
         clear HO_580001
         clear BK568
         clear BK569
         clear BK579
         clear BK581
         clear HB
         have HO_580000 := n0_
         have HO_580001 := n1_
         have HO584 := n2_
         have BK568 := n3_
         have BK569 := n4_
         have BK579 := n5_
         have BK581 := n6_
         have HB := n7_
         clear n0_ n1_ n2_ n3_ n4_ n5_ n6_ n7_
         clear hb ho32
         refine hK.out _ _ ⟨(blk_cell BK579.out 0).trans rfl, (blk_cell BK579.out 1).trans rfl, (blk_cell BK581.out 0).trans rfl, (blk_cell BK581.out 1).trans rfl⟩ (fun hHeld => ?_)
         clear hK K
         refine nU 23 ?_
         refine oU 7 26 (fun K hK => ?_)
         refine Kd.R_append_rows_step (Kd.int .i64) (w0 := w) w.heap.size (by rfl) (.tmp 23) (.tmp 25) 32 3 (.int .i64 0) 8 rfl Try.underlying32 info3 rfl (by decide) (by omega) v583 y582 ((rd_T35 l0_1 x15_1).f1) _ _ _ (fun _ => True) (fun _ => False) rfl rfl ?aO ?aR (fun _ _ h => h) (fun _ h => h.elim) ?aF ?aB ?aS ?aL ?_
         (case aR => exact aC)
         (case aB => exact aG)
         (case aF => exact (fun _ _ => trivial))
         (case aO => exact (aR HO584))
         (case aS => exact (below_size aG))
         (case aL => have := LMc22.out; omega)
         intro v586 w33 ho hb hg hat
         rw [← Ny585.out] at ho
         have n0_ := aM (Kd.R_over' (aR HO_580000) (Kd.R_typed (aR HO584)) (by decide) hg)
         have n1_ := aM (Kd.S_after (ok := (fun k_ => k_ ≠ gb581)) (aS HO_580001) hg hat)
         have n2_ := aM (blk_grown (g := gb568) (o := .cells #[.slice A0_0 l0_0.length c0_0, .slice (some ad580) l0_1.length c0_1] 27 (0, 0)) aK hg (Kd.R_ne HO584.out BK568.out (by decide)))
         have n3_ := aM (blk_grown (g := gb569) (o := .cells #[.slice none 0 0, .slice none 0 0] 27 (0, 0)) aK hg (Kd.R_ne HO584.out BK569.out (by decide)))
         have n4_ := aM (blk_grown (g := gb579) (o := .cells #[.slice Ao13 y573.length co13, u580001] 27 (0, 0)) aK hg (Kd.R_ne HO584.out BK579.out (by decide)))
         have n5_ := aM (blk_grown (g := gb581) (o := .cells #[.int .i64 ((rd_T35 l0_1 x15_1).f0), .slice A580_1 ((rd_T35 l0_1 x15_1).f1).length c580_1] 35 (0, 0)) aK hg (Kd.R_ne HO584.out BK581.out (by decide)))
         have n6_ := aM (hb)
         have n7_ := aM (ho)
         clear HO_580000
         clear HO_580001
         clear BK568
         clear BK569
         clear BK579
         clear BK581
         clear HB
         clear HO584
         have HO_580000 := n0_
         have HO_580001 := n1_
         have BK568 := n2_
         have BK569 := n3_
         have BK579 := n4_
         have BK581 := n5_
         have HB := n6_
         have HO587 := n7_
         clear n0_ n1_ n2_ n3_ n4_ n5_ n6_ n7_
         clear ho hb hg hat
         obtain ⟨Ao34, co34, eo34⟩ := Kd.R_slice HO587.out
         (first | subst eo34 | (injection eo34 with f1_ f2_ f3_; have f4_ := f1_.symm; have f5_ := f3_.symm; clear f1_ f2_ f3_; subst f4_; subst f5_))
         refine hK.out _ _ ⟨(blk_cell BK579.out 0).trans rfl, (blk_cell BK579.out 1).trans rfl, (blk_cell BK581.out 0).trans rfl, (blk_cell BK581.out 1).trans rfl⟩ (fun hHeld => ?_)
         clear hK K
         refine nU 26 ?_
         refine pU 8 27 ?_
         refine oU 9 28 (fun K hK => ?_)
         refine value_ (w1 := ?_) (v := ?_) (by rfl) rfl ?_ ?_
         rotate_left 2
         ·go_simp
          constructor
          ·rfl
          ·rfl
         refine hK.out _ _ ⟨(blk_cell (blk_alloc BK579.out _) 0).trans rfl, (blk_cell (blk_alloc BK579.out _) 1).trans rfl, (blk_cell (blk_alloc BK581.out _) 0).trans rfl, (blk_cell (blk_alloc BK581.out _) 1).trans rfl⟩ (fun hHeld => ?_)
         clear hK K
         refine nU 28 ?_
         refine oU 10 29 (fun K hK => ?_)
         refine Kd.S_append_step k35 (w0 := w) w.heap.size (by rfl) (.tmp 20) (.tmp 28) 25 35 (.agg #[(.int .i64 0), (.slice none 0 0)]) 32 rfl Try.underlying25 info35 rfl (by decide) (by omega) u580001 x580001_1 (⟨(rd_T35 l0_1 x15_1).f0, y585⟩ : S35) [.int .i64 ((rd_T35 l0_1 x15_1).f0), .slice Ao34 y585.length co34] (fun k_ => k_ ≠ gb581) (fun k_ => some k_ = (.slice Ao34 y585.length co34 : Value).ownBlock) rfl rfl ?aP (fun k_ hk_ => ((Kd.R_mono (ok' := fun k_ => ((fun k_ => k_ ≠ gb581)) k_ ∧ some k_ ≠ (u580001 : Value).ownBlock) (Kd.R_types (Kd.R_apart' (HO587.out) (Kd.S_typed HO_580001.out) (by decide)) BK581.out (by decide)) (fun k_ hk => ⟨hk.2, hk.1.2⟩))).1 k_ hk_.symm) ?aF ?aO ?aB ?aS ?aL ?_
         (case aP => exact k35_mkM _ _ _ (⟨(rd_T35 l0_1 x15_1).f0, y585⟩ : S35) (Kd.R_mono (Kd.R_tight rfl (Kd.R_mono (ok' := fun k_ => ((fun k_ => k_ ≠ gb581)) k_ ∧ some k_ ≠ (u580001 : Value).ownBlock) (Kd.R_types (Kd.R_apart' (HO587.out) (Kd.S_typed HO_580001.out) (by decide)) BK581.out (by decide)) (fun k_ hk => ⟨hk.2, hk.1.2⟩))) (fun _ h_ => h_)))
         (case aB => exact aG)
         (case aF => exact (fun k_ hk => Kd.freshB (g := gb581) (o := .cells #[.int .i64 ((rd_T35 l0_1 x15_1).f0), .slice A580_1 ((rd_T35 l0_1 x15_1).f1).length c580_1] 35 (0, 0)) aK k_ hk))
         (case aO => exact (by (with_reducible repeat apply pS); exact Kd.S_mono HO_580001.out (fun k_ hk => ⟨hk.1, fun e_ => hk.2 e_⟩)))
         (case aS => exact (below_size aG))
         (case aL => have := LMc23.out; omega)
         intro v589 w35 ho hb hg hat
         rw [← Ny588.out] at ho
         have n0_ := aM (Kd.R_over' (aR HO_580000) (Kd.S_typed (aS HO_580001)) (by decide) hg)
         have n1_ := aM (blk_grown (g := gb568) (o := .cells #[.slice A0_0 l0_0.length c0_0, .slice (some ad580) l0_1.length c0_1] 27 (0, 0)) aK hg (Kd.S_ne HO_580001.out BK568.out (by decide)))
         have n2_ := aM (blk_grown (g := gb569) (o := .cells #[.slice none 0 0, .slice none 0 0] 27 (0, 0)) aK hg (Kd.S_ne HO_580001.out BK569.out (by decide)))
         have n3_ := aM (blk_grown (g := gb579) (o := .cells #[.slice Ao13 y573.length co13, u580001] 27 (0, 0)) aK hg (Kd.S_ne HO_580001.out BK579.out (by decide)))
         have n4_ := aM (blk_grown (g := gb581) (o := .cells #[.int .i64 ((rd_T35 l0_1 x15_1).f0), .slice A580_1 ((rd_T35 l0_1 x15_1).f1).length c580_1] 35 (0, 0)) aK hg (Kd.S_away HO_580001.out (fun _ hk => hk.1)))
         have n5_ := aM (hb)
         have n6_ := aM (ho)
         clear HO_580000
         clear BK568
         clear BK569
         clear BK579
         clear BK581
         clear HB
         clear HO_580001
         clear HO587
         have HO_580000 := n0_
         have BK568 := n1_
         have BK569 := n2_
         have BK579 := n3_
         have BK581 := n4_
         have HB := n5_
         have HO590 := n6_
         clear n0_ n1_ n2_ n3_ n4_ n5_ n6_
         clear ho hb hg hat
         obtain ⟨Ao36, co36, eo36⟩ := Kd.S_slice HO590.out
         (first | subst eo36 | (injection eo36 with f1_ f2_ f3_; have f4_ := f1_.symm; have f5_ := f3_.symm; clear f1_ f2_ f3_; subst f4_; subst f5_))
         refine hK.out _ _ ⟨(blk_cell BK579.out 0).trans rfl, (blk_cell BK579.out 1).trans rfl, (blk_cell BK581.out 0).trans rfl, (blk_cell BK581.out 1).trans rfl⟩ (fun hHeld => ?_)
         clear hK K
         refine nU 29 ?_
         refine pU 11 30 ?_
         refine last_ (i := 12) (N := none) #[true, true, true, true, true, true, true, true, true, true, true, true, true] rfl rfl (one_of HT_.out (by kernel_rfl)) (by decide) (fun K hK => ?_)
         have hs37 : w35.cell? ⟨gb579, 1, none⟩ = some (u580001) := (blk_cell BK579.out 1).trans rfl
         have hfs37 := blk_frozen BK579.out 1
         have hns37_0 := NB568_579.out
         have hns37_1 := NB569_579.out
         have hns37_3 := NB581_579.out
         have hms37_0 := NB579_568.out
         have hms37_1 := NB579_569.out
         have hms37_3 := NB579_581.out
         refine skip_ (w1 := ?_) (by rfl) rfl ?_ ?_
         rotate_left
         ·go_simp
          rfl
         refine hK.out _ _ ?_
         clear hK K
         refine done_ (done_of HT_.out (by kernel_rfl)) ?_
         try go_wp2
         go_roundg k1
         case measure => have := HK1.out; omega
         case rel => exact ⟨(wrap64 (x15_1 + 1)), (y588), (.slice Ao36 y588.length co36), aX, H', ⟨by have := HK1.out; omega⟩, ⟨by (with_reducible repeat apply pR); exact Kd.R_mono (Kd.R_far (p := ⟨gb579, 1, none⟩) (Kd.R_types HO_580000.out BK579.out (by decide)) (fun _ hk => hk.2) (.slice Ao36 y588.length co36)) (fun _ hk => trivial)⟩, ⟨by (with_reducible repeat apply pS); exact Kd.S_mono (Kd.S_far (p := ⟨gb579, 1, none⟩) (Kd.S_types HO590.out BK579.out (by decide)) (fun _ hk => hk.2) (.slice Ao36 y588.length co36)) (fun _ hk => trivial)⟩, ⟨by (with_reducible repeat refine pB ?_); refine blk_far ?_ NB568_579.out _; (with_reducible repeat refine pB ?_); exact BK568.out⟩, ⟨by (with_reducible repeat refine pB ?_); refine blk_far ?_ NB569_579.out _; (with_reducible repeat refine pB ?_); exact BK569.out⟩, ⟨by (with_reducible repeat refine pB ?_); refine blk_put (cs := #[.slice Ao13 y573.length co13, u580001]) ?_ 1 _ rfl; (with_reducible repeat refine pB ?_); exact BK579.out⟩, ⟨aG⟩⟩
        ·rw [if_neg c23] at H
         exact absurd H (by simp)
       ·rw [if_neg c22] at H
        exact absurd H (by simp)
      ·rw [if_neg c21] at H
       exact absurd H (by simp)
     ·rw [if_neg c20] at H
      exact absurd H (by simp)
    ·rw [if_neg c19] at H
     have c19b0 : decide (x15_1 < (l0_1.length : Int)) = false := decide_eq_false c19
     clear c19
     simp only [Option.some.injEq, Prod.mk.injEq] at H
     obtain ⟨rfl, rfl⟩ := H
     have hnb38 := NB579_568.out
     have hnc38 := NB568_579.out
     have hnb39 := NB579_569.out
     have hnc39 := NB569_579.out
     have hcz40_0 : wr.cell? ⟨gb579, 0, none⟩ = some (.slice Ao13 y573.length co13) := (blk_cell BK579.out 0).trans rfl
     have hcz40_1 : wr.cell? ⟨gb579, 1, none⟩ = some (u580001) := (blk_cell BK579.out 1).trans rfl
     have hfz40_0 := blk_frozen BK579.out 0
     have hfz40_1 := blk_frozen BK579.out 1
     have hnb41 := NB569_568.out
     have hnc41 := NB568_569.out
     have hcz42_0 : wr.cell? ⟨gb569, 0, none⟩ = some (.slice none 0 0) := (blk_cell BK569.out 0).trans rfl
     have hcz42_1 : wr.cell? ⟨gb569, 1, none⟩ = some (.slice none 0 0) := (blk_cell BK569.out 1).trans rfl
     have hfz42_0 := blk_frozen BK569.out 0
     have hfz42_1 := blk_frozen BK569.out 1
     obtain ⟨Ao43, co43, eo43⟩ := Kd.S_slice HO_580001.out
     subst eo43
     go_wp2
     refine bodyPost_ret (results_cell_row rfl _ _ gb569 27 #[.slice Ao13 y573.length co13, .slice Ao43 x580001_1.length co43] (0, 0) _ rfl (by (with_reducible repeat refine pB ?_); refine blk_put (cs := #[.slice Ao13 y573.length co13, .slice none 0 0]) ?_ 1 _ rfl; (with_reducible repeat refine pB ?_); refine blk_put (cs := #[.slice none 0 0, .slice none 0 0]) ?_ 0 _ rfl; (with_reducible repeat refine pB ?_); exact BK569.out) Try.underlying27 rfl (by kernel_rfl)) rfl ?_
     exact ⟨_, _, aE, by (with_reducible repeat apply pR); exact Kd.R_mono (Kd.R_far (p := ⟨gb569, 1, none⟩) (Kd.R_far (p := ⟨gb569, 0, none⟩) (Kd.R_types HO_580000.out BK569.out (by decide)) (fun _ hk => hk.2) (.slice Ao13 y573.length co13)) (fun _ hk => hk.2) (.slice Ao43 x580001_1.length co43)) (fun _ hk => trivial), by (with_reducible repeat apply pS); exact Kd.S_mono (Kd.S_far (p := ⟨gb569, 1, none⟩) (Kd.S_far (p := ⟨gb569, 0, none⟩) (Kd.S_types HO_580001.out BK569.out (by decide)) (fun _ hk => hk.2) (.slice Ao13 y573.length co13)) (fun _ hk => hk.2) (.slice Ao43 x580001_1.length co43)) (fun _ hk => trivial), aG⟩
 ·rw [if_neg c2] at H
  exact absurd H (by simp)

/-! ### impl_areIndices: function 74 -/
def impl_areIndices.l0 : Nat → List Int → Int → List Int → Int → Int → Option (Bool)
 | 0, _, _, _, _, _ => none
 | k + 1, x0, x1, x7, x8, x9 => if x9 < x8 then (if 0 ≤ x9 then (if x9 < (x7.length : Int) then ((impl_within.f (rd x7 x9) 0 (wrap64 (x1 - 1))).bind fun t592 => (if t592 = true then (if x9 > 0 then (if 0 ≤ (wrap64 (x9 - 1)) then (if (wrap64 (x9 - 1)) < (x0.length : Int) then (if (rd x0 (wrap64 (x9 - 1))) ≥ (rd x7 x9) then (some false) else (impl_areIndices.l0 k x0 x1 x7 x8 (wrap64 (x9 + 1)))) else (none)) else (none)) else (impl_areIndices.l0 k x0 x1 x7 x8 (wrap64 (x9 + 1)))) else (some false))) else (none)) else (none)) else (some true)
def impl_areIndices.f (k : Nat) (l0 : List Int) (a1 : Int) : Option (Bool) := impl_areIndices.l0 k l0 a1 l0 (l0.length : Int) 0
set_option maxHeartbeats 8000000 in
set_option maxRecDepth 100000 in
theorem impl_areIndices.calls (k : Nat) (A0 : Option Addr) (c0 : Nat) (l0 : List Int) (a1 : Int) (r : Bool) (w : World) (hr0 : Kd.C (Kd.int .i64) w A0 l0.length l0) (hc0 : l0.length ≤ c0) (h : impl_areIndices.f k l0 a1 = some r) :
  Calls Try.prog 74 #[.slice A0 l0.length c0, .int .i64 a1] w fun e w' => e = .returned (.bool r) ∧ Drawn0 w w' := by
 unfold impl_areIndices.f at h
 ·go_enter Try.func74, Try.ntmps74
  go_wp2_with (first | (go_at_call 68; refine (impl_within.calls _ _ _ ?_ _ ?h).mono ?_; (case h => exact zA); rintro e w1 ⟨rfl, hb⟩; have hd := hb; replace hb := hb.below; replace hb := aM hb; have HB : Below w.heap.size w w1 := zB))
  go_loopg [9] k (fun kq v9 w' => ∃ (x9_0 : Int), v9 = .int .i64 x9_0 ∧ impl_areIndices.l0 kq l0 a1 l0 (l0.length : Int) x9_0 = some r ∧ Drawn0 w w')
  case atStart => exact ⟨_, zR, zA, zD⟩
  case round =>
   clear h
   obtain ⟨x9_0, rfl, h, hb⟩ := hrel
   have hd := hb
   replace hb := hb.below
   replace hb := aM hb
   have HB : Below w.heap.size w wr := zB
   rcases gk with _ | kk0
   exact absurd h (by simp [impl_areIndices.l0])
   simp only [impl_areIndices.l0] at h
   replace h := il h; rcases h with ⟨c1, c1a, h⟩ | ⟨c1, c1a, h⟩
   replace h := ie h; rcases h with ⟨c2, c2a, h⟩ | ⟨c2, c2a, h⟩
   replace h := il h; rcases h with ⟨c3, c3a, h⟩ | ⟨c3, c3a, h⟩
   replace h := bs h; obtain ⟨t592, B4, h⟩ := h
   replace h := ib h; rcases h with ⟨rfl, h⟩ | ⟨rfl, h⟩
   replace h := ig h; rcases h with ⟨c6, c6a, h⟩ | ⟨c6, c6a, h⟩
   replace h := ie h; rcases h with ⟨c7, c7a, h⟩ | ⟨c7, c7a, h⟩
   replace h := il h; rcases h with ⟨c8, c8a, h⟩ | ⟨c8, c8a, h⟩
   replace h := ih h; rcases h with ⟨c9, c9a, h⟩ | ⟨c9, c9a, h⟩
   obtain rfl := si h
   obtain ⟨ad591, e591, hx591_0⟩ := Kd.at_int hr0 (x9_0 : Int) aD aD
   have p591 := eq_true (aD : 0 ≤ (x9_0 : Int))
   have q591 := eq_true (aD : x9_0 < (l0.length : Int))
   cases e591
   replace hx591_0 := qa hx591_0
   obtain ⟨ad593, e593, hx593_0⟩ := Kd.at_int hr0 ((wrap64 (x9_0 - 1)) : Int) aD aD
   have p593 := eq_true (aD : 0 ≤ ((wrap64 (x9_0 - 1)) : Int))
   have q593 := eq_true (aD : (wrap64 (x9_0 - 1)) < (l0.length : Int))
   cases e593
   replace hx593_0 := qa hx593_0
   rotate_left
   obtain ⟨kf, hkf⟩ : ∃ kf, kf = kk0 := ⟨_, rfl⟩; rw [← hkf] at h
   obtain ⟨ad591, e591, hx591_0⟩ := Kd.at_int hr0 (x9_0 : Int) aD aD
   have p591 := eq_true (aD : 0 ≤ (x9_0 : Int))
   have q591 := eq_true (aD : x9_0 < (l0.length : Int))
   cases e591
   replace hx591_0 := qa hx591_0
   obtain ⟨ad593, e593, hx593_0⟩ := Kd.at_int hr0 ((wrap64 (x9_0 - 1)) : Int) aD aD
   have p593 := eq_true (aD : 0 ≤ ((wrap64 (x9_0 - 1)) : Int))
   have q593 := eq_true (aD : (wrap64 (x9_0 - 1)) < (l0.length : Int))
   cases e593
   replace hx593_0 := qa hx593_0
   rotate_left
   exact absurd h (by simp)
   exact absurd h (by simp)
   obtain ⟨kf, hkf⟩ : ∃ kf, kf = kk0 := ⟨_, rfl⟩; rw [← hkf] at h
   obtain ⟨ad591, e591, hx591_0⟩ := Kd.at_int hr0 (x9_0 : Int) aD aD
   have p591 := eq_true (aD : 0 ≤ (x9_0 : Int))
   have q591 := eq_true (aD : x9_0 < (l0.length : Int))
   cases e591
   replace hx591_0 := qa hx591_0
   rotate_left
   obtain rfl := si h
   obtain ⟨ad591, e591, hx591_0⟩ := Kd.at_int hr0 (x9_0 : Int) aD aD
   have p591 := eq_true (aD : 0 ≤ (x9_0 : Int))
   have q591 := eq_true (aD : x9_0 < (l0.length : Int))
   cases e591
   replace hx591_0 := qa hx591_0
   rotate_left
   exact absurd h (by simp)
   exact absurd h (by simp)
   obtain rfl := si h
   rotate_left
   all_goals (go_wp2_with (first | (go_at_call 68; refine (impl_within.calls _ _ _ ?_ _ ?h).mono ?_; (case h => exact zA); rintro e w1 ⟨rfl, hb⟩; have hd := hb; replace hb := hb.below; replace hb := aM hb; have HB : Below w.heap.size w w1 := zB)); first | (go_ret; exact zE zD) | (go_roundg kf; (case measure => omega); (case rel => exact ⟨_, zR, zA, zD⟩)))

end Go.Proofs.Ytbdeimhlohhhiaa.PFnExtendToRepair
