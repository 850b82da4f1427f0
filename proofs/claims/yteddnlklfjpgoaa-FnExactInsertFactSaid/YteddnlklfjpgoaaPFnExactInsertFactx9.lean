-- Laid by a program of this claim: what the functions come to, some of them proved by hand.
import Derived.Test.YteddnlklfjpgoaaPFnExactInsertFactx0
namespace Go.Proofs.Yteddnlklfjpgoaa.PFnExactInsertFact
open Go.RowKit Go.Proofs.YteddnlklfjpgoaaW.PrintWords Go.Proofs.YteddnlklfjpgoaaW.PrintLast Go.Proofs.YteddnlklfjpgoaaW.PrintMore
attribute [local go_sem] max2_int min2_int max_two min_two max_three min_three max_four min_four   -- for this text's walks alone
set_option linter.unusedVariables false
set_option linter.unusedSimpArgs false

/-! ### impl_copyDatabase: function 38 -/
def impl_copyDatabase.l0 : Nat → List (S45) → Int → Int → List (S74) → List (S45) → Option ((List (S74)) × (List (S45)))
 | 0, _, _, _, _, _ => none
 | k + 1, x13, x14, x15, x343000, x343001 => if x15 < x14 then (if 0 ≤ x15 then (if x15 < (x13.length : Int) then ((some (([] : List Int) : List Int)).bind fun y345 => (if y345.length + ((rd_T45 x13 x15).f1).length < 17592186044416 then (if x343001.length < 4398046511104 then (impl_copyDatabase.l0 k x13 x14 (wrap64 (x15 + 1)) x343000 (x343001 ++ [(⟨(rd_T45 x13 x15).f0, (y345 ++ ((rd_T45 x13 x15).f1))⟩ : S45)])) else (none)) else (none))) else (none)) else (none)) else (some (x343000, x343001))
def impl_copyDatabase.f (k : Nat) (l0_0 : List (S74)) (l0_1 : List (S45)) : Option ((List (S74)) × (List (S45))) := (some (([] : List (S74)) : List (S74))).bind fun y333 => (if y333.length + l0_0.length < 4398046511104 then (impl_copyDatabase.l0 k l0_1 (l0_1.length : Int) 0 (y333 ++ l0_0) (([] : List (S45)))) else (none))
def impl_copyDatabase.T5 : Bool × List (List Nat × List Nat) := (true, [([], []), ([0], [0]), ([], []), ([2], [2]), ([], []), ([], []), ([5], [5]), ([4, 6], [4, 6]), ([3, 7], [3, 7]), ([8], [8]), ([1, 9, 7], [1, 9]), ([0, 1, 2, 3, 4, 5, 6, 7, 8, 9, 10], []), ([11, 10, 10, 0, 1, 2, 3, 4, 5, 6, 7, 8, 9, 10], [10, 11])])
def impl_copyDatabase.B5 : List Nat := [0, 1, 0, 4, 0, 0, 32, 112, 252, 508, 1023, 2047, 4095]
theorem impl_copyDatabase.tab5 : rtab .any (opsOf Try.f38 5) = impl_copyDatabase.T5 := by kernel_rfl
theorem impl_copyDatabase.bits5 : waitsOk impl_copyDatabase.T5.2 impl_copyDatabase.B5 = true := by kernel_rfl
set_option maxHeartbeats 8000000 in
set_option maxRecDepth 100000 in
theorem impl_copyDatabase.calls (k : Nat) (A0_0 : Option Addr) (c0_0 : Nat) (l0_0 : List (S74)) (A0_1 : Option Addr) (c0_1 : Nat) (l0_1 : List (S45)) (r1 : List (S74)) (r2 : List (S45)) (w : World) (hr0_0 : Kd.C k74 w A0_0 l0_0.length l0_0) (hc0_0 : l0_0.length ≤ c0_0) (hr0_1 : Kd.C k45 w A0_1 l0_1.length l0_1) (hc0_1 : l0_1.length ≤ c0_1) (h : impl_copyDatabase.f k l0_0 l0_1 = some (r1, r2)) :
  Calls Try.prog 38 #[.agg #[.slice A0_0 l0_0.length c0_0, .slice A0_1 l0_1.length c0_1]] w fun e w' => ∃ v0_ v1_ : Value, e = .returned (.agg #[v0_, v1_]) ∧ Kd.R k74 74 w' w.heap.size (fun _ => True) v0_ r1 ∧ Kd.S k45 45 w' w.heap.size (fun _ => True) v1_ r2 ∧ Below w.heap.size w w' := by
 have hu31 := Try.underlying31
 have hu45 := Try.underlying45
 have HR0_0 := aM hr0_0
 have HC0_0 := aM hc0_0
 clear hr0_0 hc0_0
 have HR0_1 := aM hr0_1
 have HC0_1 := aM hc0_1
 clear hr0_1 hc0_1
 have HB := aM (Below.refl w.heap.size w)
 have H : ((some (([] : List (S74)) : List (S74))).bind fun y333 => (if y333.length + l0_0.length < 4398046511104 then (impl_copyDatabase.l0 k l0_1 (l0_1.length : Int) 0 (y333 ++ l0_0) (([] : List (S45)))) else (none))) = some (r1, r2) := h
 clear h
 obtain ⟨y333, hy333⟩ : ∃ y_ : List (S74), y_ = (([] : List (S74))) := ⟨_, rfl⟩
 replace H : (if y333.length + l0_0.length < 4398046511104 then (impl_copyDatabase.l0 k l0_1 (l0_1.length : Int) 0 (y333 ++ l0_0) (([] : List (S45)))) else (none)) = some (r1, r2) := by first | (rw [hy333]; with_reducible exact H) | (have H2_ := (Option.bind_some _ _).symm.trans H; rw [hy333]; with_reducible exact H2_) | (have H2_ := (Option.bind_some _ _).symm.trans H; with_reducible exact H2_) | with_reducible exact H | (rw [hy333]; exact H) | exact H
 have Ny333 := aM hy333
 clear hy333
 by_cases c2 : y333.length + l0_0.length < 4398046511104
 ·rw [if_pos c2] at H
  have LMc2 := aM c2
  clear c2
  obtain ⟨y336, hy336⟩ : ∃ y_ : List (S74), y_ = (y333 ++ l0_0) := ⟨_, rfl⟩
  replace H : (impl_copyDatabase.l0 k l0_1 (l0_1.length : Int) 0 y336 (([] : List (S45)))) = some (r1, r2) := by first | (rw [hy336]; with_reducible exact H) | (have H2_ := (Option.bind_some _ _).symm.trans H; rw [hy336]; with_reducible exact H2_) | (have H2_ := (Option.bind_some _ _).symm.trans H; with_reducible exact H2_) | with_reducible exact H | (rw [hy336]; exact H) | exact H
  have Ny336 := aM hy336
  clear hy336
  obtain ⟨y339, hy339⟩ : ∃ y_ : List (S45), y_ = (([] : List (S45))) := ⟨_, rfl⟩
  replace H : (impl_copyDatabase.l0 k l0_1 (l0_1.length : Int) 0 y336 y339) = some (r1, r2) := by first | (rw [hy339]; with_reducible exact H) | (have H2_ := (Option.bind_some _ _).symm.trans H; rw [hy339]; with_reducible exact H2_) | (have H2_ := (Option.bind_some _ _).symm.trans H; with_reducible exact H2_) | with_reducible exact H | (rw [hy339]; exact H) | exact H
  have Ny339 := aM hy339
  clear hy339
  have H' := aM H
  clear H
  go_enter Try.func38, Try.ntmps38
  go_wp2_with (first | ((with_reducible refine gate_dst (N := 1) rfl ?_); refine box_event ?hg (N := 1) ?hd (cs := #[.slice A0_0 l0_0.length c0_0, .slice A0_1 l0_1.length c0_1]) (t := 31) ?hr ?_; (case hd => rfl); (case hg => rfl); (case hr => first | (go_simp; done) | (go_simp; rfl)); intro gb331 hg w3 hbox hb; have n0_ := aM (below_step aB hb); have n1_ := aM (hbox); have n2_ := aM ((by rw [hg]; exact (below_size aB) : w.heap.size ≤ gb331)); have n3_ := aM ((by rw [hg]; exact (below_size aB) : w.heap.size ≤ gb331)); clear HB; have HB := n0_; have BK331 := n1_; have GW331 := n2_; have GE331 := n3_; clear n0_ n1_ n2_ n3_; clear hb hbox hg) | ((with_reducible refine gate_dst (N := 2) rfl ?_); refine box_event ?hg (N := 2) ?hd (cs := #[.slice none 0 0, .slice none 0 0]) (t := 31) ?hr ?_; (case hd => rfl); (case hg => rfl); (case hr => first | (go_simp; done) | (go_simp; rfl)); intro gb332 hg w4 hbox hb; have n0_ := aM (blk_below (g := gb331) (o := .cells #[.slice A0_0 l0_0.length c0_0, .slice A0_1 l0_1.length c0_1] 31 (0, 0)) aK hb); have n1_ := aM (below_step aG hb); have n2_ := aM (hbox); have n3_ := aM ((by rw [hg]; exact (below_size aG) : w.heap.size ≤ gb332)); have n4_ := aM ((by rw [hg]; exact (below_size aG) : w.heap.size ≤ gb332)); have n5_ := aM ((by rw [hg]; exact Nat.ne_of_lt (blk_lt (g := gb331) (o := .cells #[.slice A0_0 l0_0.length c0_0, .slice A0_1 l0_1.length c0_1] 31 (0, 0)) aK) : gb331 ≠ gb332)); have n6_ := aM ((by rw [hg]; exact Nat.ne_of_gt (blk_lt (g := gb331) (o := .cells #[.slice A0_0 l0_0.length c0_0, .slice A0_1 l0_1.length c0_1] 31 (0, 0)) aK) : gb332 ≠ gb331)); clear BK331; clear HB; have BK331 := n0_; have HB := n1_; have BK332 := n2_; have GW332 := n3_; have GE332 := n4_; have NB331_332 := n5_; have NB332_331 := n6_; clear n0_ n1_ n2_ n3_ n4_ n5_ n6_; clear hb hbox hg) | ((with_reducible refine gate_dst (N := 6) rfl ?_); refine Kd.R_lit k74 _ 74 ?hg (N := 6) ?hd (xs := ([] : List (S74))) (inner := []) (ok := fun _ => True) (okp := fun _ => True) ?hr ?hp (fun _ hk => hk) trivial (Below.refl _ _) (Nat.le_refl _) (by simp) ?_; (case hd => rfl); (case hg => rfl); (case hr => first | (go_simp; done) | (go_simp; rfl)); (case hp => exact (Reps.none _ _)); intro v334 w5 ho6 hb hg_ hnew_; clear hg_ hnew_; (first | rw [← Ny333.out] at ho6 | (simp only [Int.reduceToNat] at ho6; rw [← Ny333.out] at ho6)); have n0_ := aM (Kd.R_lower ho6 (below_size aG)); have n1_ := aM (blk_below (g := gb331) (o := .cells #[.slice A0_0 l0_0.length c0_0, .slice A0_1 l0_1.length c0_1] 31 (0, 0)) aK hb); have n2_ := aM (blk_below (g := gb332) (o := .cells #[.slice none 0 0, .slice none 0 0] 31 (0, 0)) aK hb); have n3_ := aM (below_step aG hb); clear BK331; clear BK332; clear HB; have HO335 := n0_; have BK331 := n1_; have BK332 := n2_; have HB := n3_; clear n0_ n1_ n2_ n3_; clear hb ho6; have hnb7 := NB331_332.out; have hnc7 := NB332_331.out; have hcz8_0 : w5.cell? ⟨gb331, 0, none⟩ = some (.slice A0_0 l0_0.length c0_0) := (blk_cell BK331.out 0).trans rfl; have hcz8_1 : w5.cell? ⟨gb331, 1, none⟩ = some (.slice A0_1 l0_1.length c0_1) := (blk_cell BK331.out 1).trans rfl; have hfz8_0 := blk_frozen BK331.out 0; have hfz8_1 := blk_frozen BK331.out 1) | ((with_reducible refine gate_builtin (b := .append) (xs := #[.tmp 6, .tmp 8]) rfl ?_); at_builtin; refine Kd.R_append_rows k74 (w0 := w) w.heap.size rfl (.tmp 6) (.tmp 8) 28 74 (.agg #[(.string ⟨#[]⟩), (.int .i64 0), (.int .i64 0)]) 32 rfl Try.underlying28 info74 rfl (by decide) (by omega) v334 y333 l0_0 _ _ _ (fun _ => True) (fun _ => False) rfl rfl ?aO ?aR (fun _ _ h => h) (fun _ h => h.elim) ?aF ?aB ?aS ?aL ?_; (case aR => exact aC); (case aB => exact aG); (case aF => exact (fun _ _ => trivial)); (case aO => exact (aR HO335)); (case aS => exact (below_size aG)); (case aL => have := LMc2.out; omega); intro v337 w9 ho hb hg hat; rw [← Ny336.out] at ho; have n0_ := aM (blk_grown (g := gb331) (o := .cells #[.slice A0_0 l0_0.length c0_0, .slice A0_1 l0_1.length c0_1] 31 (0, 0)) aK hg (Kd.R_ne HO335.out BK331.out (by decide))); have n1_ := aM (blk_grown (g := gb332) (o := .cells #[.slice none 0 0, .slice none 0 0] 31 (0, 0)) aK hg (Kd.R_ne HO335.out BK332.out (by decide))); have n2_ := aM (hb); have n3_ := aM (ho); clear BK331; clear BK332; clear HB; clear HO335; have BK331 := n0_; have BK332 := n1_; have HB := n2_; have HO338 := n3_; clear n0_ n1_ n2_ n3_; clear ho hb hg hat) | ((with_reducible refine gate_dst (N := 10) rfl ?_); refine Kd.S_lit k45 _ 45 ?hg (N := 10) ?hd (xs := ([] : List (S45))) (inner := []) (ok := fun _ => True) (okp := fun _ => True) ?hr ?hp (fun _ hk => hk) trivial (Below.refl _ _) (Nat.le_refl _) (by simp) ?_; (case hd => rfl); (case hg => rfl); (case hr => first | (go_simp; done) | (go_simp; rfl)); (case hp => exact (Reps.none _ _)); intro v340 w10 ho11 hb hg_ hnew_; clear hg_ hnew_; (first | rw [← Ny339.out] at ho11 | (simp only [Int.reduceToNat] at ho11; rw [← Ny339.out] at ho11)); have n0_ := aM (Kd.R_below (aR HO338) hb); have n1_ := aM (Kd.S_lower ho11 (below_size aG)); have n2_ := aM (blk_below (g := gb331) (o := .cells #[.slice A0_0 l0_0.length c0_0, .slice A0_1 l0_1.length c0_1] 31 (0, 0)) aK hb); have n3_ := aM (blk_below (g := gb332) (o := .cells #[.slice none 0 0, .slice none 0 0] 31 (0, 0)) aK hb); have n4_ := aM (below_step aG hb); clear HO338; clear BK331; clear BK332; clear HB; have HO338 := n0_; have HO341 := n1_; have BK331 := n2_; have BK332 := n3_; have HB := n4_; clear n0_ n1_ n2_ n3_ n4_; clear hb ho11; obtain ⟨Ao12, co12, eo12⟩ := Kd.S_slice HO341.out; subst eo12; obtain ⟨Ao13, co13, eo13⟩ := Kd.R_slice HO338.out; subst eo13) | ((with_reducible refine gate_dst (N := 3) rfl ?_); refine box_event ?hg (N := 3) ?hd (cs := #[.slice none 0 0, .slice none 0 0]) (t := 31) ?hr ?_; (case hd => rfl); (case hg => rfl); (case hr => first | (go_simp; done) | (go_simp; rfl)); intro gb342 hg w14 hbox hb; have n0_ := aM (Kd.R_below (aR HO338) hb); have n1_ := aM (Kd.S_below (aS HO341) hb); have n2_ := aM (blk_below (g := gb331) (o := .cells #[.slice A0_0 l0_0.length c0_0, .slice A0_1 l0_1.length c0_1] 31 (0, 0)) aK hb); have n3_ := aM (blk_below (g := gb332) (o := .cells #[.slice none 0 0, .slice none 0 0] 31 (0, 0)) aK hb); have n4_ := aM (below_step aG hb); have n5_ := aM (hbox); have n6_ := aM ((by rw [hg]; exact (below_size aG) : w.heap.size ≤ gb342)); have n7_ := aM ((by rw [hg]; exact (below_size aG) : w.heap.size ≤ gb342)); have n8_ := aM ((by rw [hg]; exact Nat.ne_of_lt (blk_lt (g := gb331) (o := .cells #[.slice A0_0 l0_0.length c0_0, .slice A0_1 l0_1.length c0_1] 31 (0, 0)) aK) : gb331 ≠ gb342)); have n9_ := aM ((by rw [hg]; exact Nat.ne_of_gt (blk_lt (g := gb331) (o := .cells #[.slice A0_0 l0_0.length c0_0, .slice A0_1 l0_1.length c0_1] 31 (0, 0)) aK) : gb342 ≠ gb331)); have n10_ := aM ((by rw [hg]; exact Nat.ne_of_lt (blk_lt (g := gb332) (o := .cells #[.slice none 0 0, .slice none 0 0] 31 (0, 0)) aK) : gb332 ≠ gb342)); have n11_ := aM ((by rw [hg]; exact Nat.ne_of_gt (blk_lt (g := gb332) (o := .cells #[.slice none 0 0, .slice none 0 0] 31 (0, 0)) aK) : gb342 ≠ gb332)); clear HO338; clear HO341; clear BK331; clear BK332; clear HB; have HO338 := n0_; have HO341 := n1_; have BK331 := n2_; have BK332 := n3_; have HB := n4_; have BK342 := n5_; have GW342 := n6_; have GE342 := n7_; have NB331_342 := n8_; have NB342_331 := n9_; have NB332_342 := n10_; have NB342_332 := n11_; clear n0_ n1_ n2_ n3_ n4_ n5_ n6_ n7_ n8_ n9_ n10_ n11_; clear hb hbox hg; have hnb15 := NB342_331.out; have hnc15 := NB331_342.out; have hnb16 := NB342_332.out; have hnc16 := NB332_342.out; have hcz17_0 : w14.cell? ⟨gb342, 0, none⟩ = some (.slice none 0 0) := (blk_cell BK342.out 0).trans rfl; have hcz17_1 : w14.cell? ⟨gb342, 1, none⟩ = some (.slice none 0 0) := (blk_cell BK342.out 1).trans rfl; have hfz17_0 := blk_frozen BK342.out 0; have hfz17_1 := blk_frozen BK342.out 1; have hcz18_0 : w14.cell? ⟨gb331, 0, none⟩ = some (.slice A0_0 l0_0.length c0_0) := (blk_cell BK331.out 0).trans rfl; have hcz18_1 : w14.cell? ⟨gb331, 1, none⟩ = some (.slice A0_1 l0_1.length c0_1) := (blk_cell BK331.out 1).trans rfl; have hfz18_0 := blk_frozen BK331.out 0; have hfz18_1 := blk_frozen BK331.out 1))
  go_loopg [15] k (fun kq v15 w' => ∃ (x15_1 : Int) (x343001_1 : List (S45)) (u343001 : Value), v15 = .int .i64 x15_1 ∧ Aside0 (impl_copyDatabase.l0 kq l0_1 (l0_1.length : Int) x15_1 y336 x343001_1 = some (r1, r2)) ∧ Aside0 (kq ≤ k) ∧ Aside0 (Kd.R k74 74 w' w.heap.size (fun _ => True) (.slice Ao13 y336.length co13) y336) ∧ Aside0 (Kd.S k45 45 w' w.heap.size (fun _ => True) u343001 x343001_1) ∧ Aside0 (w'.heap[gb331]? = some (.cells #[(.slice A0_0 l0_0.length c0_0), (.slice A0_1 l0_1.length c0_1)] 31 (0, 0))) ∧ Aside0 (w'.heap[gb332]? = some (.cells #[(.slice none 0 0), (.slice none 0 0)] 31 (0, 0))) ∧ Aside0 (w'.heap[gb342]? = some (.cells #[(.slice Ao13 y336.length co13), u343001] 31 (0, 0))) ∧ Aside0 (Below w.heap.size w w'))
  case atStart => exact ⟨(0), (y339), (.slice Ao12 y339.length co12), (by first | rfl | (simp; done) | (simp [*]; done)), H', ⟨Nat.le_refl _⟩, ⟨by (with_reducible repeat (first | apply Kd.R_alloc | apply Kd.R_drewN | apply Kd.R_drew)); exact Kd.R_mono (Kd.R_far (p := ⟨gb342, 1, none⟩) (Kd.R_far (p := ⟨gb342, 0, none⟩) (Kd.R_types HO338.out BK342.out (by decide)) (fun _ hk => hk.2) (.slice Ao13 y336.length co13)) (fun _ hk => hk.2) (.slice Ao12 y339.length co12)) (fun _ hk => trivial)⟩, ⟨by (with_reducible repeat (first | apply Kd.S_alloc | apply Kd.S_drewN | apply Kd.S_drew)); exact Kd.S_mono (Kd.S_far (p := ⟨gb342, 1, none⟩) (Kd.S_far (p := ⟨gb342, 0, none⟩) (Kd.S_types HO341.out BK342.out (by decide)) (fun _ hk => hk.2) (.slice Ao13 y336.length co13)) (fun _ hk => hk.2) (.slice Ao12 y339.length co12)) (fun _ hk => trivial)⟩, ⟨by (with_reducible repeat (first | refine blk_drewN ?_ _ | refine blk_drew ?_ | refine blk_alloc ?_ _)); refine blk_far ?_ NB331_342.out _; (with_reducible repeat (first | refine blk_drewN ?_ _ | refine blk_drew ?_ | refine blk_alloc ?_ _)); refine blk_far ?_ NB331_342.out _; (with_reducible repeat (first | refine blk_drewN ?_ _ | refine blk_drew ?_ | refine blk_alloc ?_ _)); exact BK331.out⟩, ⟨by (with_reducible repeat (first | refine blk_drewN ?_ _ | refine blk_drew ?_ | refine blk_alloc ?_ _)); refine blk_far ?_ NB332_342.out _; (with_reducible repeat (first | refine blk_drewN ?_ _ | refine blk_drew ?_ | refine blk_alloc ?_ _)); refine blk_far ?_ NB332_342.out _; (with_reducible repeat (first | refine blk_drewN ?_ _ | refine blk_drew ?_ | refine blk_alloc ?_ _)); exact BK332.out⟩, ⟨by (with_reducible repeat (first | refine blk_drewN ?_ _ | refine blk_drew ?_ | refine blk_alloc ?_ _)); refine blk_put (cs := #[.slice Ao13 y336.length co13, .slice none 0 0]) ?_ 1 _ rfl; (with_reducible repeat (first | refine blk_drewN ?_ _ | refine blk_drew ?_ | refine blk_alloc ?_ _)); refine blk_put (cs := #[.slice none 0 0, .slice none 0 0]) ?_ 0 _ rfl; (with_reducible repeat (first | refine blk_drewN ?_ _ | refine blk_drew ?_ | refine blk_alloc ?_ _)); exact BK342.out⟩, ⟨by repeat (first | (with_reducible first | exact HB.out | apply below_alloc | apply pw_below_drewN | apply below_drew1 | refine below_set ?_ GE331.out | refine below_set ?_ GE332.out | refine below_set ?_ GE342.out) | exact HB.out)⟩⟩
  case round =>
   clear H'
   try clear c1
   try clear c2
   try clear p2
   try clear c3
   try clear c7
   try clear c15
   try clear c16
   try clear hcz17_0
   try clear hcz17_1
   try clear hcz18_0
   try clear hcz18_1
   try clear hcz8_0
   try clear hcz8_1
   try clear hfz17_0
   try clear hfz17_1
   try clear hfz18_0
   try clear hfz18_1
   try clear hfz8_0
   try clear hfz8_1
   obtain ⟨x15_1, x343001_1, u343001, rfl, HA, HK1, HO_343000, HO_343001, BK331, BK332, BK342, HB⟩ := hrel
   cases gk with
   | zero => exact absurd HA.out (by simp [impl_copyDatabase.l0])
   | succ k1 =>
    have H := HA.out
    clear HA
    simp only [impl_copyDatabase.l0] at H
    by_cases c19 : x15_1 < (l0_1.length : Int)
    ·rw [if_pos c19] at H
     have c19b0 : decide (x15_1 < (l0_1.length : Int)) = true := decide_eq_true c19
     clear c19
     by_cases c20 : 0 ≤ x15_1
     ·rw [if_pos c20] at H
      have c20b0 : decide (0 ≤ x15_1) = true := decide_eq_true c20
      clear c20
      by_cases c21 : x15_1 < (l0_1.length : Int)
      ·rw [if_pos c21] at H
       have c21b0 : decide (x15_1 < (l0_1.length : Int)) = true := decide_eq_true c21
       clear c21
       obtain ⟨y345, hy345⟩ : ∃ y_ : List Int, y_ = (([] : List Int)) := ⟨_, rfl⟩
       replace H : (if y345.length + ((rd_T45 l0_1 x15_1).f1).length < 17592186044416 then (if x343001_1.length < 4398046511104 then (impl_copyDatabase.l0 k1 l0_1 (l0_1.length : Int) (wrap64 (x15_1 + 1)) y336 (x343001_1 ++ [(⟨(rd_T45 l0_1 x15_1).f0, (y345 ++ ((rd_T45 l0_1 x15_1).f1))⟩ : S45)])) else (none)) else (none)) = some (r1, r2) := by first | (rw [hy345]; with_reducible exact H) | (have H2_ := (Option.bind_some _ _).symm.trans H; rw [hy345]; with_reducible exact H2_) | (have H2_ := (Option.bind_some _ _).symm.trans H; with_reducible exact H2_) | with_reducible exact H | (rw [hy345]; exact H) | exact H
       have Ny345 := aM hy345
       clear hy345
       by_cases c22 : y345.length + ((rd_T45 l0_1 x15_1).f1).length < 17592186044416
       ·rw [if_pos c22] at H
        have LMc22 := aM c22
        clear c22
        obtain ⟨y348, hy348⟩ : ∃ y_ : List Int, y_ = (y345 ++ ((rd_T45 l0_1 x15_1).f1)) := ⟨_, rfl⟩
        replace H : (if x343001_1.length < 4398046511104 then (impl_copyDatabase.l0 k1 l0_1 (l0_1.length : Int) (wrap64 (x15_1 + 1)) y336 (x343001_1 ++ [(⟨(rd_T45 l0_1 x15_1).f0, y348⟩ : S45)])) else (none)) = some (r1, r2) := by first | (rw [hy348]; with_reducible exact H) | (have H2_ := (Option.bind_some _ _).symm.trans H; rw [hy348]; with_reducible exact H2_) | (have H2_ := (Option.bind_some _ _).symm.trans H; with_reducible exact H2_) | with_reducible exact H | (rw [hy348]; exact H) | exact H
        have Ny348 := aM hy348
        clear hy348
        by_cases c23 : x343001_1.length < 4398046511104
        ·rw [if_pos c23] at H
         have LMc23 := aM c23
         clear c23
         obtain ⟨y351, hy351⟩ : ∃ y_ : List (S45), y_ = (x343001_1 ++ [(⟨(rd_T45 l0_1 x15_1).f0, y348⟩ : S45)]) := ⟨_, rfl⟩
         replace H : (impl_copyDatabase.l0 k1 l0_1 (l0_1.length : Int) (wrap64 (x15_1 + 1)) y336 y351) = some (r1, r2) := by first | (rw [hy351]; with_reducible exact H) | (have H2_ := (Option.bind_some _ _).symm.trans H; rw [hy351]; with_reducible exact H2_) | (have H2_ := (Option.bind_some _ _).symm.trans H; with_reducible exact H2_) | with_reducible exact H | (rw [hy351]; exact H) | exact H
         have Ny351 := aM hy351
         clear hy351
         have H' := aM H
         clear H
         have p343 : 0 ≤ (x15_1 : Int) := aD
         have q343 : x15_1 < (l0_1.length : Int) := aD
         obtain ⟨ad343, A343_1, c343_1, e343, hx343_0, hx343_1, hl343_1, hi343_1⟩ := at_T45 HR0_1.out x15_1 p343 q343
         cases e343
         replace hx343_0 := (HB.out.cell (World.block_lt_of_cell? w _ hx343_0)).trans hx343_0
         replace hx343_1 := (HB.out.cell (World.block_lt_of_cell? w _ hx343_1)).trans hx343_1
         have HR343_1 := aM hi343_1
         have HC343_1 := aM hl343_1
         clear hi343_1 hl343_1
         replace p343 := eq_true p343
         replace q343 := eq_true q343
         try go_wp2_with (first | ((with_reducible refine gate_dst (N := 5) rfl ?_); refine box_event ?hg (N := 5) ?hd (cs := #[.int .i64 0, .slice none 0 0]) (t := 45) ?hr ?_; (case hd => rfl); (case hg => rfl); (case hr => first | (go_simp; done) | (go_simp; rfl)); intro gb344 hg w24 hbox hb; have n0_ := aM (Kd.R_below (aR HO_343000) hb); have n1_ := aM (Kd.S_below (Kd.S_elderB (aS HO_343001) gb344 (Nat.le_of_eq hg.symm)) hb); have n2_ := aM (blk_below (g := gb331) (o := .cells #[.slice A0_0 l0_0.length c0_0, .slice (some ad343) l0_1.length c0_1] 31 (0, 0)) aK hb); have n3_ := aM (blk_below (g := gb332) (o := .cells #[.slice none 0 0, .slice none 0 0] 31 (0, 0)) aK hb); have n4_ := aM (blk_below (g := gb342) (o := .cells #[.slice Ao13 y336.length co13, u343001] 31 (0, 0)) aK hb); have n5_ := aM (below_step aG hb); have n6_ := aM (hbox); have n7_ := aM ((by rw [hg]; exact (below_size aG) : w.heap.size ≤ gb344)); have n8_ := aM ((by rw [hg]; exact (below_size aG) : w.heap.size ≤ gb344)); have n9_ := aM ((by rw [hg]; exact Nat.ne_of_lt (blk_lt (g := gb331) (o := .cells #[.slice A0_0 l0_0.length c0_0, .slice (some ad343) l0_1.length c0_1] 31 (0, 0)) aK) : gb331 ≠ gb344)); have n10_ := aM ((by rw [hg]; exact Nat.ne_of_gt (blk_lt (g := gb331) (o := .cells #[.slice A0_0 l0_0.length c0_0, .slice (some ad343) l0_1.length c0_1] 31 (0, 0)) aK) : gb344 ≠ gb331)); have n11_ := aM ((by rw [hg]; exact Nat.ne_of_lt (blk_lt (g := gb332) (o := .cells #[.slice none 0 0, .slice none 0 0] 31 (0, 0)) aK) : gb332 ≠ gb344)); have n12_ := aM ((by rw [hg]; exact Nat.ne_of_gt (blk_lt (g := gb332) (o := .cells #[.slice none 0 0, .slice none 0 0] 31 (0, 0)) aK) : gb344 ≠ gb332)); have n13_ := aM ((by rw [hg]; exact Nat.ne_of_lt (blk_lt (g := gb342) (o := .cells #[.slice Ao13 y336.length co13, u343001] 31 (0, 0)) aK) : gb342 ≠ gb344)); have n14_ := aM ((by rw [hg]; exact Nat.ne_of_gt (blk_lt (g := gb342) (o := .cells #[.slice Ao13 y336.length co13, u343001] 31 (0, 0)) aK) : gb344 ≠ gb342)); clear HO_343000; clear HO_343001; clear BK331; clear BK332; clear BK342; clear HB; have HO_343000 := n0_; have HO_343001 := n1_; have BK331 := n2_; have BK332 := n3_; have BK342 := n4_; have HB := n5_; have BK344 := n6_; have GW344 := n7_; have GE344 := n8_; have NB331_344 := n9_; have NB344_331 := n10_; have NB332_344 := n11_; have NB344_332 := n12_; have NB342_344 := n13_; have NB344_342 := n14_; clear n0_ n1_ n2_ n3_ n4_ n5_ n6_ n7_ n8_ n9_ n10_ n11_ n12_ n13_ n14_; clear hb hbox hg; have hnb25 := NB344_331.out; have hnc25 := NB331_344.out; have hnb26 := NB344_332.out; have hnc26 := NB332_344.out; have hnb27 := NB344_342.out; have hnc27 := NB342_344.out; have hcz28_0 : w24.cell? ⟨gb344, 0, none⟩ = some (.int .i64 0) := (blk_cell BK344.out 0).trans rfl; have hcz28_1 : w24.cell? ⟨gb344, 1, none⟩ = some (.slice none 0 0) := (blk_cell BK344.out 1).trans rfl; have hfz28_0 := blk_frozen BK344.out 0; have hfz28_1 := blk_frozen BK344.out 1))
         have n0_ : Aside0 (Kd.R k74 74 ((w24.setCell ⟨gb344, 0, none⟩ (.int .i64 ((rd_T45 l0_1 x15_1).f0))).setCell ⟨gb344, 1, none⟩ (.slice A343_1 ((rd_T45 l0_1 x15_1).f1).length c343_1)) w.heap.size (fun _ => True) (.slice Ao13 y336.length co13) y336) := ⟨by (with_reducible repeat (first | apply Kd.R_alloc | apply Kd.R_drewN | apply Kd.R_drew)); exact Kd.R_mono (Kd.R_far (p := ⟨gb344, 1, none⟩) (Kd.R_far (p := ⟨gb344, 0, none⟩) (Kd.R_types HO_343000.out BK344.out (by decide)) (fun _ hk => hk.2) (.int .i64 ((rd_T45 l0_1 x15_1).f0))) (fun _ hk => hk.2) (.slice A343_1 ((rd_T45 l0_1 x15_1).f1).length c343_1)) (fun _ hk => trivial)⟩
         have n1_ : Aside0 (Kd.S k45 45 ((w24.setCell ⟨gb344, 0, none⟩ (.int .i64 ((rd_T45 l0_1 x15_1).f0))).setCell ⟨gb344, 1, none⟩ (.slice A343_1 ((rd_T45 l0_1 x15_1).f1).length c343_1)) w.heap.size (fun k_ => k_ ≠ gb344) u343001 x343001_1) := ⟨by (with_reducible repeat (first | apply Kd.S_alloc | apply Kd.S_drewN | apply Kd.S_drew)); exact Kd.S_mono (Kd.S_far (p := ⟨gb344, 1, none⟩) (Kd.S_far (p := ⟨gb344, 0, none⟩) (Kd.S_mono HO_343001.out (fun k_ hk => (⟨hk, hk.2⟩ : _ ∧ k_ ≠ gb344))) (fun _ hk => hk.2) (.int .i64 ((rd_T45 l0_1 x15_1).f0))) (fun _ hk => hk.2) (.slice A343_1 ((rd_T45 l0_1 x15_1).f1).length c343_1)) (fun _ hk => hk.1.2)⟩
         have n2_ : Aside0 (((w24.setCell ⟨gb344, 0, none⟩ (.int .i64 ((rd_T45 l0_1 x15_1).f0))).setCell ⟨gb344, 1, none⟩ (.slice A343_1 ((rd_T45 l0_1 x15_1).f1).length c343_1)).heap[gb331]? = some (.cells #[.slice A0_0 l0_0.length c0_0, .slice (some ad343) l0_1.length c0_1] 31 (0, 0))) := ⟨by (with_reducible repeat (first | refine blk_drewN ?_ _ | refine blk_drew ?_ | refine blk_alloc ?_ _)); refine blk_far ?_ NB331_344.out _; (with_reducible repeat (first | refine blk_drewN ?_ _ | refine blk_drew ?_ | refine blk_alloc ?_ _)); refine blk_far ?_ NB331_344.out _; (with_reducible repeat (first | refine blk_drewN ?_ _ | refine blk_drew ?_ | refine blk_alloc ?_ _)); exact BK331.out⟩
         have n3_ : Aside0 (((w24.setCell ⟨gb344, 0, none⟩ (.int .i64 ((rd_T45 l0_1 x15_1).f0))).setCell ⟨gb344, 1, none⟩ (.slice A343_1 ((rd_T45 l0_1 x15_1).f1).length c343_1)).heap[gb332]? = some (.cells #[.slice none 0 0, .slice none 0 0] 31 (0, 0))) := ⟨by (with_reducible repeat (first | refine blk_drewN ?_ _ | refine blk_drew ?_ | refine blk_alloc ?_ _)); refine blk_far ?_ NB332_344.out _; (with_reducible repeat (first | refine blk_drewN ?_ _ | refine blk_drew ?_ | refine blk_alloc ?_ _)); refine blk_far ?_ NB332_344.out _; (with_reducible repeat (first | refine blk_drewN ?_ _ | refine blk_drew ?_ | refine blk_alloc ?_ _)); exact BK332.out⟩
         have n4_ : Aside0 (((w24.setCell ⟨gb344, 0, none⟩ (.int .i64 ((rd_T45 l0_1 x15_1).f0))).setCell ⟨gb344, 1, none⟩ (.slice A343_1 ((rd_T45 l0_1 x15_1).f1).length c343_1)).heap[gb342]? = some (.cells #[.slice Ao13 y336.length co13, u343001] 31 (0, 0))) := ⟨by (with_reducible repeat (first | refine blk_drewN ?_ _ | refine blk_drew ?_ | refine blk_alloc ?_ _)); refine blk_far ?_ NB342_344.out _; (with_reducible repeat (first | refine blk_drewN ?_ _ | refine blk_drew ?_ | refine blk_alloc ?_ _)); refine blk_far ?_ NB342_344.out _; (with_reducible repeat (first | refine blk_drewN ?_ _ | refine blk_drew ?_ | refine blk_alloc ?_ _)); exact BK342.out⟩
         have n5_ : Aside0 (((w24.setCell ⟨gb344, 0, none⟩ (.int .i64 ((rd_T45 l0_1 x15_1).f0))).setCell ⟨gb344, 1, none⟩ (.slice A343_1 ((rd_T45 l0_1 x15_1).f1).length c343_1)).heap[gb344]? = some (.cells #[.int .i64 ((rd_T45 l0_1 x15_1).f0), .slice A343_1 ((rd_T45 l0_1 x15_1).f1).length c343_1] 45 (0, 0))) := ⟨by (with_reducible repeat (first | refine blk_drewN ?_ _ | refine blk_drew ?_ | refine blk_alloc ?_ _)); refine blk_put (cs := #[.int .i64 ((rd_T45 l0_1 x15_1).f0), .slice none 0 0]) ?_ 1 _ rfl; (with_reducible repeat (first | refine blk_drewN ?_ _ | refine blk_drew ?_ | refine blk_alloc ?_ _)); refine blk_put (cs := #[.int .i64 0, .slice none 0 0]) ?_ 0 _ rfl; (with_reducible repeat (first | refine blk_drewN ?_ _ | refine blk_drew ?_ | refine blk_alloc ?_ _)); exact BK344.out⟩
         have n6_ : Aside0 (Below w.heap.size w ((w24.setCell ⟨gb344, 0, none⟩ (.int .i64 ((rd_T45 l0_1 x15_1).f0))).setCell ⟨gb344, 1, none⟩ (.slice A343_1 ((rd_T45 l0_1 x15_1).f1).length c343_1))) := ⟨by repeat (first | (with_reducible first | exact HB.out | apply below_alloc | apply pw_below_drewN | apply below_drew1 | refine below_set ?_ GE331.out | refine below_set ?_ GE332.out | refine below_set ?_ GE342.out | refine below_set ?_ GE344.out) | exact HB.out)⟩
         (try clear HO_343000)
         (try clear HO_343001)
         (try clear BK331)
         (try clear BK332)
         (try clear BK342)
         (try clear BK344)
         (try clear HB)
         generalize ((w24.setCell ⟨gb344, 0, none⟩ (.int .i64 ((rd_T45 l0_1 x15_1).f0))).setCell ⟨gb344, 1, none⟩ (.slice A343_1 ((rd_T45 l0_1 x15_1).f1).length c343_1)) = w29 at n0_ n1_ n2_ n3_ n4_ n5_ n6_ ⊢
         have HO_343000 := n0_
         have HO_343001 := n1_
         have BK331 := n2_
         have BK332 := n3_
         have BK342 := n4_
         have BK344 := n5_
         have HB := n6_
         clear n0_ n1_ n2_ n3_ n4_ n5_ n6_
         have n0_ := aM (Kd.R_drew HO_343000.out)
         have n1_ := aM (Kd.S_drew HO_343001.out)
         have n2_ := aM (blk_drew BK331.out)
         have n3_ := aM (blk_drew BK332.out)
         have n4_ := aM (blk_drew BK342.out)
         have n5_ := aM (blk_drew BK344.out)
         have n6_ := aM (below_drew1 HB.out)
         clear HO_343000
         clear HO_343001
         clear BK331
         clear BK332
         clear BK342
         clear BK344
         clear HB
         have HO_343000 := n0_
         have HO_343001 := n1_
         have BK331 := n2_
         have BK332 := n3_
         have BK342 := n4_
         have BK344 := n5_
         have HB := n6_
         clear n0_ n1_ n2_ n3_ n4_ n5_ n6_
         refine start_ (n := 13) (S := fun w' => w'.cell? ⟨gb342, 0, none⟩ = some (.slice Ao13 y336.length co13) ∧ w'.cell? ⟨gb342, 1, none⟩ = some (u343001) ∧ w'.cell? ⟨gb344, 0, none⟩ = some (.int .i64 ((rd_T45 l0_1 x15_1).f0)) ∧ w'.cell? ⟨gb344, 1, none⟩ = some (.slice A343_1 ((rd_T45 l0_1 x15_1).f1).length c343_1)) (ds := [12]) #[false, false, false, false, false, false, false, false, false, false, false, false, false] (by kernel_rfl) rfl rfl ⟨(blk_cell BK342.out 0).trans rfl, (blk_cell BK342.out 1).trans rfl, (blk_cell BK344.out 0).trans rfl, (blk_cell BK344.out 1).trans rfl⟩ (fun hHeld => ?_); refine with_tabW impl_copyDatabase.tab5 impl_copyDatabase.bits5 (fun HT_ HW_ => ?_)
         generalize w29.drew = w30 at HO_343000 HO_343001 BK331 BK332 BK342 BK344 HB hHeld ⊢
         refine pure_ (i := 0) (N := some 19) (v := ?_) (a' := ?_) #[true, false, false, false, false, false, false, false, false, false, false, false, false] rfl rfl (any_of HT_.out (by kernel_rfl)) (fun _ _ _ h => h) (Or.inl ⟨by rfl, ?_⟩) ?_ ?_
         rotate_left
         ·exact aI
         rotate_left
         ·exact aP
         refine pure_ (i := 2) (N := some 21) (v := ?_) (a' := ?_) #[true, false, true, false, false, false, false, false, false, false, false, false, false] rfl rfl (any_of HT_.out (by kernel_rfl)) (fun _ _ _ h => h) (Or.inl ⟨by rfl, ?_⟩) ?_ ?_
         rotate_left
         ·exact aI
         rotate_left
         ·exact aP
         refine pure_ (i := 5) (N := some 24) (v := ?_) (a' := ?_) #[true, false, true, false, false, true, false, false, false, false, false, false, false] rfl rfl (any_of HT_.out (by kernel_rfl)) (fun _ _ _ h => h) (Or.inl ⟨by rfl, ?_⟩) ?_ ?_
         rotate_left
         ·exact aI
         rotate_left
         ·exact aP
         refine take_ (i := 1) (N := some 20) (v := ?_) (a' := ?_) #[true, true, true, false, false, true, false, false, false, false, false, false, false] rfl rfl (take_ofW HT_.out HW_.out (by kernel_rfl)) (fun _ _ _ h => h) (Or.inl ⟨by rfl, ?_⟩) hHeld ?_ ?_
         rotate_left
         ·rintro w' ⟨s0, s1, s2, s3⟩
          go_simp
          with_reducible rfl
         rotate_left
         ·exact aP
         refine take_ (i := 3) (N := some 22) (v := ?_) (a' := ?_) #[true, true, true, true, false, true, false, false, false, false, false, false, false] rfl rfl (take_ofW HT_.out HW_.out (by kernel_rfl)) (fun _ _ _ h => h) (Or.inl ⟨by rfl, ?_⟩) hHeld ?_ ?_
         rotate_left
         ·rintro w' ⟨s0, s1, s2, s3⟩
          go_simp
          with_reducible rfl
         rotate_left
         ·exact aP
         refine take_ (i := 6) (N := some 25) (v := ?_) (a' := ?_) #[true, true, true, true, false, true, true, false, false, false, false, false, false] rfl rfl (take_ofW HT_.out HW_.out (by kernel_rfl)) (fun _ _ _ h => h) (Or.inl ⟨by rfl, ?_⟩) hHeld ?_ ?_
         rotate_left
         ·rintro w' ⟨s0, s1, s2, s3⟩
          go_simp
          with_reducible rfl
         rotate_left
         ·exact aP
         refine one_ (i := 4) (N := some 23) #[true, true, true, true, true, true, true, false, false, false, false, false, false] rfl rfl (one_of HT_.out (by kernel_rfl)) (by decide) (fun K hK => ?_)
         refine Kd.R_lit_step (Kd.int .i64) _ 3 ?hg (N := 23) ?hd (xs := ([] : List Int)) (inner := []) (ok := fun _ => True) (okp := fun _ => True) ?hr ?hp (fun _ hk => hk) trivial (Below.refl _ _) (Nat.le_refl _) (by simp) ?_; (case hd => rfl); (case hg => rfl); (case hr => first | (go_simp; done) | (go_simp; rfl)); (case hp => exact (Reps.none _ _))
         intro v346 w31 ho32 hb hg_ hnew_
         clear hg_ hnew_
         (first | rw [← Ny345.out] at ho32 | (simp only [Int.reduceToNat] at ho32; rw [← Ny345.out] at ho32))
         have n0_ := aM (Kd.R_below (aR HO_343000) hb)
         have n1_ := aM (Kd.S_elder' (aS HO_343001) (Kd.R_base ho32) hb)
         have n2_ := aM (Kd.R_lower ho32 (below_size aG))
         have n3_ := aM (blk_below (g := gb331) (o := .cells #[.slice A0_0 l0_0.length c0_0, .slice (some ad343) l0_1.length c0_1] 31 (0, 0)) aK hb)
         have n4_ := aM (blk_below (g := gb332) (o := .cells #[.slice none 0 0, .slice none 0 0] 31 (0, 0)) aK hb)
         have n5_ := aM (blk_below (g := gb342) (o := .cells #[.slice Ao13 y336.length co13, u343001] 31 (0, 0)) aK hb)
         have n6_ := aM (blk_below (g := gb344) (o := .cells #[.int .i64 ((rd_T45 l0_1 x15_1).f0), .slice A343_1 ((rd_T45 l0_1 x15_1).f1).length c343_1] 45 (0, 0)) aK hb)
         have n7_ := aM (below_step aG hb)
         clear HO_343000
         clear HO_343001
         clear BK331
         clear BK332
         clear BK342
         clear BK344
         clear HB
         have HO_343000 := n0_
         have HO_343001 := n1_
         have HO347 := n2_
         have BK331 := n3_
         have BK332 := n4_
         have BK342 := n5_
         have BK344 := n6_
         have HB := n7_
         clear n0_ n1_ n2_ n3_ n4_ n5_ n6_ n7_
         clear hb ho32
         refine hK.out _ _ ⟨(blk_cell BK342.out 0).trans rfl, (blk_cell BK342.out 1).trans rfl, (blk_cell BK344.out 0).trans rfl, (blk_cell BK344.out 1).trans rfl⟩ (fun hHeld => ?_)
         clear hK K
         refine norm_ (a' := ?_) ?_ ?_
         rotate_left
         ·show Act.put _ (some 23) _ = _
          simp only [Act.put, List.setIfInBounds_toArray, List.set_cons_zero, List.set_cons_succ, i64_w, i32_w]
          rfl
         refine one_ (i := 7) (N := some 26) #[true, true, true, true, true, true, true, true, false, false, false, false, false] rfl rfl (one_of HT_.out (by kernel_rfl)) (by decide) (fun K hK => ?_)
         refine Kd.R_append_rows_step (Kd.int .i64) (w0 := w) w.heap.size (by rfl) (.tmp 23) (.tmp 25) 26 3 (.int .i64 0) 8 rfl Try.underlying26 info3 rfl (by decide) (by omega) v346 y345 ((rd_T45 l0_1 x15_1).f1) _ _ _ (fun _ => True) (fun _ => False) rfl rfl ?aO ?aR (fun _ _ h => h) (fun _ h => h.elim) ?aF ?aB ?aS ?aL ?_
         (case aR => exact aC)
         (case aB => exact aG)
         (case aF => exact (fun _ _ => trivial))
         (case aO => exact (aR HO347))
         (case aS => exact (below_size aG))
         (case aL => have := LMc22.out; omega)
         intro v349 w33 ho hb hg hat
         rw [← Ny348.out] at ho
         have n0_ := aM (Kd.R_over' (aR HO_343000) (Kd.R_typed (aR HO347)) (by decide) hg)
         have n1_ := aM (Kd.S_after (ok := (fun k_ => k_ ≠ gb344)) (aS HO_343001) hg hat)
         have n2_ := aM (blk_grown (g := gb331) (o := .cells #[.slice A0_0 l0_0.length c0_0, .slice (some ad343) l0_1.length c0_1] 31 (0, 0)) aK hg (Kd.R_ne HO347.out BK331.out (by decide)))
         have n3_ := aM (blk_grown (g := gb332) (o := .cells #[.slice none 0 0, .slice none 0 0] 31 (0, 0)) aK hg (Kd.R_ne HO347.out BK332.out (by decide)))
         have n4_ := aM (blk_grown (g := gb342) (o := .cells #[.slice Ao13 y336.length co13, u343001] 31 (0, 0)) aK hg (Kd.R_ne HO347.out BK342.out (by decide)))
         have n5_ := aM (blk_grown (g := gb344) (o := .cells #[.int .i64 ((rd_T45 l0_1 x15_1).f0), .slice A343_1 ((rd_T45 l0_1 x15_1).f1).length c343_1] 45 (0, 0)) aK hg (Kd.R_ne HO347.out BK344.out (by decide)))
         have n6_ := aM (hb)
         have n7_ := aM (ho)
         clear HO_343000
         clear HO_343001
         clear BK331
         clear BK332
         clear BK342
         clear BK344
         clear HB
         clear HO347
         have HO_343000 := n0_
         have HO_343001 := n1_
         have BK331 := n2_
         have BK332 := n3_
         have BK342 := n4_
         have BK344 := n5_
         have HB := n6_
         have HO350 := n7_
         clear n0_ n1_ n2_ n3_ n4_ n5_ n6_ n7_
         clear ho hb hg hat
         obtain ⟨Ao34, co34, eo34⟩ := Kd.R_slice HO350.out
         (first | subst eo34 | (injection eo34 with f1_ f2_ f3_; have f4_ := f1_.symm; have f5_ := f3_.symm; clear f1_ f2_ f3_; subst f4_; subst f5_))
         refine hK.out _ _ ⟨(blk_cell BK342.out 0).trans rfl, (blk_cell BK342.out 1).trans rfl, (blk_cell BK344.out 0).trans rfl, (blk_cell BK344.out 1).trans rfl⟩ (fun hHeld => ?_)
         clear hK K
         refine norm_ (a' := ?_) ?_ ?_
         rotate_left
         ·show Act.put _ (some 26) _ = _
          simp only [Act.put, List.setIfInBounds_toArray, List.set_cons_zero, List.set_cons_succ, i64_w, i32_w]
          rfl
         refine pure_ (i := 8) (N := some 27) (v := ?_) (a' := ?_) #[true, true, true, true, true, true, true, true, true, false, false, false, false] rfl rfl (any_of HT_.out (by kernel_rfl)) (fun _ _ _ h => h) (Or.inl ⟨by rfl, ?_⟩) ?_ ?_
         rotate_left
         ·exact aI
         rotate_left
         ·exact aP
         refine one_ (i := 9) (N := some 28) #[true, true, true, true, true, true, true, true, true, true, false, false, false] rfl rfl (one_of HT_.out (by kernel_rfl)) (by decide) (fun K hK => ?_)
         refine value_ (w1 := ?_) (v := ?_) (by rfl) rfl ?_ ?_
         rotate_left 2
         ·go_simp
          constructor
          ·rfl
          ·rfl
         refine hK.out _ _ ⟨(blk_cell (blk_alloc BK342.out _) 0).trans rfl, (blk_cell (blk_alloc BK342.out _) 1).trans rfl, (blk_cell (blk_alloc BK344.out _) 0).trans rfl, (blk_cell (blk_alloc BK344.out _) 1).trans rfl⟩ (fun hHeld => ?_)
         clear hK K
         refine norm_ (a' := ?_) ?_ ?_
         rotate_left
         ·show Act.put _ (some 28) _ = _
          simp only [Act.put, List.setIfInBounds_toArray, List.set_cons_zero, List.set_cons_succ, i64_w, i32_w]
          rfl
         refine one_ (i := 10) (N := some 29) #[true, true, true, true, true, true, true, true, true, true, true, false, false] rfl rfl (one_of HT_.out (by kernel_rfl)) (by decide) (fun K hK => ?_)
         refine Kd.S_append_step k45 (w0 := w) w.heap.size (by rfl) (.tmp 20) (.tmp 28) 29 45 (.agg #[(.int .i64 0), (.slice none 0 0)]) 32 rfl Try.underlying29 info45 rfl (by decide) (by omega) u343001 x343001_1 (⟨(rd_T45 l0_1 x15_1).f0, y348⟩ : S45) [.int .i64 ((rd_T45 l0_1 x15_1).f0), .slice Ao34 y348.length co34] (fun k_ => k_ ≠ gb344) (fun k_ => some k_ = (.slice Ao34 y348.length co34 : Value).ownBlock) rfl rfl ?aP (fun k_ hk_ => ((Kd.R_mono (ok' := fun k_ => ((fun k_ => k_ ≠ gb344)) k_ ∧ some k_ ≠ (u343001 : Value).ownBlock) (Kd.R_types (Kd.R_apart' (HO350.out) (Kd.S_typed HO_343001.out) (by decide)) BK344.out (by decide)) (fun k_ hk => ⟨hk.2, hk.1.2⟩))).1 k_ hk_.symm) ?aF ?aO ?aB ?aS ?aL ?_
         (case aP => exact k45_mkM _ _ _ (⟨(rd_T45 l0_1 x15_1).f0, y348⟩ : S45) (Kd.R_mono (Kd.R_tight rfl (Kd.R_mono (ok' := fun k_ => ((fun k_ => k_ ≠ gb344)) k_ ∧ some k_ ≠ (u343001 : Value).ownBlock) (Kd.R_types (Kd.R_apart' (HO350.out) (Kd.S_typed HO_343001.out) (by decide)) BK344.out (by decide)) (fun k_ hk => ⟨hk.2, hk.1.2⟩))) (fun _ h_ => h_)))
         (case aB => exact aG)
         (case aF => exact (fun k_ hk => Kd.freshB (g := gb344) (o := .cells #[.int .i64 ((rd_T45 l0_1 x15_1).f0), .slice A343_1 ((rd_T45 l0_1 x15_1).f1).length c343_1] 45 (0, 0)) aK k_ hk))
         (case aO => exact (by (with_reducible repeat (first | apply Kd.S_alloc | apply Kd.S_drewN | apply Kd.S_drew)); exact Kd.S_mono HO_343001.out (fun k_ hk => ⟨hk.1, fun e_ => hk.2 e_⟩)))
         (case aS => exact (below_size aG))
         (case aL => have := LMc23.out; omega)
         intro v352 w35 ho hb hg hat
         rw [← Ny351.out] at ho
         have n0_ := aM (Kd.R_over' (aR HO_343000) (Kd.S_typed (aS HO_343001)) (by decide) hg)
         have n1_ := aM (blk_grown (g := gb331) (o := .cells #[.slice A0_0 l0_0.length c0_0, .slice (some ad343) l0_1.length c0_1] 31 (0, 0)) aK hg (Kd.S_ne HO_343001.out BK331.out (by decide)))
         have n2_ := aM (blk_grown (g := gb332) (o := .cells #[.slice none 0 0, .slice none 0 0] 31 (0, 0)) aK hg (Kd.S_ne HO_343001.out BK332.out (by decide)))
         have n3_ := aM (blk_grown (g := gb342) (o := .cells #[.slice Ao13 y336.length co13, u343001] 31 (0, 0)) aK hg (Kd.S_ne HO_343001.out BK342.out (by decide)))
         have n4_ := aM (blk_grown (g := gb344) (o := .cells #[.int .i64 ((rd_T45 l0_1 x15_1).f0), .slice A343_1 ((rd_T45 l0_1 x15_1).f1).length c343_1] 45 (0, 0)) aK hg (Kd.S_away HO_343001.out (fun _ hk => hk.1)))
         have n5_ := aM (hb)
         have n6_ := aM (ho)
         clear HO_343000
         clear BK331
         clear BK332
         clear BK342
         clear BK344
         clear HB
         clear HO_343001
         clear HO350
         have HO_343000 := n0_
         have BK331 := n1_
         have BK332 := n2_
         have BK342 := n3_
         have BK344 := n4_
         have HB := n5_
         have HO353 := n6_
         clear n0_ n1_ n2_ n3_ n4_ n5_ n6_
         clear ho hb hg hat
         obtain ⟨Ao36, co36, eo36⟩ := Kd.S_slice HO353.out
         (first | subst eo36 | (injection eo36 with f1_ f2_ f3_; have f4_ := f1_.symm; have f5_ := f3_.symm; clear f1_ f2_ f3_; subst f4_; subst f5_))
         refine hK.out _ _ ⟨(blk_cell BK342.out 0).trans rfl, (blk_cell BK342.out 1).trans rfl, (blk_cell BK344.out 0).trans rfl, (blk_cell BK344.out 1).trans rfl⟩ (fun hHeld => ?_)
         clear hK K
         refine norm_ (a' := ?_) ?_ ?_
         rotate_left
         ·show Act.put _ (some 29) _ = _
          simp only [Act.put, List.setIfInBounds_toArray, List.set_cons_zero, List.set_cons_succ, i64_w, i32_w]
          rfl
         refine pure_ (i := 11) (N := some 30) (v := ?_) (a' := ?_) #[true, true, true, true, true, true, true, true, true, true, true, true, false] rfl rfl (any_of HT_.out (by kernel_rfl)) (fun _ _ _ h => h) (Or.inl ⟨by rfl, ?_⟩) ?_ ?_
         rotate_left
         ·exact aI
         rotate_left
         ·exact aP
         refine last_ (i := 12) (N := none) #[true, true, true, true, true, true, true, true, true, true, true, true, true] rfl rfl (one_of HT_.out (by kernel_rfl)) (by decide) (fun K hK => ?_)
         have hs37 : w35.cell? ⟨gb342, 1, none⟩ = some (u343001) := (blk_cell BK342.out 1).trans rfl
         have hfs37 := blk_frozen BK342.out 1
         have hns37_0 := NB331_342.out
         have hns37_1 := NB332_342.out
         have hns37_3 := NB344_342.out
         have hms37_0 := NB342_331.out
         have hms37_1 := NB342_332.out
         have hms37_3 := NB342_344.out
         refine skip_ (w1 := ?_) (by rfl) rfl ?_ ?_
         rotate_left
         ·go_simp
          rfl
         refine hK.out _ _ ?_
         clear hK K
         refine done_ (done_of HT_.out (by kernel_rfl)) ?_
         try go_wp2
         go_roundg k1
         case measure => have := HK1.out; omega
         case rel => exact ⟨(wrap64 (x15_1 + 1)), (y351), (.slice Ao36 y351.length co36), (by first | rfl | (simp; done) | (simp [*]; done)), H', ⟨by have := HK1.out; omega⟩, ⟨by (with_reducible repeat (first | apply Kd.R_alloc | apply Kd.R_drewN | apply Kd.R_drew)); exact Kd.R_mono (Kd.R_far (p := ⟨gb342, 1, none⟩) (Kd.R_types HO_343000.out BK342.out (by decide)) (fun _ hk => hk.2) (.slice Ao36 y351.length co36)) (fun _ hk => trivial)⟩, ⟨by (with_reducible repeat (first | apply Kd.S_alloc | apply Kd.S_drewN | apply Kd.S_drew)); exact Kd.S_mono (Kd.S_far (p := ⟨gb342, 1, none⟩) (Kd.S_types HO353.out BK342.out (by decide)) (fun _ hk => hk.2) (.slice Ao36 y351.length co36)) (fun _ hk => trivial)⟩, ⟨by (with_reducible repeat (first | refine blk_drewN ?_ _ | refine blk_drew ?_ | refine blk_alloc ?_ _)); refine blk_far ?_ NB331_342.out _; (with_reducible repeat (first | refine blk_drewN ?_ _ | refine blk_drew ?_ | refine blk_alloc ?_ _)); exact BK331.out⟩, ⟨by (with_reducible repeat (first | refine blk_drewN ?_ _ | refine blk_drew ?_ | refine blk_alloc ?_ _)); refine blk_far ?_ NB332_342.out _; (with_reducible repeat (first | refine blk_drewN ?_ _ | refine blk_drew ?_ | refine blk_alloc ?_ _)); exact BK332.out⟩, ⟨by (with_reducible repeat (first | refine blk_drewN ?_ _ | refine blk_drew ?_ | refine blk_alloc ?_ _)); refine blk_put (cs := #[.slice Ao13 y336.length co13, u343001]) ?_ 1 _ rfl; (with_reducible repeat (first | refine blk_drewN ?_ _ | refine blk_drew ?_ | refine blk_alloc ?_ _)); exact BK342.out⟩, ⟨by repeat (first | (with_reducible first | exact HB.out | apply below_alloc | apply pw_below_drewN | apply below_drew1 | refine below_set ?_ GE331.out | refine below_set ?_ GE332.out | refine below_set ?_ GE342.out | refine below_set ?_ GE344.out) | exact HB.out)⟩⟩
        ·rw [if_neg c23] at H
         exact absurd H (by simp)
       ·rw [if_neg c22] at H
        exact absurd H (by simp)
      ·rw [if_neg c21] at H
       exact absurd H (by simp)
     ·rw [if_neg c20] at H
      exact absurd H (by simp)
    ·rw [if_neg c19] at H
     have c19b0 : decide (x15_1 < (l0_1.length : Int)) = false := decide_eq_false c19
     clear c19
     simp only [Option.some.injEq, Prod.mk.injEq] at H
     obtain ⟨rfl, rfl⟩ := H
     have hnb38 := NB342_331.out
     have hnc38 := NB331_342.out
     have hnb39 := NB342_332.out
     have hnc39 := NB332_342.out
     have hcz40_0 : wr.cell? ⟨gb342, 0, none⟩ = some (.slice Ao13 y336.length co13) := (blk_cell BK342.out 0).trans rfl
     have hcz40_1 : wr.cell? ⟨gb342, 1, none⟩ = some (u343001) := (blk_cell BK342.out 1).trans rfl
     have hfz40_0 := blk_frozen BK342.out 0
     have hfz40_1 := blk_frozen BK342.out 1
     have hnb41 := NB332_331.out
     have hnc41 := NB331_332.out
     have hcz42_0 : wr.cell? ⟨gb332, 0, none⟩ = some (.slice none 0 0) := (blk_cell BK332.out 0).trans rfl
     have hcz42_1 : wr.cell? ⟨gb332, 1, none⟩ = some (.slice none 0 0) := (blk_cell BK332.out 1).trans rfl
     have hfz42_0 := blk_frozen BK332.out 0
     have hfz42_1 := blk_frozen BK332.out 1
     obtain ⟨Ao43, co43, eo43⟩ := Kd.S_slice HO_343001.out
     subst eo43
     go_wp2
     refine bodyPost_ret (results_cell_row rfl _ _ gb332 31 #[.slice Ao13 y336.length co13, .slice Ao43 x343001_1.length co43] (0, 0) _ rfl (by (with_reducible repeat (first | refine blk_drewN ?_ _ | refine blk_drew ?_ | refine blk_alloc ?_ _)); refine blk_put (cs := #[.slice Ao13 y336.length co13, .slice none 0 0]) ?_ 1 _ rfl; (with_reducible repeat (first | refine blk_drewN ?_ _ | refine blk_drew ?_ | refine blk_alloc ?_ _)); refine blk_put (cs := #[.slice none 0 0, .slice none 0 0]) ?_ 0 _ rfl; (with_reducible repeat (first | refine blk_drewN ?_ _ | refine blk_drew ?_ | refine blk_alloc ?_ _)); exact BK332.out) Try.underlying31 rfl (by kernel_rfl)) rfl ?_
     exact ⟨_, _, by first | rfl | (simp [errW_none, errW_some] <;> rfl) | (simp [*, errW_none, errW_some] <;> rfl), by (with_reducible repeat (first | apply Kd.R_alloc | apply Kd.R_drewN | apply Kd.R_drew)); exact Kd.R_mono (Kd.R_far (p := ⟨gb332, 1, none⟩) (Kd.R_far (p := ⟨gb332, 0, none⟩) (Kd.R_types HO_343000.out BK332.out (by decide)) (fun _ hk => hk.2) (.slice Ao13 y336.length co13)) (fun _ hk => hk.2) (.slice Ao43 x343001_1.length co43)) (fun _ hk => trivial), by (with_reducible repeat (first | apply Kd.S_alloc | apply Kd.S_drewN | apply Kd.S_drew)); exact Kd.S_mono (Kd.S_far (p := ⟨gb332, 1, none⟩) (Kd.S_far (p := ⟨gb332, 0, none⟩) (Kd.S_types HO_343001.out BK332.out (by decide)) (fun _ hk => hk.2) (.slice Ao13 y336.length co13)) (fun _ hk => hk.2) (.slice Ao43 x343001_1.length co43)) (fun _ hk => trivial), by repeat (first | (with_reducible first | exact HB.out | apply below_alloc | apply pw_below_drewN | apply below_drew1 | refine below_set ?_ GE331.out | refine below_set ?_ GE332.out | refine below_set ?_ GE342.out) | exact HB.out)⟩
 ·rw [if_neg c2] at H
  exact absurd H (by simp)

-- NOT PRINTED: function 71 (impl_Fact_71)

-- NOT PRINTED: function 89 (impl_Fact_89)

-- NOT PRINTED: function 81 (impl_Fact_81)

-- NOT PRINTED: function 72 (impl_Fact_72)

end Go.Proofs.Yteddnlklfjpgoaa.PFnExactInsertFact
