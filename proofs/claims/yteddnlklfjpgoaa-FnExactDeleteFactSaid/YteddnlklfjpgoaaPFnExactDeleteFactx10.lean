-- Laid by a program of this claim: what the functions come to, some of them proved by hand.
import Derived.Test.YteddnlklfjpgoaaPFnExactDeleteFactx0
import Derived.Test.YteddnlklfjpgoaaPFnExactDeleteFactx9
namespace Go.Proofs.Yteddnlklfjpgoaa.PFnExactDeleteFact
open Go.RowKit Go.Proofs.YteddnlklfjpgoaaW.PrintWords Go.Proofs.YteddnlklfjpgoaaW.PrintLast Go.Proofs.YteddnlklfjpgoaaW.PrintMore
attribute [local go_sem] max2_int min2_int max_two min_two max_three min_three max_four min_four   -- for this text's walks alone
set_option linter.unusedVariables false
set_option linter.unusedSimpArgs false

/-! ### impl_copyDatabase: function 38 -/
def impl_copyDatabase.l0 : Nat → List (S45) → Int → Int → List (S74) → List (S45) → Option ((List (S74)) × (List (S45)))
 | 0, _, _, _, _, _ => none
 | k + 1, x13, x14, x15, x304000, x304001 => if x15 < x14 then (if 0 ≤ x15 then (if x15 < (x13.length : Int) then ((some (([] : List Int) : List Int)).bind fun y306 => (if y306.length + ((rd_T45 x13 x15).f1).length < 17592186044416 then (if x304001.length < 4398046511104 then (impl_copyDatabase.l0 k x13 x14 (wrap64 (x15 + 1)) x304000 (x304001 ++ [(⟨(rd_T45 x13 x15).f0, (y306 ++ ((rd_T45 x13 x15).f1))⟩ : S45)])) else (none)) else (none))) else (none)) else (none)) else (some (x304000, x304001))
def impl_copyDatabase.f (k : Nat) (l0_0 : List (S74)) (l0_1 : List (S45)) : Option ((List (S74)) × (List (S45))) := (some (([] : List (S74)) : List (S74))).bind fun y294 => (if y294.length + l0_0.length < 4398046511104 then (impl_copyDatabase.l0 k l0_1 (l0_1.length : Int) 0 (y294 ++ l0_0) (([] : List (S45)))) else (none))
def impl_copyDatabase.T5 : Bool × List (List Nat × List Nat) := (true, [([], []), ([0], [0]), ([], []), ([2], [2]), ([], []), ([], []), ([5], [5]), ([4, 6], [4, 6]), ([3, 7], [3, 7]), ([8], [8]), ([1, 9, 7], [1, 9]), ([0, 1, 2, 3, 4, 5, 6, 7, 8, 9, 10], []), ([11, 10, 10, 0, 1, 2, 3, 4, 5, 6, 7, 8, 9, 10], [10, 11])])
def impl_copyDatabase.B5 : List Nat := [0, 1, 0, 4, 0, 0, 32, 112, 252, 508, 1023, 2047, 4095]
theorem impl_copyDatabase.tab5 : rtab .any (opsOf Try.f38 5) = impl_copyDatabase.T5 := by kernel_rfl
theorem impl_copyDatabase.bits5 : waitsOk impl_copyDatabase.T5.2 impl_copyDatabase.B5 = true := by kernel_rfl
set_option maxHeartbeats 8000000 in
set_option maxRecDepth 100000 in
theorem impl_copyDatabase.calls (k : Nat) (A0_0 : Option Addr) (c0_0 : Nat) (l0_0 : List (S74)) (A0_1 : Option Addr) (c0_1 : Nat) (l0_1 : List (S45)) (r1 : List (S74)) (r2 : List (S45)) (w : World) (hr0_0 : Kd.C k74 w A0_0 l0_0.length l0_0) (hc0_0 : l0_0.length ≤ c0_0) (hr0_1 : Kd.C k45 w A0_1 l0_1.length l0_1) (hc0_1 : l0_1.length ≤ c0_1) (h : impl_copyDatabase.f k l0_0 l0_1 = some (r1, r2)) :
  Calls Try.prog 38 #[.agg #[.slice A0_0 l0_0.length c0_0, .slice A0_1 l0_1.length c0_1]] w fun e w' => ∃ v0_ v1_ : Value, e = .returned (.agg #[v0_, v1_]) ∧ Kd.R k74 74 w' w.heap.size (fun _ => True) v0_ r1 ∧ Kd.S k45 45 w' w.heap.size (fun _ => True) v1_ r2 ∧ Below w.heap.size w w' := by
 have hu31 := Try.underlying31
 have hu45 := Try.underlying45
 have HR0_0 := aM hr0_0
 have HC0_0 := aM hc0_0
 clear hr0_0 hc0_0
 have HR0_1 := aM hr0_1
 have HC0_1 := aM hc0_1
 clear hr0_1 hc0_1
 have HB := aM (Below.refl w.heap.size w)
 have H : ((some (([] : List (S74)) : List (S74))).bind fun y294 => (if y294.length + l0_0.length < 4398046511104 then (impl_copyDatabase.l0 k l0_1 (l0_1.length : Int) 0 (y294 ++ l0_0) (([] : List (S45)))) else (none))) = some (r1, r2) := h
 clear h
 obtain ⟨y294, hy294⟩ : ∃ y_ : List (S74), y_ = (([] : List (S74))) := ⟨_, rfl⟩
 replace H : (if y294.length + l0_0.length < 4398046511104 then (impl_copyDatabase.l0 k l0_1 (l0_1.length : Int) 0 (y294 ++ l0_0) (([] : List (S45)))) else (none)) = some (r1, r2) := by first | (rw [hy294]; with_reducible exact H) | (have H2_ := (Option.bind_some _ _).symm.trans H; rw [hy294]; with_reducible exact H2_) | (have H2_ := (Option.bind_some _ _).symm.trans H; with_reducible exact H2_) | with_reducible exact H | (rw [hy294]; exact H) | exact H
 have Ny294 := aM hy294
 clear hy294
 by_cases c2 : y294.length + l0_0.length < 4398046511104
 ·rw [if_pos c2] at H
  have LMc2 := aM c2
  clear c2
  obtain ⟨y297, hy297⟩ : ∃ y_ : List (S74), y_ = (y294 ++ l0_0) := ⟨_, rfl⟩
  replace H : (impl_copyDatabase.l0 k l0_1 (l0_1.length : Int) 0 y297 (([] : List (S45)))) = some (r1, r2) := by first | (rw [hy297]; with_reducible exact H) | (have H2_ := (Option.bind_some _ _).symm.trans H; rw [hy297]; with_reducible exact H2_) | (have H2_ := (Option.bind_some _ _).symm.trans H; with_reducible exact H2_) | with_reducible exact H | (rw [hy297]; exact H) | exact H
  have Ny297 := aM hy297
  clear hy297
  obtain ⟨y300, hy300⟩ : ∃ y_ : List (S45), y_ = (([] : List (S45))) := ⟨_, rfl⟩
  replace H : (impl_copyDatabase.l0 k l0_1 (l0_1.length : Int) 0 y297 y300) = some (r1, r2) := by first | (rw [hy300]; with_reducible exact H) | (have H2_ := (Option.bind_some _ _).symm.trans H; rw [hy300]; with_reducible exact H2_) | (have H2_ := (Option.bind_some _ _).symm.trans H; with_reducible exact H2_) | with_reducible exact H | (rw [hy300]; exact H) | exact H
  have Ny300 := aM hy300
  clear hy300
  have H' := aM H
  clear H
  go_enter Try.func38, Try.ntmps38
  go_wp2_with (first | ((with_reducible refine gate_dst (N := 1) rfl ?_); refine box_event ?hg (N := 1) ?hd (cs := #[.slice A0_0 l0_0.length c0_0, .slice A0_1 l0_1.length c0_1]) (t := 31) ?hr ?_; (case hd => rfl); (case hg => rfl); (case hr => first | (go_simp; done) | (go_simp; rfl)); intro gb292 hg w3 hbox hb; have n0_ := aM (below_step aB hb); have n1_ := aM (hbox); have n2_ := aM ((by rw [hg]; exact (below_size aB) : w.heap.size ≤ gb292)); have n3_ := aM ((by rw [hg]; exact (below_size aB) : w.heap.size ≤ gb292)); clear HB; have HB := n0_; have BK292 := n1_; have GW292 := n2_; have GE292 := n3_; clear n0_ n1_ n2_ n3_; clear hb hbox hg) | ((with_reducible refine gate_dst (N := 2) rfl ?_); refine box_event ?hg (N := 2) ?hd (cs := #[.slice none 0 0, .slice none 0 0]) (t := 31) ?hr ?_; (case hd => rfl); (case hg => rfl); (case hr => first | (go_simp; done) | (go_simp; rfl)); intro gb293 hg w4 hbox hb; have n0_ := aM (blk_below (g := gb292) (o := .cells #[.slice A0_0 l0_0.length c0_0, .slice A0_1 l0_1.length c0_1] 31 (0, 0)) aK hb); have n1_ := aM (below_step aG hb); have n2_ := aM (hbox); have n3_ := aM ((by rw [hg]; exact (below_size aG) : w.heap.size ≤ gb293)); have n4_ := aM ((by rw [hg]; exact (below_size aG) : w.heap.size ≤ gb293)); have n5_ := aM ((by rw [hg]; exact Nat.ne_of_lt (blk_lt (g := gb292) (o := .cells #[.slice A0_0 l0_0.length c0_0, .slice A0_1 l0_1.length c0_1] 31 (0, 0)) aK) : gb292 ≠ gb293)); have n6_ := aM ((by rw [hg]; exact Nat.ne_of_gt (blk_lt (g := gb292) (o := .cells #[.slice A0_0 l0_0.length c0_0, .slice A0_1 l0_1.length c0_1] 31 (0, 0)) aK) : gb293 ≠ gb292)); clear BK292; clear HB; have BK292 := n0_; have HB := n1_; have BK293 := n2_; have GW293 := n3_; have GE293 := n4_; have NB292_293 := n5_; have NB293_292 := n6_; clear n0_ n1_ n2_ n3_ n4_ n5_ n6_; clear hb hbox hg) | ((with_reducible refine gate_dst (N := 6) rfl ?_); refine Kd.R_lit k74 _ 74 ?hg (N := 6) ?hd (xs := ([] : List (S74))) (inner := []) (ok := fun _ => True) (okp := fun _ => True) ?hr ?hp (fun _ hk => hk) trivial (Below.refl _ _) (Nat.le_refl _) (by simp) ?_; (case hd => rfl); (case hg => rfl); (case hr => first | (go_simp; done) | (go_simp; rfl)); (case hp => exact (Reps.none _ _)); intro v295 w5 ho6 hb hg_ hnew_; clear hg_ hnew_; (first | rw [← Ny294.out] at ho6 | (simp only [Int.reduceToNat] at ho6; rw [← Ny294.out] at ho6)); have n0_ := aM (Kd.R_lower ho6 (below_size aG)); have n1_ := aM (blk_below (g := gb292) (o := .cells #[.slice A0_0 l0_0.length c0_0, .slice A0_1 l0_1.length c0_1] 31 (0, 0)) aK hb); have n2_ := aM (blk_below (g := gb293) (o := .cells #[.slice none 0 0, .slice none 0 0] 31 (0, 0)) aK hb); have n3_ := aM (below_step aG hb); clear BK292; clear BK293; clear HB; have HO296 := n0_; have BK292 := n1_; have BK293 := n2_; have HB := n3_; clear n0_ n1_ n2_ n3_; clear hb ho6; have hnb7 := NB292_293.out; have hnc7 := NB293_292.out; have hcz8_0 : w5.cell? ⟨gb292, 0, none⟩ = some (.slice A0_0 l0_0.length c0_0) := (blk_cell BK292.out 0).trans rfl; have hcz8_1 : w5.cell? ⟨gb292, 1, none⟩ = some (.slice A0_1 l0_1.length c0_1) := (blk_cell BK292.out 1).trans rfl; have hfz8_0 := blk_frozen BK292.out 0; have hfz8_1 := blk_frozen BK292.out 1) | ((with_reducible refine gate_builtin (b := .append) (xs := #[.tmp 6, .tmp 8]) rfl ?_); at_builtin; refine Kd.R_append_rows k74 (w0 := w) w.heap.size rfl (.tmp 6) (.tmp 8) 28 74 (.agg #[(.string ⟨#[]⟩), (.int .i64 0), (.int .i64 0)]) 32 rfl Try.underlying28 info74 rfl (by decide) (by omega) v295 y294 l0_0 _ _ _ (fun _ => True) (fun _ => False) rfl rfl ?aO ?aR (fun _ _ h => h) (fun _ h => h.elim) ?aF ?aB ?aS ?aL ?_; (case aR => exact aC); (case aB => exact aG); (case aF => exact (fun _ _ => trivial)); (case aO => exact (aR HO296)); (case aS => exact (below_size aG)); (case aL => have := LMc2.out; omega); intro v298 w9 ho hb hg hat; rw [← Ny297.out] at ho; have n0_ := aM (blk_grown (g := gb292) (o := .cells #[.slice A0_0 l0_0.length c0_0, .slice A0_1 l0_1.length c0_1] 31 (0, 0)) aK hg (Kd.R_ne HO296.out BK292.out (by decide))); have n1_ := aM (blk_grown (g := gb293) (o := .cells #[.slice none 0 0, .slice none 0 0] 31 (0, 0)) aK hg (Kd.R_ne HO296.out BK293.out (by decide))); have n2_ := aM (hb); have n3_ := aM (ho); clear BK292; clear BK293; clear HB; clear HO296; have BK292 := n0_; have BK293 := n1_; have HB := n2_; have HO299 := n3_; clear n0_ n1_ n2_ n3_; clear ho hb hg hat) | ((with_reducible refine gate_dst (N := 10) rfl ?_); refine Kd.S_lit k45 _ 45 ?hg (N := 10) ?hd (xs := ([] : List (S45))) (inner := []) (ok := fun _ => True) (okp := fun _ => True) ?hr ?hp (fun _ hk => hk) trivial (Below.refl _ _) (Nat.le_refl _) (by simp) ?_; (case hd => rfl); (case hg => rfl); (case hr => first | (go_simp; done) | (go_simp; rfl)); (case hp => exact (Reps.none _ _)); intro v301 w10 ho11 hb hg_ hnew_; clear hg_ hnew_; (first | rw [← Ny300.out] at ho11 | (simp only [Int.reduceToNat] at ho11; rw [← Ny300.out] at ho11)); have n0_ := aM (Kd.R_below (aR HO299) hb); have n1_ := aM (Kd.S_lower ho11 (below_size aG)); have n2_ := aM (blk_below (g := gb292) (o := .cells #[.slice A0_0 l0_0.length c0_0, .slice A0_1 l0_1.length c0_1] 31 (0, 0)) aK hb); have n3_ := aM (blk_below (g := gb293) (o := .cells #[.slice none 0 0, .slice none 0 0] 31 (0, 0)) aK hb); have n4_ := aM (below_step aG hb); clear HO299; clear BK292; clear BK293; clear HB; have HO299 := n0_; have HO302 := n1_; have BK292 := n2_; have BK293 := n3_; have HB := n4_; clear n0_ n1_ n2_ n3_ n4_; clear hb ho11; obtain ⟨Ao12, co12, eo12⟩ := Kd.S_slice HO302.out; subst eo12; obtain ⟨Ao13, co13, eo13⟩ := Kd.R_slice HO299.out; subst eo13) | ((with_reducible refine gate_dst (N := 3) rfl ?_); refine box_event ?hg (N := 3) ?hd (cs := #[.slice none 0 0, .slice none 0 0]) (t := 31) ?hr ?_; (case hd => rfl); (case hg => rfl); (case hr => first | (go_simp; done) | (go_simp; rfl)); intro gb303 hg w14 hbox hb; have n0_ := aM (Kd.R_below (aR HO299) hb); have n1_ := aM (Kd.S_below (aS HO302) hb); have n2_ := aM (blk_below (g := gb292) (o := .cells #[.slice A0_0 l0_0.length c0_0, .slice A0_1 l0_1.length c0_1] 31 (0, 0)) aK hb); have n3_ := aM (blk_below (g := gb293) (o := .cells #[.slice none 0 0, .slice none 0 0] 31 (0, 0)) aK hb); have n4_ := aM (below_step aG hb); have n5_ := aM (hbox); have n6_ := aM ((by rw [hg]; exact (below_size aG) : w.heap.size ≤ gb303)); have n7_ := aM ((by rw [hg]; exact (below_size aG) : w.heap.size ≤ gb303)); have n8_ := aM ((by rw [hg]; exact Nat.ne_of_lt (blk_lt (g := gb292) (o := .cells #[.slice A0_0 l0_0.length c0_0, .slice A0_1 l0_1.length c0_1] 31 (0, 0)) aK) : gb292 ≠ gb303)); have n9_ := aM ((by rw [hg]; exact Nat.ne_of_gt (blk_lt (g := gb292) (o := .cells #[.slice A0_0 l0_0.length c0_0, .slice A0_1 l0_1.length c0_1] 31 (0, 0)) aK) : gb303 ≠ gb292)); have n10_ := aM ((by rw [hg]; exact Nat.ne_of_lt (blk_lt (g := gb293) (o := .cells #[.slice none 0 0, .slice none 0 0] 31 (0, 0)) aK) : gb293 ≠ gb303)); have n11_ := aM ((by rw [hg]; exact Nat.ne_of_gt (blk_lt (g := gb293) (o := .cells #[.slice none 0 0, .slice none 0 0] 31 (0, 0)) aK) : gb303 ≠ gb293)); clear HO299; clear HO302; clear BK292; clear BK293; clear HB; have HO299 := n0_; have HO302 := n1_; have BK292 := n2_; have BK293 := n3_; have HB := n4_; have BK303 := n5_; have GW303 := n6_; have GE303 := n7_; have NB292_303 := n8_; have NB303_292 := n9_; have NB293_303 := n10_; have NB303_293 := n11_; clear n0_ n1_ n2_ n3_ n4_ n5_ n6_ n7_ n8_ n9_ n10_ n11_; clear hb hbox hg; have hnb15 := NB303_292.out; have hnc15 := NB292_303.out; have hnb16 := NB303_293.out; have hnc16 := NB293_303.out; have hcz17_0 : w14.cell? ⟨gb303, 0, none⟩ = some (.slice none 0 0) := (blk_cell BK303.out 0).trans rfl; have hcz17_1 : w14.cell? ⟨gb303, 1, none⟩ = some (.slice none 0 0) := (blk_cell BK303.out 1).trans rfl; have hfz17_0 := blk_frozen BK303.out 0; have hfz17_1 := blk_frozen BK303.out 1; have hcz18_0 : w14.cell? ⟨gb292, 0, none⟩ = some (.slice A0_0 l0_0.length c0_0) := (blk_cell BK292.out 0).trans rfl; have hcz18_1 : w14.cell? ⟨gb292, 1, none⟩ = some (.slice A0_1 l0_1.length c0_1) := (blk_cell BK292.out 1).trans rfl; have hfz18_0 := blk_frozen BK292.out 0; have hfz18_1 := blk_frozen BK292.out 1))
  go_loopg [15] k (fun kq v15 w' => ∃ (x15_1 : Int) (x304001_1 : List (S45)) (u304001 : Value), v15 = .int .i64 x15_1 ∧ Aside0 (impl_copyDatabase.l0 kq l0_1 (l0_1.length : Int) x15_1 y297 x304001_1 = some (r1, r2)) ∧ Aside0 (kq ≤ k) ∧ Aside0 (Kd.R k74 74 w' w.heap.size (fun _ => True) (.slice Ao13 y297.length co13) y297) ∧ Aside0 (Kd.S k45 45 w' w.heap.size (fun _ => True) u304001 x304001_1) ∧ Aside0 (w'.heap[gb292]? = some (.cells #[(.slice A0_0 l0_0.length c0_0), (.slice A0_1 l0_1.length c0_1)] 31 (0, 0))) ∧ Aside0 (w'.heap[gb293]? = some (.cells #[(.slice none 0 0), (.slice none 0 0)] 31 (0, 0))) ∧ Aside0 (w'.heap[gb303]? = some (.cells #[(.slice Ao13 y297.length co13), u304001] 31 (0, 0))) ∧ Aside0 (Below w.heap.size w w'))
  case atStart => exact ⟨(0), (y300), (.slice Ao12 y300.length co12), (by first | rfl | (simp; done) | (simp [*]; done)), H', ⟨Nat.le_refl _⟩, ⟨by (with_reducible repeat (first | apply Kd.R_alloc | apply Kd.R_drewN | apply Kd.R_drew)); exact Kd.R_mono (Kd.R_far (p := ⟨gb303, 1, none⟩) (Kd.R_far (p := ⟨gb303, 0, none⟩) (Kd.R_types HO299.out BK303.out (by decide)) (fun _ hk => hk.2) (.slice Ao13 y297.length co13)) (fun _ hk => hk.2) (.slice Ao12 y300.length co12)) (fun _ hk => trivial)⟩, ⟨by (with_reducible repeat (first | apply Kd.S_alloc | apply Kd.S_drewN | apply Kd.S_drew)); exact Kd.S_mono (Kd.S_far (p := ⟨gb303, 1, none⟩) (Kd.S_far (p := ⟨gb303, 0, none⟩) (Kd.S_types HO302.out BK303.out (by decide)) (fun _ hk => hk.2) (.slice Ao13 y297.length co13)) (fun _ hk => hk.2) (.slice Ao12 y300.length co12)) (fun _ hk => trivial)⟩, ⟨by (with_reducible repeat (first | refine blk_drewN ?_ _ | refine blk_drew ?_ | refine blk_alloc ?_ _)); refine blk_far ?_ NB292_303.out _; (with_reducible repeat (first | refine blk_drewN ?_ _ | refine blk_drew ?_ | refine blk_alloc ?_ _)); refine blk_far ?_ NB292_303.out _; (with_reducible repeat (first | refine blk_drewN ?_ _ | refine blk_drew ?_ | refine blk_alloc ?_ _)); exact BK292.out⟩, ⟨by (with_reducible repeat (first | refine blk_drewN ?_ _ | refine blk_drew ?_ | refine blk_alloc ?_ _)); refine blk_far ?_ NB293_303.out _; (with_reducible repeat (first | refine blk_drewN ?_ _ | refine blk_drew ?_ | refine blk_alloc ?_ _)); refine blk_far ?_ NB293_303.out _; (with_reducible repeat (first | refine blk_drewN ?_ _ | refine blk_drew ?_ | refine blk_alloc ?_ _)); exact BK293.out⟩, ⟨by (with_reducible repeat (first | refine blk_drewN ?_ _ | refine blk_drew ?_ | refine blk_alloc ?_ _)); refine blk_put (cs := #[.slice Ao13 y297.length co13, .slice none 0 0]) ?_ 1 _ rfl; (with_reducible repeat (first | refine blk_drewN ?_ _ | refine blk_drew ?_ | refine blk_alloc ?_ _)); refine blk_put (cs := #[.slice none 0 0, .slice none 0 0]) ?_ 0 _ rfl; (with_reducible repeat (first | refine blk_drewN ?_ _ | refine blk_drew ?_ | refine blk_alloc ?_ _)); exact BK303.out⟩, ⟨by repeat (first | (with_reducible first | exact HB.out | apply below_alloc | apply pw_below_drewN | apply below_drew1 | refine below_set ?_ GE292.out | refine below_set ?_ GE293.out | refine below_set ?_ GE303.out) | exact HB.out)⟩⟩
  case round =>
   clear H'
   try clear c1
   try clear c2
   try clear p2
   try clear c3
   try clear c7
   try clear c15
   try clear c16
   try clear hcz17_0
   try clear hcz17_1
   try clear hcz18_0
   try clear hcz18_1
   try clear hcz8_0
   try clear hcz8_1
   try clear hfz17_0
   try clear hfz17_1
   try clear hfz18_0
   try clear hfz18_1
   try clear hfz8_0
   try clear hfz8_1
   obtain ⟨x15_1, x304001_1, u304001, rfl, HA, HK1, HO_304000, HO_304001, BK292, BK293, BK303, HB⟩ := hrel
   cases gk with
   | zero => exact absurd HA.out (by simp [impl_copyDatabase.l0])
   | succ k1 =>
    have H := HA.out
    clear HA
    simp only [impl_copyDatabase.l0] at H
    by_cases c19 : x15_1 < (l0_1.length : Int)
    ·rw [if_pos c19] at H
     have c19b0 : decide (x15_1 < (l0_1.length : Int)) = true := decide_eq_true c19
     clear c19
     by_cases c20 : 0 ≤ x15_1
     ·rw [if_pos c20] at H
      have c20b0 : decide (0 ≤ x15_1) = true := decide_eq_true c20
      clear c20
      by_cases c21 : x15_1 < (l0_1.length : Int)
      ·rw [if_pos c21] at H
       have c21b0 : decide (x15_1 < (l0_1.length : Int)) = true := decide_eq_true c21
       clear c21
       obtain ⟨y306, hy306⟩ : ∃ y_ : List Int, y_ = (([] : List Int)) := ⟨_, rfl⟩
       replace H : (if y306.length + ((rd_T45 l0_1 x15_1).f1).length < 17592186044416 then (if x304001_1.length < 4398046511104 then (impl_copyDatabase.l0 k1 l0_1 (l0_1.length : Int) (wrap64 (x15_1 + 1)) y297 (x304001_1 ++ [(⟨(rd_T45 l0_1 x15_1).f0, (y306 ++ ((rd_T45 l0_1 x15_1).f1))⟩ : S45)])) else (none)) else (none)) = some (r1, r2) := by first | (rw [hy306]; with_reducible exact H) | (have H2_ := (Option.bind_some _ _).symm.trans H; rw [hy306]; with_reducible exact H2_) | (have H2_ := (Option.bind_some _ _).symm.trans H; with_reducible exact H2_) | with_reducible exact H | (rw [hy306]; exact H) | exact H
       have Ny306 := aM hy306
       clear hy306
       by_cases c22 : y306.length + ((rd_T45 l0_1 x15_1).f1).length < 17592186044416
       ·rw [if_pos c22] at H
        have LMc22 := aM c22
        clear c22
        obtain ⟨y309, hy309⟩ : ∃ y_ : List Int, y_ = (y306 ++ ((rd_T45 l0_1 x15_1).f1)) := ⟨_, rfl⟩
        replace H : (if x304001_1.length < 4398046511104 then (impl_copyDatabase.l0 k1 l0_1 (l0_1.length : Int) (wrap64 (x15_1 + 1)) y297 (x304001_1 ++ [(⟨(rd_T45 l0_1 x15_1).f0, y309⟩ : S45)])) else (none)) = some (r1, r2) := by first | (rw [hy309]; with_reducible exact H) | (have H2_ := (Option.bind_some _ _).symm.trans H; rw [hy309]; with_reducible exact H2_) | (have H2_ := (Option.bind_some _ _).symm.trans H; with_reducible exact H2_) | with_reducible exact H | (rw [hy309]; exact H) | exact H
        have Ny309 := aM hy309
        clear hy309
        by_cases c23 : x304001_1.length < 4398046511104
        ·rw [if_pos c23] at H
         have LMc23 := aM c23
         clear c23
         obtain ⟨y312, hy312⟩ : ∃ y_ : List (S45), y_ = (x304001_1 ++ [(⟨(rd_T45 l0_1 x15_1).f0, y309⟩ : S45)]) := ⟨_, rfl⟩
         replace H : (impl_copyDatabase.l0 k1 l0_1 (l0_1.length : Int) (wrap64 (x15_1 + 1)) y297 y312) = some (r1, r2) := by first | (rw [hy312]; with_reducible exact H) | (have H2_ := (Option.bind_some _ _).symm.trans H; rw [hy312]; with_reducible exact H2_) | (have H2_ := (Option.bind_some _ _).symm.trans H; with_reducible exact H2_) | with_reducible exact H | (rw [hy312]; exact H) | exact H
         have Ny312 := aM hy312
         clear hy312
         have H' := aM H
         clear H
         have p304 : 0 ≤ (x15_1 : Int) := aD
         have q304 : x15_1 < (l0_1.length : Int) := aD
         obtain ⟨ad304, A304_1, c304_1, e304, hx304_0, hx304_1, hl304_1, hi304_1⟩ := at_T45 HR0_1.out x15_1 p304 q304
         cases e304
         replace hx304_0 := (HB.out.cell (World.block_lt_of_cell? w _ hx304_0)).trans hx304_0
         replace hx304_1 := (HB.out.cell (World.block_lt_of_cell? w _ hx304_1)).trans hx304_1
         have HR304_1 := aM hi304_1
         have HC304_1 := aM hl304_1
         clear hi304_1 hl304_1
         replace p304 := eq_true p304
         replace q304 := eq_true q304
         try go_wp2_with (first | ((with_reducible refine gate_dst (N := 5) rfl ?_); refine box_event ?hg (N := 5) ?hd (cs := #[.int .i64 0, .slice none 0 0]) (t := 45) ?hr ?_; (case hd => rfl); (case hg => rfl); (case hr => first | (go_simp; done) | (go_simp; rfl)); intro gb305 hg w24 hbox hb; have n0_ := aM (Kd.R_below (aR HO_304000) hb); have n1_ := aM (Kd.S_below (Kd.S_elderB (aS HO_304001) gb305 (Nat.le_of_eq hg.symm)) hb); have n2_ := aM (blk_below (g := gb292) (o := .cells #[.slice A0_0 l0_0.length c0_0, .slice (some ad304) l0_1.length c0_1] 31 (0, 0)) aK hb); have n3_ := aM (blk_below (g := gb293) (o := .cells #[.slice none 0 0, .slice none 0 0] 31 (0, 0)) aK hb); have n4_ := aM (blk_below (g := gb303) (o := .cells #[.slice Ao13 y297.length co13, u304001] 31 (0, 0)) aK hb); have n5_ := aM (below_step aG hb); have n6_ := aM (hbox); have n7_ := aM ((by rw [hg]; exact (below_size aG) : w.heap.size ≤ gb305)); have n8_ := aM ((by rw [hg]; exact (below_size aG) : w.heap.size ≤ gb305)); have n9_ := aM ((by rw [hg]; exact Nat.ne_of_lt (blk_lt (g := gb292) (o := .cells #[.slice A0_0 l0_0.length c0_0, .slice (some ad304) l0_1.length c0_1] 31 (0, 0)) aK) : gb292 ≠ gb305)); have n10_ := aM ((by rw [hg]; exact Nat.ne_of_gt (blk_lt (g := gb292) (o := .cells #[.slice A0_0 l0_0.length c0_0, .slice (some ad304) l0_1.length c0_1] 31 (0, 0)) aK) : gb305 ≠ gb292)); have n11_ := aM ((by rw [hg]; exact Nat.ne_of_lt (blk_lt (g := gb293) (o := .cells #[.slice none 0 0, .slice none 0 0] 31 (0, 0)) aK) : gb293 ≠ gb305)); have n12_ := aM ((by rw [hg]; exact Nat.ne_of_gt (blk_lt (g := gb293) (o := .cells #[.slice none 0 0, .slice none 0 0] 31 (0, 0)) aK) : gb305 ≠ gb293)); have n13_ := aM ((by rw [hg]; exact Nat.ne_of_lt (blk_lt (g := gb303) (o := .cells #[.slice Ao13 y297.length co13, u304001] 31 (0, 0)) aK) : gb303 ≠ gb305)); have n14_ := aM ((by rw [hg]; exact Nat.ne_of_gt (blk_lt (g := gb303) (o := .cells #[.slice Ao13 y297.length co13, u304001] 31 (0, 0)) aK) : gb305 ≠ gb303)); clear HO_304000; clear HO_304001; clear BK292; clear BK293; clear BK303; clear HB; have HO_304000 := n0_; have HO_304001 := n1_; have BK292 := n2_; have BK293 := n3_; have BK303 := n4_; have HB := n5_; have BK305 := n6_; have GW305 := n7_; have GE305 := n8_; have NB292_305 := n9_; have NB305_292 := n10_; have NB293_305 := n11_; have NB305_293 := n12_; have NB303_305 := n13_; have NB305_303 := n14_; clear n0_ n1_ n2_ n3_ n4_ n5_ n6_ n7_ n8_ n9_ n10_ n11_ n12_ n13_ n14_; clear hb hbox hg; have hnb25 := NB305_292.out; have hnc25 := NB292_305.out; have hnb26 := NB305_293.out; have hnc26 := NB293_305.out; have hnb27 := NB305_303.out; have hnc27 := NB303_305.out; have hcz28_0 : w24.cell? ⟨gb305, 0, none⟩ = some (.int .i64 0) := (blk_cell BK305.out 0).trans rfl; have hcz28_1 : w24.cell? ⟨gb305, 1, none⟩ = some (.slice none 0 0) := (blk_cell BK305.out 1).trans rfl; have hfz28_0 := blk_frozen BK305.out 0; have hfz28_1 := blk_frozen BK305.out 1))
         have n0_ : Aside0 (Kd.R k74 74 ((w24.setCell ⟨gb305, 0, none⟩ (.int .i64 ((rd_T45 l0_1 x15_1).f0))).setCell ⟨gb305, 1, none⟩ (.slice A304_1 ((rd_T45 l0_1 x15_1).f1).length c304_1)) w.heap.size (fun _ => True) (.slice Ao13 y297.length co13) y297) := ⟨by (with_reducible repeat (first | apply Kd.R_alloc | apply Kd.R_drewN | apply Kd.R_drew)); exact Kd.R_mono (Kd.R_far (p := ⟨gb305, 1, none⟩) (Kd.R_far (p := ⟨gb305, 0, none⟩) (Kd.R_types HO_304000.out BK305.out (by decide)) (fun _ hk => hk.2) (.int .i64 ((rd_T45 l0_1 x15_1).f0))) (fun _ hk => hk.2) (.slice A304_1 ((rd_T45 l0_1 x15_1).f1).length c304_1)) (fun _ hk => trivial)⟩
         have n1_ : Aside0 (Kd.S k45 45 ((w24.setCell ⟨gb305, 0, none⟩ (.int .i64 ((rd_T45 l0_1 x15_1).f0))).setCell ⟨gb305, 1, none⟩ (.slice A304_1 ((rd_T45 l0_1 x15_1).f1).length c304_1)) w.heap.size (fun k_ => k_ ≠ gb305) u304001 x304001_1) := ⟨by (with_reducible repeat (first | apply Kd.S_alloc | apply Kd.S_drewN | apply Kd.S_drew)); exact Kd.S_mono (Kd.S_far (p := ⟨gb305, 1, none⟩) (Kd.S_far (p := ⟨gb305, 0, none⟩) (Kd.S_mono HO_304001.out (fun k_ hk => (⟨hk, hk.2⟩ : _ ∧ k_ ≠ gb305))) (fun _ hk => hk.2) (.int .i64 ((rd_T45 l0_1 x15_1).f0))) (fun _ hk => hk.2) (.slice A304_1 ((rd_T45 l0_1 x15_1).f1).length c304_1)) (fun _ hk => hk.1.2)⟩
         have n2_ : Aside0 (((w24.setCell ⟨gb305, 0, none⟩ (.int .i64 ((rd_T45 l0_1 x15_1).f0))).setCell ⟨gb305, 1, none⟩ (.slice A304_1 ((rd_T45 l0_1 x15_1).f1).length c304_1)).heap[gb292]? = some (.cells #[.slice A0_0 l0_0.length c0_0, .slice (some ad304) l0_1.length c0_1] 31 (0, 0))) := ⟨by (with_reducible repeat (first | refine blk_drewN ?_ _ | refine blk_drew ?_ | refine blk_alloc ?_ _)); refine blk_far ?_ NB292_305.out _; (with_reducible repeat (first | refine blk_drewN ?_ _ | refine blk_drew ?_ | refine blk_alloc ?_ _)); refine blk_far ?_ NB292_305.out _; (with_reducible repeat (first | refine blk_drewN ?_ _ | refine blk_drew ?_ | refine blk_alloc ?_ _)); exact BK292.out⟩
         have n3_ : Aside0 (((w24.setCell ⟨gb305, 0, none⟩ (.int .i64 ((rd_T45 l0_1 x15_1).f0))).setCell ⟨gb305, 1, none⟩ (.slice A304_1 ((rd_T45 l0_1 x15_1).f1).length c304_1)).heap[gb293]? = some (.cells #[.slice none 0 0, .slice none 0 0] 31 (0, 0))) := ⟨by (with_reducible repeat (first | refine blk_drewN ?_ _ | refine blk_drew ?_ | refine blk_alloc ?_ _)); refine blk_far ?_ NB293_305.out _; (with_reducible repeat (first | refine blk_drewN ?_ _ | refine blk_drew ?_ | refine blk_alloc ?_ _)); refine blk_far ?_ NB293_305.out _; (with_reducible repeat (first | refine blk_drewN ?_ _ | refine blk_drew ?_ | refine blk_alloc ?_ _)); exact BK293.out⟩
         have n4_ : Aside0 (((w24.setCell ⟨gb305, 0, none⟩ (.int .i64 ((rd_T45 l0_1 x15_1).f0))).setCell ⟨gb305, 1, none⟩ (.slice A304_1 ((rd_T45 l0_1 x15_1).f1).length c304_1)).heap[gb303]? = some (.cells #[.slice Ao13 y297.length co13, u304001] 31 (0, 0))) := ⟨by (with_reducible repeat (first | refine blk_drewN ?_ _ | refine blk_drew ?_ | refine blk_alloc ?_ _)); refine blk_far ?_ NB303_305.out _; (with_reducible repeat (first | refine blk_drewN ?_ _ | refine blk_drew ?_ | refine blk_alloc ?_ _)); refine blk_far ?_ NB303_305.out _; (with_reducible repeat (first | refine blk_drewN ?_ _ | refine blk_drew ?_ | refine blk_alloc ?_ _)); exact BK303.out⟩
         have n5_ : Aside0 (((w24.setCell ⟨gb305, 0, none⟩ (.int .i64 ((rd_T45 l0_1 x15_1).f0))).setCell ⟨gb305, 1, none⟩ (.slice A304_1 ((rd_T45 l0_1 x15_1).f1).length c304_1)).heap[gb305]? = some (.cells #[.int .i64 ((rd_T45 l0_1 x15_1).f0), .slice A304_1 ((rd_T45 l0_1 x15_1).f1).length c304_1] 45 (0, 0))) := ⟨by (with_reducible repeat (first | refine blk_drewN ?_ _ | refine blk_drew ?_ | refine blk_alloc ?_ _)); refine blk_put (cs := #[.int .i64 ((rd_T45 l0_1 x15_1).f0), .slice none 0 0]) ?_ 1 _ rfl; (with_reducible repeat (first | refine blk_drewN ?_ _ | refine blk_drew ?_ | refine blk_alloc ?_ _)); refine blk_put (cs := #[.int .i64 0, .slice none 0 0]) ?_ 0 _ rfl; (with_reducible repeat (first | refine blk_drewN ?_ _ | refine blk_drew ?_ | refine blk_alloc ?_ _)); exact BK305.out⟩
         have n6_ : Aside0 (Below w.heap.size w ((w24.setCell ⟨gb305, 0, none⟩ (.int .i64 ((rd_T45 l0_1 x15_1).f0))).setCell ⟨gb305, 1, none⟩ (.slice A304_1 ((rd_T45 l0_1 x15_1).f1).length c304_1))) := ⟨by repeat (first | (with_reducible first | exact HB.out | apply below_alloc | apply pw_below_drewN | apply below_drew1 | refine below_set ?_ GE292.out | refine below_set ?_ GE293.out | refine below_set ?_ GE303.out | refine below_set ?_ GE305.out) | exact HB.out)⟩
         (try clear HO_304000)
         (try clear HO_304001)
         (try clear BK292)
         (try clear BK293)
         (try clear BK303)
         (try clear BK305)
         (try clear HB)
         generalize ((w24.setCell ⟨gb305, 0, none⟩ (.int .i64 ((rd_T45 l0_1 x15_1).f0))).setCell ⟨gb305, 1, none⟩ (.slice A304_1 ((rd_T45 l0_1 x15_1).f1).length c304_1)) = w29 at n0_ n1_ n2_ n3_ n4_ n5_ n6_ ⊢
         have HO_304000 := n0_
         have HO_304001 := n1_
         have BK292 := n2_
         have BK293 := n3_
         have BK303 := n4_
         have BK305 := n5_
         have HB := n6_
         clear n0_ n1_ n2_ n3_ n4_ n5_ n6_
         have n0_ := aM (Kd.R_drew HO_304000.out)
         have n1_ := aM (Kd.S_drew HO_304001.out)
         have n2_ := aM (blk_drew BK292.out)
         have n3_ := aM (blk_drew BK293.out)
         have n4_ := aM (blk_drew BK303.out)
         have n5_ := aM (blk_drew BK305.out)
         have n6_ := aM (below_drew1 HB.out)
         clear HO_304000
         clear HO_304001
         clear BK292
         clear BK293
         clear BK303
         clear BK305
         clear HB
         have HO_304000 := n0_
         have HO_304001 := n1_
         have BK292 := n2_
         have BK293 := n3_
         have BK303 := n4_
         have BK305 := n5_
         have HB := n6_
         clear n0_ n1_ n2_ n3_ n4_ n5_ n6_
         refine start_ (n := 13) (S := fun w' => w'.cell? ⟨gb303, 0, none⟩ = some (.slice Ao13 y297.length co13) ∧ w'.cell? ⟨gb303, 1, none⟩ = some (u304001) ∧ w'.cell? ⟨gb305, 0, none⟩ = some (.int .i64 ((rd_T45 l0_1 x15_1).f0)) ∧ w'.cell? ⟨gb305, 1, none⟩ = some (.slice A304_1 ((rd_T45 l0_1 x15_1).f1).length c304_1)) (ds := [12]) #[false, false, false, false, false, false, false, false, false, false, false, false, false] (by kernel_rfl) rfl rfl ⟨(blk_cell BK303.out 0).trans rfl, (blk_cell BK303.out 1).trans rfl, (blk_cell BK305.out 0).trans rfl, (blk_cell BK305.out 1).trans rfl⟩ (fun hHeld => ?_); refine with_tabW impl_copyDatabase.tab5 impl_copyDatabase.bits5 (fun HT_ HW_ => ?_)
         generalize w29.drew = w30 at HO_304000 HO_304001 BK292 BK293 BK303 BK305 HB hHeld ⊢
         refine pure_ (i := 0) (N := some 19) (v := ?_) (a' := ?_) #[true, false, false, false, false, false, false, false, false, false, false, false, false] rfl rfl (any_of HT_.out (by kernel_rfl)) (fun _ _ _ h => h) (Or.inl ⟨by rfl, ?_⟩) ?_ ?_
         rotate_left
         ·exact aI
         rotate_left
         ·exact aP
         refine pure_ (i := 2) (N := some 21) (v := ?_) (a' := ?_) #[true, false, true, false, false, false, false, false, false, false, false, false, false] rfl rfl (any_of HT_.out (by kernel_rfl)) (fun _ _ _ h => h) (Or.inl ⟨by rfl, ?_⟩) ?_ ?_
         rotate_left
         ·exact aI
         rotate_left
         ·exact aP
         refine pure_ (i := 5) (N := some 24) (v := ?_) (a' := ?_) #[true, false, true, false, false, true, false, false, false, false, false, false, false] rfl rfl (any_of HT_.out (by kernel_rfl)) (fun _ _ _ h => h) (Or.inl ⟨by rfl, ?_⟩) ?_ ?_
         rotate_left
         ·exact aI
         rotate_left
         ·exact aP
         refine take_ (i := 1) (N := some 20) (v := ?_) (a' := ?_) #[true, true, true, false, false, true, false, false, false, false, false, false, false] rfl rfl (take_ofW HT_.out HW_.out (by kernel_rfl)) (fun _ _ _ h => h) (Or.inl ⟨by rfl, ?_⟩) hHeld ?_ ?_
         rotate_left
         ·rintro w' ⟨s0, s1, s2, s3⟩
          go_simp
          with_reducible rfl
         rotate_left
         ·exact aP
         refine take_ (i := 3) (N := some 22) (v := ?_) (a' := ?_) #[true, true, true, true, false, true, false, false, false, false, false, false, false] rfl rfl (take_ofW HT_.out HW_.out (by kernel_rfl)) (fun _ _ _ h => h) (Or.inl ⟨by rfl, ?_⟩) hHeld ?_ ?_
         rotate_left
         ·rintro w' ⟨s0, s1, s2, s3⟩
          go_simp
          with_reducible rfl
         rotate_left
         ·exact aP
         refine take_ (i := 6) (N := some 25) (v := ?_) (a' := ?_) #[true, true, true, true, false, true, true, false, false, false, false, false, false] rfl rfl (take_ofW HT_.out HW_.out (by kernel_rfl)) (fun _ _ _ h => h) (Or.inl ⟨by rfl, ?_⟩) hHeld ?_ ?_
         rotate_left
         ·rintro w' ⟨s0, s1, s2, s3⟩
          go_simp
          with_reducible rfl
         rotate_left
         ·exact aP
         refine one_ (i := 4) (N := some 23) #[true, true, true, true, true, true, true, false, false, false, false, false, false] rfl rfl (one_of HT_.out (by kernel_rfl)) (by decide) (fun K hK => ?_)
         refine Kd.R_lit_step (Kd.int .i64) _ 3 ?hg (N := 23) ?hd (xs := ([] : List Int)) (inner := []) (ok := fun _ => True) (okp := fun _ => True) ?hr ?hp (fun _ hk => hk) trivial (Below.refl _ _) (Nat.le_refl _) (by simp) ?_; (case hd => rfl); (case hg => rfl); (case hr => first | (go_simp; done) | (go_simp; rfl)); (case hp => exact (Reps.none _ _))
         intro v307 w31 ho32 hb hg_ hnew_
         clear hg_ hnew_
         (first | rw [← Ny306.out] at ho32 | (simp only [Int.reduceToNat] at ho32; rw [← Ny306.out] at ho32))
         have n0_ := aM (Kd.R_below (aR HO_304000) hb)
         have n1_ := aM (Kd.S_elder' (aS HO_304001) (Kd.R_base ho32) hb)
         have n2_ := aM (Kd.R_lower ho32 (below_size aG))
         have n3_ := aM (blk_below (g := gb292) (o := .cells #[.slice A0_0 l0_0.length c0_0, .slice (some ad304) l0_1.length c0_1] 31 (0, 0)) aK hb)
         have n4_ := aM (blk_below (g := gb293) (o := .cells #[.slice none 0 0, .slice none 0 0] 31 (0, 0)) aK hb)
         have n5_ := aM (blk_below (g := gb303) (o := .cells #[.slice Ao13 y297.length co13, u304001] 31 (0, 0)) aK hb)
         have n6_ := aM (blk_below (g := gb305) (o := .cells #[.int .i64 ((rd_T45 l0_1 x15_1).f0), .slice A304_1 ((rd_T45 l0_1 x15_1).f1).length c304_1] 45 (0, 0)) aK hb)
         have n7_ := aM (below_step aG hb)
         clear HO_304000
         clear HO_304001
         clear BK292
         clear BK293
         clear BK303
         clear BK305
         clear HB
         have HO_304000 := n0_
         have HO_304001 := n1_
         have HO308 := n2_
         have BK292 := n3_
         have BK293 := n4_
         have BK303 := n5_
         have BK305 := n6_
         have HB := n7_
         clear n0_ n1_ n2_ n3_ n4_ n5_ n6_ n7_
         clear hb ho32
         refine hK.out _ _ ⟨(blk_cell BK303.out 0).trans rfl, (blk_cell BK303.out 1).trans rfl, (blk_cell BK305.out 0).trans rfl, (blk_cell BK305.out 1).trans rfl⟩ (fun hHeld => ?_)
         clear hK K
         refine norm_ (a' := ?_) ?_ ?_
         rotate_left
         ·show Act.put _ (some 23) _ = _
          simp only [Act.put, List.setIfInBounds_toArray, List.set_cons_zero, List.set_cons_succ, i64_w, i32_w]
          rfl
         refine one_ (i := 7) (N := some 26) #[true, true, true, true, true, true, true, true, false, false, false, false, false] rfl rfl (one_of HT_.out (by kernel_rfl)) (by decide) (fun K hK => ?_)
         refine Kd.R_append_rows_step (Kd.int .i64) (w0 := w) w.heap.size (by rfl) (.tmp 23) (.tmp 25) 26 3 (.int .i64 0) 8 rfl Try.underlying26 info3 rfl (by decide) (by omega) v307 y306 ((rd_T45 l0_1 x15_1).f1) _ _ _ (fun _ => True) (fun _ => False) rfl rfl ?aO ?aR (fun _ _ h => h) (fun _ h => h.elim) ?aF ?aB ?aS ?aL ?_
         (case aR => exact aC)
         (case aB => exact aG)
         (case aF => exact (fun _ _ => trivial))
         (case aO => exact (aR HO308))
         (case aS => exact (below_size aG))
         (case aL => have := LMc22.out; omega)
         intro v310 w33 ho hb hg hat
         rw [← Ny309.out] at ho
         have n0_ := aM (Kd.R_over' (aR HO_304000) (Kd.R_typed (aR HO308)) (by decide) hg)
         have n1_ := aM (Kd.S_after (ok := (fun k_ => k_ ≠ gb305)) (aS HO_304001) hg hat)
         have n2_ := aM (blk_grown (g := gb292) (o := .cells #[.slice A0_0 l0_0.length c0_0, .slice (some ad304) l0_1.length c0_1] 31 (0, 0)) aK hg (Kd.R_ne HO308.out BK292.out (by decide)))
         have n3_ := aM (blk_grown (g := gb293) (o := .cells #[.slice none 0 0, .slice none 0 0] 31 (0, 0)) aK hg (Kd.R_ne HO308.out BK293.out (by decide)))
         have n4_ := aM (blk_grown (g := gb303) (o := .cells #[.slice Ao13 y297.length co13, u304001] 31 (0, 0)) aK hg (Kd.R_ne HO308.out BK303.out (by decide)))
         have n5_ := aM (blk_grown (g := gb305) (o := .cells #[.int .i64 ((rd_T45 l0_1 x15_1).f0), .slice A304_1 ((rd_T45 l0_1 x15_1).f1).length c304_1] 45 (0, 0)) aK hg (Kd.R_ne HO308.out BK305.out (by decide)))
         have n6_ := aM (hb)
         have n7_ := aM (ho)
         clear HO_304000
         clear HO_304001
         clear BK292
         clear BK293
         clear BK303
         clear BK305
         clear HB
         clear HO308
         have HO_304000 := n0_
         have HO_304001 := n1_
         have BK292 := n2_
         have BK293 := n3_
         have BK303 := n4_
         have BK305 := n5_
         have HB := n6_
         have HO311 := n7_
         clear n0_ n1_ n2_ n3_ n4_ n5_ n6_ n7_
         clear ho hb hg hat
         obtain ⟨Ao34, co34, eo34⟩ := Kd.R_slice HO311.out
         (first | subst eo34 | (injection eo34 with f1_ f2_ f3_; have f4_ := f1_.symm; have f5_ := f3_.symm; clear f1_ f2_ f3_; subst f4_; subst f5_))
         refine hK.out _ _ ⟨(blk_cell BK303.out 0).trans rfl, (blk_cell BK303.out 1).trans rfl, (blk_cell BK305.out 0).trans rfl, (blk_cell BK305.out 1).trans rfl⟩ (fun hHeld => ?_)
         clear hK K
         refine norm_ (a' := ?_) ?_ ?_
         rotate_left
         ·show Act.put _ (some 26) _ = _
          simp only [Act.put, List.setIfInBounds_toArray, List.set_cons_zero, List.set_cons_succ, i64_w, i32_w]
          rfl
         refine pure_ (i := 8) (N := some 27) (v := ?_) (a' := ?_) #[true, true, true, true, true, true, true, true, true, false, false, false, false] rfl rfl (any_of HT_.out (by kernel_rfl)) (fun _ _ _ h => h) (Or.inl ⟨by rfl, ?_⟩) ?_ ?_
         rotate_left
         ·exact aI
         rotate_left
         ·exact aP
         refine one_ (i := 9) (N := some 28) #[true, true, true, true, true, true, true, true, true, true, false, false, false] rfl rfl (one_of HT_.out (by kernel_rfl)) (by decide) (fun K hK => ?_)
         refine value_ (w1 := ?_) (v := ?_) (by rfl) rfl ?_ ?_
         rotate_left 2
         ·go_simp
          constructor
          ·rfl
          ·rfl
         refine hK.out _ _ ⟨(blk_cell (blk_alloc BK303.out _) 0).trans rfl, (blk_cell (blk_alloc BK303.out _) 1).trans rfl, (blk_cell (blk_alloc BK305.out _) 0).trans rfl, (blk_cell (blk_alloc BK305.out _) 1).trans rfl⟩ (fun hHeld => ?_)
         clear hK K
         refine norm_ (a' := ?_) ?_ ?_
         rotate_left
         ·show Act.put _ (some 28) _ = _
          simp only [Act.put, List.setIfInBounds_toArray, List.set_cons_zero, List.set_cons_succ, i64_w, i32_w]
          rfl
         refine one_ (i := 10) (N := some 29) #[true, true, true, true, true, true, true, true, true, true, true, false, false] rfl rfl (one_of HT_.out (by kernel_rfl)) (by decide) (fun K hK => ?_)
         refine Kd.S_append_step k45 (w0 := w) w.heap.size (by rfl) (.tmp 20) (.tmp 28) 29 45 (.agg #[(.int .i64 0), (.slice none 0 0)]) 32 rfl Try.underlying29 info45 rfl (by decide) (by omega) u304001 x304001_1 (⟨(rd_T45 l0_1 x15_1).f0, y309⟩ : S45) [.int .i64 ((rd_T45 l0_1 x15_1).f0), .slice Ao34 y309.length co34] (fun k_ => k_ ≠ gb305) (fun k_ => some k_ = (.slice Ao34 y309.length co34 : Value).ownBlock) rfl rfl ?aP (fun k_ hk_ => ((Kd.R_mono (ok' := fun k_ => ((fun k_ => k_ ≠ gb305)) k_ ∧ some k_ ≠ (u304001 : Value).ownBlock) (Kd.R_types (Kd.R_apart' (HO311.out) (Kd.S_typed HO_304001.out) (by decide)) BK305.out (by decide)) (fun k_ hk => ⟨hk.2, hk.1.2⟩))).1 k_ hk_.symm) ?aF ?aO ?aB ?aS ?aL ?_
         (case aP => exact k45_mkM _ _ _ (⟨(rd_T45 l0_1 x15_1).f0, y309⟩ : S45) (Kd.R_mono (Kd.R_tight rfl (Kd.R_mono (ok' := fun k_ => ((fun k_ => k_ ≠ gb305)) k_ ∧ some k_ ≠ (u304001 : Value).ownBlock) (Kd.R_types (Kd.R_apart' (HO311.out) (Kd.S_typed HO_304001.out) (by decide)) BK305.out (by decide)) (fun k_ hk => ⟨hk.2, hk.1.2⟩))) (fun _ h_ => h_)))
         (case aB => exact aG)
         (case aF => exact (fun k_ hk => Kd.freshB (g := gb305) (o := .cells #[.int .i64 ((rd_T45 l0_1 x15_1).f0), .slice A304_1 ((rd_T45 l0_1 x15_1).f1).length c304_1] 45 (0, 0)) aK k_ hk))
         (case aO => exact (by (with_reducible repeat (first | apply Kd.S_alloc | apply Kd.S_drewN | apply Kd.S_drew)); exact Kd.S_mono HO_304001.out (fun k_ hk => ⟨hk.1, fun e_ => hk.2 e_⟩)))
         (case aS => exact (below_size aG))
         (case aL => have := LMc23.out; omega)
         intro v313 w35 ho hb hg hat
         rw [← Ny312.out] at ho
         have n0_ := aM (Kd.R_over' (aR HO_304000) (Kd.S_typed (aS HO_304001)) (by decide) hg)
         have n1_ := aM (blk_grown (g := gb292) (o := .cells #[.slice A0_0 l0_0.length c0_0, .slice (some ad304) l0_1.length c0_1] 31 (0, 0)) aK hg (Kd.S_ne HO_304001.out BK292.out (by decide)))
         have n2_ := aM (blk_grown (g := gb293) (o := .cells #[.slice none 0 0, .slice none 0 0] 31 (0, 0)) aK hg (Kd.S_ne HO_304001.out BK293.out (by decide)))
         have n3_ := aM (blk_grown (g := gb303) (o := .cells #[.slice Ao13 y297.length co13, u304001] 31 (0, 0)) aK hg (Kd.S_ne HO_304001.out BK303.out (by decide)))
         have n4_ := aM (blk_grown (g := gb305) (o := .cells #[.int .i64 ((rd_T45 l0_1 x15_1).f0), .slice A304_1 ((rd_T45 l0_1 x15_1).f1).length c304_1] 45 (0, 0)) aK hg (Kd.S_away HO_304001.out (fun _ hk => hk.1)))
         have n5_ := aM (hb)
         have n6_ := aM (ho)
         clear HO_304000
         clear BK292
         clear BK293
         clear BK303
         clear BK305
         clear HB
         clear HO_304001
         clear HO311
         have HO_304000 := n0_
         have BK292 := n1_
         have BK293 := n2_
         have BK303 := n3_
         have BK305 := n4_
         have HB := n5_
         have HO314 := n6_
         clear n0_ n1_ n2_ n3_ n4_ n5_ n6_
         clear ho hb hg hat
         obtain ⟨Ao36, co36, eo36⟩ := Kd.S_slice HO314.out
         (first | subst eo36 | (injection eo36 with f1_ f2_ f3_; have f4_ := f1_.symm; have f5_ := f3_.symm; clear f1_ f2_ f3_; subst f4_; subst f5_))
         refine hK.out _ _ ⟨(blk_cell BK303.out 0).trans rfl, (blk_cell BK303.out 1).trans rfl, (blk_cell BK305.out 0).trans rfl, (blk_cell BK305.out 1).trans rfl⟩ (fun hHeld => ?_)
         clear hK K
         refine norm_ (a' := ?_) ?_ ?_
         rotate_left
         ·show Act.put _ (some 29) _ = _
          simp only [Act.put, List.setIfInBounds_toArray, List.set_cons_zero, List.set_cons_succ, i64_w, i32_w]
          rfl
         refine pure_ (i := 11) (N := some 30) (v := ?_) (a' := ?_) #[true, true, true, true, true, true, true, true, true, true, true, true, false] rfl rfl (any_of HT_.out (by kernel_rfl)) (fun _ _ _ h => h) (Or.inl ⟨by rfl, ?_⟩) ?_ ?_
         rotate_left
         ·exact aI
         rotate_left
         ·exact aP
         refine last_ (i := 12) (N := none) #[true, true, true, true, true, true, true, true, true, true, true, true, true] rfl rfl (one_of HT_.out (by kernel_rfl)) (by decide) (fun K hK => ?_)
         have hs37 : w35.cell? ⟨gb303, 1, none⟩ = some (u304001) := (blk_cell BK303.out 1).trans rfl
         have hfs37 := blk_frozen BK303.out 1
         have hns37_0 := NB292_303.out
         have hns37_1 := NB293_303.out
         have hns37_3 := NB305_303.out
         have hms37_0 := NB303_292.out
         have hms37_1 := NB303_293.out
         have hms37_3 := NB303_305.out
         refine skip_ (w1 := ?_) (by rfl) rfl ?_ ?_
         rotate_left
         ·go_simp
          rfl
         refine hK.out _ _ ?_
         clear hK K
         refine done_ (done_of HT_.out (by kernel_rfl)) ?_
         try go_wp2
         go_roundg k1
         case measure => have := HK1.out; omega
         case rel => exact ⟨(wrap64 (x15_1 + 1)), (y312), (.slice Ao36 y312.length co36), (by first | rfl | (simp; done) | (simp [*]; done)), H', ⟨by have := HK1.out; omega⟩, ⟨by (with_reducible repeat (first | apply Kd.R_alloc | apply Kd.R_drewN | apply Kd.R_drew)); exact Kd.R_mono (Kd.R_far (p := ⟨gb303, 1, none⟩) (Kd.R_types HO_304000.out BK303.out (by decide)) (fun _ hk => hk.2) (.slice Ao36 y312.length co36)) (fun _ hk => trivial)⟩, ⟨by (with_reducible repeat (first | apply Kd.S_alloc | apply Kd.S_drewN | apply Kd.S_drew)); exact Kd.S_mono (Kd.S_far (p := ⟨gb303, 1, none⟩) (Kd.S_types HO314.out BK303.out (by decide)) (fun _ hk => hk.2) (.slice Ao36 y312.length co36)) (fun _ hk => trivial)⟩, ⟨by (with_reducible repeat (first | refine blk_drewN ?_ _ | refine blk_drew ?_ | refine blk_alloc ?_ _)); refine blk_far ?_ NB292_303.out _; (with_reducible repeat (first | refine blk_drewN ?_ _ | refine blk_drew ?_ | refine blk_alloc ?_ _)); exact BK292.out⟩, ⟨by (with_reducible repeat (first | refine blk_drewN ?_ _ | refine blk_drew ?_ | refine blk_alloc ?_ _)); refine blk_far ?_ NB293_303.out _; (with_reducible repeat (first | refine blk_drewN ?_ _ | refine blk_drew ?_ | refine blk_alloc ?_ _)); exact BK293.out⟩, ⟨by (with_reducible repeat (first | refine blk_drewN ?_ _ | refine blk_drew ?_ | refine blk_alloc ?_ _)); refine blk_put (cs := #[.slice Ao13 y297.length co13, u304001]) ?_ 1 _ rfl; (with_reducible repeat (first | refine blk_drewN ?_ _ | refine blk_drew ?_ | refine blk_alloc ?_ _)); exact BK303.out⟩, ⟨by repeat (first | (with_reducible first | exact HB.out | apply below_alloc | apply pw_below_drewN | apply below_drew1 | refine below_set ?_ GE292.out | refine below_set ?_ GE293.out | refine below_set ?_ GE303.out | refine below_set ?_ GE305.out) | exact HB.out)⟩⟩
        ·rw [if_neg c23] at H
         exact absurd H (by simp)
       ·rw [if_neg c22] at H
        exact absurd H (by simp)
      ·rw [if_neg c21] at H
       exact absurd H (by simp)
     ·rw [if_neg c20] at H
      exact absurd H (by simp)
    ·rw [if_neg c19] at H
     have c19b0 : decide (x15_1 < (l0_1.length : Int)) = false := decide_eq_false c19
     clear c19
     simp only [Option.some.injEq, Prod.mk.injEq] at H
     obtain ⟨rfl, rfl⟩ := H
     have hnb38 := NB303_292.out
     have hnc38 := NB292_303.out
     have hnb39 := NB303_293.out
     have hnc39 := NB293_303.out
     have hcz40_0 : wr.cell? ⟨gb303, 0, none⟩ = some (.slice Ao13 y297.length co13) := (blk_cell BK303.out 0).trans rfl
     have hcz40_1 : wr.cell? ⟨gb303, 1, none⟩ = some (u304001) := (blk_cell BK303.out 1).trans rfl
     have hfz40_0 := blk_frozen BK303.out 0
     have hfz40_1 := blk_frozen BK303.out 1
     have hnb41 := NB293_292.out
     have hnc41 := NB292_293.out
     have hcz42_0 : wr.cell? ⟨gb293, 0, none⟩ = some (.slice none 0 0) := (blk_cell BK293.out 0).trans rfl
     have hcz42_1 : wr.cell? ⟨gb293, 1, none⟩ = some (.slice none 0 0) := (blk_cell BK293.out 1).trans rfl
     have hfz42_0 := blk_frozen BK293.out 0
     have hfz42_1 := blk_frozen BK293.out 1
     obtain ⟨Ao43, co43, eo43⟩ := Kd.S_slice HO_304001.out
     subst eo43
     go_wp2
     refine bodyPost_ret (results_cell_row rfl _ _ gb293 31 #[.slice Ao13 y297.length co13, .slice Ao43 x304001_1.length co43] (0, 0) _ rfl (by (with_reducible repeat (first | refine blk_drewN ?_ _ | refine blk_drew ?_ | refine blk_alloc ?_ _)); refine blk_put (cs := #[.slice Ao13 y297.length co13, .slice none 0 0]) ?_ 1 _ rfl; (with_reducible repeat (first | refine blk_drewN ?_ _ | refine blk_drew ?_ | refine blk_alloc ?_ _)); refine blk_put (cs := #[.slice none 0 0, .slice none 0 0]) ?_ 0 _ rfl; (with_reducible repeat (first | refine blk_drewN ?_ _ | refine blk_drew ?_ | refine blk_alloc ?_ _)); exact BK293.out) Try.underlying31 rfl (by kernel_rfl)) rfl ?_
     exact ⟨_, _, by first | rfl | (simp [errW_none, errW_some] <;> rfl) | (simp [*, errW_none, errW_some] <;> rfl), by (with_reducible repeat (first | apply Kd.R_alloc | apply Kd.R_drewN | apply Kd.R_drew)); exact Kd.R_mono (Kd.R_far (p := ⟨gb293, 1, none⟩) (Kd.R_far (p := ⟨gb293, 0, none⟩) (Kd.R_types HO_304000.out BK293.out (by decide)) (fun _ hk => hk.2) (.slice Ao13 y297.length co13)) (fun _ hk => hk.2) (.slice Ao43 x304001_1.length co43)) (fun _ hk => trivial), by (with_reducible repeat (first | apply Kd.S_alloc | apply Kd.S_drewN | apply Kd.S_drew)); exact Kd.S_mono (Kd.S_far (p := ⟨gb293, 1, none⟩) (Kd.S_far (p := ⟨gb293, 0, none⟩) (Kd.S_types HO_304001.out BK293.out (by decide)) (fun _ hk => hk.2) (.slice Ao13 y297.length co13)) (fun _ hk => hk.2) (.slice Ao43 x304001_1.length co43)) (fun _ hk => trivial), by repeat (first | (with_reducible first | exact HB.out | apply below_alloc | apply pw_below_drewN | apply below_drew1 | refine below_set ?_ GE292.out | refine below_set ?_ GE293.out | refine below_set ?_ GE303.out) | exact HB.out)⟩
 ·rw [if_neg c2] at H
  exact absurd H (by simp)

/-! ### impl_Fact_54: function 54 -/
/-- Cells behind the elements are written. -/
theorem R_behind {α : Type} {d : Kd α} {e g m c base : Nat} {W : World} {ok : Nat → Prop} {xs : List α} (h : d.R e W base ok (.slice (some ⟨g, 0, none⟩) m c) xs) (o : Nat) (seg : List Value) (ho : m * d.sz ≤ o) (hs : o + seg.length ≤ c * d.sz) :
  d.R e (W.setCells g o seg) base ok (.slice (some ⟨g, 0, none⟩) m c) xs ∧ W.grownBy (W.setCells g o seg) (some g) := by
 obtain ⟨hok, inner, ⟨ho1, ho2⟩, hr⟩ := h
 have hfar : ∀ k, k ≠ g → (W.setCells g o seg).heap[k]? = W.heap[k]? := fun k hk => setCells_far seg _ k hk
 obtain ⟨s1, s2, s3, s4⟩ := setCells_same g seg o W
 refine ⟨⟨hok, inner, ⟨ho1, ?_⟩, hr.imp_ (fun p cs hp => d.M_move (fun k hk => hfar k (fun he => hk.2 (by rw [he]; rfl))) hp)⟩, ⟨s1, s2, s3, by omega, fun k hk hne => hfar k (fun he => hne (by rw [he]))⟩⟩
 rcases ho2 with ⟨hv, _⟩ | ⟨g', cap', cur, hv, hb, hh, hnc', hcm, hcs, ht⟩
 ·cases hv
 injection hv with ha _ hc
 injection ha with ha
 injection ha with hg
 subst hg; subst hc
 obtain ⟨cur', h3, h4, h5⟩ := setCells_row seg o W cur hh (by omega)
 rename_i hl _ _
 refine .inr ⟨g, c, cur', by rw [hl], hb, h3, hnc', hcm, h4.trans hcs, ?_⟩
 rw [hl] at ho
 have hcl : cur.toList.length = c * d.sz := by rw [Array.length_toList]; exact hcs
 rw [h5, List.append_assoc, List.take_append_of_le_length (by rw [List.length_take]; omega), List.take_take, Nat.min_eq_left ho]
 exact ht
def impl_Fact_54.f (l0 : List S45) (a1 a2 : Int) : Option (List S45) := if 0 ≤ a1 ∧ a1 < (l0.length : Int) ∧ a2 = a1 + 1 then some (l0.eraseIdx a1.toNat) else none
set_option maxHeartbeats 4000000 in
set_option maxRecDepth 100000 in
theorem impl_Fact_54.calls (P0_ : Nat → Prop) (u : Value) (l0 : List S45) (a1 a2 : Int) (r1 : List S45) (w0 w : World) (hB : Below w0.heap.size w0 w) (ho : Kd.S k45 45 w w0.heap.size P0_ u l0) (h : impl_Fact_54.f l0 a1 a2 = some r1) :
  Calls Try.prog 54 #[u, .int .i64 a1, .int .i64 a2] w fun e w' => ∃ v0_ : Value, e = .returned v0_ ∧ Kd.S k45 45 w' w0.heap.size P0_ v0_ r1 ∧ w.grownBy w' u.ownBlock ∧ Below w0.heap.size w0 w' := by
 unfold impl_Fact_54.f at h
 by_cases hc : 0 ≤ a1 ∧ a1 < (l0.length : Int) ∧ a2 = a1 + 1
 ·rw [if_pos hc] at h
  obtain rfl := Option.some.inj h
  obtain ⟨h0, h1, rfl⟩ := hc
  obtain ⟨i, rfl⟩ := Int.eq_ofNat_of_zero_le h0
  have hi : i < l0.length := by omega
  rw [Int.toNat_natCast]
  obtain ⟨g, cap, rfl, hgb, hgl, cl, hG⟩ := Kd.S_form ho (by omega)
  obtain ⟨_, hcap, hC⟩ := Kd.S_reads' ho
  have hm : l0.length ≤ 9223372036854775807 := hC.2.1
  have HO := aM ho
  have HB := aM hB
  have HG := aM hG
  have hie : ((i : Int) + 1).toNat = i + 1 := by omega
  have hib : ((i : Int) == (i : Int) + 1) = false := by rw [beq_eq_false_iff_ne]; omega
  have mixed : Try.prog.follows Departure.mixedOrders = true := by kernel_rfl
  have hic : i ≤ cap := by omega
  have hjc : i + 1 ≤ cap := by omega
  have hj0 : (0 : Int) ≤ (i : Int) + 1 := by omega
  have hj1 : (i : Int) + 1 ≤ (l0.length : Int) := by omega
  have hA : (if cap = i + 1 then some (⟨g, 0, none⟩ : Addr) else some ⟨g, (i + 1) * 2, none⟩) = if cap = i + 1 then some ⟨g, 0, none⟩ else (some (⟨g, 0, none⟩ : Addr)).map (·.add ((i + 1) * k45.sz)) := by
   have hz : k45.sz = 2 := rfl
   rw [hz]
   simp [Addr.add]
  clear ho hB hG hC h
  go_enter Try.func54, Try.ntmps54
  go_wp2_with fail
  go_region_law_o (refine Kd.S_delete_step k45 (w0 := w0) w0.heap.size (by rfl) (.tmp 22) (.tmp 25) 29 45 rfl Try.underlying29 (by kernel_rfl) (c := cap) (k := i) (m := l0.length - (i + 1)) (c2 := cap - (i + 1)) (A := if cap = i + 1 then some ⟨g, 0, none⟩ else some ⟨g, (i + 1) * 2, none⟩) (by simp [Act.eval, Act.put]) (by simp [Act.eval, Act.put]; rfl) hA rfl (Kd.S_drew HO.out) hi (below_drew1 HB.out) (by first | omega | exact Nat.le_of_lt (Nat.lt_of_le_of_lt hgb hgl)) ?_; intro w1 hS hb1 hg1)
  have hS1 := aM hS
  have hB1 := aM hb1
  have hG1 := aM hg1
  obtain ⟨cl1, hgc⟩ := Kd.R_typed (Kd.S_R hS) g rfl
  have hcap1 : cl1.size = cap * 2 := by
   obtain ⟨f_, _, inner, ⟨ho1, ho2⟩, hr⟩ := hS
   rcases ho2 with ⟨hv, _⟩ | ⟨g', cap', cur, hv, hb, hh, hnc', hcm, hcs, ht⟩
   ·cases hv
   injection hv with ha _ hc
   injection ha with ha
   injection ha with hg
   subst hg; subst hc
   rw [hh] at hgc
   injection hgc with hgc
   injection hgc with hgc
   subst hgc
   exact hcs
  have hcx : ∀ j, j < 2 → (w1.cell? ⟨g, (l0.length - 1) * 2 + j, none⟩).isSome = true := fun j hj => by
   rw [blk_cell hgc, Array.getElem?_eq_getElem (by omega)]; rfl
  have hfx : ∀ j, j < 2 → w1.frozen? ⟨g, (l0.length - 1) * 2 + j, none⟩ = false := fun j hj => blk_frozen hgc _
  have hzc : (Builtin.zeroCells (Value.agg #[.int .i64 0, .slice none 0 0]).cells 1).toList = [.int .i64 0, .slice none 0 0] := by first | kernel_rfl | (simp [Builtin.zeroCells, Value.cells]; done) | (simp [Builtin.zeroCells, Value.cells]; rfl)
  have hcl : ∀ ty c2, (Builtin.clear_ #[29] ty #[.slice (some ⟨g, (l0.length - 1) * 2, none⟩) (l0.length - (l0.length - 1)) c2]).run Try.prog w1 = .ok (.tuple #[]) (w1.setCells g ((l0.length - 1) * 2) [.int .i64 0, .slice none 0 0]) := fun ty c2 => by
   have hst := run_storeCells_cells (P := Try.prog) g ((l0.length - 1) * 2) [.int .i64 0, .slice none 0 0] 0 w1 (by simpa using hcx) (by simpa using hfx) (by intro v hv; simp at hv; rcases hv with rfl | rfl <;> rfl)
   simp only [Nat.add_zero] at hst
   have hzv := Try.zeroValue45
   rw [show l0.length - (l0.length - 1) = 1 by omega]
   simp only [Builtin.clear_]
   simp [run_underlying Try.underlying29, hzv, hzc, hst]
  obtain ⟨f_, hSf⟩ := hS1.out
  obtain ⟨hS2, hG2⟩ := R_behind hSf ((l0.length - 1) * 2) [.int .i64 0, .slice none 0 0] (Nat.le_refl _) (show (l0.length - 1) * 2 + 2 ≤ cap * 2 by omega)
  have HS2 := aM (show Kd.S k45 45 _ w0.heap.size P0_ _ _ from ⟨f_, hS2⟩)
  have HG2 := aM hG2
  clear hSf hS2 hG2 hS hb1 hg1 hgc hcap1 hcx hfx hS1
  go_wp2
  all_goals go_ret
  all_goals (refine ⟨_, rfl, ?_, ⟨HG2.out.os.trans hG1.out.os, HG2.out.tape.trans hG1.out.tape, HG2.out.output.trans hG1.out.output, Nat.le_trans hG1.out.size HG2.out.size, fun k hk hne => (HG2.out.block k (Nat.lt_of_lt_of_le hk hG1.out.size) hne).trans (hG1.out.block k hk hne)⟩, ?_⟩)
  all_goals first
   | exact hB1.out.grown HG2.out hB1.out.size (fun k hk => by injection hk with hk; subst hk; exact hgb)
   | exact HS2.out
   | (rename_i e_; subst e_; exact HS2.out)
   | (have e_ : cap = i + 1 := (by assumption); subst e_; exact HS2.out)
 ·rw [if_neg hc] at h
  exact absurd h (by simp)


/-! ### impl_DeleteFact: function 24 -/
def impl_DeleteFact.f (k : Nat) (l0_0 : List (S74)) (l0_1 : List (S45)) (a1_0 : Int) (l1_1 : List Int) : Option ((List (S74)) × (List (S45)) × Bool) := (impl_copyDatabase.f k l0_0 l0_1).bind fun bt318 => ((impl_ContainsFact.f l0_0 l0_1 a1_0 l1_1).bind fun t325 => (if t325 = true then ((impl_FactIndex.f l0_0 l0_1 a1_0 l1_1).bind fun t326 => ((impl_Fact_54.f bt318.2 t326 (wrap64 (t326 + 1))).bind fun t327 => (some (bt318.1, t327, true)))) else (some (bt318.1, bt318.2, false))))
set_option maxHeartbeats 8000000 in
set_option maxRecDepth 100000 in
theorem impl_DeleteFact.calls (k : Nat) (A0_0 : Option Addr) (c0_0 : Nat) (l0_0 : List (S74)) (A0_1 : Option Addr) (c0_1 : Nat) (l0_1 : List (S45)) (a1_0 : Int) (A1_1 : Option Addr) (c1_1 : Nat) (l1_1 : List Int) (r1 : List (S74)) (r2 : List (S45)) (r3 : Bool) (w : World) (hr0_0 : Kd.C k74 w A0_0 l0_0.length l0_0) (hc0_0 : l0_0.length ≤ c0_0) (hr0_1 : Kd.C k45 w A0_1 l0_1.length l0_1) (hc0_1 : l0_1.length ≤ c0_1) (hr1_1 : Kd.C (Kd.int .i64) w A1_1 l1_1.length l1_1) (hc1_1 : l1_1.length ≤ c1_1) (h : impl_DeleteFact.f k l0_0 l0_1 a1_0 l1_1 = some (r1, r2, r3)) :
  Calls Try.prog 24 #[.agg #[.slice A0_0 l0_0.length c0_0, .slice A0_1 l0_1.length c0_1], .agg #[.int .i64 a1_0, .slice A1_1 l1_1.length c1_1]] w fun e w' => ∃ v0_ v1_ : Value, e = .returned (.tuple #[.agg #[v0_, v1_], .bool r3]) ∧ Kd.R k74 74 w' w.heap.size (fun _ => True) v0_ r1 ∧ Kd.S k45 45 w' w.heap.size (fun _ => True) v1_ r2 ∧ Below w.heap.size w w' := by
 have hu31 := Try.underlying31
 have hu45 := Try.underlying45
 have HR0_0 := aM hr0_0
 have HC0_0 := aM hc0_0
 clear hr0_0 hc0_0
 have HR0_1 := aM hr0_1
 have HC0_1 := aM hc0_1
 clear hr0_1 hc0_1
 have HR1_1 := aM hr1_1
 have HC1_1 := aM hc1_1
 clear hr1_1 hc1_1
 have HB := aM (Below.refl w.heap.size w)
 have H : ((impl_copyDatabase.f k l0_0 l0_1).bind fun bt318 => ((impl_ContainsFact.f l0_0 l0_1 a1_0 l1_1).bind fun t325 => (if t325 = true then ((impl_FactIndex.f l0_0 l0_1 a1_0 l1_1).bind fun t326 => ((impl_Fact_54.f bt318.2 t326 (wrap64 (t326 + 1))).bind fun t327 => (some (bt318.1, t327, true)))) else (some (bt318.1, bt318.2, false))))) = some (r1, r2, r3) := h
 clear h
 replace H := Option.bind_eq_some_iff.mp H
 obtain ⟨⟨t318, t321⟩, A30, H⟩ := H
 replace H : ((impl_ContainsFact.f l0_0 l0_1 a1_0 l1_1).bind fun t325 => (if t325 = true then ((impl_FactIndex.f l0_0 l0_1 a1_0 l1_1).bind fun t326 => ((impl_Fact_54.f t321 t326 (wrap64 (t326 + 1))).bind fun t327 => (some (t318, t327, true)))) else (some (t318, t321, false)))) = some (r1, r2, r3) := H
 have A3 := aM A30
 clear A30
 replace H := Option.bind_eq_some_iff.mp H
 obtain ⟨t325, A40, H⟩ := H
 replace H : (if t325 = true then ((impl_FactIndex.f l0_0 l0_1 a1_0 l1_1).bind fun t326 => ((impl_Fact_54.f t321 t326 (wrap64 (t326 + 1))).bind fun t327 => (some (t318, t327, true)))) else (some (t318, t321, false))) = some (r1, r2, r3) := H
 have A4 := aM A40
 clear A40
 by_cases c5 : t325 = true
 ·subst c5
  have H1 : ((impl_FactIndex.f l0_0 l0_1 a1_0 l1_1).bind fun t326 => ((impl_Fact_54.f t321 t326 (wrap64 (t326 + 1))).bind fun t327 => (some (t318, t327, true)))) = some (r1, r2, r3) := by rw [if_pos rfl] at H; exact H
  clear H
  have H := H1
  clear H1
  replace H := Option.bind_eq_some_iff.mp H
  obtain ⟨t326, A60, H⟩ := H
  replace H : ((impl_Fact_54.f t321 t326 (wrap64 (t326 + 1))).bind fun t327 => (some (t318, t327, true))) = some (r1, r2, r3) := H
  have A6 := aM A60
  clear A60
  replace H := Option.bind_eq_some_iff.mp H
  obtain ⟨t327, A70, H⟩ := H
  replace H : (some (t318, t327, true)) = some (r1, r2, r3) := H
  have A7 := aM A70
  clear A70
  simp only [Option.some.injEq, Prod.mk.injEq] at H
  obtain ⟨rfl, rfl, rfl⟩ := H
  go_enter Try.func24, Try.ntmps24
  go_wp2_with (first | ((with_reducible refine gate_dst (N := 2) rfl ?_); refine box_event ?hg (N := 2) ?hd (cs := #[.slice A0_0 l0_0.length c0_0, .slice A0_1 l0_1.length c0_1]) (t := 31) ?hr ?_; (case hd => rfl); (case hg => rfl); (case hr => first | (go_simp; done) | (go_simp; rfl)); intro gb315 hg w8 hbox hb; have n0_ := aM (below_step aB hb); have n1_ := aM (hbox); have n2_ := aM ((by rw [hg]; exact (below_size aB) : w.heap.size ≤ gb315)); have n3_ := aM ((by rw [hg]; exact (below_size aB) : w.heap.size ≤ gb315)); clear HB; have HB := n0_; have BK315 := n1_; have GW315 := n2_; have GE315 := n3_; clear n0_ n1_ n2_ n3_; clear hb hbox hg) | ((with_reducible refine gate_dst (N := 3) rfl ?_); refine box_event ?hg (N := 3) ?hd (cs := #[.int .i64 a1_0, .slice A1_1 l1_1.length c1_1]) (t := 45) ?hr ?_; (case hd => rfl); (case hg => rfl); (case hr => first | (go_simp; done) | (go_simp; rfl)); intro gb316 hg w9 hbox hb; have n0_ := aM (blk_below (g := gb315) (o := .cells #[.slice A0_0 l0_0.length c0_0, .slice A0_1 l0_1.length c0_1] 31 (0, 0)) aK hb); have n1_ := aM (below_step aG hb); have n2_ := aM (hbox); have n3_ := aM ((by rw [hg]; exact (below_size aG) : w.heap.size ≤ gb316)); have n4_ := aM ((by rw [hg]; exact (below_size aG) : w.heap.size ≤ gb316)); have n5_ := aM ((by rw [hg]; exact Nat.ne_of_lt (blk_lt (g := gb315) (o := .cells #[.slice A0_0 l0_0.length c0_0, .slice A0_1 l0_1.length c0_1] 31 (0, 0)) aK) : gb315 ≠ gb316)); have n6_ := aM ((by rw [hg]; exact Nat.ne_of_gt (blk_lt (g := gb315) (o := .cells #[.slice A0_0 l0_0.length c0_0, .slice A0_1 l0_1.length c0_1] 31 (0, 0)) aK) : gb316 ≠ gb315)); clear BK315; clear HB; have BK315 := n0_; have HB := n1_; have BK316 := n2_; have GW316 := n3_; have GE316 := n4_; have NB315_316 := n5_; have NB316_315 := n6_; clear n0_ n1_ n2_ n3_ n4_ n5_ n6_; clear hb hbox hg) | ((with_reducible refine gate_dst (N := 4) rfl ?_); refine box_event ?hg (N := 4) ?hd (cs := #[.slice none 0 0, .slice none 0 0]) (t := 31) ?hr ?_; (case hd => rfl); (case hg => rfl); (case hr => first | (go_simp; done) | (go_simp; rfl)); intro gb317 hg w10 hbox hb; have n0_ := aM (blk_below (g := gb315) (o := .cells #[.slice A0_0 l0_0.length c0_0, .slice A0_1 l0_1.length c0_1] 31 (0, 0)) aK hb); have n1_ := aM (blk_below (g := gb316) (o := .cells #[.int .i64 a1_0, .slice A1_1 l1_1.length c1_1] 45 (0, 0)) aK hb); have n2_ := aM (below_step aG hb); have n3_ := aM (hbox); have n4_ := aM ((by rw [hg]; exact (below_size aG) : w.heap.size ≤ gb317)); have n5_ := aM ((by rw [hg]; exact (below_size aG) : w.heap.size ≤ gb317)); have n6_ := aM ((by rw [hg]; exact Nat.ne_of_lt (blk_lt (g := gb315) (o := .cells #[.slice A0_0 l0_0.length c0_0, .slice A0_1 l0_1.length c0_1] 31 (0, 0)) aK) : gb315 ≠ gb317)); have n7_ := aM ((by rw [hg]; exact Nat.ne_of_gt (blk_lt (g := gb315) (o := .cells #[.slice A0_0 l0_0.length c0_0, .slice A0_1 l0_1.length c0_1] 31 (0, 0)) aK) : gb317 ≠ gb315)); have n8_ := aM ((by rw [hg]; exact Nat.ne_of_lt (blk_lt (g := gb316) (o := .cells #[.int .i64 a1_0, .slice A1_1 l1_1.length c1_1] 45 (0, 0)) aK) : gb316 ≠ gb317)); have n9_ := aM ((by rw [hg]; exact Nat.ne_of_gt (blk_lt (g := gb316) (o := .cells #[.int .i64 a1_0, .slice A1_1 l1_1.length c1_1] 45 (0, 0)) aK) : gb317 ≠ gb316)); clear BK315; clear BK316; clear HB; have BK315 := n0_; have BK316 := n1_; have HB := n2_; have BK317 := n3_; have GW317 := n4_; have GE317 := n5_; have NB315_317 := n6_; have NB317_315 := n7_; have NB316_317 := n8_; have NB317_316 := n9_; clear n0_ n1_ n2_ n3_ n4_ n5_ n6_ n7_ n8_ n9_; clear hb hbox hg; have hnb11 := NB315_316.out; have hnc11 := NB316_315.out; have hnb12 := NB315_317.out; have hnc12 := NB317_315.out; have hcz13_0 : w10.cell? ⟨gb315, 0, none⟩ = some (.slice A0_0 l0_0.length c0_0) := (blk_cell BK315.out 0).trans rfl; have hcz13_1 : w10.cell? ⟨gb315, 1, none⟩ = some (.slice A0_1 l0_1.length c0_1) := (blk_cell BK315.out 1).trans rfl; have hfz13_0 := blk_frozen BK315.out 0; have hfz13_1 := blk_frozen BK315.out 1) | ((with_reducible refine gate_callee (f := 38) rfl ?_); refine goesL_ (some 9) rfl rfl Try.func38 (by kernel_rfl) rfl #[.agg #[.slice A0_0 l0_0.length c0_0, .slice A0_1 l0_1.length c0_1]] rfl (by (try simp only [List.map_toArray, List.map_cons, List.map_nil]); first | done | rfl | (simp only [List.length_drop, List.length_take]; rfl)) ?_; (with_reducible refine (impl_copyDatabase.calls k _ _ l0_0 _ _ l0_1 t318 t321 _ ?side1 ?side2 ?side3 ?side4 A3.out).mono ?_); (case side1 => exact aC); (case side2 => exact HC0_0.out); (case side3 => exact aC); (case side4 => exact HC0_1.out); rintro e w14 ⟨v319, v322, rfl, ho0, ho1, hb⟩; refine ⟨_, rfl, ?_⟩; have n0_ := aM (Kd.R_lower ho0 (below_size aG)); have n1_ := aM (Kd.S_lower (Kd.S_newB ho1 (g := gb316) (o := .cells #[.int .i64 a1_0, .slice A1_1 l1_1.length c1_1] 45 (0, 0)) aK) (below_size aG)); have n2_ := aM (blk_below (g := gb315) (o := .cells #[.slice A0_0 l0_0.length c0_0, .slice A0_1 l0_1.length c0_1] 31 (0, 0)) aK hb); have n3_ := aM (blk_below (g := gb316) (o := .cells #[.int .i64 a1_0, .slice A1_1 l1_1.length c1_1] 45 (0, 0)) aK hb); have n4_ := aM (blk_below (g := gb317) (o := .cells #[.slice none 0 0, .slice none 0 0] 31 (0, 0)) aK hb); have n5_ := aM (below_step aG hb); clear BK315; clear BK316; clear BK317; clear HB; have HO320 := n0_; have HO323 := n1_; have BK315 := n2_; have BK316 := n3_; have BK317 := n4_; have HB := n5_; clear n0_ n1_ n2_ n3_ n4_ n5_; (try clear hb); (try clear hb2); (try clear hk); (try clear hi); (try clear ho0); (try clear ho1)) | ((with_reducible refine gate_dst (N := 6) rfl ?_); refine box_event ?hg (N := 6) ?hd (cs := #[.slice none 0 0, .slice none 0 0]) (t := 31) ?hr ?_; (case hd => rfl); (case hg => rfl); (case hr => first | (go_simp; done) | (go_simp; rfl)); intro gb324 hg w15 hbox hb; have n0_ := aM (Kd.R_below (aR HO320) hb); have n1_ := aM (Kd.S_below (aS HO323) hb); have n2_ := aM (blk_below (g := gb315) (o := .cells #[.slice A0_0 l0_0.length c0_0, .slice A0_1 l0_1.length c0_1] 31 (0, 0)) aK hb); have n3_ := aM (blk_below (g := gb316) (o := .cells #[.int .i64 a1_0, .slice A1_1 l1_1.length c1_1] 45 (0, 0)) aK hb); have n4_ := aM (blk_below (g := gb317) (o := .cells #[.slice none 0 0, .slice none 0 0] 31 (0, 0)) aK hb); have n5_ := aM (below_step aG hb); have n6_ := aM (hbox); have n7_ := aM ((by rw [hg]; exact (below_size aG) : w.heap.size ≤ gb324)); have n8_ := aM ((by rw [hg]; exact (below_size aG) : w.heap.size ≤ gb324)); have n9_ := aM ((by rw [hg]; exact Nat.ne_of_lt (blk_lt (g := gb315) (o := .cells #[.slice A0_0 l0_0.length c0_0, .slice A0_1 l0_1.length c0_1] 31 (0, 0)) aK) : gb315 ≠ gb324)); have n10_ := aM ((by rw [hg]; exact Nat.ne_of_gt (blk_lt (g := gb315) (o := .cells #[.slice A0_0 l0_0.length c0_0, .slice A0_1 l0_1.length c0_1] 31 (0, 0)) aK) : gb324 ≠ gb315)); have n11_ := aM ((by rw [hg]; exact Nat.ne_of_lt (blk_lt (g := gb316) (o := .cells #[.int .i64 a1_0, .slice A1_1 l1_1.length c1_1] 45 (0, 0)) aK) : gb316 ≠ gb324)); have n12_ := aM ((by rw [hg]; exact Nat.ne_of_gt (blk_lt (g := gb316) (o := .cells #[.int .i64 a1_0, .slice A1_1 l1_1.length c1_1] 45 (0, 0)) aK) : gb324 ≠ gb316)); have n13_ := aM ((by rw [hg]; exact Nat.ne_of_lt (blk_lt (g := gb317) (o := .cells #[.slice none 0 0, .slice none 0 0] 31 (0, 0)) aK) : gb317 ≠ gb324)); have n14_ := aM ((by rw [hg]; exact Nat.ne_of_gt (blk_lt (g := gb317) (o := .cells #[.slice none 0 0, .slice none 0 0] 31 (0, 0)) aK) : gb324 ≠ gb317)); clear HO320; clear HO323; clear BK315; clear BK316; clear BK317; clear HB; have HO320 := n0_; have HO323 := n1_; have BK315 := n2_; have BK316 := n3_; have BK317 := n4_; have HB := n5_; have BK324 := n6_; have GW324 := n7_; have GE324 := n8_; have NB315_324 := n9_; have NB324_315 := n10_; have NB316_324 := n11_; have NB324_316 := n12_; have NB317_324 := n13_; have NB324_317 := n14_; clear n0_ n1_ n2_ n3_ n4_ n5_ n6_ n7_ n8_ n9_ n10_ n11_ n12_ n13_ n14_; clear hb hbox hg; obtain ⟨Ao16, co16, eo16⟩ := Kd.R_slice HO320.out; subst eo16; have hnb17 := NB324_315.out; have hnc17 := NB315_324.out; have hnb18 := NB324_316.out; have hnc18 := NB316_324.out; have hnb19 := NB324_317.out; have hnc19 := NB317_324.out; have hcz20_0 : w15.cell? ⟨gb324, 0, none⟩ = some (.slice none 0 0) := (blk_cell BK324.out 0).trans rfl; have hcz20_1 : w15.cell? ⟨gb324, 1, none⟩ = some (.slice none 0 0) := (blk_cell BK324.out 1).trans rfl; have hfz20_0 := blk_frozen BK324.out 0; have hfz20_1 := blk_frozen BK324.out 1; obtain ⟨Ao21, co21, eo21⟩ := Kd.S_slice HO323.out; subst eo21; have hcz22_0 : w15.cell? ⟨gb315, 0, none⟩ = some (.slice A0_0 l0_0.length c0_0) := (blk_cell BK315.out 0).trans rfl; have hcz22_1 : w15.cell? ⟨gb315, 1, none⟩ = some (.slice A0_1 l0_1.length c0_1) := (blk_cell BK315.out 1).trans rfl; have hfz22_0 := blk_frozen BK315.out 0; have hfz22_1 := blk_frozen BK315.out 1; have hnb23 := NB316_317.out; have hnc23 := NB317_316.out; have hcz24_0 : w15.cell? ⟨gb316, 0, none⟩ = some (.int .i64 a1_0) := (blk_cell BK316.out 0).trans rfl; have hcz24_1 : w15.cell? ⟨gb316, 1, none⟩ = some (.slice A1_1 l1_1.length c1_1) := (blk_cell BK316.out 1).trans rfl; have hfz24_0 := blk_frozen BK316.out 0; have hfz24_1 := blk_frozen BK316.out 1) | ((with_reducible refine gate_callee (f := 30) rfl ?_); refine goesL_ (some 12) rfl rfl Try.func30 (by kernel_rfl) rfl #[.agg #[.slice A0_0 l0_0.length c0_0, .slice A0_1 l0_1.length c0_1], .agg #[.int .i64 a1_0, .slice A1_1 l1_1.length c1_1]] rfl (by (try simp only [List.map_toArray, List.map_cons, List.map_nil]); first | done | rfl | (simp only [List.length_drop, List.length_take]; rfl)) ?_; (with_reducible refine (impl_ContainsFact.calls _ _ l0_0 _ _ l0_1 a1_0 _ _ l1_1 true _ ?side1 ?side2 ?side3 ?side4 ?side5 ?side6 A4.out).mono ?_); (case side1 => exact Kd.C_below HR0_0.out aG); (case side2 => exact HC0_0.out); (case side3 => exact Kd.C_below HR0_1.out aG); (case side4 => exact HC0_1.out); (case side5 => exact Kd.C_below HR1_1.out aG); (case side6 => exact HC1_1.out); rintro e w25 ⟨rfl, hb⟩; refine ⟨_, rfl, ?_⟩; have n0_ := aM (Kd.R_below (by (with_reducible repeat (first | apply Kd.R_alloc | apply Kd.R_drewN | apply Kd.R_drew)); exact (Kd.R_mono (Kd.R_far (p := ⟨gb324, 1, none⟩) (Kd.R_far (p := ⟨gb324, 0, none⟩) (Kd.R_types HO320.out BK324.out (by decide)) (fun _ hk => hk.2) (.slice Ao16 t318.length co16)) (fun _ hk => hk.2) (.slice Ao21 t321.length co21)) (fun _ h_ => h_.1))) hb); have n1_ := aM (Kd.S_below (by (with_reducible repeat (first | apply Kd.S_alloc | apply Kd.S_drewN | apply Kd.S_drew)); exact (Kd.S_mono (Kd.S_far (p := ⟨gb324, 1, none⟩) (Kd.S_far (p := ⟨gb324, 0, none⟩) (Kd.S_types HO323.out BK324.out (by decide)) (fun _ hk => hk.2) (.slice Ao16 t318.length co16)) (fun _ hk => hk.2) (.slice Ao21 t321.length co21)) (fun _ h_ => h_.1))) hb); have n2_ := aM (blk_below (g := gb315) (o := .cells #[.slice A0_0 l0_0.length c0_0, .slice A0_1 l0_1.length c0_1] 31 (0, 0)) (by (with_reducible repeat (first | refine blk_drewN ?_ _ | refine blk_drew ?_ | refine blk_alloc ?_ _)); refine blk_far ?_ NB315_324.out _; (with_reducible repeat (first | refine blk_drewN ?_ _ | refine blk_drew ?_ | refine blk_alloc ?_ _)); refine blk_far ?_ NB315_324.out _; (with_reducible repeat (first | refine blk_drewN ?_ _ | refine blk_drew ?_ | refine blk_alloc ?_ _)); exact BK315.out) hb); have n3_ := aM (blk_below (g := gb316) (o := .cells #[.int .i64 a1_0, .slice A1_1 l1_1.length c1_1] 45 (0, 0)) (by (with_reducible repeat (first | refine blk_drewN ?_ _ | refine blk_drew ?_ | refine blk_alloc ?_ _)); refine blk_far ?_ NB316_324.out _; (with_reducible repeat (first | refine blk_drewN ?_ _ | refine blk_drew ?_ | refine blk_alloc ?_ _)); refine blk_far ?_ NB316_324.out _; (with_reducible repeat (first | refine blk_drewN ?_ _ | refine blk_drew ?_ | refine blk_alloc ?_ _)); exact BK316.out) hb); have n4_ := aM (blk_below (g := gb317) (o := .cells #[.slice none 0 0, .slice none 0 0] 31 (0, 0)) (by (with_reducible repeat (first | refine blk_drewN ?_ _ | refine blk_drew ?_ | refine blk_alloc ?_ _)); refine blk_far ?_ NB317_324.out _; (with_reducible repeat (first | refine blk_drewN ?_ _ | refine blk_drew ?_ | refine blk_alloc ?_ _)); refine blk_far ?_ NB317_324.out _; (with_reducible repeat (first | refine blk_drewN ?_ _ | refine blk_drew ?_ | refine blk_alloc ?_ _)); exact BK317.out) hb); have n5_ := aM (blk_below (g := gb324) (o := .cells #[.slice Ao16 t318.length co16, .slice Ao21 t321.length co21] 31 (0, 0)) (by (with_reducible repeat (first | refine blk_drewN ?_ _ | refine blk_drew ?_ | refine blk_alloc ?_ _)); refine blk_put (cs := #[.slice Ao16 t318.length co16, .slice none 0 0]) ?_ 1 _ rfl; (with_reducible repeat (first | refine blk_drewN ?_ _ | refine blk_drew ?_ | refine blk_alloc ?_ _)); refine blk_put (cs := #[.slice none 0 0, .slice none 0 0]) ?_ 0 _ rfl; (with_reducible repeat (first | refine blk_drewN ?_ _ | refine blk_drew ?_ | refine blk_alloc ?_ _)); exact BK324.out) hb); have n6_ := aM (below_step aG hb); clear HO320; clear HO323; clear BK315; clear BK316; clear BK317; clear BK324; clear HB; have HO320 := n0_; have HO323 := n1_; have BK315 := n2_; have BK316 := n3_; have BK317 := n4_; have BK324 := n5_; have HB := n6_; clear n0_ n1_ n2_ n3_ n4_ n5_ n6_; (try clear hb); (try clear hb2); (try clear hk); (try clear hi); have hcz26_0 : w25.cell? ⟨gb315, 0, none⟩ = some (.slice A0_0 l0_0.length c0_0) := (blk_cell BK315.out 0).trans rfl; have hcz26_1 : w25.cell? ⟨gb315, 1, none⟩ = some (.slice A0_1 l0_1.length c0_1) := (blk_cell BK315.out 1).trans rfl; have hfz26_0 := blk_frozen BK315.out 0; have hfz26_1 := blk_frozen BK315.out 1; have hcz27_0 : w25.cell? ⟨gb316, 0, none⟩ = some (.int .i64 a1_0) := (blk_cell BK316.out 0).trans rfl; have hcz27_1 : w25.cell? ⟨gb316, 1, none⟩ = some (.slice A1_1 l1_1.length c1_1) := (blk_cell BK316.out 1).trans rfl; have hfz27_0 := blk_frozen BK316.out 0; have hfz27_1 := blk_frozen BK316.out 1) | ((with_reducible refine gate_callee (f := 31) rfl ?_); refine goesL_ (some 17) rfl rfl Try.func31 (by kernel_rfl) rfl #[.agg #[.slice A0_0 l0_0.length c0_0, .slice A0_1 l0_1.length c0_1], .agg #[.int .i64 a1_0, .slice A1_1 l1_1.length c1_1]] rfl (by (try simp only [List.map_toArray, List.map_cons, List.map_nil]); first | done | rfl | (simp only [List.length_drop, List.length_take]; rfl)) ?_; (with_reducible refine (impl_FactIndex.calls _ _ l0_0 _ _ l0_1 a1_0 _ _ l1_1 t326 _ ?side1 ?side2 ?side3 ?side4 ?side5 ?side6 A6.out).mono ?_); (case side1 => exact aC); (case side2 => exact HC0_0.out); (case side3 => exact aC); (case side4 => exact HC0_1.out); (case side5 => exact aC); (case side6 => exact HC1_1.out); rintro e w28 ⟨rfl, hb⟩; refine ⟨_, rfl, ?_⟩; have n0_ := aM (Kd.R_below (aR HO320) hb); have n1_ := aM (Kd.S_below (aS HO323) hb); have n2_ := aM (blk_below (g := gb315) (o := .cells #[.slice A0_0 l0_0.length c0_0, .slice A0_1 l0_1.length c0_1] 31 (0, 0)) aK hb); have n3_ := aM (blk_below (g := gb316) (o := .cells #[.int .i64 a1_0, .slice A1_1 l1_1.length c1_1] 45 (0, 0)) aK hb); have n4_ := aM (blk_below (g := gb317) (o := .cells #[.slice none 0 0, .slice none 0 0] 31 (0, 0)) aK hb); have n5_ := aM (blk_below (g := gb324) (o := .cells #[.slice Ao16 t318.length co16, .slice Ao21 t321.length co21] 31 (0, 0)) aK hb); have n6_ := aM (below_step aG hb); clear HO320; clear HO323; clear BK315; clear BK316; clear BK317; clear BK324; clear HB; have HO320 := n0_; have HO323 := n1_; have BK315 := n2_; have BK316 := n3_; have BK317 := n4_; have BK324 := n5_; have HB := n6_; clear n0_ n1_ n2_ n3_ n4_ n5_ n6_; (try clear hb); (try clear hb2); (try clear hk); (try clear hi); have hcz29_0 : w28.cell? ⟨gb324, 0, none⟩ = some (.slice Ao16 t318.length co16) := (blk_cell BK324.out 0).trans rfl; have hcz29_1 : w28.cell? ⟨gb324, 1, none⟩ = some (.slice Ao21 t321.length co21) := (blk_cell BK324.out 1).trans rfl; have hfz29_0 := blk_frozen BK324.out 0; have hfz29_1 := blk_frozen BK324.out 1) | ((with_reducible refine gate_callee (f := 54) rfl ?_); refine goesL_ (some 23) rfl rfl Try.func54 (by kernel_rfl) rfl #[.slice Ao21 t321.length co21, .int .i64 t326, .int .i64 (wrap64 (t326 + 1))] rfl (by (try simp only [List.map_toArray, List.map_cons, List.map_nil]); first | done | rfl | (simp only [List.length_drop, List.length_take]; rfl)) ?_; (with_reducible refine (impl_Fact_54.calls (fun k_ => True ∧ k_ ≠ gb316) _ t321 t326 (wrap64 (t326 + 1)) t327 w _ ?side1 ?side2 A7.out).mono ?_); (case side1 => exact aG); (case side2 => exact HO323.out); rintro e w30 ⟨v328, rfl, ho0, hg, hb⟩; refine ⟨_, rfl, ?_⟩; have n0_ := aM (Kd.R_over' (aR HO320) (Kd.S_typed HO323.out) (by decide) hg); have n1_ := aM trivial; have n2_ := aM ho0; have n3_ := aM (blk_grown (g := gb315) (o := .cells #[.slice A0_0 l0_0.length c0_0, .slice A0_1 l0_1.length c0_1] 31 (0, 0)) aK hg (Kd.S_ne HO323.out BK315.out (by decide))); have n4_ := aM (blk_grown (g := gb316) (o := .cells #[.int .i64 a1_0, .slice A1_1 l1_1.length c1_1] 45 (0, 0)) aK hg (Kd.S_away HO323.out (fun _ hk => by first | exact hk.2 | exact hk.1.2 | exact hk.2.1 | exact hk.2.2))); have n5_ := aM (blk_grown (g := gb317) (o := .cells #[.slice none 0 0, .slice none 0 0] 31 (0, 0)) aK hg (Kd.S_ne HO323.out BK317.out (by decide))); have n6_ := aM (blk_grown (g := gb324) (o := .cells #[.slice Ao16 t318.length co16, .slice Ao21 t321.length co21] 31 (0, 0)) aK hg (Kd.S_ne HO323.out BK324.out (by decide))); have n7_ := aM hb; clear HO320; clear HO323; clear BK315; clear BK316; clear BK317; clear BK324; clear HB; have HO320 := n0_; have HO323 := n1_; have HO329 := n2_; have BK315 := n3_; have BK316 := n4_; have BK317 := n5_; have BK324 := n6_; have HB := n7_; clear n0_ n1_ n2_ n3_ n4_ n5_ n6_ n7_; (try clear hb); (try clear hg); (try clear hk); (try clear hi); (try clear ho0); obtain ⟨Ao31, co31, eo31⟩ := Kd.S_slice HO329.out; subst eo31; have hcz32_0 : w30.cell? ⟨gb324, 0, none⟩ = some (.slice Ao16 t318.length co16) := (blk_cell BK324.out 0).trans rfl; have hcz32_1 : w30.cell? ⟨gb324, 1, none⟩ = some (.slice Ao21 t321.length co21) := (blk_cell BK324.out 1).trans rfl; have hfz32_0 := blk_frozen BK324.out 0; have hfz32_1 := blk_frozen BK324.out 1; have hcz33_0 : w30.cell? ⟨gb317, 0, none⟩ = some (.slice none 0 0) := (blk_cell BK317.out 0).trans rfl; have hcz33_1 : w30.cell? ⟨gb317, 1, none⟩ = some (.slice none 0 0) := (blk_cell BK317.out 1).trans rfl; have hfz33_0 := blk_frozen BK317.out 0; have hfz33_1 := blk_frozen BK317.out 1))
  refine bodyPost_ret (results_ct rfl _ _ gb317 31 #[.slice Ao16 t318.length co16, .slice Ao31 t327.length co31] (0, 0) _ rfl (by (with_reducible repeat (first | refine blk_drewN ?_ _ | refine blk_drew ?_ | refine blk_alloc ?_ _)); refine blk_put (cs := #[.slice Ao16 t318.length co16, .slice none 0 0]) ?_ 1 _ rfl; (with_reducible repeat (first | refine blk_drewN ?_ _ | refine blk_drew ?_ | refine blk_alloc ?_ _)); refine blk_put (cs := #[.slice none 0 0, .slice none 0 0]) ?_ 0 _ rfl; (with_reducible repeat (first | refine blk_drewN ?_ _ | refine blk_drew ?_ | refine blk_alloc ?_ _)); refine blk_far ?_ NB317_324.out _; (with_reducible repeat (first | refine blk_drewN ?_ _ | refine blk_drew ?_ | refine blk_alloc ?_ _)); exact BK317.out) Try.underlying31 rfl (by kernel_rfl)) rfl ?_
  exact ⟨_, _, by first | rfl | (simp [errW_none, errW_some] <;> rfl) | (simp [*, errW_none, errW_some] <;> rfl), by (with_reducible repeat (first | apply Kd.R_alloc | apply Kd.R_drewN | apply Kd.R_drew)); exact Kd.R_mono (Kd.R_far (p := ⟨gb317, 1, none⟩) (Kd.R_far (p := ⟨gb317, 0, none⟩) (Kd.R_far (p := ⟨gb324, 1, none⟩) (Kd.R_types (Kd.R_types HO320.out BK324.out (by decide)) BK317.out (by decide)) (fun _ hk => hk.1.2) (.slice Ao31 t327.length co31)) (fun _ hk => hk.2) (.slice Ao16 t318.length co16)) (fun _ hk => hk.2) (.slice Ao31 t327.length co31)) (fun _ hk => trivial), by (with_reducible repeat (first | apply Kd.S_alloc | apply Kd.S_drewN | apply Kd.S_drew)); exact Kd.S_mono (Kd.S_far (p := ⟨gb317, 1, none⟩) (Kd.S_far (p := ⟨gb317, 0, none⟩) (Kd.S_far (p := ⟨gb324, 1, none⟩) (Kd.S_types (Kd.S_types HO329.out BK324.out (by decide)) BK317.out (by decide)) (fun _ hk => hk.1.2) (.slice Ao31 t327.length co31)) (fun _ hk => hk.2) (.slice Ao16 t318.length co16)) (fun _ hk => hk.2) (.slice Ao31 t327.length co31)) (fun _ hk => trivial), by repeat (first | (with_reducible first | exact HB.out | apply below_alloc | apply pw_below_drewN | apply below_drew1 | refine below_set ?_ GE315.out | refine below_set ?_ GE316.out | refine below_set ?_ GE317.out | refine below_set ?_ GE324.out) | exact HB.out)⟩
 ·replace c5 := Bool.eq_false_iff.mpr c5
  subst c5
  have H1 : (some (t318, t321, false)) = some (r1, r2, r3) := by rw [if_neg (show ¬ (false = true) by decide)] at H; exact H
  clear H
  have H := H1
  clear H1
  simp only [Option.some.injEq, Prod.mk.injEq] at H
  obtain ⟨rfl, rfl, rfl⟩ := H
  go_enter Try.func24, Try.ntmps24
  go_wp2_with (first | ((with_reducible refine gate_dst (N := 2) rfl ?_); refine box_event ?hg (N := 2) ?hd (cs := #[.slice A0_0 l0_0.length c0_0, .slice A0_1 l0_1.length c0_1]) (t := 31) ?hr ?_; (case hd => rfl); (case hg => rfl); (case hr => first | (go_simp; done) | (go_simp; rfl)); intro gb315 hg w34 hbox hb; have n0_ := aM (below_step aB hb); have n1_ := aM (hbox); have n2_ := aM ((by rw [hg]; exact (below_size aB) : w.heap.size ≤ gb315)); have n3_ := aM ((by rw [hg]; exact (below_size aB) : w.heap.size ≤ gb315)); clear HB; have HB := n0_; have BK315 := n1_; have GW315 := n2_; have GE315 := n3_; clear n0_ n1_ n2_ n3_; clear hb hbox hg) | ((with_reducible refine gate_dst (N := 3) rfl ?_); refine box_event ?hg (N := 3) ?hd (cs := #[.int .i64 a1_0, .slice A1_1 l1_1.length c1_1]) (t := 45) ?hr ?_; (case hd => rfl); (case hg => rfl); (case hr => first | (go_simp; done) | (go_simp; rfl)); intro gb316 hg w35 hbox hb; have n0_ := aM (blk_below (g := gb315) (o := .cells #[.slice A0_0 l0_0.length c0_0, .slice A0_1 l0_1.length c0_1] 31 (0, 0)) aK hb); have n1_ := aM (below_step aG hb); have n2_ := aM (hbox); have n3_ := aM ((by rw [hg]; exact (below_size aG) : w.heap.size ≤ gb316)); have n4_ := aM ((by rw [hg]; exact (below_size aG) : w.heap.size ≤ gb316)); have n5_ := aM ((by rw [hg]; exact Nat.ne_of_lt (blk_lt (g := gb315) (o := .cells #[.slice A0_0 l0_0.length c0_0, .slice A0_1 l0_1.length c0_1] 31 (0, 0)) aK) : gb315 ≠ gb316)); have n6_ := aM ((by rw [hg]; exact Nat.ne_of_gt (blk_lt (g := gb315) (o := .cells #[.slice A0_0 l0_0.length c0_0, .slice A0_1 l0_1.length c0_1] 31 (0, 0)) aK) : gb316 ≠ gb315)); clear BK315; clear HB; have BK315 := n0_; have HB := n1_; have BK316 := n2_; have GW316 := n3_; have GE316 := n4_; have NB315_316 := n5_; have NB316_315 := n6_; clear n0_ n1_ n2_ n3_ n4_ n5_ n6_; clear hb hbox hg) | ((with_reducible refine gate_dst (N := 4) rfl ?_); refine box_event ?hg (N := 4) ?hd (cs := #[.slice none 0 0, .slice none 0 0]) (t := 31) ?hr ?_; (case hd => rfl); (case hg => rfl); (case hr => first | (go_simp; done) | (go_simp; rfl)); intro gb317 hg w36 hbox hb; have n0_ := aM (blk_below (g := gb315) (o := .cells #[.slice A0_0 l0_0.length c0_0, .slice A0_1 l0_1.length c0_1] 31 (0, 0)) aK hb); have n1_ := aM (blk_below (g := gb316) (o := .cells #[.int .i64 a1_0, .slice A1_1 l1_1.length c1_1] 45 (0, 0)) aK hb); have n2_ := aM (below_step aG hb); have n3_ := aM (hbox); have n4_ := aM ((by rw [hg]; exact (below_size aG) : w.heap.size ≤ gb317)); have n5_ := aM ((by rw [hg]; exact (below_size aG) : w.heap.size ≤ gb317)); have n6_ := aM ((by rw [hg]; exact Nat.ne_of_lt (blk_lt (g := gb315) (o := .cells #[.slice A0_0 l0_0.length c0_0, .slice A0_1 l0_1.length c0_1] 31 (0, 0)) aK) : gb315 ≠ gb317)); have n7_ := aM ((by rw [hg]; exact Nat.ne_of_gt (blk_lt (g := gb315) (o := .cells #[.slice A0_0 l0_0.length c0_0, .slice A0_1 l0_1.length c0_1] 31 (0, 0)) aK) : gb317 ≠ gb315)); have n8_ := aM ((by rw [hg]; exact Nat.ne_of_lt (blk_lt (g := gb316) (o := .cells #[.int .i64 a1_0, .slice A1_1 l1_1.length c1_1] 45 (0, 0)) aK) : gb316 ≠ gb317)); have n9_ := aM ((by rw [hg]; exact Nat.ne_of_gt (blk_lt (g := gb316) (o := .cells #[.int .i64 a1_0, .slice A1_1 l1_1.length c1_1] 45 (0, 0)) aK) : gb317 ≠ gb316)); clear BK315; clear BK316; clear HB; have BK315 := n0_; have BK316 := n1_; have HB := n2_; have BK317 := n3_; have GW317 := n4_; have GE317 := n5_; have NB315_317 := n6_; have NB317_315 := n7_; have NB316_317 := n8_; have NB317_316 := n9_; clear n0_ n1_ n2_ n3_ n4_ n5_ n6_ n7_ n8_ n9_; clear hb hbox hg; have hnb37 := NB315_316.out; have hnc37 := NB316_315.out; have hnb38 := NB315_317.out; have hnc38 := NB317_315.out; have hcz39_0 : w36.cell? ⟨gb315, 0, none⟩ = some (.slice A0_0 l0_0.length c0_0) := (blk_cell BK315.out 0).trans rfl; have hcz39_1 : w36.cell? ⟨gb315, 1, none⟩ = some (.slice A0_1 l0_1.length c0_1) := (blk_cell BK315.out 1).trans rfl; have hfz39_0 := blk_frozen BK315.out 0; have hfz39_1 := blk_frozen BK315.out 1) | ((with_reducible refine gate_callee (f := 38) rfl ?_); refine goesL_ (some 9) rfl rfl Try.func38 (by kernel_rfl) rfl #[.agg #[.slice A0_0 l0_0.length c0_0, .slice A0_1 l0_1.length c0_1]] rfl (by (try simp only [List.map_toArray, List.map_cons, List.map_nil]); first | done | rfl | (simp only [List.length_drop, List.length_take]; rfl)) ?_; (with_reducible refine (impl_copyDatabase.calls k _ _ l0_0 _ _ l0_1 t318 t321 _ ?side1 ?side2 ?side3 ?side4 A3.out).mono ?_); (case side1 => exact aC); (case side2 => exact HC0_0.out); (case side3 => exact aC); (case side4 => exact HC0_1.out); rintro e w40 ⟨v319, v322, rfl, ho0, ho1, hb⟩; refine ⟨_, rfl, ?_⟩; have n0_ := aM (Kd.R_lower ho0 (below_size aG)); have n1_ := aM (Kd.S_lower (Kd.S_newB ho1 (g := gb316) (o := .cells #[.int .i64 a1_0, .slice A1_1 l1_1.length c1_1] 45 (0, 0)) aK) (below_size aG)); have n2_ := aM (blk_below (g := gb315) (o := .cells #[.slice A0_0 l0_0.length c0_0, .slice A0_1 l0_1.length c0_1] 31 (0, 0)) aK hb); have n3_ := aM (blk_below (g := gb316) (o := .cells #[.int .i64 a1_0, .slice A1_1 l1_1.length c1_1] 45 (0, 0)) aK hb); have n4_ := aM (blk_below (g := gb317) (o := .cells #[.slice none 0 0, .slice none 0 0] 31 (0, 0)) aK hb); have n5_ := aM (below_step aG hb); clear BK315; clear BK316; clear BK317; clear HB; have HO320 := n0_; have HO323 := n1_; have BK315 := n2_; have BK316 := n3_; have BK317 := n4_; have HB := n5_; clear n0_ n1_ n2_ n3_ n4_ n5_; (try clear hb); (try clear hb2); (try clear hk); (try clear hi); (try clear ho0); (try clear ho1)) | ((with_reducible refine gate_dst (N := 6) rfl ?_); refine box_event ?hg (N := 6) ?hd (cs := #[.slice none 0 0, .slice none 0 0]) (t := 31) ?hr ?_; (case hd => rfl); (case hg => rfl); (case hr => first | (go_simp; done) | (go_simp; rfl)); intro gb324 hg w41 hbox hb; have n0_ := aM (Kd.R_below (aR HO320) hb); have n1_ := aM (Kd.S_below (aS HO323) hb); have n2_ := aM (blk_below (g := gb315) (o := .cells #[.slice A0_0 l0_0.length c0_0, .slice A0_1 l0_1.length c0_1] 31 (0, 0)) aK hb); have n3_ := aM (blk_below (g := gb316) (o := .cells #[.int .i64 a1_0, .slice A1_1 l1_1.length c1_1] 45 (0, 0)) aK hb); have n4_ := aM (blk_below (g := gb317) (o := .cells #[.slice none 0 0, .slice none 0 0] 31 (0, 0)) aK hb); have n5_ := aM (below_step aG hb); have n6_ := aM (hbox); have n7_ := aM ((by rw [hg]; exact (below_size aG) : w.heap.size ≤ gb324)); have n8_ := aM ((by rw [hg]; exact (below_size aG) : w.heap.size ≤ gb324)); have n9_ := aM ((by rw [hg]; exact Nat.ne_of_lt (blk_lt (g := gb315) (o := .cells #[.slice A0_0 l0_0.length c0_0, .slice A0_1 l0_1.length c0_1] 31 (0, 0)) aK) : gb315 ≠ gb324)); have n10_ := aM ((by rw [hg]; exact Nat.ne_of_gt (blk_lt (g := gb315) (o := .cells #[.slice A0_0 l0_0.length c0_0, .slice A0_1 l0_1.length c0_1] 31 (0, 0)) aK) : gb324 ≠ gb315)); have n11_ := aM ((by rw [hg]; exact Nat.ne_of_lt (blk_lt (g := gb316) (o := .cells #[.int .i64 a1_0, .slice A1_1 l1_1.length c1_1] 45 (0, 0)) aK) : gb316 ≠ gb324)); have n12_ := aM ((by rw [hg]; exact Nat.ne_of_gt (blk_lt (g := gb316) (o := .cells #[.int .i64 a1_0, .slice A1_1 l1_1.length c1_1] 45 (0, 0)) aK) : gb324 ≠ gb316)); have n13_ := aM ((by rw [hg]; exact Nat.ne_of_lt (blk_lt (g := gb317) (o := .cells #[.slice none 0 0, .slice none 0 0] 31 (0, 0)) aK) : gb317 ≠ gb324)); have n14_ := aM ((by rw [hg]; exact Nat.ne_of_gt (blk_lt (g := gb317) (o := .cells #[.slice none 0 0, .slice none 0 0] 31 (0, 0)) aK) : gb324 ≠ gb317)); clear HO320; clear HO323; clear BK315; clear BK316; clear BK317; clear HB; have HO320 := n0_; have HO323 := n1_; have BK315 := n2_; have BK316 := n3_; have BK317 := n4_; have HB := n5_; have BK324 := n6_; have GW324 := n7_; have GE324 := n8_; have NB315_324 := n9_; have NB324_315 := n10_; have NB316_324 := n11_; have NB324_316 := n12_; have NB317_324 := n13_; have NB324_317 := n14_; clear n0_ n1_ n2_ n3_ n4_ n5_ n6_ n7_ n8_ n9_ n10_ n11_ n12_ n13_ n14_; clear hb hbox hg; obtain ⟨Ao42, co42, eo42⟩ := Kd.R_slice HO320.out; subst eo42; have hnb43 := NB324_315.out; have hnc43 := NB315_324.out; have hnb44 := NB324_316.out; have hnc44 := NB316_324.out; have hnb45 := NB324_317.out; have hnc45 := NB317_324.out; have hcz46_0 : w41.cell? ⟨gb324, 0, none⟩ = some (.slice none 0 0) := (blk_cell BK324.out 0).trans rfl; have hcz46_1 : w41.cell? ⟨gb324, 1, none⟩ = some (.slice none 0 0) := (blk_cell BK324.out 1).trans rfl; have hfz46_0 := blk_frozen BK324.out 0; have hfz46_1 := blk_frozen BK324.out 1; obtain ⟨Ao47, co47, eo47⟩ := Kd.S_slice HO323.out; subst eo47; have hcz48_0 : w41.cell? ⟨gb315, 0, none⟩ = some (.slice A0_0 l0_0.length c0_0) := (blk_cell BK315.out 0).trans rfl; have hcz48_1 : w41.cell? ⟨gb315, 1, none⟩ = some (.slice A0_1 l0_1.length c0_1) := (blk_cell BK315.out 1).trans rfl; have hfz48_0 := blk_frozen BK315.out 0; have hfz48_1 := blk_frozen BK315.out 1; have hnb49 := NB316_317.out; have hnc49 := NB317_316.out; have hcz50_0 : w41.cell? ⟨gb316, 0, none⟩ = some (.int .i64 a1_0) := (blk_cell BK316.out 0).trans rfl; have hcz50_1 : w41.cell? ⟨gb316, 1, none⟩ = some (.slice A1_1 l1_1.length c1_1) := (blk_cell BK316.out 1).trans rfl; have hfz50_0 := blk_frozen BK316.out 0; have hfz50_1 := blk_frozen BK316.out 1) | ((with_reducible refine gate_callee (f := 30) rfl ?_); refine goesL_ (some 12) rfl rfl Try.func30 (by kernel_rfl) rfl #[.agg #[.slice A0_0 l0_0.length c0_0, .slice A0_1 l0_1.length c0_1], .agg #[.int .i64 a1_0, .slice A1_1 l1_1.length c1_1]] rfl (by (try simp only [List.map_toArray, List.map_cons, List.map_nil]); first | done | rfl | (simp only [List.length_drop, List.length_take]; rfl)) ?_; (with_reducible refine (impl_ContainsFact.calls _ _ l0_0 _ _ l0_1 a1_0 _ _ l1_1 false _ ?side1 ?side2 ?side3 ?side4 ?side5 ?side6 A4.out).mono ?_); (case side1 => exact Kd.C_below HR0_0.out aG); (case side2 => exact HC0_0.out); (case side3 => exact Kd.C_below HR0_1.out aG); (case side4 => exact HC0_1.out); (case side5 => exact Kd.C_below HR1_1.out aG); (case side6 => exact HC1_1.out); rintro e w51 ⟨rfl, hb⟩; refine ⟨_, rfl, ?_⟩; have n0_ := aM (Kd.R_below (by (with_reducible repeat (first | apply Kd.R_alloc | apply Kd.R_drewN | apply Kd.R_drew)); exact (Kd.R_mono (Kd.R_far (p := ⟨gb324, 1, none⟩) (Kd.R_far (p := ⟨gb324, 0, none⟩) (Kd.R_types HO320.out BK324.out (by decide)) (fun _ hk => hk.2) (.slice Ao42 t318.length co42)) (fun _ hk => hk.2) (.slice Ao47 t321.length co47)) (fun _ h_ => h_.1))) hb); have n1_ := aM (Kd.S_below (by (with_reducible repeat (first | apply Kd.S_alloc | apply Kd.S_drewN | apply Kd.S_drew)); exact (Kd.S_mono (Kd.S_far (p := ⟨gb324, 1, none⟩) (Kd.S_far (p := ⟨gb324, 0, none⟩) (Kd.S_types HO323.out BK324.out (by decide)) (fun _ hk => hk.2) (.slice Ao42 t318.length co42)) (fun _ hk => hk.2) (.slice Ao47 t321.length co47)) (fun _ h_ => h_.1))) hb); have n2_ := aM (blk_below (g := gb315) (o := .cells #[.slice A0_0 l0_0.length c0_0, .slice A0_1 l0_1.length c0_1] 31 (0, 0)) (by (with_reducible repeat (first | refine blk_drewN ?_ _ | refine blk_drew ?_ | refine blk_alloc ?_ _)); refine blk_far ?_ NB315_324.out _; (with_reducible repeat (first | refine blk_drewN ?_ _ | refine blk_drew ?_ | refine blk_alloc ?_ _)); refine blk_far ?_ NB315_324.out _; (with_reducible repeat (first | refine blk_drewN ?_ _ | refine blk_drew ?_ | refine blk_alloc ?_ _)); exact BK315.out) hb); have n3_ := aM (blk_below (g := gb316) (o := .cells #[.int .i64 a1_0, .slice A1_1 l1_1.length c1_1] 45 (0, 0)) (by (with_reducible repeat (first | refine blk_drewN ?_ _ | refine blk_drew ?_ | refine blk_alloc ?_ _)); refine blk_far ?_ NB316_324.out _; (with_reducible repeat (first | refine blk_drewN ?_ _ | refine blk_drew ?_ | refine blk_alloc ?_ _)); refine blk_far ?_ NB316_324.out _; (with_reducible repeat (first | refine blk_drewN ?_ _ | refine blk_drew ?_ | refine blk_alloc ?_ _)); exact BK316.out) hb); have n4_ := aM (blk_below (g := gb317) (o := .cells #[.slice none 0 0, .slice none 0 0] 31 (0, 0)) (by (with_reducible repeat (first | refine blk_drewN ?_ _ | refine blk_drew ?_ | refine blk_alloc ?_ _)); refine blk_far ?_ NB317_324.out _; (with_reducible repeat (first | refine blk_drewN ?_ _ | refine blk_drew ?_ | refine blk_alloc ?_ _)); refine blk_far ?_ NB317_324.out _; (with_reducible repeat (first | refine blk_drewN ?_ _ | refine blk_drew ?_ | refine blk_alloc ?_ _)); exact BK317.out) hb); have n5_ := aM (blk_below (g := gb324) (o := .cells #[.slice Ao42 t318.length co42, .slice Ao47 t321.length co47] 31 (0, 0)) (by (with_reducible repeat (first | refine blk_drewN ?_ _ | refine blk_drew ?_ | refine blk_alloc ?_ _)); refine blk_put (cs := #[.slice Ao42 t318.length co42, .slice none 0 0]) ?_ 1 _ rfl; (with_reducible repeat (first | refine blk_drewN ?_ _ | refine blk_drew ?_ | refine blk_alloc ?_ _)); refine blk_put (cs := #[.slice none 0 0, .slice none 0 0]) ?_ 0 _ rfl; (with_reducible repeat (first | refine blk_drewN ?_ _ | refine blk_drew ?_ | refine blk_alloc ?_ _)); exact BK324.out) hb); have n6_ := aM (below_step aG hb); clear HO320; clear HO323; clear BK315; clear BK316; clear BK317; clear BK324; clear HB; have HO320 := n0_; have HO323 := n1_; have BK315 := n2_; have BK316 := n3_; have BK317 := n4_; have BK324 := n5_; have HB := n6_; clear n0_ n1_ n2_ n3_ n4_ n5_ n6_; (try clear hb); (try clear hb2); (try clear hk); (try clear hi); have hcz52_0 : w51.cell? ⟨gb324, 0, none⟩ = some (.slice Ao42 t318.length co42) := (blk_cell BK324.out 0).trans rfl; have hcz52_1 : w51.cell? ⟨gb324, 1, none⟩ = some (.slice Ao47 t321.length co47) := (blk_cell BK324.out 1).trans rfl; have hfz52_0 := blk_frozen BK324.out 0; have hfz52_1 := blk_frozen BK324.out 1; have hcz53_0 : w51.cell? ⟨gb317, 0, none⟩ = some (.slice none 0 0) := (blk_cell BK317.out 0).trans rfl; have hcz53_1 : w51.cell? ⟨gb317, 1, none⟩ = some (.slice none 0 0) := (blk_cell BK317.out 1).trans rfl; have hfz53_0 := blk_frozen BK317.out 0; have hfz53_1 := blk_frozen BK317.out 1))
  refine bodyPost_ret (results_ct rfl _ _ gb317 31 #[.slice Ao42 t318.length co42, .slice Ao47 t321.length co47] (0, 0) _ rfl (by (with_reducible repeat (first | refine blk_drewN ?_ _ | refine blk_drew ?_ | refine blk_alloc ?_ _)); refine blk_put (cs := #[.slice Ao42 t318.length co42, .slice none 0 0]) ?_ 1 _ rfl; (with_reducible repeat (first | refine blk_drewN ?_ _ | refine blk_drew ?_ | refine blk_alloc ?_ _)); refine blk_put (cs := #[.slice none 0 0, .slice none 0 0]) ?_ 0 _ rfl; (with_reducible repeat (first | refine blk_drewN ?_ _ | refine blk_drew ?_ | refine blk_alloc ?_ _)); exact BK317.out) Try.underlying31 rfl (by kernel_rfl)) rfl ?_
  exact ⟨_, _, by first | rfl | (simp [errW_none, errW_some] <;> rfl) | (simp [*, errW_none, errW_some] <;> rfl), by (with_reducible repeat (first | apply Kd.R_alloc | apply Kd.R_drewN | apply Kd.R_drew)); exact Kd.R_mono (Kd.R_far (p := ⟨gb317, 1, none⟩) (Kd.R_far (p := ⟨gb317, 0, none⟩) (Kd.R_types HO320.out BK317.out (by decide)) (fun _ hk => hk.2) (.slice Ao42 t318.length co42)) (fun _ hk => hk.2) (.slice Ao47 t321.length co47)) (fun _ hk => trivial), by (with_reducible repeat (first | apply Kd.S_alloc | apply Kd.S_drewN | apply Kd.S_drew)); exact Kd.S_mono (Kd.S_far (p := ⟨gb317, 1, none⟩) (Kd.S_far (p := ⟨gb317, 0, none⟩) (Kd.S_types HO323.out BK317.out (by decide)) (fun _ hk => hk.2) (.slice Ao42 t318.length co42)) (fun _ hk => hk.2) (.slice Ao47 t321.length co47)) (fun _ hk => trivial), by repeat (first | (with_reducible first | exact HB.out | apply below_alloc | apply pw_below_drewN | apply below_drew1 | refine below_set ?_ GE315.out | refine below_set ?_ GE316.out | refine below_set ?_ GE317.out | refine below_set ?_ GE324.out) | exact HB.out)⟩


end Go.Proofs.Yteddnlklfjpgoaa.PFnExactDeleteFact
