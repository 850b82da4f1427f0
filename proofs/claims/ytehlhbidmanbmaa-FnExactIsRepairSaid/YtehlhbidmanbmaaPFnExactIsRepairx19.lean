-- Laid by a program of this claim: what the functions come to, some of them proved by hand.
import Derived.Test.YtehlhbidmanbmaaPFnExactIsRepairx0
namespace Go.Proofs.Ytehlhbidmanbmaa.PFnExactIsRepair
open Go.RowKit Go.Proofs.YtehlhbidmanbmaaW.PrintWords Go.Proofs.YtehlhbidmanbmaaW.PrintLast Go.Proofs.YtehlhbidmanbmaaW.PrintMore
attribute [local go_sem] max2_int min2_int max_two min_two max_three min_three max_four min_four   -- for this text's walks alone
set_option linter.unusedVariables false
set_option linter.unusedSimpArgs false

/-! ### impl_copyDatabase: function 71 -/
def impl_copyDatabase.l0 : Nat → List (S50) → Int → Int → List (S86) → List (S50) → Option ((List (S86)) × (List (S50)))
 | 0, _, _, _, _, _ => none
 | k + 1, x13, x14, x15, x318000, x318001 => if x15 < x14 then (if 0 ≤ x15 then (if x15 < (x13.length : Int) then ((some (([] : List Int) : List Int)).bind fun y320 => (if y320.length + ((rd_T50 x13 x15).f1).length < 17592186044416 then (if x318001.length < 4398046511104 then (impl_copyDatabase.l0 k x13 x14 (wrap64 (x15 + 1)) x318000 (x318001 ++ [(⟨(rd_T50 x13 x15).f0, (y320 ++ ((rd_T50 x13 x15).f1))⟩ : S50)])) else (none)) else (none))) else (none)) else (none)) else (some (x318000, x318001))
def impl_copyDatabase.f (k : Nat) (l0_0 : List (S86)) (l0_1 : List (S50)) : Option ((List (S86)) × (List (S50))) := (some (([] : List (S86)) : List (S86))).bind fun y308 => (if y308.length + l0_0.length < 4398046511104 then (impl_copyDatabase.l0 k l0_1 (l0_1.length : Int) 0 (y308 ++ l0_0) (([] : List (S50)))) else (none))
theorem impl_copyDatabase.mono_l : ∀ k, (∀ y0 y1 y2 y3 y4, LeO (impl_copyDatabase.l0 k y0 y1 y2 y3 y4) (impl_copyDatabase.l0 (k + 1) y0 y1 y2 y3 y4))
 | 0 => fun _ _ _ _ _ r h => by simp [impl_copyDatabase.l0] at h
 | k + 1 => by
  have ih0 := impl_copyDatabase.mono_l k
  ·intro y0 y1 y2 y3 y4
   unfold impl_copyDatabase.l0
   repeat' first
   | (with_reducible exact ih0 _ _ _ _ _)
   | (with_reducible exact LeO.refl _)
   | (with_reducible exact LeO.none _)
   | (with_reducible refine LeO.ite ?_ ?_)
   | (with_reducible refine LeO.bind ?_ (fun _ => ?_))
   | exact ih0 _ _ _ _ _
   | exact LeO.none _
   | refine LeO.ite ?_ ?_
   | refine LeO.bind ?_ (fun _ => ?_)
theorem impl_copyDatabase.mono : ∀ a0 a1 k, LeO (impl_copyDatabase.f k a0 a1) (impl_copyDatabase.f (k + 1) a0 a1) := by
 intro a0 a1 k
 have ih0 := impl_copyDatabase.mono_l k
 unfold impl_copyDatabase.f
 repeat' first
   | (with_reducible exact ih0 _ _ _ _ _)
   | (with_reducible exact LeO.refl _)
   | (with_reducible exact LeO.none _)
   | (with_reducible refine LeO.ite ?_ ?_)
   | (with_reducible refine LeO.bind ?_ (fun _ => ?_))
   | exact ih0 _ _ _ _ _
   | exact LeO.none _
   | refine LeO.ite ?_ ?_
   | refine LeO.bind ?_ (fun _ => ?_)
def impl_copyDatabase.T5 : Bool × List (List Nat × List Nat) := (true, [([], []), ([0], [0]), ([], []), ([2], [2]), ([], []), ([], []), ([5], [5]), ([4, 6], [4, 6]), ([3, 7], [3, 7]), ([8], [8]), ([1, 9, 7], [1, 9]), ([0, 1, 2, 3, 4, 5, 6, 7, 8, 9, 10], []), ([11, 10, 10, 0, 1, 2, 3, 4, 5, 6, 7, 8, 9, 10], [10, 11])])
def impl_copyDatabase.B5 : List Nat := [0, 1, 0, 4, 0, 0, 32, 112, 252, 508, 1023, 2047, 4095]
theorem impl_copyDatabase.tab5 : rtab .any (opsOf Try.f71 5) = impl_copyDatabase.T5 := by kernel_rfl
theorem impl_copyDatabase.bits5 : waitsOk impl_copyDatabase.T5.2 impl_copyDatabase.B5 = true := by kernel_rfl
set_option maxHeartbeats 8000000 in
set_option maxRecDepth 100000 in
theorem impl_copyDatabase.calls (k : Nat) (A0_0 : Option Addr) (c0_0 : Nat) (l0_0 : List (S86)) (A0_1 : Option Addr) (c0_1 : Nat) (l0_1 : List (S50)) (r1 : List (S86)) (r2 : List (S50)) (w : World) (hr0_0 : Kd.C k86 w A0_0 l0_0.length l0_0) (hc0_0 : l0_0.length ≤ c0_0) (hr0_1 : Kd.C k50 w A0_1 l0_1.length l0_1) (hc0_1 : l0_1.length ≤ c0_1) (h : impl_copyDatabase.f k l0_0 l0_1 = some (r1, r2)) :
  Calls Try.prog 71 #[.agg #[.slice A0_0 l0_0.length c0_0, .slice A0_1 l0_1.length c0_1]] w fun e w' => ∃ v0_ v1_ : Value, e = .returned (.agg #[v0_, v1_]) ∧ Kd.R k86 86 w' w.heap.size (fun _ => True) v0_ r1 ∧ Kd.S k50 50 w' w.heap.size (fun _ => True) v1_ r2 ∧ Below w.heap.size w w' := by
 have hu32 := Try.underlying32
 have hu50 := Try.underlying50
 have HR0_0 := Aside0.mk hr0_0
 have HC0_0 := Aside0.mk hc0_0
 clear hr0_0 hc0_0
 have HR0_1 := Aside0.mk hr0_1
 have HC0_1 := Aside0.mk hc0_1
 clear hr0_1 hc0_1
 have HB := Aside0.mk (Below.refl w.heap.size w)
 have H : ((some (([] : List (S86)) : List (S86))).bind fun y308 => (if y308.length + l0_0.length < 4398046511104 then (impl_copyDatabase.l0 k l0_1 (l0_1.length : Int) 0 (y308 ++ l0_0) (([] : List (S50)))) else (none))) = some (r1, r2) := h
 clear h
 obtain ⟨y308, hy308⟩ : ∃ y_ : List (S86), y_ = (([] : List (S86))) := ⟨_, rfl⟩
 replace H : (if y308.length + l0_0.length < 4398046511104 then (impl_copyDatabase.l0 k l0_1 (l0_1.length : Int) 0 (y308 ++ l0_0) (([] : List (S50)))) else (none)) = some (r1, r2) := by first | (rw [hy308]; with_reducible exact H) | (have H2_ := (Option.bind_some _ _).symm.trans H; rw [hy308]; with_reducible exact H2_) | (have H2_ := (Option.bind_some _ _).symm.trans H; with_reducible exact H2_) | with_reducible exact H | (rw [hy308]; exact H) | exact H
 have Ny308 := Aside0.mk hy308
 clear hy308
 by_cases c2 : y308.length + l0_0.length < 4398046511104
 ·rw [if_pos c2] at H
  have LMc2 := Aside0.mk c2
  clear c2
  obtain ⟨y311, hy311⟩ : ∃ y_ : List (S86), y_ = (y308 ++ l0_0) := ⟨_, rfl⟩
  replace H : (impl_copyDatabase.l0 k l0_1 (l0_1.length : Int) 0 y311 (([] : List (S50)))) = some (r1, r2) := by first | (rw [hy311]; with_reducible exact H) | (have H2_ := (Option.bind_some _ _).symm.trans H; rw [hy311]; with_reducible exact H2_) | (have H2_ := (Option.bind_some _ _).symm.trans H; with_reducible exact H2_) | with_reducible exact H | (rw [hy311]; exact H) | exact H
  have Ny311 := Aside0.mk hy311
  clear hy311
  obtain ⟨y314, hy314⟩ : ∃ y_ : List (S50), y_ = (([] : List (S50))) := ⟨_, rfl⟩
  replace H : (impl_copyDatabase.l0 k l0_1 (l0_1.length : Int) 0 y311 y314) = some (r1, r2) := by first | (rw [hy314]; with_reducible exact H) | (have H2_ := (Option.bind_some _ _).symm.trans H; rw [hy314]; with_reducible exact H2_) | (have H2_ := (Option.bind_some _ _).symm.trans H; with_reducible exact H2_) | with_reducible exact H | (rw [hy314]; exact H) | exact H
  have Ny314 := Aside0.mk hy314
  clear hy314
  have H' := Aside0.mk H
  clear H
  go_enter Try.func71, Try.ntmps71
  go_wp2_with (first | ((with_reducible refine gate_dst (N := 1) rfl ?_); refine box_event ?hg (N := 1) ?hd (cs := #[.slice A0_0 l0_0.length c0_0, .slice A0_1 l0_1.length c0_1]) (t := 32) ?hr ?_; (case hd => rfl); (case hg => rfl); (case hr => first | (go_simp; done) | (go_simp; rfl)); intro gb306 hg w3 hbox hb; have n0_ := Aside0.mk (below_step aB hb); have n1_ := Aside0.mk (hbox); have n2_ := Aside0.mk ((by rw [hg]; exact (below_size aB) : w.heap.size ≤ gb306)); have n3_ := Aside0.mk ((by rw [hg]; exact (below_size aB) : w.heap.size ≤ gb306)); clear HB; have HB := n0_; have BK306 := n1_; have GW306 := n2_; have GE306 := n3_; clear n0_ n1_ n2_ n3_; clear hb hbox hg) | ((with_reducible refine gate_dst (N := 2) rfl ?_); refine box_event ?hg (N := 2) ?hd (cs := #[.slice none 0 0, .slice none 0 0]) (t := 32) ?hr ?_; (case hd => rfl); (case hg => rfl); (case hr => first | (go_simp; done) | (go_simp; rfl)); intro gb307 hg w4 hbox hb; have n0_ := Aside0.mk (blk_below (g := gb306) (o := .cells #[.slice A0_0 l0_0.length c0_0, .slice A0_1 l0_1.length c0_1] 32 (0, 0)) aK hb); have n1_ := Aside0.mk (below_step aG hb); have n2_ := Aside0.mk (hbox); have n3_ := Aside0.mk ((by rw [hg]; exact (below_size aG) : w.heap.size ≤ gb307)); have n4_ := Aside0.mk ((by rw [hg]; exact (below_size aG) : w.heap.size ≤ gb307)); have n5_ := Aside0.mk ((by rw [hg]; exact Nat.ne_of_lt (blk_lt (g := gb306) (o := .cells #[.slice A0_0 l0_0.length c0_0, .slice A0_1 l0_1.length c0_1] 32 (0, 0)) aK) : gb306 ≠ gb307)); have n6_ := Aside0.mk ((by rw [hg]; exact Nat.ne_of_gt (blk_lt (g := gb306) (o := .cells #[.slice A0_0 l0_0.length c0_0, .slice A0_1 l0_1.length c0_1] 32 (0, 0)) aK) : gb307 ≠ gb306)); clear BK306; clear HB; have BK306 := n0_; have HB := n1_; have BK307 := n2_; have GW307 := n3_; have GE307 := n4_; have NB306_307 := n5_; have NB307_306 := n6_; clear n0_ n1_ n2_ n3_ n4_ n5_ n6_; clear hb hbox hg) | ((with_reducible refine gate_dst (N := 6) rfl ?_); refine Kd.R_lit k86 _ 86 ?hg (N := 6) ?hd (xs := ([] : List (S86))) (inner := []) (ok := fun _ => True) (okp := fun _ => True) ?hr ?hp (fun _ hk => hk) trivial (Below.refl _ _) (Nat.le_refl _) (by simp) ?_; (case hd => rfl); (case hg => rfl); (case hr => first | (go_simp; done) | (go_simp; rfl)); (case hp => exact (Reps.none _ _)); intro v309 w5 ho6 hb hg_ hnew_; clear hg_ hnew_; (first | rw [← Ny308.out] at ho6 | (simp only [Int.reduceToNat] at ho6; rw [← Ny308.out] at ho6)); have n0_ := Aside0.mk (Kd.R_lower ho6 (below_size aG)); have n1_ := Aside0.mk (blk_below (g := gb306) (o := .cells #[.slice A0_0 l0_0.length c0_0, .slice A0_1 l0_1.length c0_1] 32 (0, 0)) aK hb); have n2_ := Aside0.mk (blk_below (g := gb307) (o := .cells #[.slice none 0 0, .slice none 0 0] 32 (0, 0)) aK hb); have n3_ := Aside0.mk (below_step aG hb); clear BK306; clear BK307; clear HB; have HO310 := n0_; have BK306 := n1_; have BK307 := n2_; have HB := n3_; clear n0_ n1_ n2_ n3_; clear hb ho6; have hnb7 := NB306_307.out; have hnc7 := NB307_306.out; have hcz8_0 : w5.cell? ⟨gb306, 0, none⟩ = some (.slice A0_0 l0_0.length c0_0) := (blk_cell BK306.out 0).trans rfl; have hcz8_1 : w5.cell? ⟨gb306, 1, none⟩ = some (.slice A0_1 l0_1.length c0_1) := (blk_cell BK306.out 1).trans rfl; have hfz8_0 := blk_frozen BK306.out 0; have hfz8_1 := blk_frozen BK306.out 1) | ((with_reducible refine gate_builtin (b := .append) (xs := #[.tmp 6, .tmp 8]) rfl ?_); at_builtin; refine Kd.R_append_rows k86 (w0 := w) w.heap.size rfl (.tmp 6) (.tmp 8) 29 86 (.agg #[(.string ⟨#[]⟩), (.int .i64 0), (.int .i64 0)]) 32 rfl Try.underlying29 info86 rfl (by decide) (by omega) v309 y308 l0_0 _ _ _ (fun _ => True) (fun _ => False) rfl rfl ?aO ?aR (fun _ _ h => h) (fun _ h => h.elim) ?aF ?aB ?aS ?aL ?_; (case aR => exact aC); (case aB => exact aG); (case aF => exact (fun _ _ => trivial)); (case aO => exact (by (with_reducible repeat (first | apply Kd.R_alloc | apply Kd.R_drewN | apply Kd.R_drew)); exact HO310.out)); (case aS => exact (below_size aG)); (case aL => have := LMc2.out; omega); intro v312 w9 ho hb hg hat; rw [← Ny311.out] at ho; have n0_ := Aside0.mk (blk_grown (g := gb306) (o := .cells #[.slice A0_0 l0_0.length c0_0, .slice A0_1 l0_1.length c0_1] 32 (0, 0)) aK hg (Kd.R_ne HO310.out BK306.out (by decide))); have n1_ := Aside0.mk (blk_grown (g := gb307) (o := .cells #[.slice none 0 0, .slice none 0 0] 32 (0, 0)) aK hg (Kd.R_ne HO310.out BK307.out (by decide))); have n2_ := Aside0.mk (hb); have n3_ := Aside0.mk (ho); clear BK306; clear BK307; clear HB; clear HO310; have BK306 := n0_; have BK307 := n1_; have HB := n2_; have HO313 := n3_; clear n0_ n1_ n2_ n3_; clear ho hb hg hat) | ((with_reducible refine gate_dst (N := 10) rfl ?_); refine Kd.S_lit k50 _ 50 ?hg (N := 10) ?hd (xs := ([] : List (S50))) (inner := []) (ok := fun _ => True) (okp := fun _ => True) ?hr ?hp (fun _ hk => hk) trivial (Below.refl _ _) (Nat.le_refl _) (by simp) ?_; (case hd => rfl); (case hg => rfl); (case hr => first | (go_simp; done) | (go_simp; rfl)); (case hp => exact (Reps.none _ _)); intro v315 w10 ho11 hb hg_ hnew_; clear hg_ hnew_; (first | rw [← Ny314.out] at ho11 | (simp only [Int.reduceToNat] at ho11; rw [← Ny314.out] at ho11)); have n0_ := Aside0.mk (Kd.R_below (by (with_reducible repeat (first | apply Kd.R_alloc | apply Kd.R_drewN | apply Kd.R_drew)); exact HO313.out) hb); have n1_ := Aside0.mk (Kd.S_lower ho11 (below_size aG)); have n2_ := Aside0.mk (blk_below (g := gb306) (o := .cells #[.slice A0_0 l0_0.length c0_0, .slice A0_1 l0_1.length c0_1] 32 (0, 0)) aK hb); have n3_ := Aside0.mk (blk_below (g := gb307) (o := .cells #[.slice none 0 0, .slice none 0 0] 32 (0, 0)) aK hb); have n4_ := Aside0.mk (below_step aG hb); clear HO313; clear BK306; clear BK307; clear HB; have HO313 := n0_; have HO316 := n1_; have BK306 := n2_; have BK307 := n3_; have HB := n4_; clear n0_ n1_ n2_ n3_ n4_; clear hb ho11; obtain ⟨Ao12, co12, eo12⟩ := Kd.S_slice HO316.out; subst eo12; obtain ⟨Ao13, co13, eo13⟩ := Kd.R_slice HO313.out; subst eo13) | ((with_reducible refine gate_dst (N := 3) rfl ?_); refine box_event ?hg (N := 3) ?hd (cs := #[.slice none 0 0, .slice none 0 0]) (t := 32) ?hr ?_; (case hd => rfl); (case hg => rfl); (case hr => first | (go_simp; done) | (go_simp; rfl)); intro gb317 hg w14 hbox hb; have n0_ := Aside0.mk (Kd.R_below (by (with_reducible repeat (first | apply Kd.R_alloc | apply Kd.R_drewN | apply Kd.R_drew)); exact HO313.out) hb); have n1_ := Aside0.mk (Kd.S_below (by (with_reducible repeat (first | apply Kd.S_alloc | apply Kd.S_drewN | apply Kd.S_drew)); exact HO316.out) hb); have n2_ := Aside0.mk (blk_below (g := gb306) (o := .cells #[.slice A0_0 l0_0.length c0_0, .slice A0_1 l0_1.length c0_1] 32 (0, 0)) aK hb); have n3_ := Aside0.mk (blk_below (g := gb307) (o := .cells #[.slice none 0 0, .slice none 0 0] 32 (0, 0)) aK hb); have n4_ := Aside0.mk (below_step aG hb); have n5_ := Aside0.mk (hbox); have n6_ := Aside0.mk ((by rw [hg]; exact (below_size aG) : w.heap.size ≤ gb317)); have n7_ := Aside0.mk ((by rw [hg]; exact (below_size aG) : w.heap.size ≤ gb317)); have n8_ := Aside0.mk ((by rw [hg]; exact Nat.ne_of_lt (blk_lt (g := gb306) (o := .cells #[.slice A0_0 l0_0.length c0_0, .slice A0_1 l0_1.length c0_1] 32 (0, 0)) aK) : gb306 ≠ gb317)); have n9_ := Aside0.mk ((by rw [hg]; exact Nat.ne_of_gt (blk_lt (g := gb306) (o := .cells #[.slice A0_0 l0_0.length c0_0, .slice A0_1 l0_1.length c0_1] 32 (0, 0)) aK) : gb317 ≠ gb306)); have n10_ := Aside0.mk ((by rw [hg]; exact Nat.ne_of_lt (blk_lt (g := gb307) (o := .cells #[.slice none 0 0, .slice none 0 0] 32 (0, 0)) aK) : gb307 ≠ gb317)); have n11_ := Aside0.mk ((by rw [hg]; exact Nat.ne_of_gt (blk_lt (g := gb307) (o := .cells #[.slice none 0 0, .slice none 0 0] 32 (0, 0)) aK) : gb317 ≠ gb307)); clear HO313; clear HO316; clear BK306; clear BK307; clear HB; have HO313 := n0_; have HO316 := n1_; have BK306 := n2_; have BK307 := n3_; have HB := n4_; have BK317 := n5_; have GW317 := n6_; have GE317 := n7_; have NB306_317 := n8_; have NB317_306 := n9_; have NB307_317 := n10_; have NB317_307 := n11_; clear n0_ n1_ n2_ n3_ n4_ n5_ n6_ n7_ n8_ n9_ n10_ n11_; clear hb hbox hg; have hnb15 := NB317_306.out; have hnc15 := NB306_317.out; have hnb16 := NB317_307.out; have hnc16 := NB307_317.out; have hcz17_0 : w14.cell? ⟨gb317, 0, none⟩ = some (.slice none 0 0) := (blk_cell BK317.out 0).trans rfl; have hcz17_1 : w14.cell? ⟨gb317, 1, none⟩ = some (.slice none 0 0) := (blk_cell BK317.out 1).trans rfl; have hfz17_0 := blk_frozen BK317.out 0; have hfz17_1 := blk_frozen BK317.out 1; have hcz18_0 : w14.cell? ⟨gb306, 0, none⟩ = some (.slice A0_0 l0_0.length c0_0) := (blk_cell BK306.out 0).trans rfl; have hcz18_1 : w14.cell? ⟨gb306, 1, none⟩ = some (.slice A0_1 l0_1.length c0_1) := (blk_cell BK306.out 1).trans rfl; have hfz18_0 := blk_frozen BK306.out 0; have hfz18_1 := blk_frozen BK306.out 1))
  go_loopg [15] k (fun kq v15 w' => ∃ (x15_1 : Int) (x318001_1 : List (S50)) (u318001 : Value), v15 = .int .i64 x15_1 ∧ Aside0 (impl_copyDatabase.l0 kq l0_1 (l0_1.length : Int) x15_1 y311 x318001_1 = some (r1, r2)) ∧ Aside0 (kq ≤ k) ∧ Aside0 (Kd.R k86 86 w' w.heap.size (fun _ => True) (.slice Ao13 y311.length co13) y311) ∧ Aside0 (Kd.S k50 50 w' w.heap.size (fun _ => True) u318001 x318001_1) ∧ Aside0 (w'.heap[gb306]? = some (.cells #[(.slice A0_0 l0_0.length c0_0), (.slice A0_1 l0_1.length c0_1)] 32 (0, 0))) ∧ Aside0 (w'.heap[gb307]? = some (.cells #[(.slice none 0 0), (.slice none 0 0)] 32 (0, 0))) ∧ Aside0 (w'.heap[gb317]? = some (.cells #[(.slice Ao13 y311.length co13), u318001] 32 (0, 0))) ∧ Aside0 (Below w.heap.size w w'))
  case atStart => exact ⟨(0), (y314), (.slice Ao12 y314.length co12), (by first | rfl | (simp; done) | (simp [*]; done)), H', ⟨Nat.le_refl _⟩, ⟨by (with_reducible repeat (first | apply Kd.R_alloc | apply Kd.R_drewN | apply Kd.R_drew)); exact Kd.R_mono (Kd.R_far (p := ⟨gb317, 1, none⟩) (Kd.R_far (p := ⟨gb317, 0, none⟩) (Kd.R_types HO313.out BK317.out (by decide)) (fun _ hk => hk.2) (.slice Ao13 y311.length co13)) (fun _ hk => hk.2) (.slice Ao12 y314.length co12)) (fun _ hk => trivial)⟩, ⟨by (with_reducible repeat (first | apply Kd.S_alloc | apply Kd.S_drewN | apply Kd.S_drew)); exact Kd.S_mono (Kd.S_far (p := ⟨gb317, 1, none⟩) (Kd.S_far (p := ⟨gb317, 0, none⟩) (Kd.S_types HO316.out BK317.out (by decide)) (fun _ hk => hk.2) (.slice Ao13 y311.length co13)) (fun _ hk => hk.2) (.slice Ao12 y314.length co12)) (fun _ hk => trivial)⟩, ⟨by (with_reducible repeat (first | refine blk_drewN ?_ _ | refine blk_drew ?_ | refine blk_alloc ?_ _)); refine blk_far ?_ NB306_317.out _; (with_reducible repeat (first | refine blk_drewN ?_ _ | refine blk_drew ?_ | refine blk_alloc ?_ _)); refine blk_far ?_ NB306_317.out _; (with_reducible repeat (first | refine blk_drewN ?_ _ | refine blk_drew ?_ | refine blk_alloc ?_ _)); exact BK306.out⟩, ⟨by (with_reducible repeat (first | refine blk_drewN ?_ _ | refine blk_drew ?_ | refine blk_alloc ?_ _)); refine blk_far ?_ NB307_317.out _; (with_reducible repeat (first | refine blk_drewN ?_ _ | refine blk_drew ?_ | refine blk_alloc ?_ _)); refine blk_far ?_ NB307_317.out _; (with_reducible repeat (first | refine blk_drewN ?_ _ | refine blk_drew ?_ | refine blk_alloc ?_ _)); exact BK307.out⟩, ⟨by (with_reducible repeat (first | refine blk_drewN ?_ _ | refine blk_drew ?_ | refine blk_alloc ?_ _)); refine blk_put (cs := #[.slice Ao13 y311.length co13, .slice none 0 0]) ?_ 1 _ rfl; (with_reducible repeat (first | refine blk_drewN ?_ _ | refine blk_drew ?_ | refine blk_alloc ?_ _)); refine blk_put (cs := #[.slice none 0 0, .slice none 0 0]) ?_ 0 _ rfl; (with_reducible repeat (first | refine blk_drewN ?_ _ | refine blk_drew ?_ | refine blk_alloc ?_ _)); exact BK317.out⟩, ⟨by repeat (first | (with_reducible first | exact HB.out | apply below_alloc | apply pw_below_drewN | apply below_drew1 | refine below_set ?_ GE306.out | refine below_set ?_ GE307.out | refine below_set ?_ GE317.out) | exact HB.out)⟩⟩
  case round =>
   clear H'
   try clear c1
   try clear c2
   try clear p2
   try clear c7
   try clear c15
   try clear c16
   try clear hcz17_0
   try clear hcz17_1
   try clear hcz18_0
   try clear hcz18_1
   try clear hcz8_0
   try clear hcz8_1
   try clear hfz17_0
   try clear hfz17_1
   try clear hfz18_0
   try clear hfz18_1
   try clear hfz8_0
   try clear hfz8_1
   obtain ⟨x15_1, x318001_1, u318001, rfl, HA, HK1, HO_318000, HO_318001, BK306, BK307, BK317, HB⟩ := hrel
   cases gk with
   | zero => exact absurd HA.out (by simp [impl_copyDatabase.l0])
   | succ k1 =>
    have H := HA.out
    clear HA
    simp only [impl_copyDatabase.l0] at H
    by_cases c19 : x15_1 < (l0_1.length : Int)
    ·rw [if_pos c19] at H
     have c19b0 : decide (x15_1 < (l0_1.length : Int)) = true := decide_eq_true c19
     clear c19
     by_cases c20 : 0 ≤ x15_1
     ·rw [if_pos c20] at H
      have c20b0 : decide (0 ≤ x15_1) = true := decide_eq_true c20
      clear c20
      by_cases c21 : x15_1 < (l0_1.length : Int)
      ·rw [if_pos c21] at H
       have c21b0 : decide (x15_1 < (l0_1.length : Int)) = true := decide_eq_true c21
       clear c21
       obtain ⟨y320, hy320⟩ : ∃ y_ : List Int, y_ = (([] : List Int)) := ⟨_, rfl⟩
       replace H : (if y320.length + ((rd_T50 l0_1 x15_1).f1).length < 17592186044416 then (if x318001_1.length < 4398046511104 then (impl_copyDatabase.l0 k1 l0_1 (l0_1.length : Int) (wrap64 (x15_1 + 1)) y311 (x318001_1 ++ [(⟨(rd_T50 l0_1 x15_1).f0, (y320 ++ ((rd_T50 l0_1 x15_1).f1))⟩ : S50)])) else (none)) else (none)) = some (r1, r2) := by first | (rw [hy320]; with_reducible exact H) | (have H2_ := (Option.bind_some _ _).symm.trans H; rw [hy320]; with_reducible exact H2_) | (have H2_ := (Option.bind_some _ _).symm.trans H; with_reducible exact H2_) | with_reducible exact H | (rw [hy320]; exact H) | exact H
       have Ny320 := Aside0.mk hy320
       clear hy320
       by_cases c22 : y320.length + ((rd_T50 l0_1 x15_1).f1).length < 17592186044416
       ·rw [if_pos c22] at H
        have LMc22 := Aside0.mk c22
        clear c22
        obtain ⟨y323, hy323⟩ : ∃ y_ : List Int, y_ = (y320 ++ ((rd_T50 l0_1 x15_1).f1)) := ⟨_, rfl⟩
        replace H : (if x318001_1.length < 4398046511104 then (impl_copyDatabase.l0 k1 l0_1 (l0_1.length : Int) (wrap64 (x15_1 + 1)) y311 (x318001_1 ++ [(⟨(rd_T50 l0_1 x15_1).f0, y323⟩ : S50)])) else (none)) = some (r1, r2) := by first | (rw [hy323]; with_reducible exact H) | (have H2_ := (Option.bind_some _ _).symm.trans H; rw [hy323]; with_reducible exact H2_) | (have H2_ := (Option.bind_some _ _).symm.trans H; with_reducible exact H2_) | with_reducible exact H | (rw [hy323]; exact H) | exact H
        have Ny323 := Aside0.mk hy323
        clear hy323
        by_cases c23 : x318001_1.length < 4398046511104
        ·rw [if_pos c23] at H
         have LMc23 := Aside0.mk c23
         clear c23
         obtain ⟨y326, hy326⟩ : ∃ y_ : List (S50), y_ = (x318001_1 ++ [(⟨(rd_T50 l0_1 x15_1).f0, y323⟩ : S50)]) := ⟨_, rfl⟩
         replace H : (impl_copyDatabase.l0 k1 l0_1 (l0_1.length : Int) (wrap64 (x15_1 + 1)) y311 y326) = some (r1, r2) := by first | (rw [hy326]; with_reducible exact H) | (have H2_ := (Option.bind_some _ _).symm.trans H; rw [hy326]; with_reducible exact H2_) | (have H2_ := (Option.bind_some _ _).symm.trans H; with_reducible exact H2_) | with_reducible exact H | (rw [hy326]; exact H) | exact H
         have Ny326 := Aside0.mk hy326
         clear hy326
         have H' := Aside0.mk H
         clear H
         have p318 : 0 ≤ (x15_1 : Int) := aD
         have q318 : x15_1 < (l0_1.length : Int) := aD
         obtain ⟨ad318, A318_1, c318_1, e318, hx318_0, hx318_1, hl318_1, hi318_1⟩ := at_T50 HR0_1.out x15_1 p318 q318
         cases e318
         replace hx318_0 := (HB.out.cell (World.block_lt_of_cell? w _ hx318_0)).trans hx318_0
         replace hx318_1 := (HB.out.cell (World.block_lt_of_cell? w _ hx318_1)).trans hx318_1
         have HR318_1 := Aside0.mk hi318_1
         have HC318_1 := Aside0.mk hl318_1
         clear hi318_1 hl318_1
         replace p318 := eq_true p318
         replace q318 := eq_true q318
         try go_wp2_with (first | ((with_reducible refine gate_dst (N := 5) rfl ?_); refine box_event ?hg (N := 5) ?hd (cs := #[.int .i64 0, .slice none 0 0]) (t := 50) ?hr ?_; (case hd => rfl); (case hg => rfl); (case hr => first | (go_simp; done) | (go_simp; rfl)); intro gb319 hg w24 hbox hb; have n0_ := Aside0.mk (Kd.R_below (by (with_reducible repeat (first | apply Kd.R_alloc | apply Kd.R_drewN | apply Kd.R_drew)); exact HO_318000.out) hb); have n1_ := Aside0.mk (Kd.S_below (Kd.S_elderB (by (with_reducible repeat (first | apply Kd.S_alloc | apply Kd.S_drewN | apply Kd.S_drew)); exact HO_318001.out) gb319 (Nat.le_of_eq hg.symm)) hb); have n2_ := Aside0.mk (blk_below (g := gb306) (o := .cells #[.slice A0_0 l0_0.length c0_0, .slice (some ad318) l0_1.length c0_1] 32 (0, 0)) aK hb); have n3_ := Aside0.mk (blk_below (g := gb307) (o := .cells #[.slice none 0 0, .slice none 0 0] 32 (0, 0)) aK hb); have n4_ := Aside0.mk (blk_below (g := gb317) (o := .cells #[.slice Ao13 y311.length co13, u318001] 32 (0, 0)) aK hb); have n5_ := Aside0.mk (below_step aG hb); have n6_ := Aside0.mk (hbox); have n7_ := Aside0.mk ((by rw [hg]; exact (below_size aG) : w.heap.size ≤ gb319)); have n8_ := Aside0.mk ((by rw [hg]; exact (below_size aG) : w.heap.size ≤ gb319)); have n9_ := Aside0.mk ((by rw [hg]; exact Nat.ne_of_lt (blk_lt (g := gb306) (o := .cells #[.slice A0_0 l0_0.length c0_0, .slice (some ad318) l0_1.length c0_1] 32 (0, 0)) aK) : gb306 ≠ gb319)); have n10_ := Aside0.mk ((by rw [hg]; exact Nat.ne_of_gt (blk_lt (g := gb306) (o := .cells #[.slice A0_0 l0_0.length c0_0, .slice (some ad318) l0_1.length c0_1] 32 (0, 0)) aK) : gb319 ≠ gb306)); have n11_ := Aside0.mk ((by rw [hg]; exact Nat.ne_of_lt (blk_lt (g := gb307) (o := .cells #[.slice none 0 0, .slice none 0 0] 32 (0, 0)) aK) : gb307 ≠ gb319)); have n12_ := Aside0.mk ((by rw [hg]; exact Nat.ne_of_gt (blk_lt (g := gb307) (o := .cells #[.slice none 0 0, .slice none 0 0] 32 (0, 0)) aK) : gb319 ≠ gb307)); have n13_ := Aside0.mk ((by rw [hg]; exact Nat.ne_of_lt (blk_lt (g := gb317) (o := .cells #[.slice Ao13 y311.length co13, u318001] 32 (0, 0)) aK) : gb317 ≠ gb319)); have n14_ := Aside0.mk ((by rw [hg]; exact Nat.ne_of_gt (blk_lt (g := gb317) (o := .cells #[.slice Ao13 y311.length co13, u318001] 32 (0, 0)) aK) : gb319 ≠ gb317)); clear HO_318000; clear HO_318001; clear BK306; clear BK307; clear BK317; clear HB; have HO_318000 := n0_; have HO_318001 := n1_; have BK306 := n2_; have BK307 := n3_; have BK317 := n4_; have HB := n5_; have BK319 := n6_; have GW319 := n7_; have GE319 := n8_; have NB306_319 := n9_; have NB319_306 := n10_; have NB307_319 := n11_; have NB319_307 := n12_; have NB317_319 := n13_; have NB319_317 := n14_; clear n0_ n1_ n2_ n3_ n4_ n5_ n6_ n7_ n8_ n9_ n10_ n11_ n12_ n13_ n14_; clear hb hbox hg; have hnb25 := NB319_306.out; have hnc25 := NB306_319.out; have hnb26 := NB319_307.out; have hnc26 := NB307_319.out; have hnb27 := NB319_317.out; have hnc27 := NB317_319.out; have hcz28_0 : w24.cell? ⟨gb319, 0, none⟩ = some (.int .i64 0) := (blk_cell BK319.out 0).trans rfl; have hcz28_1 : w24.cell? ⟨gb319, 1, none⟩ = some (.slice none 0 0) := (blk_cell BK319.out 1).trans rfl; have hfz28_0 := blk_frozen BK319.out 0; have hfz28_1 := blk_frozen BK319.out 1))
         have n0_ : Aside0 (Kd.R k86 86 ((w24.setCell ⟨gb319, 0, none⟩ (.int .i64 ((rd_T50 l0_1 x15_1).f0))).setCell ⟨gb319, 1, none⟩ (.slice A318_1 ((rd_T50 l0_1 x15_1).f1).length c318_1)) w.heap.size (fun _ => True) (.slice Ao13 y311.length co13) y311) := ⟨by (with_reducible repeat (first | apply Kd.R_alloc | apply Kd.R_drewN | apply Kd.R_drew)); exact Kd.R_mono (Kd.R_far (p := ⟨gb319, 1, none⟩) (Kd.R_far (p := ⟨gb319, 0, none⟩) (Kd.R_types HO_318000.out BK319.out (by decide)) (fun _ hk => hk.2) (.int .i64 ((rd_T50 l0_1 x15_1).f0))) (fun _ hk => hk.2) (.slice A318_1 ((rd_T50 l0_1 x15_1).f1).length c318_1)) (fun _ hk => trivial)⟩
         have n1_ : Aside0 (Kd.S k50 50 ((w24.setCell ⟨gb319, 0, none⟩ (.int .i64 ((rd_T50 l0_1 x15_1).f0))).setCell ⟨gb319, 1, none⟩ (.slice A318_1 ((rd_T50 l0_1 x15_1).f1).length c318_1)) w.heap.size (fun k_ => k_ ≠ gb319) u318001 x318001_1) := ⟨by (with_reducible repeat (first | apply Kd.S_alloc | apply Kd.S_drewN | apply Kd.S_drew)); exact Kd.S_mono (Kd.S_far (p := ⟨gb319, 1, none⟩) (Kd.S_far (p := ⟨gb319, 0, none⟩) (Kd.S_mono HO_318001.out (fun k_ hk => (⟨hk, hk.2⟩ : _ ∧ k_ ≠ gb319))) (fun _ hk => hk.2) (.int .i64 ((rd_T50 l0_1 x15_1).f0))) (fun _ hk => hk.2) (.slice A318_1 ((rd_T50 l0_1 x15_1).f1).length c318_1)) (fun _ hk => hk.1.2)⟩
         have n2_ : Aside0 (((w24.setCell ⟨gb319, 0, none⟩ (.int .i64 ((rd_T50 l0_1 x15_1).f0))).setCell ⟨gb319, 1, none⟩ (.slice A318_1 ((rd_T50 l0_1 x15_1).f1).length c318_1)).heap[gb306]? = some (.cells #[.slice A0_0 l0_0.length c0_0, .slice (some ad318) l0_1.length c0_1] 32 (0, 0))) := ⟨by (with_reducible repeat (first | refine blk_drewN ?_ _ | refine blk_drew ?_ | refine blk_alloc ?_ _)); refine blk_far ?_ NB306_319.out _; (with_reducible repeat (first | refine blk_drewN ?_ _ | refine blk_drew ?_ | refine blk_alloc ?_ _)); refine blk_far ?_ NB306_319.out _; (with_reducible repeat (first | refine blk_drewN ?_ _ | refine blk_drew ?_ | refine blk_alloc ?_ _)); exact BK306.out⟩
         have n3_ : Aside0 (((w24.setCell ⟨gb319, 0, none⟩ (.int .i64 ((rd_T50 l0_1 x15_1).f0))).setCell ⟨gb319, 1, none⟩ (.slice A318_1 ((rd_T50 l0_1 x15_1).f1).length c318_1)).heap[gb307]? = some (.cells #[.slice none 0 0, .slice none 0 0] 32 (0, 0))) := ⟨by (with_reducible repeat (first | refine blk_drewN ?_ _ | refine blk_drew ?_ | refine blk_alloc ?_ _)); refine blk_far ?_ NB307_319.out _; (with_reducible repeat (first | refine blk_drewN ?_ _ | refine blk_drew ?_ | refine blk_alloc ?_ _)); refine blk_far ?_ NB307_319.out _; (with_reducible repeat (first | refine blk_drewN ?_ _ | refine blk_drew ?_ | refine blk_alloc ?_ _)); exact BK307.out⟩
         have n4_ : Aside0 (((w24.setCell ⟨gb319, 0, none⟩ (.int .i64 ((rd_T50 l0_1 x15_1).f0))).setCell ⟨gb319, 1, none⟩ (.slice A318_1 ((rd_T50 l0_1 x15_1).f1).length c318_1)).heap[gb317]? = some (.cells #[.slice Ao13 y311.length co13, u318001] 32 (0, 0))) := ⟨by (with_reducible repeat (first | refine blk_drewN ?_ _ | refine blk_drew ?_ | refine blk_alloc ?_ _)); refine blk_far ?_ NB317_319.out _; (with_reducible repeat (first | refine blk_drewN ?_ _ | refine blk_drew ?_ | refine blk_alloc ?_ _)); refine blk_far ?_ NB317_319.out _; (with_reducible repeat (first | refine blk_drewN ?_ _ | refine blk_drew ?_ | refine blk_alloc ?_ _)); exact BK317.out⟩
         have n5_ : Aside0 (((w24.setCell ⟨gb319, 0, none⟩ (.int .i64 ((rd_T50 l0_1 x15_1).f0))).setCell ⟨gb319, 1, none⟩ (.slice A318_1 ((rd_T50 l0_1 x15_1).f1).length c318_1)).heap[gb319]? = some (.cells #[.int .i64 ((rd_T50 l0_1 x15_1).f0), .slice A318_1 ((rd_T50 l0_1 x15_1).f1).length c318_1] 50 (0, 0))) := ⟨by (with_reducible repeat (first | refine blk_drewN ?_ _ | refine blk_drew ?_ | refine blk_alloc ?_ _)); refine blk_put (cs := #[.int .i64 ((rd_T50 l0_1 x15_1).f0), .slice none 0 0]) ?_ 1 _ rfl; (with_reducible repeat (first | refine blk_drewN ?_ _ | refine blk_drew ?_ | refine blk_alloc ?_ _)); refine blk_put (cs := #[.int .i64 0, .slice none 0 0]) ?_ 0 _ rfl; (with_reducible repeat (first | refine blk_drewN ?_ _ | refine blk_drew ?_ | refine blk_alloc ?_ _)); exact BK319.out⟩
         have n6_ : Aside0 (Below w.heap.size w ((w24.setCell ⟨gb319, 0, none⟩ (.int .i64 ((rd_T50 l0_1 x15_1).f0))).setCell ⟨gb319, 1, none⟩ (.slice A318_1 ((rd_T50 l0_1 x15_1).f1).length c318_1))) := ⟨by repeat (first | (with_reducible first | exact HB.out | apply below_alloc | apply pw_below_drewN | apply below_drew1 | refine below_set ?_ GE306.out | refine below_set ?_ GE307.out | refine below_set ?_ GE317.out | refine below_set ?_ GE319.out) | exact HB.out)⟩
         (try clear HO_318000)
         (try clear HO_318001)
         (try clear BK306)
         (try clear BK307)
         (try clear BK317)
         (try clear BK319)
         (try clear HB)
         generalize ((w24.setCell ⟨gb319, 0, none⟩ (.int .i64 ((rd_T50 l0_1 x15_1).f0))).setCell ⟨gb319, 1, none⟩ (.slice A318_1 ((rd_T50 l0_1 x15_1).f1).length c318_1)) = w29 at n0_ n1_ n2_ n3_ n4_ n5_ n6_ ⊢
         have HO_318000 := n0_
         have HO_318001 := n1_
         have BK306 := n2_
         have BK307 := n3_
         have BK317 := n4_
         have BK319 := n5_
         have HB := n6_
         clear n0_ n1_ n2_ n3_ n4_ n5_ n6_
         have n0_ := Aside0.mk (Kd.R_drew HO_318000.out)
         have n1_ := Aside0.mk (Kd.S_drew HO_318001.out)
         have n2_ := Aside0.mk (blk_drew BK306.out)
         have n3_ := Aside0.mk (blk_drew BK307.out)
         have n4_ := Aside0.mk (blk_drew BK317.out)
         have n5_ := Aside0.mk (blk_drew BK319.out)
         have n6_ := Aside0.mk (below_drew1 HB.out)
         clear HO_318000
         clear HO_318001
         clear BK306
         clear BK307
         clear BK317
         clear BK319
         clear HB
         have HO_318000 := n0_
         have HO_318001 := n1_
         have BK306 := n2_
         have BK307 := n3_
         have BK317 := n4_
         have BK319 := n5_
         have HB := n6_
         clear n0_ n1_ n2_ n3_ n4_ n5_ n6_
         refine start_ (n := 13) (S := fun w' => w'.cell? ⟨gb317, 0, none⟩ = some (.slice Ao13 y311.length co13) ∧ w'.cell? ⟨gb317, 1, none⟩ = some (u318001) ∧ w'.cell? ⟨gb319, 0, none⟩ = some (.int .i64 ((rd_T50 l0_1 x15_1).f0)) ∧ w'.cell? ⟨gb319, 1, none⟩ = some (.slice A318_1 ((rd_T50 l0_1 x15_1).f1).length c318_1)) (ds := [12]) #[false, false, false, false, false, false, false, false, false, false, false, false, false] (by kernel_rfl) rfl rfl ⟨(blk_cell BK317.out 0).trans rfl, (blk_cell BK317.out 1).trans rfl, (blk_cell BK319.out 0).trans rfl, (blk_cell BK319.out 1).trans rfl⟩ (fun hHeld => ?_); refine with_tabW impl_copyDatabase.tab5 impl_copyDatabase.bits5 (fun HT_ HW_ => ?_)
         generalize w29.drew = w30 at HO_318000 HO_318001 BK306 BK307 BK317 BK319 HB hHeld ⊢
         refine pure_ (i := 0) (N := some 19) (v := ?_) (a' := ?_) #[true, false, false, false, false, false, false, false, false, false, false, false, false] rfl rfl (any_of HT_.out (by kernel_rfl)) (fun _ _ _ h => h) (Or.inl ⟨by rfl, ?_⟩) ?_ ?_
         rotate_left
         ·intro w'
          go_simp
          with_reducible rfl
         rotate_left
         ·simp only [Act.put, List.setIfInBounds_toArray, List.set_cons_zero, List.set_cons_succ, i64_w, i32_w]
          rfl
         refine pure_ (i := 2) (N := some 21) (v := ?_) (a' := ?_) #[true, false, true, false, false, false, false, false, false, false, false, false, false] rfl rfl (any_of HT_.out (by kernel_rfl)) (fun _ _ _ h => h) (Or.inl ⟨by rfl, ?_⟩) ?_ ?_
         rotate_left
         ·intro w'
          go_simp
          with_reducible rfl
         rotate_left
         ·simp only [Act.put, List.setIfInBounds_toArray, List.set_cons_zero, List.set_cons_succ, i64_w, i32_w]
          rfl
         refine pure_ (i := 5) (N := some 24) (v := ?_) (a' := ?_) #[true, false, true, false, false, true, false, false, false, false, false, false, false] rfl rfl (any_of HT_.out (by kernel_rfl)) (fun _ _ _ h => h) (Or.inl ⟨by rfl, ?_⟩) ?_ ?_
         rotate_left
         ·intro w'
          go_simp
          with_reducible rfl
         rotate_left
         ·simp only [Act.put, List.setIfInBounds_toArray, List.set_cons_zero, List.set_cons_succ, i64_w, i32_w]
          rfl
         refine take_ (i := 1) (N := some 20) (v := ?_) (a' := ?_) #[true, true, true, false, false, true, false, false, false, false, false, false, false] rfl rfl (take_ofW HT_.out HW_.out (by kernel_rfl)) (fun _ _ _ h => h) (Or.inl ⟨by rfl, ?_⟩) hHeld ?_ ?_
         rotate_left
         ·rintro w' ⟨s0, s1, s2, s3⟩
          go_simp
          with_reducible rfl
         rotate_left
         ·simp only [Act.put, List.setIfInBounds_toArray, List.set_cons_zero, List.set_cons_succ, i64_w, i32_w]
          rfl
         refine take_ (i := 3) (N := some 22) (v := ?_) (a' := ?_) #[true, true, true, true, false, true, false, false, false, false, false, false, false] rfl rfl (take_ofW HT_.out HW_.out (by kernel_rfl)) (fun _ _ _ h => h) (Or.inl ⟨by rfl, ?_⟩) hHeld ?_ ?_
         rotate_left
         ·rintro w' ⟨s0, s1, s2, s3⟩
          go_simp
          with_reducible rfl
         rotate_left
         ·simp only [Act.put, List.setIfInBounds_toArray, List.set_cons_zero, List.set_cons_succ, i64_w, i32_w]
          rfl
         refine take_ (i := 6) (N := some 25) (v := ?_) (a' := ?_) #[true, true, true, true, false, true, true, false, false, false, false, false, false] rfl rfl (take_ofW HT_.out HW_.out (by kernel_rfl)) (fun _ _ _ h => h) (Or.inl ⟨by rfl, ?_⟩) hHeld ?_ ?_
         rotate_left
         ·rintro w' ⟨s0, s1, s2, s3⟩
          go_simp
          with_reducible rfl
         rotate_left
         ·simp only [Act.put, List.setIfInBounds_toArray, List.set_cons_zero, List.set_cons_succ, i64_w, i32_w]
          rfl
         refine one_ (i := 4) (N := some 23) #[true, true, true, true, true, true, true, false, false, false, false, false, false] rfl rfl (one_of HT_.out (by kernel_rfl)) (by decide) (fun K hK => ?_)
         refine Kd.R_lit_step (Kd.int .i64) _ 3 ?hg (N := 23) ?hd (xs := ([] : List Int)) (inner := []) (ok := fun _ => True) (okp := fun _ => True) ?hr ?hp (fun _ hk => hk) trivial (Below.refl _ _) (Nat.le_refl _) (by simp) ?_; (case hd => rfl); (case hg => rfl); (case hr => first | (go_simp; done) | (go_simp; rfl)); (case hp => exact (Reps.none _ _))
         intro v321 w31 ho32 hb hg_ hnew_
         clear hg_ hnew_
         (first | rw [← Ny320.out] at ho32 | (simp only [Int.reduceToNat] at ho32; rw [← Ny320.out] at ho32))
         have n0_ := Aside0.mk (Kd.R_below (by (with_reducible repeat (first | apply Kd.R_alloc | apply Kd.R_drewN | apply Kd.R_drew)); exact HO_318000.out) hb)
         have n1_ := Aside0.mk (Kd.S_elder' (by (with_reducible repeat (first | apply Kd.S_alloc | apply Kd.S_drewN | apply Kd.S_drew)); exact HO_318001.out) (Kd.R_base ho32) hb)
         have n2_ := Aside0.mk (Kd.R_lower ho32 (below_size aG))
         have n3_ := Aside0.mk (blk_below (g := gb306) (o := .cells #[.slice A0_0 l0_0.length c0_0, .slice (some ad318) l0_1.length c0_1] 32 (0, 0)) aK hb)
         have n4_ := Aside0.mk (blk_below (g := gb307) (o := .cells #[.slice none 0 0, .slice none 0 0] 32 (0, 0)) aK hb)
         have n5_ := Aside0.mk (blk_below (g := gb317) (o := .cells #[.slice Ao13 y311.length co13, u318001] 32 (0, 0)) aK hb)
         have n6_ := Aside0.mk (blk_below (g := gb319) (o := .cells #[.int .i64 ((rd_T50 l0_1 x15_1).f0), .slice A318_1 ((rd_T50 l0_1 x15_1).f1).length c318_1] 50 (0, 0)) aK hb)
         have n7_ := Aside0.mk (below_step aG hb)
         clear HO_318000
         clear HO_318001
         clear BK306
         clear BK307
         clear BK317
         clear BK319
         clear HB
         have HO_318000 := n0_
         have HO_318001 := n1_
         have HO322 := n2_
         have BK306 := n3_
         have BK307 := n4_
         have BK317 := n5_
         have BK319 := n6_
         have HB := n7_
         clear n0_ n1_ n2_ n3_ n4_ n5_ n6_ n7_
         clear hb ho32
         refine hK.out _ _ ⟨(blk_cell BK317.out 0).trans rfl, (blk_cell BK317.out 1).trans rfl, (blk_cell BK319.out 0).trans rfl, (blk_cell BK319.out 1).trans rfl⟩ (fun hHeld => ?_)
         clear hK K
         refine norm_ (a' := ?_) ?_ ?_
         rotate_left
         ·show Act.put _ (some 23) _ = _
          simp only [Act.put, List.setIfInBounds_toArray, List.set_cons_zero, List.set_cons_succ, i64_w, i32_w]
          rfl
         refine one_ (i := 7) (N := some 26) #[true, true, true, true, true, true, true, true, false, false, false, false, false] rfl rfl (one_of HT_.out (by kernel_rfl)) (by decide) (fun K hK => ?_)
         refine Kd.R_append_rows_step (Kd.int .i64) (w0 := w) w.heap.size (by rfl) (.tmp 23) (.tmp 25) 26 3 (.int .i64 0) 8 rfl Try.underlying26 info3 rfl (by decide) (by omega) v321 y320 ((rd_T50 l0_1 x15_1).f1) _ _ _ (fun _ => True) (fun _ => False) rfl rfl ?aO ?aR (fun _ _ h => h) (fun _ h => h.elim) ?aF ?aB ?aS ?aL ?_
         (case aR => exact aC)
         (case aB => exact aG)
         (case aF => exact (fun _ _ => trivial))
         (case aO => exact (by (with_reducible repeat (first | apply Kd.R_alloc | apply Kd.R_drewN | apply Kd.R_drew)); exact HO322.out))
         (case aS => exact (below_size aG))
         (case aL => have := LMc22.out; omega)
         intro v324 w33 ho hb hg hat
         rw [← Ny323.out] at ho
         have n0_ := Aside0.mk (Kd.R_over' (by (with_reducible repeat (first | apply Kd.R_alloc | apply Kd.R_drewN | apply Kd.R_drew)); exact HO_318000.out) (Kd.R_typed (by (with_reducible repeat (first | apply Kd.R_alloc | apply Kd.R_drewN | apply Kd.R_drew)); exact HO322.out)) (by decide) hg)
         have n1_ := Aside0.mk (Kd.S_after (ok := (fun k_ => k_ ≠ gb319)) (by (with_reducible repeat (first | apply Kd.S_alloc | apply Kd.S_drewN | apply Kd.S_drew)); exact HO_318001.out) hg hat)
         have n2_ := Aside0.mk (blk_grown (g := gb306) (o := .cells #[.slice A0_0 l0_0.length c0_0, .slice (some ad318) l0_1.length c0_1] 32 (0, 0)) aK hg (Kd.R_ne HO322.out BK306.out (by decide)))
         have n3_ := Aside0.mk (blk_grown (g := gb307) (o := .cells #[.slice none 0 0, .slice none 0 0] 32 (0, 0)) aK hg (Kd.R_ne HO322.out BK307.out (by decide)))
         have n4_ := Aside0.mk (blk_grown (g := gb317) (o := .cells #[.slice Ao13 y311.length co13, u318001] 32 (0, 0)) aK hg (Kd.R_ne HO322.out BK317.out (by decide)))
         have n5_ := Aside0.mk (blk_grown (g := gb319) (o := .cells #[.int .i64 ((rd_T50 l0_1 x15_1).f0), .slice A318_1 ((rd_T50 l0_1 x15_1).f1).length c318_1] 50 (0, 0)) aK hg (Kd.R_ne HO322.out BK319.out (by decide)))
         have n6_ := Aside0.mk (hb)
         have n7_ := Aside0.mk (ho)
         clear HO_318000
         clear HO_318001
         clear BK306
         clear BK307
         clear BK317
         clear BK319
         clear HB
         clear HO322
         have HO_318000 := n0_
         have HO_318001 := n1_
         have BK306 := n2_
         have BK307 := n3_
         have BK317 := n4_
         have BK319 := n5_
         have HB := n6_
         have HO325 := n7_
         clear n0_ n1_ n2_ n3_ n4_ n5_ n6_ n7_
         clear ho hb hg hat
         obtain ⟨Ao34, co34, eo34⟩ := Kd.R_slice HO325.out
         (first | subst eo34 | (injection eo34 with f1_ f2_ f3_; have f4_ := f1_.symm; have f5_ := f3_.symm; clear f1_ f2_ f3_; subst f4_; subst f5_))
         refine hK.out _ _ ⟨(blk_cell BK317.out 0).trans rfl, (blk_cell BK317.out 1).trans rfl, (blk_cell BK319.out 0).trans rfl, (blk_cell BK319.out 1).trans rfl⟩ (fun hHeld => ?_)
         clear hK K
         refine norm_ (a' := ?_) ?_ ?_
         rotate_left
         ·show Act.put _ (some 26) _ = _
          simp only [Act.put, List.setIfInBounds_toArray, List.set_cons_zero, List.set_cons_succ, i64_w, i32_w]
          rfl
         refine pure_ (i := 8) (N := some 27) (v := ?_) (a' := ?_) #[true, true, true, true, true, true, true, true, true, false, false, false, false] rfl rfl (any_of HT_.out (by kernel_rfl)) (fun _ _ _ h => h) (Or.inl ⟨by rfl, ?_⟩) ?_ ?_
         rotate_left
         ·intro w'
          go_simp
          with_reducible rfl
         rotate_left
         ·simp only [Act.put, List.setIfInBounds_toArray, List.set_cons_zero, List.set_cons_succ, i64_w, i32_w]
          rfl
         refine one_ (i := 9) (N := some 28) #[true, true, true, true, true, true, true, true, true, true, false, false, false] rfl rfl (one_of HT_.out (by kernel_rfl)) (by decide) (fun K hK => ?_)
         refine value_ (w1 := ?_) (v := ?_) (by rfl) rfl ?_ ?_
         rotate_left 2
         ·go_simp
          constructor
          ·rfl
          ·rfl
         refine hK.out _ _ ⟨(blk_cell (blk_alloc BK317.out _) 0).trans rfl, (blk_cell (blk_alloc BK317.out _) 1).trans rfl, (blk_cell (blk_alloc BK319.out _) 0).trans rfl, (blk_cell (blk_alloc BK319.out _) 1).trans rfl⟩ (fun hHeld => ?_)
         clear hK K
         refine norm_ (a' := ?_) ?_ ?_
         rotate_left
         ·show Act.put _ (some 28) _ = _
          simp only [Act.put, List.setIfInBounds_toArray, List.set_cons_zero, List.set_cons_succ, i64_w, i32_w]
          rfl
         refine one_ (i := 10) (N := some 29) #[true, true, true, true, true, true, true, true, true, true, true, false, false] rfl rfl (one_of HT_.out (by kernel_rfl)) (by decide) (fun K hK => ?_)
         refine Kd.S_append_step k50 (w0 := w) w.heap.size (by rfl) (.tmp 20) (.tmp 28) 30 50 (.agg #[(.int .i64 0), (.slice none 0 0)]) 32 rfl Try.underlying30 info50 rfl (by decide) (by omega) u318001 x318001_1 (⟨(rd_T50 l0_1 x15_1).f0, y323⟩ : S50) [.int .i64 ((rd_T50 l0_1 x15_1).f0), .slice Ao34 y323.length co34] (fun k_ => k_ ≠ gb319) (fun k_ => some k_ = (.slice Ao34 y323.length co34 : Value).ownBlock) rfl rfl ?aP (fun k_ hk_ => ((Kd.R_mono (ok' := fun k_ => ((fun k_ => k_ ≠ gb319)) k_ ∧ some k_ ≠ (u318001 : Value).ownBlock) (Kd.R_types (Kd.R_apart' (HO325.out) (Kd.S_typed HO_318001.out) (by decide)) BK319.out (by decide)) (fun k_ hk => ⟨hk.2, hk.1.2⟩))).1 k_ hk_.symm) ?aF ?aO ?aB ?aS ?aL ?_
         (case aP => exact k50_mkM _ _ _ (⟨(rd_T50 l0_1 x15_1).f0, y323⟩ : S50) (Kd.R_mono (Kd.R_tight rfl (Kd.R_mono (ok' := fun k_ => ((fun k_ => k_ ≠ gb319)) k_ ∧ some k_ ≠ (u318001 : Value).ownBlock) (Kd.R_types (Kd.R_apart' (HO325.out) (Kd.S_typed HO_318001.out) (by decide)) BK319.out (by decide)) (fun k_ hk => ⟨hk.2, hk.1.2⟩))) (fun _ h_ => h_)))
         (case aB => exact aG)
         (case aF => exact (fun k_ hk => Kd.freshB (g := gb319) (o := .cells #[.int .i64 ((rd_T50 l0_1 x15_1).f0), .slice A318_1 ((rd_T50 l0_1 x15_1).f1).length c318_1] 50 (0, 0)) aK k_ hk))
         (case aO => exact (by (with_reducible repeat (first | apply Kd.S_alloc | apply Kd.S_drewN | apply Kd.S_drew)); exact Kd.S_mono HO_318001.out (fun k_ hk => ⟨hk.1, fun e_ => hk.2 e_⟩)))
         (case aS => exact (below_size aG))
         (case aL => have := LMc23.out; omega)
         intro v327 w35 ho hb hg hat
         rw [← Ny326.out] at ho
         have n0_ := Aside0.mk (Kd.R_over' (by (with_reducible repeat (first | apply Kd.R_alloc | apply Kd.R_drewN | apply Kd.R_drew)); exact HO_318000.out) (Kd.S_typed (by (with_reducible repeat (first | apply Kd.S_alloc | apply Kd.S_drewN | apply Kd.S_drew)); exact HO_318001.out)) (by decide) hg)
         have n1_ := Aside0.mk (blk_grown (g := gb306) (o := .cells #[.slice A0_0 l0_0.length c0_0, .slice (some ad318) l0_1.length c0_1] 32 (0, 0)) aK hg (Kd.S_ne HO_318001.out BK306.out (by decide)))
         have n2_ := Aside0.mk (blk_grown (g := gb307) (o := .cells #[.slice none 0 0, .slice none 0 0] 32 (0, 0)) aK hg (Kd.S_ne HO_318001.out BK307.out (by decide)))
         have n3_ := Aside0.mk (blk_grown (g := gb317) (o := .cells #[.slice Ao13 y311.length co13, u318001] 32 (0, 0)) aK hg (Kd.S_ne HO_318001.out BK317.out (by decide)))
         have n4_ := Aside0.mk (blk_grown (g := gb319) (o := .cells #[.int .i64 ((rd_T50 l0_1 x15_1).f0), .slice A318_1 ((rd_T50 l0_1 x15_1).f1).length c318_1] 50 (0, 0)) aK hg (Kd.S_away HO_318001.out (fun _ hk => hk.1)))
         have n5_ := Aside0.mk (hb)
         have n6_ := Aside0.mk (ho)
         clear HO_318000
         clear BK306
         clear BK307
         clear BK317
         clear BK319
         clear HB
         clear HO_318001
         clear HO325
         have HO_318000 := n0_
         have BK306 := n1_
         have BK307 := n2_
         have BK317 := n3_
         have BK319 := n4_
         have HB := n5_
         have HO328 := n6_
         clear n0_ n1_ n2_ n3_ n4_ n5_ n6_
         clear ho hb hg hat
         obtain ⟨Ao36, co36, eo36⟩ := Kd.S_slice HO328.out
         (first | subst eo36 | (injection eo36 with f1_ f2_ f3_; have f4_ := f1_.symm; have f5_ := f3_.symm; clear f1_ f2_ f3_; subst f4_; subst f5_))
         refine hK.out _ _ ⟨(blk_cell BK317.out 0).trans rfl, (blk_cell BK317.out 1).trans rfl, (blk_cell BK319.out 0).trans rfl, (blk_cell BK319.out 1).trans rfl⟩ (fun hHeld => ?_)
         clear hK K
         refine norm_ (a' := ?_) ?_ ?_
         rotate_left
         ·show Act.put _ (some 29) _ = _
          simp only [Act.put, List.setIfInBounds_toArray, List.set_cons_zero, List.set_cons_succ, i64_w, i32_w]
          rfl
         refine pure_ (i := 11) (N := some 30) (v := ?_) (a' := ?_) #[true, true, true, true, true, true, true, true, true, true, true, true, false] rfl rfl (any_of HT_.out (by kernel_rfl)) (fun _ _ _ h => h) (Or.inl ⟨by rfl, ?_⟩) ?_ ?_
         rotate_left
         ·intro w'
          go_simp
          with_reducible rfl
         rotate_left
         ·simp only [Act.put, List.setIfInBounds_toArray, List.set_cons_zero, List.set_cons_succ, i64_w, i32_w]
          rfl
         refine last_ (i := 12) (N := none) #[true, true, true, true, true, true, true, true, true, true, true, true, true] rfl rfl (one_of HT_.out (by kernel_rfl)) (by decide) (fun K hK => ?_)
         have hs37 : w35.cell? ⟨gb317, 1, none⟩ = some (u318001) := (blk_cell BK317.out 1).trans rfl
         have hfs37 := blk_frozen BK317.out 1
         have hns37_0 := NB306_317.out
         have hns37_1 := NB307_317.out
         have hns37_3 := NB319_317.out
         have hms37_0 := NB317_306.out
         have hms37_1 := NB317_307.out
         have hms37_3 := NB317_319.out
         refine skip_ (w1 := ?_) (by rfl) rfl ?_ ?_
         rotate_left
         ·go_simp
          rfl
         refine hK.out _ _ ?_
         clear hK K
         refine done_ (done_of HT_.out (by kernel_rfl)) ?_
         try go_wp2
         go_roundg k1
         case measure => have := HK1.out; omega
         case rel => exact ⟨(wrap64 (x15_1 + 1)), (y326), (.slice Ao36 y326.length co36), (by first | rfl | (simp; done) | (simp [*]; done)), H', ⟨by have := HK1.out; omega⟩, ⟨by (with_reducible repeat (first | apply Kd.R_alloc | apply Kd.R_drewN | apply Kd.R_drew)); exact Kd.R_mono (Kd.R_far (p := ⟨gb317, 1, none⟩) (Kd.R_types HO_318000.out BK317.out (by decide)) (fun _ hk => hk.2) (.slice Ao36 y326.length co36)) (fun _ hk => trivial)⟩, ⟨by (with_reducible repeat (first | apply Kd.S_alloc | apply Kd.S_drewN | apply Kd.S_drew)); exact Kd.S_mono (Kd.S_far (p := ⟨gb317, 1, none⟩) (Kd.S_types HO328.out BK317.out (by decide)) (fun _ hk => hk.2) (.slice Ao36 y326.length co36)) (fun _ hk => trivial)⟩, ⟨by (with_reducible repeat (first | refine blk_drewN ?_ _ | refine blk_drew ?_ | refine blk_alloc ?_ _)); refine blk_far ?_ NB306_317.out _; (with_reducible repeat (first | refine blk_drewN ?_ _ | refine blk_drew ?_ | refine blk_alloc ?_ _)); exact BK306.out⟩, ⟨by (with_reducible repeat (first | refine blk_drewN ?_ _ | refine blk_drew ?_ | refine blk_alloc ?_ _)); refine blk_far ?_ NB307_317.out _; (with_reducible repeat (first | refine blk_drewN ?_ _ | refine blk_drew ?_ | refine blk_alloc ?_ _)); exact BK307.out⟩, ⟨by (with_reducible repeat (first | refine blk_drewN ?_ _ | refine blk_drew ?_ | refine blk_alloc ?_ _)); refine blk_put (cs := #[.slice Ao13 y311.length co13, u318001]) ?_ 1 _ rfl; (with_reducible repeat (first | refine blk_drewN ?_ _ | refine blk_drew ?_ | refine blk_alloc ?_ _)); exact BK317.out⟩, ⟨by repeat (first | (with_reducible first | exact HB.out | apply below_alloc | apply pw_below_drewN | apply below_drew1 | refine below_set ?_ GE306.out | refine below_set ?_ GE307.out | refine below_set ?_ GE317.out | refine below_set ?_ GE319.out) | exact HB.out)⟩⟩
        ·rw [if_neg c23] at H
         exact absurd H (by simp)
       ·rw [if_neg c22] at H
        exact absurd H (by simp)
      ·rw [if_neg c21] at H
       exact absurd H (by simp)
     ·rw [if_neg c20] at H
      exact absurd H (by simp)
    ·rw [if_neg c19] at H
     have c19b0 : decide (x15_1 < (l0_1.length : Int)) = false := decide_eq_false c19
     clear c19
     simp only [Option.some.injEq, Prod.mk.injEq] at H
     obtain ⟨rfl, rfl⟩ := H
     have hnb38 := NB317_306.out
     have hnc38 := NB306_317.out
     have hnb39 := NB317_307.out
     have hnc39 := NB307_317.out
     have hcz40_0 : wr.cell? ⟨gb317, 0, none⟩ = some (.slice Ao13 y311.length co13) := (blk_cell BK317.out 0).trans rfl
     have hcz40_1 : wr.cell? ⟨gb317, 1, none⟩ = some (u318001) := (blk_cell BK317.out 1).trans rfl
     have hfz40_0 := blk_frozen BK317.out 0
     have hfz40_1 := blk_frozen BK317.out 1
     have hnb41 := NB307_306.out
     have hnc41 := NB306_307.out
     have hcz42_0 : wr.cell? ⟨gb307, 0, none⟩ = some (.slice none 0 0) := (blk_cell BK307.out 0).trans rfl
     have hcz42_1 : wr.cell? ⟨gb307, 1, none⟩ = some (.slice none 0 0) := (blk_cell BK307.out 1).trans rfl
     have hfz42_0 := blk_frozen BK307.out 0
     have hfz42_1 := blk_frozen BK307.out 1
     obtain ⟨Ao43, co43, eo43⟩ := Kd.S_slice HO_318001.out
     subst eo43
     go_wp2
     refine bodyPost_ret (results_cell_row rfl _ _ gb307 32 #[.slice Ao13 y311.length co13, .slice Ao43 x318001_1.length co43] (0, 0) _ rfl (by (with_reducible repeat (first | refine blk_drewN ?_ _ | refine blk_drew ?_ | refine blk_alloc ?_ _)); refine blk_put (cs := #[.slice Ao13 y311.length co13, .slice none 0 0]) ?_ 1 _ rfl; (with_reducible repeat (first | refine blk_drewN ?_ _ | refine blk_drew ?_ | refine blk_alloc ?_ _)); refine blk_put (cs := #[.slice none 0 0, .slice none 0 0]) ?_ 0 _ rfl; (with_reducible repeat (first | refine blk_drewN ?_ _ | refine blk_drew ?_ | refine blk_alloc ?_ _)); exact BK307.out) Try.underlying32 rfl (by kernel_rfl)) rfl ?_
     exact ⟨_, _, by first | rfl | (simp [errW_none, errW_some] <;> rfl) | (simp [*, errW_none, errW_some] <;> rfl), by (with_reducible repeat (first | apply Kd.R_alloc | apply Kd.R_drewN | apply Kd.R_drew)); exact Kd.R_mono (Kd.R_far (p := ⟨gb307, 1, none⟩) (Kd.R_far (p := ⟨gb307, 0, none⟩) (Kd.R_types HO_318000.out BK307.out (by decide)) (fun _ hk => hk.2) (.slice Ao13 y311.length co13)) (fun _ hk => hk.2) (.slice Ao43 x318001_1.length co43)) (fun _ hk => trivial), by (with_reducible repeat (first | apply Kd.S_alloc | apply Kd.S_drewN | apply Kd.S_drew)); exact Kd.S_mono (Kd.S_far (p := ⟨gb307, 1, none⟩) (Kd.S_far (p := ⟨gb307, 0, none⟩) (Kd.S_types HO_318001.out BK307.out (by decide)) (fun _ hk => hk.2) (.slice Ao13 y311.length co13)) (fun _ hk => hk.2) (.slice Ao43 x318001_1.length co43)) (fun _ hk => trivial), by repeat (first | (with_reducible first | exact HB.out | apply below_alloc | apply pw_below_drewN | apply below_drew1 | refine below_set ?_ GE306.out | refine below_set ?_ GE307.out | refine below_set ?_ GE317.out) | exact HB.out)⟩
 ·rw [if_neg c2] at H
  exact absurd H (by simp)

end Go.Proofs.Ytehlhbidmanbmaa.PFnExactIsRepair
