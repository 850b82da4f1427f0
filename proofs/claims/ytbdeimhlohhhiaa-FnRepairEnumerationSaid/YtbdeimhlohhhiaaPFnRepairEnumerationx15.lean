import Derived.Test.YtbdeimhlohhhiaaPFnRepairEnumerationx0
import Derived.Test.YtbdeimhlohhhiaaPFnRepairEnumerationx10
import Derived.Test.YtbdeimhlohhhiaaPFnRepairEnumerationx12
import Derived.Test.YtbdeimhlohhhiaaPFnRepairEnumerationx13
import Derived.Test.YtbdeimhlohhhiaaPFnRepairEnumerationx14
namespace Go.Proofs.Ytbdeimhlohhhiaa.PFnRepairEnumeration
open Go.RowKit Go.Proofs.YtbdeimhlohhhiaaW.PrintWords Go.Proofs.YtbdeimhlohhhiaaW.PrintLast Go.Proofs.YtbdeimhlohhhiaaW.PrintMore
attribute [local go_sem] max2_int min2_int max_two min_two max_three min_three max_four min_four
set_option linter.unusedVariables false
set_option linter.unusedSimpArgs false

/-! ### spec_l4Db: function 75 -/
def spec_l4Db.l0 : Nat → Int → Int → List Int → Int → Int → List (S70) → List (S35) → Option ((List (S70)) × (List (S35)) × Int × Int)
 | 0, _, _, _, _, _, _, _ => none
 | k + 1, x4, x5, x1000, x1001, x1002, x460000, x460001 => if x5 > 0 then ((spec_l3Fact.f k x1000 x1001 x1002 x460000 x4).bind fun bt469 => ((spec_InsertFact.f k x460000 x460001 bt469.1 bt469.2.1).bind fun bt475 => (spec_l4Db.l0 k x4 (wrap64 (x5 - 1)) x1000 bt469.2.2.1 bt469.2.2.2 bt475.1 bt475.2.1))) else (some (x460000, x460001, x1001, x1002))
def spec_l4Db.f (k : Nat) (s0_0 : List Int) (s0_1 : Int) (s0_2 : Int) : Option ((List (S70)) × (List (S35)) × Int × Int) := (spec_l2Sigs.f s0_0 s0_1 s0_2).bind fun bt454 => ((spec_l1PickInt.f s0_0 bt454.2.1 bt454.2.2 (([2, 2, 3, 3] : List Int))).bind fun bt463 => ((spec_l1Below.f s0_0 bt463.2.1 bt463.2.2 11).bind fun bt466 => (spec_l4Db.l0 k bt463.1 (wrap64 (2 + bt466.1)) s0_0 bt466.2.1 bt466.2.2 bt454.1 ([] : List (S35)))))
def spec_l4Db.T6 : Bool × List (List Nat × List Nat) := (true, [([], []), ([], []), ([], []), ([2], [2]), ([], []), ([1, 3, 4], [1, 3, 4]), ([0, 5, 5], [0, 5]), ([6], [6]), ([7], [7]), ([7], [7]), ([8, 6, 0, 1, 2, 3, 4, 5, 6, 7, 8], [8])])
def spec_l4Db.B6 : List Nat := [0, 0, 0, 4, 0, 30, 63, 127, 255, 255, 511]
theorem spec_l4Db.tab6 : rtab .any (opsOf Try.f75 6) = spec_l4Db.T6 := by kernel_rfl
theorem spec_l4Db.bits6 : waitsOk spec_l4Db.T6.2 spec_l4Db.B6 = true := by kernel_rfl
set_option maxHeartbeats 8000000 in
set_option maxRecDepth 100000 in
theorem spec_l4Db.calls (k : Nat) (g : Nat) (s0_0 : List Int) (s0_1 : Int) (s0_2 : Int) (r1 : List (S70)) (r2 : List (S35)) (r3 : Int) (r4 : Int) (w0 w : World) (hI : IsS83 w0 w g s0_0 s0_1 s0_2) (hB : Below w0.heap.size w0 w) (h : spec_l4Db.f k s0_0 s0_1 s0_2 = some (r1, r2, r3, r4)) :
  Calls Try.prog 75 #[.pointer (some ⟨g, 0, none⟩)] w fun e w' => ∃ v0_ v1_ : Value, e = .returned (.agg #[v0_, v1_]) ∧ Kd.R k70 70 w' w.heap.size (fun k_ => (w.heap.size ≤ k_)) v0_ r1 ∧ Kd.N k35 35 w' w.heap.size (fun k_ => (w.heap.size ≤ k_) ∧ some k_ ≠ (v0_ : Value).ownBlock) v1_ r2 ∧ IsS83 w0 w' g s0_0 r3 r4 ∧ Below w0.heap.size w0 w' ∧ KeepBut w w' g none := by
 have hu27 := Try.underlying27
 have HI0 := aM hI
 have HK := aM (KeepBut.refl w g none)
 have HL := aM hB.size
 clear hI
 have HW0 := aM hB.size
 have HB := aM hB
 clear hB
 have H : ((spec_l2Sigs.f s0_0 s0_1 s0_2).bind fun bt454 => ((spec_l1PickInt.f s0_0 bt454.2.1 bt454.2.2 (([2, 2, 3, 3] : List Int))).bind fun bt463 => ((spec_l1Below.f s0_0 bt463.2.1 bt463.2.2 11).bind fun bt466 => (spec_l4Db.l0 k bt463.1 (wrap64 (2 + bt466.1)) s0_0 bt466.2.1 bt466.2.2 bt454.1 ([] : List (S35)))))) = some (r1, r2, r3, r4) := h
 clear h
 replace H := bM H
 obtain ⟨⟨t454, t457, t458⟩, A20, H⟩ := H
 dsimp only at H
 have A2 := aM A20
 clear A20
 obtain ⟨y460, hy460⟩ : ∃ y_ : List Int, y_ = (([2, 2, 3, 3] : List Int)) := ⟨_, rfl⟩
 first | replace H := bY hy460 H | rw [← hy460] at H
 have Ny460 := aM hy460
 clear hy460
 replace H := bM H
 obtain ⟨⟨t463, t464, t465⟩, A30, H⟩ := H
 dsimp only at H
 have A3 := aM A30
 clear A30
 replace H := bM H
 obtain ⟨⟨t466, t467, t468⟩, A40, H⟩ := H
 dsimp only at H
 have A4 := aM A40
 clear A40
 have H' := aM H
 clear H
 go_enter Try.func75, Try.ntmps75
 go_wp2_with (first | ((with_reducible refine gate_dst (N := 2) rfl ?_); refine bE 2 (cs := #[.slice none 0 0, .slice none 0 0]) (t := 27) ?_; intro gb453 hg w5 hbox hb; have BK453 := aM (hbox); have GW453 := aM ((by rw [hg]; exact (kS (w := w) (g := g)) : w.heap.size ≤ gb453)); have GE453 := aM ((Nat.le_trans HW0.out (by rw [hg]; exact (kS (w := w) (g := g)) : w.heap.size ≤ gb453) : w0.heap.size ≤ gb453)); have NB0_453 := aM ((by rw [hg]; exact Nat.ne_of_lt (IsS83.lt (show IsS83 w0 _ g s0_0 s0_1 s0_2 from aZ)) : g ≠ gb453)); have NB453_0 := aM ((by rw [hg]; exact Nat.ne_of_gt (IsS83.lt (show IsS83 w0 _ g s0_0 s0_1 s0_2 from aZ)) : gb453 ≠ g)); replace HK := aM (KeepBut.trans aQ (KeepBut.of_below hb g none) (.inl rfl)); replace HB := aM (below_step aY hb); replace HI0 := aM (IsS83.below aZ hb); clear hb hbox hg) | ((with_reducible refine gate_callee (f := 93) rfl ?_); refine goesL_ (some 7) rfl rfl Try.func93 (by kernel_rfl) rfl #[.pointer (some ⟨g, 0, none⟩)] rfl aA ?_; (with_reducible refine (spec_l2Sigs.calls g s0_0 s0_1 s0_2 t454 t457 t458 w0 _ ?side1 ?side2 A2.out).mono ?_); (case side1 => exact aZ); (case side2 => exact aY); rintro e w6 ⟨v455, rfl, ho0, hi, hb, hk⟩; refine ⟨_, rfl, ?_⟩; have HO456 := aM (Kd.R_lower (Kd.R_newM (M := fun k_ => (w.heap.size ≤ k_)) ho0 (kS (w := w) (g := g)) (fun k_ h_ => h_)) (kS (w := w) (g := g))); replace BK453 := aM (KeepBut.blk hk (g' := gb453) (o := .cells #[.slice none 0 0, .slice none 0 0] 27 (0, 0)) aK NB453_0.out (by simp)); replace HK := aM (KeepBut.trans aQ hk (.inl rfl)); replace HB := aM (hb); replace HI0 := aM (hi); (try clear hb); (try clear hb2); (try clear hk); (try clear hi); (try clear ho0); obtain ⟨Ao7, co7, eo7⟩ := Kd.R_slice HO456.out; subst eo7) | ((with_reducible refine gate_dst (N := 3) rfl ?_); refine bE 3 (cs := #[.slice none 0 0, .slice none 0 0]) (t := 27) ?_; intro gb459 hg w8 hbox hb; have BK459 := aM (hbox); have GW459 := aM ((by rw [hg]; exact (kS (w := w) (g := g)) : w.heap.size ≤ gb459)); have GE459 := aM ((Nat.le_trans HW0.out (by rw [hg]; exact (kS (w := w) (g := g)) : w.heap.size ≤ gb459) : w0.heap.size ≤ gb459)); have NB453_459 := aM ((by rw [hg]; exact Nat.ne_of_lt (blk_lt (g := gb453) (o := .cells #[.slice none 0 0, .slice none 0 0] 27 (0, 0)) aK) : gb453 ≠ gb459)); have NB459_453 := aM ((by rw [hg]; exact Nat.ne_of_gt (blk_lt (g := gb453) (o := .cells #[.slice none 0 0, .slice none 0 0] 27 (0, 0)) aK) : gb459 ≠ gb453)); have NB0_459 := aM ((by rw [hg]; exact Nat.ne_of_lt (IsS83.lt (show IsS83 w0 _ g s0_0 t457 t458 from aZ)) : g ≠ gb459)); have NB459_0 := aM ((by rw [hg]; exact Nat.ne_of_gt (IsS83.lt (show IsS83 w0 _ g s0_0 t457 t458 from aZ)) : gb459 ≠ g)); replace HO456 := aM (Kd.R_below (aR HO456) hb); replace BK453 := aM (kB gb453 #[.slice none 0 0, .slice none 0 0] 27 hb); replace HK := aM (KeepBut.trans aQ (KeepBut.of_below hb g none) (.inl rfl)); replace HB := aM (below_step aY hb); replace HI0 := aM (IsS83.below aZ hb); clear hb hbox hg; have hnb9 := NB459_453.out; have hnc9 := NB453_459.out; have hnb10 := NB459_0.out; have hnc10 := NB0_459.out; have hcz11_0 : w8.cell? ⟨gb459, 0, none⟩ = some (.slice none 0 0) := (blk_cell BK459.out 0).trans rfl; have hcz11_1 : w8.cell? ⟨gb459, 1, none⟩ = some (.slice none 0 0) := (blk_cell BK459.out 1).trans rfl; have hfz11_0 := blk_frozen BK459.out 0; have hfz11_1 := blk_frozen BK459.out 1) | ((with_reducible refine gate_dst (N := 10) rfl ?_); refine Kd.R_lit (Kd.int .i64) _ 3 ?hg (N := 10) ?hd (xs := ([2, 2, 3, 3] : List Int)) (inner := [.int .i64 2, .int .i64 2, .int .i64 3, .int .i64 3]) (ok := fun _ => True) (okp := fun _ => True) ?hr ?hp (fun _ hk => hk) trivial (Below.refl _ _) (Nat.le_refl _) (by simp) ?_; (case hd => rfl); (case hg => rfl); (case hr => first | (go_simp; done) | (go_simp; rfl)); (case hp => exact (Reps.one (show Kd.M (Kd.int .i64) _ _ _ 2 [.int .i64 2] from rfl) (Reps.one (show Kd.M (Kd.int .i64) _ _ _ 2 [.int .i64 2] from rfl) (Reps.one (show Kd.M (Kd.int .i64) _ _ _ 3 [.int .i64 3] from rfl) (Reps.one (show Kd.M (Kd.int .i64) _ _ _ 3 [.int .i64 3] from rfl) (Reps.none _ _)))))); intro v461 w12 ho13 hb hg_ hnew_; clear hg_ hnew_; (first | rw [← Ny460.out] at ho13 | (simp only [Int.reduceToNat] at ho13; rw [← Ny460.out] at ho13)); have HO462 := aM (Kd.R_lower (Kd.R_newM (M := fun k_ => (w.heap.size ≤ k_)) ho13 (kS (w := w) (g := g)) (fun k_ h_ => h_)) (kS (w := w) (g := g))); replace HO456 := aM (Kd.R_below (by (with_reducible repeat apply pR); exact (Kd.R_mono (Kd.R_far (p := ⟨gb459, 1, none⟩) (Kd.R_far (p := ⟨gb459, 0, none⟩) (Kd.R_types HO456.out BK459.out (by decide)) (fun _ hk => hk.2) (.slice Ao7 t454.length co7)) (fun _ hk => hk.2) (.slice none 0 0)) (fun _ h_ => h_.1))) hb); replace BK453 := aM (blk_below (g := gb453) (o := .cells #[.slice none 0 0, .slice none 0 0] 27 (0, 0)) (by (with_reducible repeat refine pB ?_); refine blk_far ?_ NB453_459.out _; (with_reducible repeat refine pB ?_); refine blk_far ?_ NB453_459.out _; (with_reducible repeat refine pB ?_); exact BK453.out) hb); replace BK459 := aM (blk_below (g := gb459) (o := .cells #[.slice Ao7 t454.length co7, .slice none 0 0] 27 (0, 0)) (by (with_reducible repeat refine pB ?_); refine blk_put (cs := #[.slice Ao7 t454.length co7, .slice none 0 0]) ?_ 1 _ rfl; (with_reducible repeat refine pB ?_); refine blk_put (cs := #[.slice none 0 0, .slice none 0 0]) ?_ 0 _ rfl; (with_reducible repeat refine pB ?_); exact BK459.out) hb); replace HK := aM (KeepBut.trans aQ (KeepBut.of_below hb g none) (.inl rfl)); replace HB := aM (below_step aY hb); replace HI0 := aM (IsS83.below (show IsS83 w0 ((w8.setCell ⟨gb459, 0, none⟩ (.slice Ao7 t454.length co7)).setCell ⟨gb459, 1, none⟩ (.slice none 0 0)) g s0_0 t457 t458 from aZ) hb); clear hb ho13; obtain ⟨Ao14, co14, eo14⟩ := Kd.R_slice HO462.out; subst eo14) | ((with_reducible refine gate_callee (f := 94) rfl ?_); refine goesL_ (some 11) rfl rfl Try.func94 (by kernel_rfl) rfl #[.pointer (some ⟨g, 0, none⟩), .slice Ao14 y460.length co14] rfl aA ?_; (with_reducible refine (spec_l1PickInt.calls g s0_0 t457 t458 _ _ y460 t463 t464 t465 w0 _ ?side1 ?side2 ?side3 ?side4 ?side5 A3.out).mono ?_); (case side1 => exact aZ); (case side2 => exact aY); (case side3 => repeat (first | exact (Kd.R_reads' HO462.out).2.2 | (with_reducible refine pC ?_))); (case side4 => exact (Kd.R_reads' HO462.out).2.1); (case side5 => exact far_slice (IsS83.own_ne HI0.out HO462.out (by decide))); rintro e w15 ⟨rfl, hi, hb, hk⟩; refine ⟨_, rfl, ?_⟩; have n0_ := aM (KeepBut.blk hk (g' := gb453) (o := .cells #[.slice none 0 0, .slice none 0 0] 27 (0, 0)) aK NB453_0.out (by simp)); have n1_ := aM (Kd.R_mono (Kd.R_keep (IsS83.apart (show IsS83 w0 _ g s0_0 t457 t458 from aZ) (aR HO456) (by decide)) hk (fun _ h => h.2)) (fun _ h => h.1)); have n2_ := aM (KeepBut.blk hk (g' := gb459) (o := .cells #[.slice Ao7 t454.length co7, .slice none 0 0] 27 (0, 0)) aK NB459_0.out (by simp)); have n3_ := aM (Kd.R_mono (Kd.R_keep (IsS83.apart (show IsS83 w0 _ g s0_0 t457 t458 from aZ) (aR HO462) (by decide)) hk (fun _ h => h.2)) (fun _ h => h.1)); have n4_ := aM (KeepBut.trans aQ hk (.inl rfl)); have n5_ := aM (hb); have n6_ := aM (hi); clear BK453; clear HO456; clear BK459; clear HO462; clear HK; clear HB; clear HI0; have BK453 := n0_; have HO456 := n1_; have BK459 := n2_; have HO462 := n3_; have HK := n4_; have HB := n5_; have HI0 := n6_; clear n0_ n1_ n2_ n3_ n4_ n5_ n6_; (try clear hb); (try clear hb2); (try clear hk); (try clear hi)) | ((with_reducible refine gate_callee (f := 66) rfl ?_); refine goesL_ (some 13) rfl rfl Try.func66 (by kernel_rfl) rfl #[.pointer (some ⟨g, 0, none⟩), .int .i64 11] rfl aA ?_; (with_reducible refine (spec_l1Below.calls g s0_0 t464 t465 11 t466 t467 t468 w0 _ ?side1 ?side2 A4.out).mono ?_); (case side1 => exact aZ); (case side2 => exact aY); rintro e w16 ⟨rfl, hi, hb, hk⟩; refine ⟨_, rfl, ?_⟩; have n0_ := aM (KeepBut.blk hk (g' := gb453) (o := .cells #[.slice none 0 0, .slice none 0 0] 27 (0, 0)) aK NB453_0.out (by simp)); have n1_ := aM (Kd.R_mono (Kd.R_keep (IsS83.apart (show IsS83 w0 _ g s0_0 t464 t465 from aZ) (aR HO456) (by decide)) hk (fun _ h => h.2)) (fun _ h => h.1)); have n2_ := aM (KeepBut.blk hk (g' := gb459) (o := .cells #[.slice Ao7 t454.length co7, .slice none 0 0] 27 (0, 0)) aK NB459_0.out (by simp)); have n3_ := aM (Kd.R_mono (Kd.R_keep (IsS83.apart (show IsS83 w0 _ g s0_0 t464 t465 from aZ) (aR HO462) (by decide)) hk (fun _ h => h.2)) (fun _ h => h.1)); have n4_ := aM (KeepBut.trans aQ hk (.inl rfl)); have n5_ := aM (hb); have n6_ := aM (hi); clear BK453; clear HO456; clear BK459; clear HO462; clear HK; clear HB; clear HI0; have BK453 := n0_; have HO456 := n1_; have BK459 := n2_; have HO462 := n3_; have HK := n4_; have HB := n5_; have HI0 := n6_; clear n0_ n1_ n2_ n3_ n4_ n5_ n6_; (try clear hb); (try clear hb2); (try clear hk); (try clear hi)))
 go_loopg [5] k (fun kq v5 w' => ∃ (x5_1 : Int) (x1001_1 : Int) (x1002_1 : Int) (x460000_1 : List (S70)) (x460001_1 : List (S35)) (u460000 : Value) (u460001 : Value), v5 = .int .i64 x5_1 ∧ Aside0 (spec_l4Db.l0 kq t463 x5_1 s0_0 x1001_1 x1002_1 x460000_1 x460001_1 = some (r1, r2, r3, r4)) ∧ Aside0 (kq ≤ k) ∧ Aside0 (Kd.R k70 70 w' w.heap.size (fun k_ => (w.heap.size ≤ k_)) u460000 x460000_1) ∧ Aside0 (Kd.N k35 35 w' w.heap.size (fun k_ => (w.heap.size ≤ k_) ∧ some k_ ≠ (u460000 : Value).ownBlock ∧ k_ ≠ gb453 ∧ k_ ≠ gb459 ∧ k_ ≠ g) u460001 x460001_1) ∧ Aside0 (w'.heap[gb453]? = some (.cells #[(.slice none 0 0), (.slice none 0 0)] 27 (0, 0))) ∧ Aside0 (w'.heap[gb459]? = some (.cells #[u460000, u460001] 27 (0, 0))) ∧ Aside0 (IsS83 w0 w' g s0_0 x1001_1 x1002_1) ∧ Aside0 (KeepBut w w' g none) ∧ Aside0 (Below w0.heap.size w0 w'))
 case atStart => exact ⟨(wrap64 (2 + t466)), (t467), (t468), (t454), (([] : List (S35))), (.slice Ao7 t454.length co7), (.slice none 0 0), aX, H', ⟨Nat.le_refl _⟩, ⟨by (with_reducible repeat apply pR); exact Kd.R_mono HO456.out (fun _ hk => hk.1)⟩, ⟨by first | exact Kd.S_nil _ _ _ _ _ | exact Kd.N_nil _ _ _ _ _ | exact Kd.V_nil _ _ _ _ _ | exact Kd.Q_nil _ _ _ _ _ | exact Kd.R_nil _ _ _ _ _⟩, ⟨aK⟩, ⟨aK⟩, ⟨aZ⟩, ⟨aQ⟩, ⟨aY⟩⟩
 case round =>
  clear H'
  try clear c1
  try clear p2
  try clear c6
  try clear p6
  try clear c7
  try clear c9
  try clear c10
  try clear hcz11_0
  try clear hcz11_1
  try clear hfz11_0
  try clear hfz11_1
  obtain ⟨x5_1, x1001_1, x1002_1, x460000_1, x460001_1, u460000, u460001, rfl, HA, HK1, HO_460000, HO_460001, BK453, BK459, HI0, HK, HB⟩ := hrel
  cases gk with
  | zero => exact absurd HA.out (by simp [spec_l4Db.l0])
  | succ k1 =>
   have H := HA.out
   clear HA
   simp only [spec_l4Db.l0] at H
   by_cases c17 : x5_1 > 0
   ·rw [if_pos c17] at H
    have c17b0 : decide (0 < x5_1) = true := decide_eq_true c17
    clear c17
    replace H := bM H
    obtain ⟨⟨t469, t470, t473, t474⟩, A180, H⟩ := H
    dsimp only at H
    have A18 := aM A180
    clear A180
    replace H := bM H
    obtain ⟨⟨t475, t478, t481⟩, A190, H⟩ := H
    dsimp only at H
    have A19 := aM A190
    clear A190
    have H' := aM H
    clear H
    try go_wp2
    replace HO_460000 := aM (Kd.R_drew HO_460000.out)
    replace HO_460001 := aM (Kd.N_drew HO_460001.out)
    replace BK453 := aM (blk_drew BK453.out)
    replace BK459 := aM (blk_drew BK459.out)
    replace HI0 := aM (IsS83.drew HI0.out)
    replace HK := aM (keep_drew HK.out)
    replace HB := aM (below_drew1 HB.out)
    obtain ⟨Ao21, co21, eo21⟩ := Kd.R_slice HO_460000.out
    (first | subst eo21 | (injection eo21 with f1_ f2_ f3_; have f4_ := f1_.symm; have f5_ := f3_.symm; clear f1_ f2_ f3_; subst f4_; subst f5_))
    refine start_ (n := 11) (S := fun w' => w'.cell? ⟨gb459, 0, none⟩ = some (.slice Ao21 x460000_1.length co21) ∧ w'.cell? ⟨gb459, 1, none⟩ = some (u460001)) (ds := [10]) #[false, false, false, false, false, false, false, false, false, false, false] (by kernel_rfl) rfl rfl ⟨(blk_cell BK459.out 0).trans rfl, (blk_cell BK459.out 1).trans rfl⟩ (fun hHeld => ?_); refine with_tabW spec_l4Db.tab6 spec_l4Db.bits6 (fun HT_ HW_ => ?_)
    generalize wr.drew = w20 at HO_460000 HO_460001 BK453 BK459 HI0 HK HB hHeld ⊢
    refine pU 1 21 ?_
    refine pU 2 22 ?_
    refine pU 4 24 ?_
    refine tU2 0 20 hHeld ?_
    refine tU2 3 23 hHeld ?_
    refine oU 5 25 (fun K hK => ?_)
    refine goes_ Try.func95 (by kernel_rfl) rfl #[.pointer (some ⟨g, 0, none⟩), .slice Ao21 x460000_1.length co21, .int .i64 t463] (by rfl) rfl rfl aA ?_
    with_reducible refine (spec_l3Fact.calls k1 g s0_0 x1001_1 x1002_1 _ _ x460000_1 t463 t469 t470 t473 t474 w0 _ ?side1 ?side2 ?side3 ?side4 A18.out).mono ?_
    (case side1 => exact aZ)
    (case side2 => exact aY)
    (case side3 => exact Kd.C_foot_own (IsS83.apart (show IsS83 w0 _ g s0_0 x1001_1 x1002_1 from aZ) (aR HO_460000) (by decide)) (fun _ h_ => h_.2))
    (case side4 => exact (Kd.R_reads' HO_460000.out).2.1)
    rintro e w22 ⟨v471, rfl, ho0, hi, hb, hk⟩
    refine ⟨_, rfl, ?_⟩
    have n0_ := aM (Kd.R_mono (Kd.R_keep (IsS83.apart (show IsS83 w0 _ g s0_0 x1001_1 x1002_1 from aZ) (aR HO_460000) (by decide)) hk (fun _ h => h.2)) (fun _ h => h.1))
    have n1_ := aM (Kd.N_mono (Kd.N_told (Kd.N_oldK (Kd.N_mono (ok := fun k_ => (((w.heap.size ≤ k_)) ∧ (some k_ ≠ (.slice Ao21 x460000_1.length co21 : Value).ownBlock ∧ (k_ ≠ gb453 ∧ (k_ ≠ gb459 ∧ k_ ≠ g))))) (aN HO_460001) (fun k_ hk_ => (⟨hk_, hk_.2.2.2.2⟩ : _ ∧ k_ ≠ g))) hk) (Kd.R_base ho0)) (fun _ h_ => h_.1))
    have n2_ := aM (KeepBut.blk hk (g' := gb453) (o := .cells #[.slice none 0 0, .slice none 0 0] 27 (0, 0)) aK NB453_0.out (by simp))
    have n3_ := aM (KeepBut.blk hk (g' := gb459) (o := .cells #[.slice Ao21 x460000_1.length co21, u460001] 27 (0, 0)) aK NB459_0.out (by simp))
    have n4_ := aM (Kd.R_lower (Kd.R_newM (M := fun k_ => (w.heap.size ≤ k_)) ho0 (kS (w := w) (g := g)) (fun k_ h_ => h_)) (kS (w := w) (g := g)))
    have n5_ := aM (KeepBut.trans aQ hk (.inl rfl))
    have n6_ := aM (hb)
    have n7_ := aM (hi)
    clear HO_460000
    clear HO_460001
    clear BK453
    clear BK459
    clear HK
    clear HB
    clear HI0
    have HO_460000 := n0_
    have HO_460001 := n1_
    have BK453 := n2_
    have BK459 := n3_
    have HO472 := n4_
    have HK := n5_
    have HB := n6_
    have HI0 := n7_
    clear n0_ n1_ n2_ n3_ n4_ n5_ n6_ n7_
    (try clear hb)
    (try clear hb2)
    (try clear hk)
    (try clear hi)
    (try clear ho0)
    obtain ⟨Ao23, co23, eo23⟩ := Kd.N_slice HO_460001.out
    (first | subst eo23 | (injection eo23 with f1_ f2_ f3_; have f4_ := f1_.symm; have f5_ := f3_.symm; clear f1_ f2_ f3_; subst f4_; subst f5_))
    obtain ⟨Ao24, co24, eo24⟩ := Kd.R_slice HO472.out
    (first | subst eo24 | (injection eo24 with f1_ f2_ f3_; have f4_ := f1_.symm; have f5_ := f3_.symm; clear f1_ f2_ f3_; subst f4_; subst f5_))
    refine hK.out _ _ ⟨(blk_cell BK459.out 0).trans rfl, (blk_cell BK459.out 1).trans rfl⟩ (fun hHeld => ?_)
    clear hK K
    refine nU 25 ?_
    refine oU 6 26 (fun K hK => ?_)
    refine goes_ Try.func19 (by kernel_rfl) rfl #[.agg #[.slice Ao21 x460000_1.length co21, .slice Ao23 x460001_1.length co23], .agg #[.int .i64 t469, .slice Ao24 t470.length co24]] (by rfl) rfl rfl aA ?_
    with_reducible refine (spec_InsertFact.calls k1 _ _ x460000_1 _ _ x460001_1 t469 _ _ t470 t475 t478 t481 _ ?side1 ?side2 ?side3 ?side4 ?side5 ?side6 A19.out).mono ?_
    (case side1 => repeat (first | exact (Kd.R_reads' HO_460000.out).2.2 | (with_reducible refine pC ?_)))
    (case side2 => exact (Kd.R_reads' HO_460000.out).2.1)
    (case side3 => repeat (first | exact (Kd.N_reads' HO_460001.out).2.2 | (with_reducible refine pC ?_)))
    (case side4 => exact (Kd.N_reads' HO_460001.out).2.1)
    (case side5 => repeat (first | exact (Kd.R_reads' HO472.out).2.2 | (with_reducible refine pC ?_)))
    (case side6 => exact (Kd.R_reads' HO472.out).2.1)
    rintro e w25 ⟨v476, v479, rfl, ho0, ho1, hb⟩
    refine ⟨_, rfl, ?_⟩
    have n0_ := aM (Kd.R_elder' (aR HO_460000) (Kd.R_base ho0) hb)
    have n1_ := aM (Kd.N_mono (Kd.N_told (Kd.N_told (Kd.N_old (aN HO_460001) hb) (Kd.R_base ho0)) (Kd.N_base ho1)) (fun _ h_ => h_.1))
    have n2_ := aM (Kd.R_below (aR HO472) hb)
    have n3_ := aM (Kd.R_lower (Kd.R_new' (Kd.R_newM (M := fun k_ => (w.heap.size ≤ k_)) (Kd.R_mono (ok' := fun k_ => True) ho0 (fun _ hk_ => trivial)) (kS (w := w) (g := g)) (fun k_ h_ => h_)) (Kd.R_lt (aR HO_460000))) (kS (w := w) (g := g)))
    have n4_ := aM (Kd.N_lower (Kd.N_mono (ok' := fun k_ => (w.heap.size ≤ k_) ∧ some k_ ≠ (v476 : Value).ownBlock ∧ some k_ ≠ (.slice Ao21 x460000_1.length co21 : Value).ownBlock ∧ some k_ ≠ (.slice Ao23 x460001_1.length co23 : Value).ownBlock ∧ some k_ ≠ (.slice Ao24 t470.length co24 : Value).ownBlock ∧ k_ ≠ gb453 ∧ k_ ≠ gb459 ∧ k_ ≠ g) ho1 (fun k_ hk_ => ⟨(Nat.le_trans (kS (w := w) (g := g)) hk_.1), hk_.2, (Kd.fresh' (Kd.R_lt (aR HO_460000)) k_ hk_.1), (Kd.fresh' (Kd.N_lt (aN HO_460001)) k_ hk_.1), (Kd.fresh' (Kd.R_lt (aR HO472)) k_ hk_.1), (Kd.freshB (g := gb453) (o := .cells #[.slice none 0 0, .slice none 0 0] 27 (0, 0)) aK k_ hk_.1), (Kd.freshB (g := gb459) (o := .cells #[.slice Ao21 x460000_1.length co21, .slice Ao23 x460001_1.length co23] 27 (0, 0)) aK k_ hk_.1), (IsS83.fresh aZ k_ hk_.1)⟩)) (kS (w := w) (g := g)))
    have n5_ := aM (kB gb453 #[.slice none 0 0, .slice none 0 0] 27 hb)
    have n6_ := aM (kB gb459 #[.slice Ao21 x460000_1.length co21, .slice Ao23 x460001_1.length co23] 27 hb)
    have n7_ := aM (IsS83.below aZ hb)
    have n8_ := aM (KeepBut.trans aQ (KeepBut.of_below hb g none) (.inl rfl))
    have n9_ := aM (below_step aY hb)
    clear HO_460000
    clear HO_460001
    clear HO472
    clear BK453
    clear BK459
    clear HI0
    clear HK
    clear HB
    have HO_460000 := n0_
    have HO_460001 := n1_
    have HO472 := n2_
    have HO477 := n3_
    have HO480 := n4_
    have BK453 := n5_
    have BK459 := n6_
    have HI0 := n7_
    have HK := n8_
    have HB := n9_
    clear n0_ n1_ n2_ n3_ n4_ n5_ n6_ n7_ n8_ n9_
    (try clear hb)
    (try clear hb2)
    (try clear hk)
    (try clear hi)
    (try clear ho0)
    (try clear ho1)
    obtain ⟨Ao26, co26, eo26⟩ := Kd.R_slice HO477.out
    (first | subst eo26 | (injection eo26 with f1_ f2_ f3_; have f4_ := f1_.symm; have f5_ := f3_.symm; clear f1_ f2_ f3_; subst f4_; subst f5_))
    obtain ⟨Ao28, co28, eo28⟩ := Kd.N_slice HO480.out
    (first | subst eo28 | (injection eo28 with f1_ f2_ f3_; have f4_ := f1_.symm; have f5_ := f3_.symm; clear f1_ f2_ f3_; subst f4_; subst f5_))
    refine hK.out _ _ ⟨(blk_cell BK459.out 0).trans rfl, (blk_cell BK459.out 1).trans rfl⟩ (fun hHeld => ?_)
    clear hK K
    refine nU 26 ?_
    refine pU 7 19 ?_
    refine pU 8 27 ?_
    refine pU 9 28 ?_
    refine last_ (i := 10) (N := none) #[true, true, true, true, true, true, true, true, true, true, true] rfl rfl (one_of HT_.out (by kernel_rfl)) (by decide) (fun K hK => ?_)
    have hs27 : w25.cell? ⟨gb459, 0, none⟩ = some (.slice Ao21 x460000_1.length co21) := (blk_cell BK459.out 0).trans rfl
    have hfs27 := blk_frozen BK459.out 0
    have hns27_0 := NB453_459.out
    have hms27_0 := NB459_453.out
    have hs29 : w25.cell? ⟨gb459, 1, none⟩ = some (.slice Ao23 x460001_1.length co23) := (blk_cell BK459.out 1).trans rfl
    have hfs29 := blk_frozen BK459.out 1
    have hns29_0 := NB453_459.out
    have hms29_0 := NB459_453.out
    refine skip_ (w1 := ?_) (by rfl) rfl ?_ ?_
    rotate_left
    ·go_simp
     rfl
    refine hK.out _ _ ?_
    clear hK K
    refine done_ (done_of HT_.out (by kernel_rfl)) ?_
    try go_wp2
    go_roundg k1
    case measure => have := HK1.out; omega
    case rel => exact ⟨(wrap64 (x5_1 - 1)), (t473), (t474), (t475), (t478), (.slice Ao26 t475.length co26), (.slice Ao28 t478.length co28), aX, H', ⟨by have := HK1.out; omega⟩, ⟨by (with_reducible repeat apply pR); exact Kd.R_mono (Kd.R_far (p := ⟨gb459, 1, none⟩) (Kd.R_far (p := ⟨gb459, 0, none⟩) (Kd.R_types HO477.out BK459.out (by decide)) (fun _ hk => hk.2) (.slice Ao26 t475.length co26)) (fun _ hk => hk.2) (.slice Ao28 t478.length co28)) (fun _ hk => hk.1.1.1)⟩, ⟨by (with_reducible repeat apply pN); exact Kd.N_mono (Kd.N_far (p := ⟨gb459, 1, none⟩) (Kd.N_far (p := ⟨gb459, 0, none⟩) (Kd.N_mono HO480.out (fun k_ hk => (⟨hk, hk.2.2.2.2.2.2.1⟩ : _ ∧ k_ ≠ gb459))) (fun _ hk => hk.2) (.slice Ao26 t475.length co26)) (fun _ hk => hk.2) (.slice Ao28 t478.length co28)) (fun _ hk => ⟨hk.1.1, ⟨hk.1.2.1, ⟨hk.1.2.2.2.2.2.1, ⟨hk.1.2.2.2.2.2.2.1, hk.1.2.2.2.2.2.2.2⟩⟩⟩⟩)⟩, ⟨by (with_reducible repeat refine pB ?_); refine blk_far ?_ NB453_459.out _; (with_reducible repeat refine pB ?_); refine blk_far ?_ NB453_459.out _; (with_reducible repeat refine pB ?_); exact BK453.out⟩, ⟨by (with_reducible repeat refine pB ?_); refine blk_put (cs := #[.slice Ao26 t475.length co26, .slice Ao23 x460001_1.length co23]) ?_ 1 _ rfl; (with_reducible repeat refine pB ?_); refine blk_put (cs := #[.slice Ao21 x460000_1.length co21, .slice Ao23 x460001_1.length co23]) ?_ 0 _ rfl; (with_reducible repeat refine pB ?_); exact BK459.out⟩, ⟨aZ⟩, ⟨aQ⟩, ⟨aY⟩⟩
   ·rw [if_neg c17] at H
    have c17b0 : decide (0 < x5_1) = false := decide_eq_false c17
    clear c17
    simp only [Option.some.injEq, Prod.mk.injEq] at H
    obtain ⟨rfl, rfl, rfl, rfl⟩ := H
    have hnb30 := NB459_453.out
    have hnc30 := NB453_459.out
    have hnb31 := NB459_0.out
    have hnc31 := NB0_459.out
    have hcz32_0 : wr.cell? ⟨gb459, 0, none⟩ = some (u460000) := (blk_cell BK459.out 0).trans rfl
    have hcz32_1 : wr.cell? ⟨gb459, 1, none⟩ = some (u460001) := (blk_cell BK459.out 1).trans rfl
    have hfz32_0 := blk_frozen BK459.out 0
    have hfz32_1 := blk_frozen BK459.out 1
    obtain ⟨Ao33, co33, eo33⟩ := Kd.R_slice HO_460000.out
    subst eo33
    have hnb34 := NB453_0.out
    have hnc34 := NB0_453.out
    have hcz35_0 : wr.cell? ⟨gb453, 0, none⟩ = some (.slice none 0 0) := (blk_cell BK453.out 0).trans rfl
    have hcz35_1 : wr.cell? ⟨gb453, 1, none⟩ = some (.slice none 0 0) := (blk_cell BK453.out 1).trans rfl
    have hfz35_0 := blk_frozen BK453.out 0
    have hfz35_1 := blk_frozen BK453.out 1
    obtain ⟨Ao36, co36, eo36⟩ := Kd.N_slice HO_460001.out
    subst eo36
    go_wp2
    refine bodyPost_ret (results_cell_row rfl _ _ gb453 27 #[.slice Ao33 x460000_1.length co33, .slice Ao36 x460001_1.length co36] (0, 0) _ rfl (by (with_reducible repeat refine pB ?_); refine blk_put (cs := #[.slice Ao33 x460000_1.length co33, .slice none 0 0]) ?_ 1 _ rfl; (with_reducible repeat refine pB ?_); refine blk_put (cs := #[.slice none 0 0, .slice none 0 0]) ?_ 0 _ rfl; (with_reducible repeat refine pB ?_); exact BK453.out) Try.underlying27 rfl (by kernel_rfl)) rfl ?_
    exact ⟨_, _, aE, by (with_reducible repeat apply pR); exact Kd.R_mono (Kd.R_far (p := ⟨gb453, 1, none⟩) (Kd.R_far (p := ⟨gb453, 0, none⟩) (Kd.R_types HO_460000.out BK453.out (by decide)) (fun _ hk => hk.2) (.slice Ao33 x460000_1.length co33)) (fun _ hk => hk.2) (.slice Ao36 x460001_1.length co36)) (fun _ hk => hk.1), by (with_reducible repeat apply pN); exact Kd.N_mono (Kd.N_far (p := ⟨gb453, 1, none⟩) (Kd.N_far (p := ⟨gb453, 0, none⟩) (Kd.N_mono HO_460001.out (fun k_ hk => (⟨hk, hk.2.2.1⟩ : _ ∧ k_ ≠ gb453))) (fun _ hk => hk.2) (.slice Ao33 x460000_1.length co33)) (fun _ hk => hk.2) (.slice Ao36 x460001_1.length co36)) (fun _ hk => ⟨hk.1.1, hk.1.2.1⟩), aZ, aY, aQ⟩

end Go.Proofs.Ytbdeimhlohhhiaa.PFnRepairEnumeration
