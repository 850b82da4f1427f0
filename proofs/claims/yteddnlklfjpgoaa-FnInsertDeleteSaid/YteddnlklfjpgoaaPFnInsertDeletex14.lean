import Derived.Test.YteddnlklfjpgoaaPFnInsertDeletex0
import Derived.Test.YteddnlklfjpgoaaPFnInsertDeletex5
import Derived.Test.YteddnlklfjpgoaaPFnInsertDeletex12
import Derived.Test.YteddnlklfjpgoaaPFnInsertDeletex13
namespace Go.Proofs.Yteddnlklfjpgoaa.PFnInsertDelete
open Go.RowKit Go.Proofs.YteddnlklfjpgoaaW.PrintWords Go.Proofs.YteddnlklfjpgoaaW.PrintLast Go.Proofs.YteddnlklfjpgoaaW.PrintMore
attribute [local go_sem] max2_int min2_int max_two min_two max_three min_three max_four min_four
set_option linter.unusedVariables false
set_option linter.unusedSimpArgs false

/-! ### spec_l4Db: function 82 -/
def spec_l4Db.l0 : Nat → Int → Int → List Int → Int → Int → List (S74) → List (S45) → Option ((List (S74)) × (List (S45)) × Int × Int)
 | 0, _, _, _, _, _, _, _ => none
 | k + 1, x4, x5, x1000, x1001, x1002, x363000, x363001 => if x5 > 0 then ((spec_l3Fact.f k x1000 x1001 x1002 x363000 x4).bind fun bt372 => ((spec_InsertFact.f k x363000 x363001 bt372.1 bt372.2.1).bind fun bt378 => (spec_l4Db.l0 k x4 (wrap64 (x5 - 1)) x1000 bt372.2.2.1 bt372.2.2.2 bt378.1 bt378.2.1))) else (some (x363000, x363001, x1001, x1002))
def spec_l4Db.f (k : Nat) (s0_0 : List Int) (s0_1 : Int) (s0_2 : Int) : Option ((List (S74)) × (List (S45)) × Int × Int) := (spec_l2Sigs.f s0_0 s0_1 s0_2).bind fun bt357 => ((spec_l1PickInt.f s0_0 bt357.2.1 bt357.2.2 (([2, 2, 3, 3] : List Int))).bind fun bt366 => ((spec_l1Below.f s0_0 bt366.2.1 bt366.2.2 11).bind fun bt369 => (spec_l4Db.l0 k bt366.1 (wrap64 (2 + bt369.1)) s0_0 bt369.2.1 bt369.2.2 bt357.1 ([] : List (S45)))))
def spec_l4Db.T6 : Bool × List (List Nat × List Nat) := (true, [([], []), ([], []), ([], []), ([2], [2]), ([], []), ([1, 3, 4], [1, 3, 4]), ([0, 5, 5], [0, 5]), ([6], [6]), ([7], [7]), ([7], [7]), ([8, 6, 0, 1, 2, 3, 4, 5, 6, 7, 8], [8])])
def spec_l4Db.B6 : List Nat := [0, 0, 0, 4, 0, 30, 63, 127, 255, 255, 511]
theorem spec_l4Db.tab6 : rtab .any (opsOf Try.f82 6) = spec_l4Db.T6 := by kernel_rfl
theorem spec_l4Db.bits6 : waitsOk spec_l4Db.T6.2 spec_l4Db.B6 = true := by kernel_rfl
set_option maxHeartbeats 8000000 in
set_option maxRecDepth 100000 in
theorem spec_l4Db.calls (k : Nat) (g : Nat) (s0_0 : List Int) (s0_1 : Int) (s0_2 : Int) (r1 : List (S74)) (r2 : List (S45)) (r3 : Int) (r4 : Int) (w0 w : World) (hI : IsS95 w0 w g s0_0 s0_1 s0_2) (hB : Below w0.heap.size w0 w) (h : spec_l4Db.f k s0_0 s0_1 s0_2 = some (r1, r2, r3, r4)) :
  Calls Try.prog 82 #[.pointer (some ⟨g, 0, none⟩)] w fun e w' => ∃ v0_ v1_ : Value, e = .returned (.agg #[v0_, v1_]) ∧ Kd.R k74 74 w' w.heap.size (fun k_ => (w.heap.size ≤ k_)) v0_ r1 ∧ Kd.N k45 45 w' w.heap.size (fun k_ => (w.heap.size ≤ k_) ∧ some k_ ≠ (v0_ : Value).ownBlock) v1_ r2 ∧ IsS95 w0 w' g s0_0 r3 r4 ∧ Below w0.heap.size w0 w' ∧ KeepBut w w' g none := by
 have hu31 := Try.underlying31
 have HI0 := aM hI
 have HK := aM (KeepBut.refl w g none)
 have HL := aM hB.size
 clear hI
 have HW0 := aM hB.size
 have HB := aM hB
 clear hB
 have H : ((spec_l2Sigs.f s0_0 s0_1 s0_2).bind fun bt357 => ((spec_l1PickInt.f s0_0 bt357.2.1 bt357.2.2 (([2, 2, 3, 3] : List Int))).bind fun bt366 => ((spec_l1Below.f s0_0 bt366.2.1 bt366.2.2 11).bind fun bt369 => (spec_l4Db.l0 k bt366.1 (wrap64 (2 + bt369.1)) s0_0 bt369.2.1 bt369.2.2 bt357.1 ([] : List (S45)))))) = some (r1, r2, r3, r4) := h
 clear h
 replace H := bM H
 obtain ⟨⟨t357, t360, t361⟩, A20, H⟩ := H
 dsimp only at H
 have A2 := aM A20
 clear A20
 obtain ⟨y363, hy363⟩ : ∃ y_ : List Int, y_ = (([2, 2, 3, 3] : List Int)) := ⟨_, rfl⟩
 first | replace H := bY hy363 H | rw [← hy363] at H
 have Ny363 := aM hy363
 clear hy363
 replace H := bM H
 obtain ⟨⟨t366, t367, t368⟩, A30, H⟩ := H
 dsimp only at H
 have A3 := aM A30
 clear A30
 replace H := bM H
 obtain ⟨⟨t369, t370, t371⟩, A40, H⟩ := H
 dsimp only at H
 have A4 := aM A40
 clear A40
 have H' := aM H
 clear H
 go_enter Try.func82, Try.ntmps82
 go_wp2_with (first | ((with_reducible refine gate_dst (N := 2) rfl ?_); refine bE 2 (cs := #[.slice none 0 0, .slice none 0 0]) (t := 31) ?_; intro gb356 hg w5 hbox hb; have BK356 := aM (hbox); have GW356 := aM ((by rw [hg]; exact (kS (w := w) (g := g)) : w.heap.size ≤ gb356)); have GE356 := aM ((Nat.le_trans HW0.out (by rw [hg]; exact (kS (w := w) (g := g)) : w.heap.size ≤ gb356) : w0.heap.size ≤ gb356)); have NB0_356 := aM ((by rw [hg]; exact Nat.ne_of_lt (IsS95.lt (show IsS95 w0 _ g s0_0 s0_1 s0_2 from aZ)) : g ≠ gb356)); have NB356_0 := aM ((by rw [hg]; exact Nat.ne_of_gt (IsS95.lt (show IsS95 w0 _ g s0_0 s0_1 s0_2 from aZ)) : gb356 ≠ g)); replace HK := aM (KeepBut.trans aQ (KeepBut.of_below hb g none) (.inl rfl)); replace HB := aM (below_step aY hb); replace HI0 := aM (IsS95.below aZ hb); clear hb hbox hg) | ((with_reducible refine gate_callee (f := 90) rfl ?_); refine goesL_ (some 7) rfl rfl Try.func90 (by kernel_rfl) rfl #[.pointer (some ⟨g, 0, none⟩)] rfl aA ?_; (with_reducible refine (spec_l2Sigs.calls g s0_0 s0_1 s0_2 t357 t360 t361 w0 _ ?side1 ?side2 A2.out).mono ?_); (case side1 => exact aZ); (case side2 => exact aY); rintro e w6 ⟨v358, rfl, ho0, hi, hb, hk⟩; refine ⟨_, rfl, ?_⟩; have HO359 := aM (Kd.R_lower (Kd.R_newM (M := fun k_ => (w.heap.size ≤ k_)) ho0 (kS (w := w) (g := g)) (fun k_ h_ => h_)) (kS (w := w) (g := g))); replace BK356 := aM (KeepBut.blk hk (g' := gb356) aK NB356_0.out (by simp)); replace HK := aM (KeepBut.trans aQ hk (.inl rfl)); replace HB := aM (hb); replace HI0 := aM (hi); (try clear hb); (try clear hb2); (try clear hk); (try clear hi); (try clear ho0); obtain ⟨Ao7, co7, eo7⟩ := Kd.R_slice HO359.out; subst eo7) | ((with_reducible refine gate_dst (N := 3) rfl ?_); refine bE 3 (cs := #[.slice none 0 0, .slice none 0 0]) (t := 31) ?_; intro gb362 hg w8 hbox hb; have BK362 := aM (hbox); have GW362 := aM ((by rw [hg]; exact (kS (w := w) (g := g)) : w.heap.size ≤ gb362)); have GE362 := aM ((Nat.le_trans HW0.out (by rw [hg]; exact (kS (w := w) (g := g)) : w.heap.size ≤ gb362) : w0.heap.size ≤ gb362)); have NB356_362 := aM ((by rw [hg]; exact Nat.ne_of_lt (blk_lt (g := gb356) aK) : gb356 ≠ gb362)); have NB362_356 := aM ((by rw [hg]; exact Nat.ne_of_gt (blk_lt (g := gb356) aK) : gb362 ≠ gb356)); have NB0_362 := aM ((by rw [hg]; exact Nat.ne_of_lt (IsS95.lt (show IsS95 w0 _ g s0_0 t360 t361 from aZ)) : g ≠ gb362)); have NB362_0 := aM ((by rw [hg]; exact Nat.ne_of_gt (IsS95.lt (show IsS95 w0 _ g s0_0 t360 t361 from aZ)) : gb362 ≠ g)); replace HO359 := aM (Kd.R_below (aR HO359) hb); replace BK356 := aM (kB gb356 #[.slice none 0 0, .slice none 0 0] 31 hb); replace HK := aM (KeepBut.trans aQ (KeepBut.of_below hb g none) (.inl rfl)); replace HB := aM (below_step aY hb); replace HI0 := aM (IsS95.below aZ hb); clear hb hbox hg; have hnb9 := NB362_356.out; have hnc9 := NB356_362.out; have hnb10 := NB362_0.out; have hnc10 := NB0_362.out; have hcz11_0 : w8.cell? ⟨gb362, 0, none⟩ = some (.slice none 0 0) := (blk_cell BK362.out 0).trans rfl; have hcz11_1 : w8.cell? ⟨gb362, 1, none⟩ = some (.slice none 0 0) := (blk_cell BK362.out 1).trans rfl; have hfz11_0 := blk_frozen BK362.out 0; have hfz11_1 := blk_frozen BK362.out 1) | ((with_reducible refine gate_dst (N := 10) rfl ?_); refine Kd.R_lit (Kd.int .i64) _ 3 ?hg (N := 10) ?hd (xs := ([2, 2, 3, 3] : List Int)) (inner := [.int .i64 2, .int .i64 2, .int .i64 3, .int .i64 3]) (ok := fun _ => True) (okp := fun _ => True) ?hr ?hp (fun _ hk => hk) trivial (Below.refl _ _) (Nat.le_refl _) (by simp) ?_; (case hd => rfl); (case hg => rfl); (case hr => first | (go_simp; done) | (go_simp; rfl)); (case hp => exact (Reps.one (show Kd.M (Kd.int .i64) _ _ _ 2 [.int .i64 2] from rfl) (Reps.one (show Kd.M (Kd.int .i64) _ _ _ 2 [.int .i64 2] from rfl) (Reps.one (show Kd.M (Kd.int .i64) _ _ _ 3 [.int .i64 3] from rfl) (Reps.one (show Kd.M (Kd.int .i64) _ _ _ 3 [.int .i64 3] from rfl) (Reps.none _ _)))))); intro v364 w12 ho13 hb hg_ hnew_; clear hg_ hnew_; (first | rw [← Ny363.out] at ho13 | (simp only [Int.reduceToNat] at ho13; rw [← Ny363.out] at ho13)); have HO365 := aM (Kd.R_lower (Kd.R_newM (M := fun k_ => (w.heap.size ≤ k_)) ho13 (kS (w := w) (g := g)) (fun k_ h_ => h_)) (kS (w := w) (g := g))); replace HO359 := aM (Kd.R_below (by (with_reducible repeat apply pR); exact (rF1 HO359.out BK362.out (.slice Ao7 t357.length co7) (.slice none 0 0))) hb); replace BK356 := aM (blk_below (g := gb356) (bF2 NB356_362.out BK356.out) hb); replace BK362 := aM (blk_below (g := gb362) (bP2 BK362.out) hb); replace HK := aM (KeepBut.trans aQ (KeepBut.of_below hb g none) (.inl rfl)); replace HB := aM (below_step aY hb); replace HI0 := aM (IsS95.below (show IsS95 w0 ((w8.setCell ⟨gb362, 0, none⟩ (.slice Ao7 t357.length co7)).setCell ⟨gb362, 1, none⟩ (.slice none 0 0)) g s0_0 t360 t361 from aZ) hb); clear hb ho13; obtain ⟨Ao14, co14, eo14⟩ := Kd.R_slice HO365.out; subst eo14) | ((with_reducible refine gate_callee (f := 91) rfl ?_); refine goesL_ (some 11) rfl rfl Try.func91 (by kernel_rfl) rfl #[.pointer (some ⟨g, 0, none⟩), .slice Ao14 y363.length co14] rfl aA ?_; (with_reducible refine (spec_l1PickInt.calls g s0_0 t360 t361 _ _ y363 t366 t367 t368 w0 _ ?side1 ?side2 ?side3 ?side4 ?side5 A3.out).mono ?_); (case side1 => exact aZ); (case side2 => exact aY); (case side3 => repeat (first | exact (Kd.R_reads' HO365.out).2.2 | (with_reducible refine pC ?_))); (case side4 => exact (Kd.R_reads' HO365.out).2.1); (case side5 => exact far_slice (IsS95.own_ne HI0.out HO365.out (by decide))); rintro e w15 ⟨rfl, hi, hb, hk⟩; refine ⟨_, rfl, ?_⟩; have n0_ := aM (KeepBut.blk hk (g' := gb356) aK NB356_0.out (by simp)); have n1_ := aM (Kd.R_mono (Kd.R_keep (IsS95.apart (show IsS95 w0 _ g s0_0 t360 t361 from aZ) (aR HO359) (by decide)) hk (fun _ h => h.2)) (fun _ h => h.1)); have n2_ := aM (KeepBut.blk hk (g' := gb362) aK NB362_0.out (by simp)); have n3_ := aM (Kd.R_mono (Kd.R_keep (IsS95.apart (show IsS95 w0 _ g s0_0 t360 t361 from aZ) (aR HO365) (by decide)) hk (fun _ h => h.2)) (fun _ h => h.1)); have n4_ := aM (KeepBut.trans aQ hk (.inl rfl)); have n5_ := aM (hb); have n6_ := aM (hi); clear BK356; clear HO359; clear BK362; clear HO365; clear HK; clear HB; clear HI0; have BK356 := n0_; have HO359 := n1_; have BK362 := n2_; have HO365 := n3_; have HK := n4_; have HB := n5_; have HI0 := n6_; clear n0_ n1_ n2_ n3_ n4_ n5_ n6_; (try clear hb); (try clear hb2); (try clear hk); (try clear hi)) | ((with_reducible refine gate_callee (f := 83) rfl ?_); refine goesL_ (some 13) rfl rfl Try.func83 (by kernel_rfl) rfl #[.pointer (some ⟨g, 0, none⟩), .int .i64 11] rfl aA ?_; (with_reducible refine (spec_l1Below.calls g s0_0 t367 t368 11 t369 t370 t371 w0 _ ?side1 ?side2 A4.out).mono ?_); (case side1 => exact aZ); (case side2 => exact aY); rintro e w16 ⟨rfl, hi, hb, hk⟩; refine ⟨_, rfl, ?_⟩; have n0_ := aM (KeepBut.blk hk (g' := gb356) aK NB356_0.out (by simp)); have n1_ := aM (Kd.R_mono (Kd.R_keep (IsS95.apart (show IsS95 w0 _ g s0_0 t367 t368 from aZ) (aR HO359) (by decide)) hk (fun _ h => h.2)) (fun _ h => h.1)); have n2_ := aM (KeepBut.blk hk (g' := gb362) aK NB362_0.out (by simp)); have n3_ := aM (Kd.R_mono (Kd.R_keep (IsS95.apart (show IsS95 w0 _ g s0_0 t367 t368 from aZ) (aR HO365) (by decide)) hk (fun _ h => h.2)) (fun _ h => h.1)); have n4_ := aM (KeepBut.trans aQ hk (.inl rfl)); have n5_ := aM (hb); have n6_ := aM (hi); clear BK356; clear HO359; clear BK362; clear HO365; clear HK; clear HB; clear HI0; have BK356 := n0_; have HO359 := n1_; have BK362 := n2_; have HO365 := n3_; have HK := n4_; have HB := n5_; have HI0 := n6_; clear n0_ n1_ n2_ n3_ n4_ n5_ n6_; (try clear hb); (try clear hb2); (try clear hk); (try clear hi)))
 go_loopg [5] k (fun kq v5 w' => ∃ (x5_1 : Int) (x1001_1 : Int) (x1002_1 : Int) (x363000_1 : List (S74)) (x363001_1 : List (S45)) (u363000 : Value) (u363001 : Value), v5 = .int .i64 x5_1 ∧ Aside0 (spec_l4Db.l0 kq t366 x5_1 s0_0 x1001_1 x1002_1 x363000_1 x363001_1 = some (r1, r2, r3, r4)) ∧ Aside0 (kq ≤ k) ∧ Aside0 (Kd.R k74 74 w' w.heap.size (fun k_ => (w.heap.size ≤ k_)) u363000 x363000_1) ∧ Aside0 (Kd.N k45 45 w' w.heap.size (fun k_ => (w.heap.size ≤ k_) ∧ some k_ ≠ (u363000 : Value).ownBlock ∧ k_ ≠ gb356 ∧ k_ ≠ gb362 ∧ k_ ≠ g) u363001 x363001_1) ∧ Aside0 (w'.heap[gb356]? = some (.cells #[(.slice none 0 0), (.slice none 0 0)] 31 (0, 0))) ∧ Aside0 (w'.heap[gb362]? = some (.cells #[u363000, u363001] 31 (0, 0))) ∧ Aside0 (IsS95 w0 w' g s0_0 x1001_1 x1002_1) ∧ Aside0 (KeepBut w w' g none) ∧ Aside0 (Below w0.heap.size w0 w'))
 case atStart => exact ⟨(wrap64 (2 + t369)), (t370), (t371), (t357), (([] : List (S45))), (.slice Ao7 t357.length co7), (.slice none 0 0), aX, H', ⟨Nat.le_refl _⟩, ⟨by (with_reducible repeat apply pR); exact Kd.R_mono HO359.out (fun _ hk => hk.1)⟩, ⟨by first | exact Kd.S_nil _ _ _ _ _ | exact Kd.N_nil _ _ _ _ _ | exact Kd.V_nil _ _ _ _ _ | exact Kd.Q_nil _ _ _ _ _ | exact Kd.R_nil _ _ _ _ _⟩, ⟨aK⟩, ⟨aK⟩, ⟨aZ⟩, ⟨aQ⟩, ⟨aY⟩⟩
 case round =>
  clear H'
  try clear c1
  try clear p2
  try clear p6
  try clear c8
  try clear c9
  try clear c10
  try clear hcz11_0
  try clear hcz11_1
  try clear hfz11_0
  try clear hfz11_1
  obtain ⟨x5_1, x1001_1, x1002_1, x363000_1, x363001_1, u363000, u363001, rfl, HA, HK1, HO_363000, HO_363001, BK356, BK362, HI0, HK, HB⟩ := hrel
  cases gk with
  | zero => exact absurd HA.out (by simp [spec_l4Db.l0])
  | succ k1 =>
   have H := HA.out
   clear HA
   simp only [spec_l4Db.l0] at H
   by_cases c17 : x5_1 > 0
   ·rw [if_pos c17] at H
    have c17b0 : decide (0 < x5_1) = true := decide_eq_true c17
    clear c17
    replace H := bM H
    obtain ⟨⟨t372, t373, t376, t377⟩, A180, H⟩ := H
    dsimp only at H
    have A18 := aM A180
    clear A180
    replace H := bM H
    obtain ⟨⟨t378, t381, t384⟩, A190, H⟩ := H
    dsimp only at H
    have A19 := aM A190
    clear A190
    have H' := aM H
    clear H
    try go_wp2
    replace HO_363000 := aM (Kd.R_drew HO_363000.out)
    replace HO_363001 := aM (Kd.N_drew HO_363001.out)
    replace BK356 := aM (blk_drew BK356.out)
    replace BK362 := aM (blk_drew BK362.out)
    replace HI0 := aM (IsS95.drew HI0.out)
    replace HK := aM (keep_drew HK.out)
    replace HB := aM (below_drew1 HB.out)
    obtain ⟨Ao21, co21, eo21⟩ := Kd.R_slice HO_363000.out
    (first | subst eo21 | (injection eo21 with f1_ f2_ f3_; have f4_ := f1_.symm; have f5_ := f3_.symm; clear f1_ f2_ f3_; subst f4_; subst f5_))
    refine start_ (n := 11) (S := fun w' => w'.cell? ⟨gb362, 0, none⟩ = some (.slice Ao21 x363000_1.length co21) ∧ w'.cell? ⟨gb362, 1, none⟩ = some (u363001)) (ds := [10]) #[false, false, false, false, false, false, false, false, false, false, false] (by kernel_rfl) rfl rfl ⟨(blk_cell BK362.out 0).trans rfl, (blk_cell BK362.out 1).trans rfl⟩ (fun hHeld => ?_); refine with_tabW spec_l4Db.tab6 spec_l4Db.bits6 (fun HT_ HW_ => ?_)
    generalize wr.drew = w20 at HO_363000 HO_363001 BK356 BK362 HI0 HK HB hHeld ⊢
    refine pU 1 21 ?_
    refine pU 2 22 ?_
    refine pU 4 24 ?_
    refine tU2 0 20 hHeld ?_
    refine tU2 3 23 hHeld ?_
    refine oU 5 25 (fun K hK => ?_)
    refine goes_ Try.func92 (by kernel_rfl) rfl #[.pointer (some ⟨g, 0, none⟩), .slice Ao21 x363000_1.length co21, .int .i64 t366] (by rfl) rfl rfl aA ?_
    with_reducible refine (spec_l3Fact.calls k1 g s0_0 x1001_1 x1002_1 _ _ x363000_1 t366 t372 t373 t376 t377 w0 _ ?side1 ?side2 ?side3 ?side4 A18.out).mono ?_
    (case side1 => exact aZ)
    (case side2 => exact aY)
    (case side3 => exact Kd.C_foot_own (IsS95.apart (show IsS95 w0 _ g s0_0 x1001_1 x1002_1 from aZ) (aR HO_363000) (by decide)) (fun _ h_ => h_.2))
    (case side4 => exact (Kd.R_reads' HO_363000.out).2.1)
    rintro e w22 ⟨v374, rfl, ho0, hi, hb, hk⟩
    refine ⟨_, rfl, ?_⟩
    have n0_ := aM (Kd.R_mono (Kd.R_keep (IsS95.apart (show IsS95 w0 _ g s0_0 x1001_1 x1002_1 from aZ) (aR HO_363000) (by decide)) hk (fun _ h => h.2)) (fun _ h => h.1))
    have n1_ := aM (Kd.N_mono (Kd.N_told (Kd.N_oldK (Kd.N_mono (ok := fun k_ => (((w.heap.size ≤ k_)) ∧ (some k_ ≠ (.slice Ao21 x363000_1.length co21 : Value).ownBlock ∧ (k_ ≠ gb356 ∧ (k_ ≠ gb362 ∧ k_ ≠ g))))) (aN HO_363001) (fun k_ hk_ => (⟨hk_, hk_.2.2.2.2⟩ : _ ∧ k_ ≠ g))) hk) (Kd.R_base ho0)) (fun _ h_ => h_.1))
    have n2_ := aM (KeepBut.blk hk (g' := gb356) aK NB356_0.out (by simp))
    have n3_ := aM (KeepBut.blk hk (g' := gb362) aK NB362_0.out (by simp))
    have n4_ := aM (Kd.R_lower (Kd.R_newM (M := fun k_ => (w.heap.size ≤ k_)) ho0 (kS (w := w) (g := g)) (fun k_ h_ => h_)) (kS (w := w) (g := g)))
    have n5_ := aM (KeepBut.trans aQ hk (.inl rfl))
    have n6_ := aM (hb)
    have n7_ := aM (hi)
    clear HO_363000
    clear HO_363001
    clear BK356
    clear BK362
    clear HK
    clear HB
    clear HI0
    have HO_363000 := n0_
    have HO_363001 := n1_
    have BK356 := n2_
    have BK362 := n3_
    have HO375 := n4_
    have HK := n5_
    have HB := n6_
    have HI0 := n7_
    clear n0_ n1_ n2_ n3_ n4_ n5_ n6_ n7_
    (try clear hb)
    (try clear hb2)
    (try clear hk)
    (try clear hi)
    (try clear ho0)
    obtain ⟨Ao23, co23, eo23⟩ := Kd.N_slice HO_363001.out
    (first | subst eo23 | (injection eo23 with f1_ f2_ f3_; have f4_ := f1_.symm; have f5_ := f3_.symm; clear f1_ f2_ f3_; subst f4_; subst f5_))
    obtain ⟨Ao24, co24, eo24⟩ := Kd.R_slice HO375.out
    (first | subst eo24 | (injection eo24 with f1_ f2_ f3_; have f4_ := f1_.symm; have f5_ := f3_.symm; clear f1_ f2_ f3_; subst f4_; subst f5_))
    refine hK.out _ _ ⟨(blk_cell BK362.out 0).trans rfl, (blk_cell BK362.out 1).trans rfl⟩ (fun hHeld => ?_)
    clear hK K
    refine nU 25 ?_
    refine oU 6 26 (fun K hK => ?_)
    refine goes_ Try.func18 (by kernel_rfl) rfl #[.agg #[.slice Ao21 x363000_1.length co21, .slice Ao23 x363001_1.length co23], .agg #[.int .i64 t372, .slice Ao24 t373.length co24]] (by rfl) rfl rfl aA ?_
    with_reducible refine (spec_InsertFact.calls k1 _ _ x363000_1 _ _ x363001_1 t372 _ _ t373 t378 t381 t384 _ ?side1 ?side2 ?side3 ?side4 ?side5 ?side6 A19.out).mono ?_
    (case side1 => repeat (first | exact (Kd.R_reads' HO_363000.out).2.2 | (with_reducible refine pC ?_)))
    (case side2 => exact (Kd.R_reads' HO_363000.out).2.1)
    (case side3 => repeat (first | exact (Kd.N_reads' HO_363001.out).2.2 | (with_reducible refine pC ?_)))
    (case side4 => exact (Kd.N_reads' HO_363001.out).2.1)
    (case side5 => repeat (first | exact (Kd.R_reads' HO375.out).2.2 | (with_reducible refine pC ?_)))
    (case side6 => exact (Kd.R_reads' HO375.out).2.1)
    rintro e w25 ⟨v379, v382, rfl, ho0, ho1, hb⟩
    refine ⟨_, rfl, ?_⟩
    have n0_ := aM (Kd.R_elder' (aR HO_363000) (Kd.R_base ho0) hb)
    have n1_ := aM (Kd.N_mono (Kd.N_told (Kd.N_told (Kd.N_old (aN HO_363001) hb) (Kd.R_base ho0)) (Kd.N_base ho1)) (fun _ h_ => h_.1))
    have n2_ := aM (Kd.R_below (aR HO375) hb)
    have n3_ := aM (Kd.R_lower (Kd.R_new' (Kd.R_newM (M := fun k_ => (w.heap.size ≤ k_)) (Kd.R_mono (ok' := fun k_ => True) ho0 (fun _ hk_ => trivial)) (kS (w := w) (g := g)) (fun k_ h_ => h_)) (Kd.R_lt (aR HO_363000))) (kS (w := w) (g := g)))
    have n4_ := aM (Kd.N_lower (Kd.N_mono (ok' := fun k_ => (w.heap.size ≤ k_) ∧ some k_ ≠ (v379 : Value).ownBlock ∧ some k_ ≠ (.slice Ao21 x363000_1.length co21 : Value).ownBlock ∧ some k_ ≠ (.slice Ao23 x363001_1.length co23 : Value).ownBlock ∧ some k_ ≠ (.slice Ao24 t373.length co24 : Value).ownBlock ∧ k_ ≠ gb356 ∧ k_ ≠ gb362 ∧ k_ ≠ g) ho1 (fun k_ hk_ => ⟨(Nat.le_trans (kS (w := w) (g := g)) hk_.1), hk_.2, (Kd.fresh' (Kd.R_lt (aR HO_363000)) k_ hk_.1), (Kd.fresh' (Kd.N_lt (aN HO_363001)) k_ hk_.1), (Kd.fresh' (Kd.R_lt (aR HO375)) k_ hk_.1), (Kd.freshB (g := gb356) aK k_ hk_.1), (Kd.freshB (g := gb362) aK k_ hk_.1), (IsS95.fresh aZ k_ hk_.1)⟩)) (kS (w := w) (g := g)))
    have n5_ := aM (kB gb356 #[.slice none 0 0, .slice none 0 0] 31 hb)
    have n6_ := aM (kB gb362 #[.slice Ao21 x363000_1.length co21, .slice Ao23 x363001_1.length co23] 31 hb)
    have n7_ := aM (IsS95.below aZ hb)
    have n8_ := aM (KeepBut.trans aQ (KeepBut.of_below hb g none) (.inl rfl))
    have n9_ := aM (below_step aY hb)
    clear HO_363000
    clear HO_363001
    clear HO375
    clear BK356
    clear BK362
    clear HI0
    clear HK
    clear HB
    have HO_363000 := n0_
    have HO_363001 := n1_
    have HO375 := n2_
    have HO380 := n3_
    have HO383 := n4_
    have BK356 := n5_
    have BK362 := n6_
    have HI0 := n7_
    have HK := n8_
    have HB := n9_
    clear n0_ n1_ n2_ n3_ n4_ n5_ n6_ n7_ n8_ n9_
    (try clear hb)
    (try clear hb2)
    (try clear hk)
    (try clear hi)
    (try clear ho0)
    (try clear ho1)
    obtain ⟨Ao26, co26, eo26⟩ := Kd.R_slice HO380.out
    (first | subst eo26 | (injection eo26 with f1_ f2_ f3_; have f4_ := f1_.symm; have f5_ := f3_.symm; clear f1_ f2_ f3_; subst f4_; subst f5_))
    obtain ⟨Ao28, co28, eo28⟩ := Kd.N_slice HO383.out
    (first | subst eo28 | (injection eo28 with f1_ f2_ f3_; have f4_ := f1_.symm; have f5_ := f3_.symm; clear f1_ f2_ f3_; subst f4_; subst f5_))
    refine hK.out _ _ ⟨(blk_cell BK362.out 0).trans rfl, (blk_cell BK362.out 1).trans rfl⟩ (fun hHeld => ?_)
    clear hK K
    refine nU 26 ?_
    refine pU 7 19 ?_
    refine pU 8 27 ?_
    refine pU 9 28 ?_
    refine last_ (i := 10) (N := none) #[true, true, true, true, true, true, true, true, true, true, true] rfl rfl (one_of HT_.out (by kernel_rfl)) (by decide) (fun K hK => ?_)
    have hs27 : w25.cell? ⟨gb362, 0, none⟩ = some (.slice Ao21 x363000_1.length co21) := (blk_cell BK362.out 0).trans rfl
    have hfs27 := blk_frozen BK362.out 0
    have hns27_0 := NB356_362.out
    have hms27_0 := NB362_356.out
    have hs29 : w25.cell? ⟨gb362, 1, none⟩ = some (.slice Ao23 x363001_1.length co23) := (blk_cell BK362.out 1).trans rfl
    have hfs29 := blk_frozen BK362.out 1
    have hns29_0 := NB356_362.out
    have hms29_0 := NB362_356.out
    refine skip_ (w1 := ?_) (by rfl) rfl ?_ ?_
    rotate_left
    ·go_simp
     rfl
    refine hK.out _ _ ?_
    clear hK K
    refine done_ (done_of HT_.out (by kernel_rfl)) ?_
    try go_wp2
    go_roundg k1
    case measure => have := HK1.out; omega
    case rel => exact ⟨(wrap64 (x5_1 - 1)), (t376), (t377), (t378), (t381), (.slice Ao26 t378.length co26), (.slice Ao28 t381.length co28), aX, H', ⟨by have := HK1.out; omega⟩, ⟨by (with_reducible repeat apply pR); exact Kd.R_mono (Kd.R_far (p := ⟨gb362, 1, none⟩) (Kd.R_far (p := ⟨gb362, 0, none⟩) (Kd.R_types HO380.out BK362.out (by decide)) (fun _ hk => hk.2) (.slice Ao26 t378.length co26)) (fun _ hk => hk.2) (.slice Ao28 t381.length co28)) (fun _ hk => hk.1.1.1)⟩, ⟨by (with_reducible repeat apply pN); exact Kd.N_mono (Kd.N_far (p := ⟨gb362, 1, none⟩) (Kd.N_far (p := ⟨gb362, 0, none⟩) (Kd.N_mono HO383.out (fun k_ hk => (⟨hk, hk.2.2.2.2.2.2.1⟩ : _ ∧ k_ ≠ gb362))) (fun _ hk => hk.2) (.slice Ao26 t378.length co26)) (fun _ hk => hk.2) (.slice Ao28 t381.length co28)) (fun _ hk => ⟨hk.1.1, ⟨hk.1.2.1, ⟨hk.1.2.2.2.2.2.1, ⟨hk.1.2.2.2.2.2.2.1, hk.1.2.2.2.2.2.2.2⟩⟩⟩⟩)⟩, ⟨by (with_reducible repeat refine pB ?_); refine blk_far ?_ NB356_362.out _; (with_reducible repeat refine pB ?_); refine blk_far ?_ NB356_362.out _; (with_reducible repeat refine pB ?_); exact BK356.out⟩, ⟨by (with_reducible repeat refine pB ?_); refine blk_put (cs := #[.slice Ao26 t378.length co26, .slice Ao23 x363001_1.length co23]) ?_ 1 _ rfl; (with_reducible repeat refine pB ?_); refine blk_put (cs := #[.slice Ao21 x363000_1.length co21, .slice Ao23 x363001_1.length co23]) ?_ 0 _ rfl; (with_reducible repeat refine pB ?_); exact BK362.out⟩, ⟨aZ⟩, ⟨aQ⟩, ⟨aY⟩⟩
   ·rw [if_neg c17] at H
    have c17b0 : decide (0 < x5_1) = false := decide_eq_false c17
    clear c17
    simp only [Option.some.injEq, Prod.mk.injEq] at H
    obtain ⟨rfl, rfl, rfl, rfl⟩ := H
    have hnb30 := NB362_356.out
    have hnc30 := NB356_362.out
    have hnb31 := NB362_0.out
    have hnc31 := NB0_362.out
    have hcz32_0 : wr.cell? ⟨gb362, 0, none⟩ = some (u363000) := (blk_cell BK362.out 0).trans rfl
    have hcz32_1 : wr.cell? ⟨gb362, 1, none⟩ = some (u363001) := (blk_cell BK362.out 1).trans rfl
    have hfz32_0 := blk_frozen BK362.out 0
    have hfz32_1 := blk_frozen BK362.out 1
    obtain ⟨Ao33, co33, eo33⟩ := Kd.R_slice HO_363000.out
    subst eo33
    have hnb34 := NB356_0.out
    have hnc34 := NB0_356.out
    have hcz35_0 : wr.cell? ⟨gb356, 0, none⟩ = some (.slice none 0 0) := (blk_cell BK356.out 0).trans rfl
    have hcz35_1 : wr.cell? ⟨gb356, 1, none⟩ = some (.slice none 0 0) := (blk_cell BK356.out 1).trans rfl
    have hfz35_0 := blk_frozen BK356.out 0
    have hfz35_1 := blk_frozen BK356.out 1
    obtain ⟨Ao36, co36, eo36⟩ := Kd.N_slice HO_363001.out
    subst eo36
    go_wp2
    refine bodyPost_ret (results_cell_row rfl _ _ gb356 31 #[.slice Ao33 x363000_1.length co33, .slice Ao36 x363001_1.length co36] (0, 0) _ rfl (bP2 BK356.out) Try.underlying31 rfl (by kernel_rfl)) rfl ?_
    exact ⟨_, _, aE, by (with_reducible repeat apply pR); exact Kd.R_mono (Kd.R_far (p := ⟨gb356, 1, none⟩) (Kd.R_far (p := ⟨gb356, 0, none⟩) (Kd.R_types HO_363000.out BK356.out (by decide)) (fun _ hk => hk.2) (.slice Ao33 x363000_1.length co33)) (fun _ hk => hk.2) (.slice Ao36 x363001_1.length co36)) (fun _ hk => hk.1), by (with_reducible repeat apply pN); exact Kd.N_mono (Kd.N_far (p := ⟨gb356, 1, none⟩) (Kd.N_far (p := ⟨gb356, 0, none⟩) (Kd.N_mono HO_363001.out (fun k_ hk => (⟨hk, hk.2.2.1⟩ : _ ∧ k_ ≠ gb356))) (fun _ hk => hk.2) (.slice Ao33 x363000_1.length co33)) (fun _ hk => hk.2) (.slice Ao36 x363001_1.length co36)) (fun _ hk => ⟨hk.1.1, hk.1.2.1⟩), aZ, aY, aQ⟩

end Go.Proofs.Yteddnlklfjpgoaa.PFnInsertDelete
