import Derived.Test.YtckpikfbhlhhjaaDoorPFnSelectFactsx0
import Derived.Test.YtckpikfbhlhhjaaDoorPFnSelectFactsx2
import Derived.Test.YtckpikfbhlhhjaaDoorPFnSelectFactsx3
import Derived.Test.YtckpikfbhlhhjaaDoorPFnSelectFactsx5
namespace Go.Proofs.YtckpikfbhlhhjaaDoor.PFnSelectFacts
open Go.RowKit Go.Proofs.YtckpikfbhlhhjaaDoorW.PrintWords Go.Proofs.YtckpikfbhlhhjaaDoorW.PrintLast Go.Proofs.YtckpikfbhlhhjaaDoorW.PrintMore
attribute [local go_sem] max2_int min2_int max_two min_two max_three min_three max_four min_four
set_option linter.unusedVariables false
set_option linter.unusedSimpArgs false

/-! ### spec_l4Db: function 98 -/
def spec_l4Db.l0 : Nat → Int → Int → List Int → Int → Int → List (S68) → List (S39) → Option ((List (S68)) × (List (S39)) × Int × Int)
 | 0, _, _, _, _, _, _, _ => none
 | k + 1, x4, x5, x1000, x1001, x1002, x310000, x310001 => if x5 > 0 then ((spec_l3Fact.f k x1000 x1001 x1002 x310000 x4).bind fun bt319 => ((spec_InsertFact.f k x310000 x310001 bt319.1 bt319.2.1).bind fun bt325 => (spec_l4Db.l0 k x4 (wrap64 (x5 - 1)) x1000 bt319.2.2.1 bt319.2.2.2 bt325.1 bt325.2.1))) else (some (x310000, x310001, x1001, x1002))
def spec_l4Db.f (k : Nat) (s0_0 : List Int) (s0_1 : Int) (s0_2 : Int) : Option ((List (S68)) × (List (S39)) × Int × Int) := (spec_l2Sigs.f s0_0 s0_1 s0_2).bind fun bt304 => ((spec_l1PickInt.f s0_0 bt304.2.1 bt304.2.2 (([2, 2, 3, 3] : List Int))).bind fun bt313 => ((spec_l1Below.f s0_0 bt313.2.1 bt313.2.2 11).bind fun bt316 => (spec_l4Db.l0 k bt313.1 (wrap64 (2 + bt316.1)) s0_0 bt316.2.1 bt316.2.2 bt304.1 ([] : List (S39)))))
def spec_l4Db.T6 : Bool × List (List Nat × List Nat) := (true, [([], []), ([], []), ([], []), ([2], [2]), ([], []), ([1, 3, 4], [1, 3, 4]), ([0, 5, 5], [0, 5]), ([6], [6]), ([7], [7]), ([7], [7]), ([8, 6, 0, 1, 2, 3, 4, 5, 6, 7, 8], [8])])
def spec_l4Db.B6 : List Nat := [0, 0, 0, 4, 0, 30, 63, 127, 255, 255, 511]
theorem spec_l4Db.tab6 : rtab .any (opsOf Tryd.f98 6) = spec_l4Db.T6 := by kernel_rfl
theorem spec_l4Db.bits6 : waitsOk spec_l4Db.T6.2 spec_l4Db.B6 = true := by kernel_rfl
set_option maxHeartbeats 8000000 in
set_option maxRecDepth 100000 in
theorem spec_l4Db.calls (k : Nat) (g : Nat) (s0_0 : List Int) (s0_1 : Int) (s0_2 : Int) (r1 : List (S68)) (r2 : List (S39)) (r3 : Int) (r4 : Int) (w0 w : World) (hI : IsS117 w0 w g s0_0 s0_1 s0_2) (hB : Below w0.heap.size w0 w) (h : spec_l4Db.f k s0_0 s0_1 s0_2 = some (r1, r2, r3, r4)) :
  Calls Tryd.prog 98 #[.pointer (some ⟨g, 0, none⟩)] w fun e w' => ∃ v0_ v1_ : Value, e = .returned (.agg #[v0_, v1_]) ∧ Kd.R k68 68 w' w.heap.size (fun k_ => (w.heap.size ≤ k_)) v0_ r1 ∧ Kd.N k39 39 w' w.heap.size (fun k_ => (w.heap.size ≤ k_) ∧ some k_ ≠ (v0_ : Value).ownBlock) v1_ r2 ∧ IsS117 w0 w' g s0_0 r3 r4 ∧ Below w0.heap.size w0 w' ∧ KeepBut w w' g none := by
 have hu31 := Tryd.underlying31
 have HI0 := aM hI
 have HK := aM (KeepBut.refl w g none)
 have HL := aM hB.size
 clear hI
 have HW0 := aM hB.size
 have HB := aM hB
 clear hB
 have H : ((spec_l2Sigs.f s0_0 s0_1 s0_2).bind fun bt304 => ((spec_l1PickInt.f s0_0 bt304.2.1 bt304.2.2 (([2, 2, 3, 3] : List Int))).bind fun bt313 => ((spec_l1Below.f s0_0 bt313.2.1 bt313.2.2 11).bind fun bt316 => (spec_l4Db.l0 k bt313.1 (wrap64 (2 + bt316.1)) s0_0 bt316.2.1 bt316.2.2 bt304.1 ([] : List (S39)))))) = some (r1, r2, r3, r4) := h
 clear h
 replace H := bM H
 obtain ⟨⟨t304, t307, t308⟩, A20, H⟩ := H
 dsimp only at H
 have A2 := aM A20
 clear A20
 obtain ⟨y310, hy310⟩ : ∃ y_ : List Int, y_ = (([2, 2, 3, 3] : List Int)) := ⟨_, rfl⟩
 first | replace H := bY hy310 H | rw [← hy310] at H
 have Ny310 := aM hy310
 clear hy310
 replace H := bM H
 obtain ⟨⟨t313, t314, t315⟩, A30, H⟩ := H
 dsimp only at H
 have A3 := aM A30
 clear A30
 replace H := bM H
 obtain ⟨⟨t316, t317, t318⟩, A40, H⟩ := H
 dsimp only at H
 have A4 := aM A40
 clear A40
 have H' := aM H
 clear H
 go_enter Tryd.func98, Tryd.ntmps98
 go_wp2_with (first | ((with_reducible refine gate_dst (N := 2) rfl ?_); refine bE 2 (cs := #[.slice none 0 0, .slice none 0 0]) (t := 31) ?_; intro gb303 hg w5 hbox hb; have BK303 := aM (hbox); have GW303 := aM ((by rw [hg]; exact (kS (w := w) (g := g)) : w.heap.size ≤ gb303)); have GE303 := aM ((Nat.le_trans HW0.out (by rw [hg]; exact (kS (w := w) (g := g)) : w.heap.size ≤ gb303) : w0.heap.size ≤ gb303)); have NB0_303 := aM ((by rw [hg]; exact Nat.ne_of_lt (IsS117.lt (show IsS117 w0 _ g s0_0 s0_1 s0_2 from aZ)) : g ≠ gb303)); have NB303_0 := aM ((by rw [hg]; exact Nat.ne_of_gt (IsS117.lt (show IsS117 w0 _ g s0_0 s0_1 s0_2 from aZ)) : gb303 ≠ g)); replace HK := aM (KeepBut.trans aQ (KeepBut.of_below hb g none) (.inl rfl)); replace HB := aM (below_step aY hb); replace HI0 := aM (IsS117.below aZ hb); clear hb hbox hg) | ((with_reducible refine gate_callee (f := 54) rfl ?_); refine goesL_ (some 7) rfl rfl Tryd.func54 (by kernel_rfl) rfl #[.pointer (some ⟨g, 0, none⟩)] rfl aA ?_; (with_reducible refine (spec_l2Sigs.calls g s0_0 s0_1 s0_2 t304 t307 t308 w0 _ ?side1 ?side2 A2.out).mono ?_); (case side1 => exact aZ); (case side2 => exact aY); rintro e w6 ⟨v305, rfl, ho0, hi, hb, hk⟩; refine ⟨_, rfl, ?_⟩; have HO306 := aM (Kd.R_lower (Kd.R_newM (M := fun k_ => (w.heap.size ≤ k_)) ho0 (kS (w := w) (g := g)) (fun k_ h_ => h_)) (kS (w := w) (g := g))); replace BK303 := aM (KeepBut.blk hk (g' := gb303) (o := .cells #[.slice none 0 0, .slice none 0 0] 31 (0, 0)) aK NB303_0.out (by simp)); replace HK := aM (KeepBut.trans aQ hk (.inl rfl)); replace HB := aM (hb); replace HI0 := aM (hi); (try clear hb); (try clear hb2); (try clear hk); (try clear hi); (try clear ho0); obtain ⟨Ao7, co7, eo7⟩ := Kd.R_slice HO306.out; subst eo7) | ((with_reducible refine gate_dst (N := 3) rfl ?_); refine bE 3 (cs := #[.slice none 0 0, .slice none 0 0]) (t := 31) ?_; intro gb309 hg w8 hbox hb; have BK309 := aM (hbox); have GW309 := aM ((by rw [hg]; exact (kS (w := w) (g := g)) : w.heap.size ≤ gb309)); have GE309 := aM ((Nat.le_trans HW0.out (by rw [hg]; exact (kS (w := w) (g := g)) : w.heap.size ≤ gb309) : w0.heap.size ≤ gb309)); have NB303_309 := aM ((by rw [hg]; exact Nat.ne_of_lt (blk_lt (g := gb303) (o := .cells #[.slice none 0 0, .slice none 0 0] 31 (0, 0)) aK) : gb303 ≠ gb309)); have NB309_303 := aM ((by rw [hg]; exact Nat.ne_of_gt (blk_lt (g := gb303) (o := .cells #[.slice none 0 0, .slice none 0 0] 31 (0, 0)) aK) : gb309 ≠ gb303)); have NB0_309 := aM ((by rw [hg]; exact Nat.ne_of_lt (IsS117.lt (show IsS117 w0 _ g s0_0 t307 t308 from aZ)) : g ≠ gb309)); have NB309_0 := aM ((by rw [hg]; exact Nat.ne_of_gt (IsS117.lt (show IsS117 w0 _ g s0_0 t307 t308 from aZ)) : gb309 ≠ g)); replace HO306 := aM (Kd.R_below (aR HO306) hb); replace BK303 := aM (kB gb303 #[.slice none 0 0, .slice none 0 0] 31 hb); replace HK := aM (KeepBut.trans aQ (KeepBut.of_below hb g none) (.inl rfl)); replace HB := aM (below_step aY hb); replace HI0 := aM (IsS117.below aZ hb); clear hb hbox hg; have hnb9 := NB309_303.out; have hnc9 := NB303_309.out; have hnb10 := NB309_0.out; have hnc10 := NB0_309.out; have hcz11_0 : w8.cell? ⟨gb309, 0, none⟩ = some (.slice none 0 0) := (blk_cell BK309.out 0).trans rfl; have hcz11_1 : w8.cell? ⟨gb309, 1, none⟩ = some (.slice none 0 0) := (blk_cell BK309.out 1).trans rfl; have hfz11_0 := blk_frozen BK309.out 0; have hfz11_1 := blk_frozen BK309.out 1) | ((with_reducible refine gate_dst (N := 10) rfl ?_); refine Kd.R_lit (Kd.int .i64) _ 3 ?hg (N := 10) ?hd (xs := ([2, 2, 3, 3] : List Int)) (inner := [.int .i64 2, .int .i64 2, .int .i64 3, .int .i64 3]) (ok := fun _ => True) (okp := fun _ => True) ?hr ?hp (fun _ hk => hk) trivial (Below.refl _ _) (Nat.le_refl _) (by simp) ?_; (case hd => rfl); (case hg => rfl); (case hr => first | (go_simp; done) | (go_simp; rfl)); (case hp => exact (Reps.one (show Kd.M (Kd.int .i64) _ _ _ 2 [.int .i64 2] from rfl) (Reps.one (show Kd.M (Kd.int .i64) _ _ _ 2 [.int .i64 2] from rfl) (Reps.one (show Kd.M (Kd.int .i64) _ _ _ 3 [.int .i64 3] from rfl) (Reps.one (show Kd.M (Kd.int .i64) _ _ _ 3 [.int .i64 3] from rfl) (Reps.none _ _)))))); intro v311 w12 ho13 hb hg_ hnew_; clear hg_ hnew_; (first | rw [← Ny310.out] at ho13 | (simp only [Int.reduceToNat] at ho13; rw [← Ny310.out] at ho13)); have HO312 := aM (Kd.R_lower (Kd.R_newM (M := fun k_ => (w.heap.size ≤ k_)) ho13 (kS (w := w) (g := g)) (fun k_ h_ => h_)) (kS (w := w) (g := g))); replace HO306 := aM (Kd.R_below (by (with_reducible repeat apply pR); exact (Kd.R_mono (Kd.R_far (p := ⟨gb309, 1, none⟩) (Kd.R_far (p := ⟨gb309, 0, none⟩) (Kd.R_types HO306.out BK309.out (by decide)) (fun _ hk => hk.2) (.slice Ao7 t304.length co7)) (fun _ hk => hk.2) (.slice none 0 0)) (fun _ h_ => h_.1))) hb); replace BK303 := aM (blk_below (g := gb303) (o := .cells #[.slice none 0 0, .slice none 0 0] 31 (0, 0)) (by (with_reducible repeat refine pB ?_); refine blk_far ?_ NB303_309.out _; (with_reducible repeat refine pB ?_); refine blk_far ?_ NB303_309.out _; (with_reducible repeat refine pB ?_); exact BK303.out) hb); replace BK309 := aM (blk_below (g := gb309) (o := .cells #[.slice Ao7 t304.length co7, .slice none 0 0] 31 (0, 0)) (by (with_reducible repeat refine pB ?_); refine blk_put (cs := #[.slice Ao7 t304.length co7, .slice none 0 0]) ?_ 1 _ rfl; (with_reducible repeat refine pB ?_); refine blk_put (cs := #[.slice none 0 0, .slice none 0 0]) ?_ 0 _ rfl; (with_reducible repeat refine pB ?_); exact BK309.out) hb); replace HK := aM (KeepBut.trans aQ (KeepBut.of_below hb g none) (.inl rfl)); replace HB := aM (below_step aY hb); replace HI0 := aM (IsS117.below (show IsS117 w0 ((w8.setCell ⟨gb309, 0, none⟩ (.slice Ao7 t304.length co7)).setCell ⟨gb309, 1, none⟩ (.slice none 0 0)) g s0_0 t307 t308 from aZ) hb); clear hb ho13; obtain ⟨Ao14, co14, eo14⟩ := Kd.R_slice HO312.out; subst eo14) | ((with_reducible refine gate_callee (f := 93) rfl ?_); refine goesL_ (some 11) rfl rfl Tryd.func93 (by kernel_rfl) rfl #[.pointer (some ⟨g, 0, none⟩), .slice Ao14 y310.length co14] rfl aA ?_; (with_reducible refine (spec_l1PickInt.calls g s0_0 t307 t308 _ _ y310 t313 t314 t315 w0 _ ?side1 ?side2 ?side3 ?side4 ?side5 A3.out).mono ?_); (case side1 => exact aZ); (case side2 => exact aY); (case side3 => repeat (first | exact (Kd.R_reads' HO312.out).2.2 | (with_reducible refine pC ?_))); (case side4 => exact (Kd.R_reads' HO312.out).2.1); (case side5 => exact far_slice (IsS117.own_ne HI0.out HO312.out (by decide))); rintro e w15 ⟨rfl, hi, hb, hk⟩; refine ⟨_, rfl, ?_⟩; have n0_ := aM (KeepBut.blk hk (g' := gb303) (o := .cells #[.slice none 0 0, .slice none 0 0] 31 (0, 0)) aK NB303_0.out (by simp)); have n1_ := aM (Kd.R_mono (Kd.R_keep (IsS117.apart (show IsS117 w0 _ g s0_0 t307 t308 from aZ) (aR HO306) (by decide)) hk (fun _ h => h.2)) (fun _ h => h.1)); have n2_ := aM (KeepBut.blk hk (g' := gb309) (o := .cells #[.slice Ao7 t304.length co7, .slice none 0 0] 31 (0, 0)) aK NB309_0.out (by simp)); have n3_ := aM (Kd.R_mono (Kd.R_keep (IsS117.apart (show IsS117 w0 _ g s0_0 t307 t308 from aZ) (aR HO312) (by decide)) hk (fun _ h => h.2)) (fun _ h => h.1)); have n4_ := aM (KeepBut.trans aQ hk (.inl rfl)); have n5_ := aM (hb); have n6_ := aM (hi); clear BK303; clear HO306; clear BK309; clear HO312; clear HK; clear HB; clear HI0; have BK303 := n0_; have HO306 := n1_; have BK309 := n2_; have HO312 := n3_; have HK := n4_; have HB := n5_; have HI0 := n6_; clear n0_ n1_ n2_ n3_ n4_ n5_ n6_; (try clear hb); (try clear hb2); (try clear hk); (try clear hi)) | ((with_reducible refine gate_callee (f := 62) rfl ?_); refine goesL_ (some 13) rfl rfl Tryd.func62 (by kernel_rfl) rfl #[.pointer (some ⟨g, 0, none⟩), .int .i64 11] rfl aA ?_; (with_reducible refine (spec_l1Below.calls g s0_0 t314 t315 11 t316 t317 t318 w0 _ ?side1 ?side2 A4.out).mono ?_); (case side1 => exact aZ); (case side2 => exact aY); rintro e w16 ⟨rfl, hi, hb, hk⟩; refine ⟨_, rfl, ?_⟩; have n0_ := aM (KeepBut.blk hk (g' := gb303) (o := .cells #[.slice none 0 0, .slice none 0 0] 31 (0, 0)) aK NB303_0.out (by simp)); have n1_ := aM (Kd.R_mono (Kd.R_keep (IsS117.apart (show IsS117 w0 _ g s0_0 t314 t315 from aZ) (aR HO306) (by decide)) hk (fun _ h => h.2)) (fun _ h => h.1)); have n2_ := aM (KeepBut.blk hk (g' := gb309) (o := .cells #[.slice Ao7 t304.length co7, .slice none 0 0] 31 (0, 0)) aK NB309_0.out (by simp)); have n3_ := aM (Kd.R_mono (Kd.R_keep (IsS117.apart (show IsS117 w0 _ g s0_0 t314 t315 from aZ) (aR HO312) (by decide)) hk (fun _ h => h.2)) (fun _ h => h.1)); have n4_ := aM (KeepBut.trans aQ hk (.inl rfl)); have n5_ := aM (hb); have n6_ := aM (hi); clear BK303; clear HO306; clear BK309; clear HO312; clear HK; clear HB; clear HI0; have BK303 := n0_; have HO306 := n1_; have BK309 := n2_; have HO312 := n3_; have HK := n4_; have HB := n5_; have HI0 := n6_; clear n0_ n1_ n2_ n3_ n4_ n5_ n6_; (try clear hb); (try clear hb2); (try clear hk); (try clear hi)))
 go_loopg [5] k (fun kq v5 w' => ∃ (x5_1 : Int) (x1001_1 : Int) (x1002_1 : Int) (x310000_1 : List (S68)) (x310001_1 : List (S39)) (u310000 : Value) (u310001 : Value), v5 = .int .i64 x5_1 ∧ Aside0 (spec_l4Db.l0 kq t313 x5_1 s0_0 x1001_1 x1002_1 x310000_1 x310001_1 = some (r1, r2, r3, r4)) ∧ Aside0 (kq ≤ k) ∧ Aside0 (Kd.R k68 68 w' w.heap.size (fun k_ => (w.heap.size ≤ k_)) u310000 x310000_1) ∧ Aside0 (Kd.N k39 39 w' w.heap.size (fun k_ => (w.heap.size ≤ k_) ∧ some k_ ≠ (u310000 : Value).ownBlock ∧ k_ ≠ gb303 ∧ k_ ≠ gb309 ∧ k_ ≠ g) u310001 x310001_1) ∧ Aside0 (w'.heap[gb303]? = some (.cells #[(.slice none 0 0), (.slice none 0 0)] 31 (0, 0))) ∧ Aside0 (w'.heap[gb309]? = some (.cells #[u310000, u310001] 31 (0, 0))) ∧ Aside0 (IsS117 w0 w' g s0_0 x1001_1 x1002_1) ∧ Aside0 (KeepBut w w' g none) ∧ Aside0 (Below w0.heap.size w0 w'))
 case atStart => exact ⟨(wrap64 (2 + t316)), (t317), (t318), (t304), (([] : List (S39))), (.slice Ao7 t304.length co7), (.slice none 0 0), aX, H', ⟨Nat.le_refl _⟩, ⟨by (with_reducible repeat apply pR); exact Kd.R_mono HO306.out (fun _ hk => hk.1)⟩, ⟨by first | exact Kd.S_nil _ _ _ _ _ | exact Kd.N_nil _ _ _ _ _ | exact Kd.V_nil _ _ _ _ _ | exact Kd.Q_nil _ _ _ _ _ | exact Kd.R_nil _ _ _ _ _⟩, ⟨aK⟩, ⟨aK⟩, ⟨aZ⟩, ⟨aQ⟩, ⟨aY⟩⟩
 case round =>
  clear H'
  try clear c1
  try clear p2
  try clear c5
  try clear c6
  try clear p6
  try clear c9
  try clear c10
  try clear hcz11_0
  try clear hcz11_1
  try clear hfz11_0
  try clear hfz11_1
  obtain ⟨x5_1, x1001_1, x1002_1, x310000_1, x310001_1, u310000, u310001, rfl, HA, HK1, HO_310000, HO_310001, BK303, BK309, HI0, HK, HB⟩ := hrel
  cases gk with
  | zero => exact absurd HA.out (by simp [spec_l4Db.l0])
  | succ k1 =>
   have H := HA.out
   clear HA
   simp only [spec_l4Db.l0] at H
   by_cases c17 : x5_1 > 0
   ·rw [if_pos c17] at H
    have c17b0 : decide (0 < x5_1) = true := decide_eq_true c17
    clear c17
    replace H := bM H
    obtain ⟨⟨t319, t320, t323, t324⟩, A180, H⟩ := H
    dsimp only at H
    have A18 := aM A180
    clear A180
    replace H := bM H
    obtain ⟨⟨t325, t328, t331⟩, A190, H⟩ := H
    dsimp only at H
    have A19 := aM A190
    clear A190
    have H' := aM H
    clear H
    try go_wp2
    replace HO_310000 := aM (Kd.R_drew HO_310000.out)
    replace HO_310001 := aM (Kd.N_drew HO_310001.out)
    replace BK303 := aM (blk_drew BK303.out)
    replace BK309 := aM (blk_drew BK309.out)
    replace HI0 := aM (IsS117.drew HI0.out)
    replace HK := aM (keep_drew HK.out)
    replace HB := aM (below_drew1 HB.out)
    obtain ⟨Ao21, co21, eo21⟩ := Kd.R_slice HO_310000.out
    (first | subst eo21 | (injection eo21 with f1_ f2_ f3_; have f4_ := f1_.symm; have f5_ := f3_.symm; clear f1_ f2_ f3_; subst f4_; subst f5_))
    refine start_ (n := 11) (S := fun w' => w'.cell? ⟨gb309, 0, none⟩ = some (.slice Ao21 x310000_1.length co21) ∧ w'.cell? ⟨gb309, 1, none⟩ = some (u310001)) (ds := [10]) #[false, false, false, false, false, false, false, false, false, false, false] (by kernel_rfl) rfl rfl ⟨(blk_cell BK309.out 0).trans rfl, (blk_cell BK309.out 1).trans rfl⟩ (fun hHeld => ?_); refine with_tabW spec_l4Db.tab6 spec_l4Db.bits6 (fun HT_ HW_ => ?_)
    generalize wr.drew = w20 at HO_310000 HO_310001 BK303 BK309 HI0 HK HB hHeld ⊢
    refine pU 1 21 ?_
    refine pU 2 22 ?_
    refine pU 4 24 ?_
    refine tU2 0 20 hHeld ?_
    refine tU2 3 23 hHeld ?_
    refine oU 5 25 (fun K hK => ?_)
    refine goes_ Tryd.func56 (by kernel_rfl) rfl #[.pointer (some ⟨g, 0, none⟩), .slice Ao21 x310000_1.length co21, .int .i64 t313] (by rfl) rfl rfl aA ?_
    with_reducible refine (spec_l3Fact.calls k1 g s0_0 x1001_1 x1002_1 _ _ x310000_1 t313 t319 t320 t323 t324 w0 _ ?side1 ?side2 ?side3 ?side4 A18.out).mono ?_
    (case side1 => exact aZ)
    (case side2 => exact aY)
    (case side3 => exact Kd.C_foot_own (IsS117.apart (show IsS117 w0 _ g s0_0 x1001_1 x1002_1 from aZ) (aR HO_310000) (by decide)) (fun _ h_ => h_.2))
    (case side4 => exact (Kd.R_reads' HO_310000.out).2.1)
    rintro e w22 ⟨v321, rfl, ho0, hi, hb, hk⟩
    refine ⟨_, rfl, ?_⟩
    have n0_ := aM (Kd.R_mono (Kd.R_keep (IsS117.apart (show IsS117 w0 _ g s0_0 x1001_1 x1002_1 from aZ) (aR HO_310000) (by decide)) hk (fun _ h => h.2)) (fun _ h => h.1))
    have n1_ := aM (Kd.N_mono (Kd.N_told (Kd.N_oldK (Kd.N_mono (ok := fun k_ => (((w.heap.size ≤ k_)) ∧ (some k_ ≠ (.slice Ao21 x310000_1.length co21 : Value).ownBlock ∧ (k_ ≠ gb303 ∧ (k_ ≠ gb309 ∧ k_ ≠ g))))) (aN HO_310001) (fun k_ hk_ => (⟨hk_, hk_.2.2.2.2⟩ : _ ∧ k_ ≠ g))) hk) (Kd.R_base ho0)) (fun _ h_ => h_.1))
    have n2_ := aM (KeepBut.blk hk (g' := gb303) (o := .cells #[.slice none 0 0, .slice none 0 0] 31 (0, 0)) aK NB303_0.out (by simp))
    have n3_ := aM (KeepBut.blk hk (g' := gb309) (o := .cells #[.slice Ao21 x310000_1.length co21, u310001] 31 (0, 0)) aK NB309_0.out (by simp))
    have n4_ := aM (Kd.R_lower (Kd.R_newM (M := fun k_ => (w.heap.size ≤ k_)) ho0 (kS (w := w) (g := g)) (fun k_ h_ => h_)) (kS (w := w) (g := g)))
    have n5_ := aM (KeepBut.trans aQ hk (.inl rfl))
    have n6_ := aM (hb)
    have n7_ := aM (hi)
    clear HO_310000
    clear HO_310001
    clear BK303
    clear BK309
    clear HK
    clear HB
    clear HI0
    have HO_310000 := n0_
    have HO_310001 := n1_
    have BK303 := n2_
    have BK309 := n3_
    have HO322 := n4_
    have HK := n5_
    have HB := n6_
    have HI0 := n7_
    clear n0_ n1_ n2_ n3_ n4_ n5_ n6_ n7_
    (try clear hb)
    (try clear hb2)
    (try clear hk)
    (try clear hi)
    (try clear ho0)
    obtain ⟨Ao23, co23, eo23⟩ := Kd.N_slice HO_310001.out
    (first | subst eo23 | (injection eo23 with f1_ f2_ f3_; have f4_ := f1_.symm; have f5_ := f3_.symm; clear f1_ f2_ f3_; subst f4_; subst f5_))
    obtain ⟨Ao24, co24, eo24⟩ := Kd.R_slice HO322.out
    (first | subst eo24 | (injection eo24 with f1_ f2_ f3_; have f4_ := f1_.symm; have f5_ := f3_.symm; clear f1_ f2_ f3_; subst f4_; subst f5_))
    refine hK.out _ _ ⟨(blk_cell BK309.out 0).trans rfl, (blk_cell BK309.out 1).trans rfl⟩ (fun hHeld => ?_)
    clear hK K
    refine nU 25 ?_
    refine oU 6 26 (fun K hK => ?_)
    refine goes_ Tryd.func107 (by kernel_rfl) rfl #[.agg #[.slice Ao21 x310000_1.length co21, .slice Ao23 x310001_1.length co23], .agg #[.int .i64 t319, .slice Ao24 t320.length co24]] (by rfl) rfl rfl aA ?_
    with_reducible refine (spec_InsertFact.calls k1 _ _ x310000_1 _ _ x310001_1 t319 _ _ t320 t325 t328 t331 _ ?side1 ?side2 ?side3 ?side4 ?side5 ?side6 A19.out).mono ?_
    (case side1 => repeat (first | exact (Kd.R_reads' HO_310000.out).2.2 | (with_reducible refine pC ?_)))
    (case side2 => exact (Kd.R_reads' HO_310000.out).2.1)
    (case side3 => repeat (first | exact (Kd.N_reads' HO_310001.out).2.2 | (with_reducible refine pC ?_)))
    (case side4 => exact (Kd.N_reads' HO_310001.out).2.1)
    (case side5 => repeat (first | exact (Kd.R_reads' HO322.out).2.2 | (with_reducible refine pC ?_)))
    (case side6 => exact (Kd.R_reads' HO322.out).2.1)
    rintro e w25 ⟨v326, v329, rfl, ho0, ho1, hb⟩
    refine ⟨_, rfl, ?_⟩
    have n0_ := aM (Kd.R_elder' (aR HO_310000) (Kd.R_base ho0) hb)
    have n1_ := aM (Kd.N_mono (Kd.N_told (Kd.N_told (Kd.N_old (aN HO_310001) hb) (Kd.R_base ho0)) (Kd.N_base ho1)) (fun _ h_ => h_.1))
    have n2_ := aM (Kd.R_below (aR HO322) hb)
    have n3_ := aM (Kd.R_lower (Kd.R_new' (Kd.R_newM (M := fun k_ => (w.heap.size ≤ k_)) (Kd.R_mono (ok' := fun k_ => True) ho0 (fun _ hk_ => trivial)) (kS (w := w) (g := g)) (fun k_ h_ => h_)) (Kd.R_lt (aR HO_310000))) (kS (w := w) (g := g)))
    have n4_ := aM (Kd.N_lower (Kd.N_mono (ok' := fun k_ => (w.heap.size ≤ k_) ∧ some k_ ≠ (v326 : Value).ownBlock ∧ some k_ ≠ (.slice Ao21 x310000_1.length co21 : Value).ownBlock ∧ some k_ ≠ (.slice Ao23 x310001_1.length co23 : Value).ownBlock ∧ some k_ ≠ (.slice Ao24 t320.length co24 : Value).ownBlock ∧ k_ ≠ gb303 ∧ k_ ≠ gb309 ∧ k_ ≠ g) ho1 (fun k_ hk_ => ⟨(Nat.le_trans (kS (w := w) (g := g)) hk_.1), hk_.2, (Kd.fresh' (Kd.R_lt (aR HO_310000)) k_ hk_.1), (Kd.fresh' (Kd.N_lt (aN HO_310001)) k_ hk_.1), (Kd.fresh' (Kd.R_lt (aR HO322)) k_ hk_.1), (Kd.freshB (g := gb303) (o := .cells #[.slice none 0 0, .slice none 0 0] 31 (0, 0)) aK k_ hk_.1), (Kd.freshB (g := gb309) (o := .cells #[.slice Ao21 x310000_1.length co21, .slice Ao23 x310001_1.length co23] 31 (0, 0)) aK k_ hk_.1), (IsS117.fresh aZ k_ hk_.1)⟩)) (kS (w := w) (g := g)))
    have n5_ := aM (kB gb303 #[.slice none 0 0, .slice none 0 0] 31 hb)
    have n6_ := aM (kB gb309 #[.slice Ao21 x310000_1.length co21, .slice Ao23 x310001_1.length co23] 31 hb)
    have n7_ := aM (IsS117.below aZ hb)
    have n8_ := aM (KeepBut.trans aQ (KeepBut.of_below hb g none) (.inl rfl))
    have n9_ := aM (below_step aY hb)
    clear HO_310000
    clear HO_310001
    clear HO322
    clear BK303
    clear BK309
    clear HI0
    clear HK
    clear HB
    have HO_310000 := n0_
    have HO_310001 := n1_
    have HO322 := n2_
    have HO327 := n3_
    have HO330 := n4_
    have BK303 := n5_
    have BK309 := n6_
    have HI0 := n7_
    have HK := n8_
    have HB := n9_
    clear n0_ n1_ n2_ n3_ n4_ n5_ n6_ n7_ n8_ n9_
    (try clear hb)
    (try clear hb2)
    (try clear hk)
    (try clear hi)
    (try clear ho0)
    (try clear ho1)
    obtain ⟨Ao26, co26, eo26⟩ := Kd.R_slice HO327.out
    (first | subst eo26 | (injection eo26 with f1_ f2_ f3_; have f4_ := f1_.symm; have f5_ := f3_.symm; clear f1_ f2_ f3_; subst f4_; subst f5_))
    obtain ⟨Ao28, co28, eo28⟩ := Kd.N_slice HO330.out
    (first | subst eo28 | (injection eo28 with f1_ f2_ f3_; have f4_ := f1_.symm; have f5_ := f3_.symm; clear f1_ f2_ f3_; subst f4_; subst f5_))
    refine hK.out _ _ ⟨(blk_cell BK309.out 0).trans rfl, (blk_cell BK309.out 1).trans rfl⟩ (fun hHeld => ?_)
    clear hK K
    refine nU 26 ?_
    refine pU 7 19 ?_
    refine pU 8 27 ?_
    refine pU 9 28 ?_
    refine last_ (i := 10) (N := none) #[true, true, true, true, true, true, true, true, true, true, true] rfl rfl (one_of HT_.out (by kernel_rfl)) (by decide) (fun K hK => ?_)
    have hs27 : w25.cell? ⟨gb309, 0, none⟩ = some (.slice Ao21 x310000_1.length co21) := (blk_cell BK309.out 0).trans rfl
    have hfs27 := blk_frozen BK309.out 0
    have hns27_0 := NB303_309.out
    have hms27_0 := NB309_303.out
    have hs29 : w25.cell? ⟨gb309, 1, none⟩ = some (.slice Ao23 x310001_1.length co23) := (blk_cell BK309.out 1).trans rfl
    have hfs29 := blk_frozen BK309.out 1
    have hns29_0 := NB303_309.out
    have hms29_0 := NB309_303.out
    refine skip_ (w1 := ?_) (by rfl) rfl ?_ ?_
    rotate_left
    ·go_simp
     rfl
    refine hK.out _ _ ?_
    clear hK K
    refine done_ (done_of HT_.out (by kernel_rfl)) ?_
    try go_wp2
    go_roundg k1
    case measure => have := HK1.out; omega
    case rel => exact ⟨(wrap64 (x5_1 - 1)), (t323), (t324), (t325), (t328), (.slice Ao26 t325.length co26), (.slice Ao28 t328.length co28), aX, H', ⟨by have := HK1.out; omega⟩, ⟨by (with_reducible repeat apply pR); exact Kd.R_mono (Kd.R_far (p := ⟨gb309, 1, none⟩) (Kd.R_far (p := ⟨gb309, 0, none⟩) (Kd.R_types HO327.out BK309.out (by decide)) (fun _ hk => hk.2) (.slice Ao26 t325.length co26)) (fun _ hk => hk.2) (.slice Ao28 t328.length co28)) (fun _ hk => hk.1.1.1)⟩, ⟨by (with_reducible repeat apply pN); exact Kd.N_mono (Kd.N_far (p := ⟨gb309, 1, none⟩) (Kd.N_far (p := ⟨gb309, 0, none⟩) (Kd.N_mono HO330.out (fun k_ hk => (⟨hk, hk.2.2.2.2.2.2.1⟩ : _ ∧ k_ ≠ gb309))) (fun _ hk => hk.2) (.slice Ao26 t325.length co26)) (fun _ hk => hk.2) (.slice Ao28 t328.length co28)) (fun _ hk => ⟨hk.1.1, ⟨hk.1.2.1, ⟨hk.1.2.2.2.2.2.1, ⟨hk.1.2.2.2.2.2.2.1, hk.1.2.2.2.2.2.2.2⟩⟩⟩⟩)⟩, ⟨by (with_reducible repeat refine pB ?_); refine blk_far ?_ NB303_309.out _; (with_reducible repeat refine pB ?_); refine blk_far ?_ NB303_309.out _; (with_reducible repeat refine pB ?_); exact BK303.out⟩, ⟨by (with_reducible repeat refine pB ?_); refine blk_put (cs := #[.slice Ao26 t325.length co26, .slice Ao23 x310001_1.length co23]) ?_ 1 _ rfl; (with_reducible repeat refine pB ?_); refine blk_put (cs := #[.slice Ao21 x310000_1.length co21, .slice Ao23 x310001_1.length co23]) ?_ 0 _ rfl; (with_reducible repeat refine pB ?_); exact BK309.out⟩, ⟨aZ⟩, ⟨aQ⟩, ⟨aY⟩⟩
   ·rw [if_neg c17] at H
    have c17b0 : decide (0 < x5_1) = false := decide_eq_false c17
    clear c17
    simp only [Option.some.injEq, Prod.mk.injEq] at H
    obtain ⟨rfl, rfl, rfl, rfl⟩ := H
    have hnb30 := NB309_303.out
    have hnc30 := NB303_309.out
    have hnb31 := NB309_0.out
    have hnc31 := NB0_309.out
    have hcz32_0 : wr.cell? ⟨gb309, 0, none⟩ = some (u310000) := (blk_cell BK309.out 0).trans rfl
    have hcz32_1 : wr.cell? ⟨gb309, 1, none⟩ = some (u310001) := (blk_cell BK309.out 1).trans rfl
    have hfz32_0 := blk_frozen BK309.out 0
    have hfz32_1 := blk_frozen BK309.out 1
    obtain ⟨Ao33, co33, eo33⟩ := Kd.R_slice HO_310000.out
    subst eo33
    have hnb34 := NB303_0.out
    have hnc34 := NB0_303.out
    have hcz35_0 : wr.cell? ⟨gb303, 0, none⟩ = some (.slice none 0 0) := (blk_cell BK303.out 0).trans rfl
    have hcz35_1 : wr.cell? ⟨gb303, 1, none⟩ = some (.slice none 0 0) := (blk_cell BK303.out 1).trans rfl
    have hfz35_0 := blk_frozen BK303.out 0
    have hfz35_1 := blk_frozen BK303.out 1
    obtain ⟨Ao36, co36, eo36⟩ := Kd.N_slice HO_310001.out
    subst eo36
    go_wp2
    refine bodyPost_ret (results_cell_row rfl _ _ gb303 31 #[.slice Ao33 x310000_1.length co33, .slice Ao36 x310001_1.length co36] (0, 0) _ rfl (by (with_reducible repeat refine pB ?_); refine blk_put (cs := #[.slice Ao33 x310000_1.length co33, .slice none 0 0]) ?_ 1 _ rfl; (with_reducible repeat refine pB ?_); refine blk_put (cs := #[.slice none 0 0, .slice none 0 0]) ?_ 0 _ rfl; (with_reducible repeat refine pB ?_); exact BK303.out) Tryd.underlying31 rfl (by kernel_rfl)) rfl ?_
    exact ⟨_, _, aE, by (with_reducible repeat apply pR); exact Kd.R_mono (Kd.R_far (p := ⟨gb303, 1, none⟩) (Kd.R_far (p := ⟨gb303, 0, none⟩) (Kd.R_types HO_310000.out BK303.out (by decide)) (fun _ hk => hk.2) (.slice Ao33 x310000_1.length co33)) (fun _ hk => hk.2) (.slice Ao36 x310001_1.length co36)) (fun _ hk => hk.1), by (with_reducible repeat apply pN); exact Kd.N_mono (Kd.N_far (p := ⟨gb303, 1, none⟩) (Kd.N_far (p := ⟨gb303, 0, none⟩) (Kd.N_mono HO_310001.out (fun k_ hk => (⟨hk, hk.2.2.1⟩ : _ ∧ k_ ≠ gb303))) (fun _ hk => hk.2) (.slice Ao33 x310000_1.length co33)) (fun _ hk => hk.2) (.slice Ao36 x310001_1.length co36)) (fun _ hk => ⟨hk.1.1, hk.1.2.1⟩), aZ, aY, aQ⟩

/-! ### spec_l1Pick: function 58 -/
def spec_l1Pick.f (s0_0 : List Int) (s0_1 : Int) (s0_2 : Int) (l1 : List ByteArray) : Option (ByteArray × Int × Int) := (spec_l1Below.f s0_0 s0_1 s0_2 (l1.length : Int)).bind fun bt332 => (if 0 ≤ bt332.1 then (if bt332.1 < (l1.length : Int) then (some (rdOf ByteArray.empty l1 bt332.1, bt332.2.1, bt332.2.2)) else (none)) else (none))
set_option maxHeartbeats 8000000 in
set_option maxRecDepth 100000 in
theorem spec_l1Pick.calls (g : Nat) (s0_0 : List Int) (s0_1 : Int) (s0_2 : Int) (A1 : Option Addr) (c1 : Nat) (l1 : List ByteArray) (r1 : ByteArray) (r2 : Int) (r3 : Int) (w0 w : World) (hI : IsS117 w0 w g s0_0 s0_1 s0_2) (hB : Below w0.heap.size w0 w) (hr1 : Kd.C Kd.string w A1 l1.length l1) (hc1 : l1.length ≤ c1) (hf1 : ∀ ad, A1 = some ad → 0 < l1.length → ad.block ≠ g) (h : spec_l1Pick.f s0_0 s0_1 s0_2 l1 = some (r1, r2, r3)) :
  Calls Tryd.prog 58 #[.pointer (some ⟨g, 0, none⟩), .slice A1 l1.length c1] w fun e w' => e = .returned (.string r1) ∧ IsS117 w0 w' g s0_0 r2 r3 ∧ Below w0.heap.size w0 w' ∧ KeepBut w w' g none := by
 have HR1 := aM hr1
 have HC1 := aM hc1
 clear hr1 hc1
 have HI0 := aM hI
 have HK := aM (KeepBut.refl w g none)
 have HL := aM hB.size
 clear hI
 have HW0 := aM hB.size
 have HB := aM hB
 clear hB
 have H : ((spec_l1Below.f s0_0 s0_1 s0_2 (l1.length : Int)).bind fun bt332 => (if 0 ≤ bt332.1 then (if bt332.1 < (l1.length : Int) then (some (rdOf ByteArray.empty l1 bt332.1, bt332.2.1, bt332.2.2)) else (none)) else (none))) = some (r1, r2, r3) := h
 clear h
 replace H := bM H
 obtain ⟨⟨t332, t333, t334⟩, A30, H⟩ := H
 dsimp only at H
 have A3 := aM A30
 clear A30
 by_cases c4 : 0 ≤ t332
 ·rw [if_pos c4] at H
  have c4b0 : decide (0 ≤ t332) = true := decide_eq_true c4
  clear c4
  by_cases c5 : t332 < (l1.length : Int)
  ·rw [if_pos c5] at H
   have c5b0 : decide (t332 < (l1.length : Int)) = true := decide_eq_true c5
   clear c5
   simp only [Option.some.injEq, Prod.mk.injEq] at H
   obtain ⟨rfl, rfl, rfl⟩ := H
   go_enter Tryd.func58, Tryd.ntmps58
   go_wp2_with (first | ((with_reducible refine gate_callee (f := 62) rfl ?_); refine goesL_ (some 9) rfl rfl Tryd.func62 (by kernel_rfl) rfl #[.pointer (some ⟨g, 0, none⟩), .int .i64 (l1.length : Int)] rfl aA ?_; (with_reducible refine (spec_l1Below.calls g s0_0 s0_1 s0_2 (l1.length : Int) t332 t333 t334 w0 _ ?side1 ?side2 A3.out).mono ?_); (case side1 => exact aZ); (case side2 => exact aY); rintro e w6 ⟨rfl, hi, hb, hk⟩; refine ⟨_, rfl, ?_⟩; replace HK := aM (KeepBut.trans aQ hk (.inl rfl)); replace HB := aM (hb); replace HI0 := aM (hi); (try clear hb); (try clear hb2); (try clear hk); (try clear hi); have p335 : 0 ≤ (t332 : Int) := aD; have q335 : t332 < (l1.length : Int) := aD; obtain ⟨ad335, e335, hx335_0⟩ := Kd.at_string HR1.out t332 p335 q335; cases e335; replace hx335_0 := keep_cell HK.out hx335_0 (by first | (rw [add_block]; exact hf1 _ rfl (by omega)) | exact hf1 _ rfl (by omega) | exact hf1 ad335 rfl (by omega)); replace p335 := eq_true p335; replace q335 := eq_true q335))
   go_ret
   exact ⟨aE, aZ, aY, aQ⟩
  ·rw [if_neg c5] at H
   exact absurd H (by simp)
 ·rw [if_neg c4] at H
  exact absurd H (by simp)

/-! ### spec_l2Any: function 99 -/
def spec_l2Any.f (s0_0 : List Int) (s0_1 : Int) (s0_2 : Int) : Option (ByteArray × Int × Int × Int × Int) := (spec_l1Pick.f s0_0 s0_1 s0_2 (([(⟨#[114]⟩ : ByteArray), (⟨#[122]⟩ : ByteArray), (⟨#[97]⟩ : ByteArray), (⟨#[]⟩ : ByteArray), (⟨#[82]⟩ : ByteArray), (⟨#[97, 98]⟩ : ByteArray)] : List ByteArray))).bind fun bt340 => ((spec_l1Below.f s0_0 bt340.2.1 bt340.2.2 6).bind fun bt343 => ((spec_l1Below.f s0_0 bt343.2.1 bt343.2.2 5).bind fun bt346 => (some (bt340.1, wrap64 (bt343.1 - 1), wrap64 (bt346.1 - 1), bt346.2.1, bt346.2.2))))
set_option maxHeartbeats 8000000 in
set_option maxRecDepth 100000 in
theorem spec_l2Any.calls (g : Nat) (s0_0 : List Int) (s0_1 : Int) (s0_2 : Int) (r1 : ByteArray) (r2 : Int) (r3 : Int) (r4 : Int) (r5 : Int) (w0 w : World) (hI : IsS117 w0 w g s0_0 s0_1 s0_2) (hB : Below w0.heap.size w0 w) (h : spec_l2Any.f s0_0 s0_1 s0_2 = some (r1, r2, r3, r4, r5)) :
  Calls Tryd.prog 99 #[.pointer (some ⟨g, 0, none⟩)] w fun e w' => e = .returned (.agg #[.string r1, .int .i64 r2, .int .i64 r3]) ∧ IsS117 w0 w' g s0_0 r4 r5 ∧ Below w0.heap.size w0 w' ∧ KeepBut w w' g none := by
 have hu68 := Tryd.underlying68
 have HI0 := aM hI
 have HK := aM (KeepBut.refl w g none)
 have HL := aM hB.size
 clear hI
 have HW0 := aM hB.size
 have HB := aM hB
 clear hB
 have H : ((spec_l1Pick.f s0_0 s0_1 s0_2 (([(⟨#[114]⟩ : ByteArray), (⟨#[122]⟩ : ByteArray), (⟨#[97]⟩ : ByteArray), (⟨#[]⟩ : ByteArray), (⟨#[82]⟩ : ByteArray), (⟨#[97, 98]⟩ : ByteArray)] : List ByteArray))).bind fun bt340 => ((spec_l1Below.f s0_0 bt340.2.1 bt340.2.2 6).bind fun bt343 => ((spec_l1Below.f s0_0 bt343.2.1 bt343.2.2 5).bind fun bt346 => (some (bt340.1, wrap64 (bt343.1 - 1), wrap64 (bt346.1 - 1), bt346.2.1, bt346.2.2))))) = some (r1, r2, r3, r4, r5) := h
 clear h
 obtain ⟨y337, hy337⟩ : ∃ y_ : List ByteArray, y_ = (([(⟨#[114]⟩ : ByteArray), (⟨#[122]⟩ : ByteArray), (⟨#[97]⟩ : ByteArray), (⟨#[]⟩ : ByteArray), (⟨#[82]⟩ : ByteArray), (⟨#[97, 98]⟩ : ByteArray)] : List ByteArray)) := ⟨_, rfl⟩
 first | replace H := bY hy337 H | rw [← hy337] at H
 have Ny337 := aM hy337
 clear hy337
 replace H := bM H
 obtain ⟨⟨t340, t341, t342⟩, A20, H⟩ := H
 dsimp only at H
 have A2 := aM A20
 clear A20
 replace H := bM H
 obtain ⟨⟨t343, t344, t345⟩, A30, H⟩ := H
 dsimp only at H
 have A3 := aM A30
 clear A30
 replace H := bM H
 obtain ⟨⟨t346, t347, t348⟩, A40, H⟩ := H
 dsimp only at H
 have A4 := aM A40
 clear A40
 simp only [Option.some.injEq, Prod.mk.injEq] at H
 obtain ⟨rfl, rfl, rfl, rfl, rfl⟩ := H
 go_enter Tryd.func99, Tryd.ntmps99
 go_wp2_with (first | ((with_reducible refine gate_dst (N := 2) rfl ?_); refine bE 2 (cs := #[.string (⟨#[]⟩ : ByteArray), .int .i64 0, .int .i64 0]) (t := 68) ?_; intro gb336 hg w5 hbox hb; have BK336 := aM (hbox); have GW336 := aM ((by rw [hg]; exact (kS (w := w) (g := g)) : w.heap.size ≤ gb336)); have GE336 := aM ((Nat.le_trans HW0.out (by rw [hg]; exact (kS (w := w) (g := g)) : w.heap.size ≤ gb336) : w0.heap.size ≤ gb336)); have NB0_336 := aM ((by rw [hg]; exact Nat.ne_of_lt (IsS117.lt (show IsS117 w0 _ g s0_0 s0_1 s0_2 from aZ)) : g ≠ gb336)); have NB336_0 := aM ((by rw [hg]; exact Nat.ne_of_gt (IsS117.lt (show IsS117 w0 _ g s0_0 s0_1 s0_2 from aZ)) : gb336 ≠ g)); replace HK := aM (KeepBut.trans aQ (KeepBut.of_below hb g none) (.inl rfl)); replace HB := aM (below_step aY hb); replace HI0 := aM (IsS117.below aZ hb); clear hb hbox hg) | ((with_reducible refine gate_dst (N := 4) rfl ?_); refine Kd.R_lit Kd.string _ 9 ?hg (N := 4) ?hd (xs := ([(⟨#[114]⟩ : ByteArray), (⟨#[122]⟩ : ByteArray), (⟨#[97]⟩ : ByteArray), (⟨#[]⟩ : ByteArray), (⟨#[82]⟩ : ByteArray), (⟨#[97, 98]⟩ : ByteArray)] : List ByteArray)) (inner := [.string (⟨#[114]⟩ : ByteArray), .string (⟨#[122]⟩ : ByteArray), .string (⟨#[97]⟩ : ByteArray), .string (⟨#[]⟩ : ByteArray), .string (⟨#[82]⟩ : ByteArray), .string (⟨#[97, 98]⟩ : ByteArray)]) (ok := fun _ => True) (okp := fun _ => True) ?hr ?hp (fun _ hk => hk) trivial (Below.refl _ _) (Nat.le_refl _) (by simp) ?_; (case hd => rfl); (case hg => rfl); (case hr => first | (go_simp; done) | (go_simp; rfl)); (case hp => exact (Reps.one (show Kd.M Kd.string _ _ _ (⟨#[114]⟩ : ByteArray) [.string (⟨#[114]⟩ : ByteArray)] from rfl) (Reps.one (show Kd.M Kd.string _ _ _ (⟨#[122]⟩ : ByteArray) [.string (⟨#[122]⟩ : ByteArray)] from rfl) (Reps.one (show Kd.M Kd.string _ _ _ (⟨#[97]⟩ : ByteArray) [.string (⟨#[97]⟩ : ByteArray)] from rfl) (Reps.one (show Kd.M Kd.string _ _ _ (⟨#[]⟩ : ByteArray) [.string (⟨#[]⟩ : ByteArray)] from rfl) (Reps.one (show Kd.M Kd.string _ _ _ (⟨#[82]⟩ : ByteArray) [.string (⟨#[82]⟩ : ByteArray)] from rfl) (Reps.one (show Kd.M Kd.string _ _ _ (⟨#[97, 98]⟩ : ByteArray) [.string (⟨#[97, 98]⟩ : ByteArray)] from rfl) (Reps.none _ _)))))))); intro v338 w6 ho7 hb hg_ hnew_; clear hg_ hnew_; (first | rw [← Ny337.out] at ho7 | (simp only [Int.reduceToNat] at ho7; rw [← Ny337.out] at ho7)); have HO339 := aM (Kd.R_lower ho7 (kS (w := w) (g := g))); replace BK336 := aM (blk_below (g := gb336) (o := .cells #[.string (⟨#[]⟩ : ByteArray), .int .i64 0, .int .i64 0] 68 (0, 0)) aK hb); replace HK := aM (KeepBut.trans aQ (KeepBut.of_below hb g none) (.inl rfl)); replace HB := aM (below_step aY hb); replace HI0 := aM (IsS117.below aZ hb); clear hb ho7; obtain ⟨Ao8, co8, eo8⟩ := Kd.R_slice HO339.out; subst eo8) | ((with_reducible refine gate_callee (f := 58) rfl ?_); refine goesL_ (some 5) rfl rfl Tryd.func58 (by kernel_rfl) rfl #[.pointer (some ⟨g, 0, none⟩), .slice Ao8 y337.length co8] rfl aA ?_; (with_reducible refine (spec_l1Pick.calls g s0_0 s0_1 s0_2 _ _ y337 t340 t341 t342 w0 _ ?side1 ?side2 ?side3 ?side4 ?side5 A2.out).mono ?_); (case side1 => exact aZ); (case side2 => exact aY); (case side3 => repeat (first | exact (Kd.R_reads' HO339.out).2.2 | (with_reducible refine pC ?_))); (case side4 => exact (Kd.R_reads' HO339.out).2.1); (case side5 => exact far_slice (IsS117.own_ne HI0.out HO339.out (by decide))); rintro e w9 ⟨rfl, hi, hb, hk⟩; refine ⟨_, rfl, ?_⟩; replace BK336 := aM (KeepBut.blk hk (g' := gb336) (o := .cells #[.string (⟨#[]⟩ : ByteArray), .int .i64 0, .int .i64 0] 68 (0, 0)) aK NB336_0.out (by simp)); replace HO339 := aM (Kd.R_mono (Kd.R_keep (IsS117.apart (show IsS117 w0 _ g s0_0 s0_1 s0_2 from aZ) (aR HO339) (by decide)) hk (fun _ h => h.2)) (fun _ h => h.1)); replace HK := aM (KeepBut.trans aQ hk (.inl rfl)); replace HB := aM (hb); replace HI0 := aM (hi); (try clear hb); (try clear hb2); (try clear hk); (try clear hi)) | ((with_reducible refine gate_callee (f := 62) rfl ?_); refine goesL_ (some 7) rfl rfl Tryd.func62 (by kernel_rfl) rfl #[.pointer (some ⟨g, 0, none⟩), .int .i64 6] rfl aA ?_; (with_reducible refine (spec_l1Below.calls g s0_0 t341 t342 6 t343 t344 t345 w0 _ ?side1 ?side2 A3.out).mono ?_); (case side1 => exact aZ); (case side2 => exact aY); rintro e w10 ⟨rfl, hi, hb, hk⟩; refine ⟨_, rfl, ?_⟩; replace BK336 := aM (KeepBut.blk hk (g' := gb336) (o := .cells #[.string (⟨#[]⟩ : ByteArray), .int .i64 0, .int .i64 0] 68 (0, 0)) aK NB336_0.out (by simp)); replace HO339 := aM (Kd.R_mono (Kd.R_keep (IsS117.apart (show IsS117 w0 _ g s0_0 t341 t342 from aZ) (aR HO339) (by decide)) hk (fun _ h => h.2)) (fun _ h => h.1)); replace HK := aM (KeepBut.trans aQ hk (.inl rfl)); replace HB := aM (hb); replace HI0 := aM (hi); (try clear hb); (try clear hb2); (try clear hk); (try clear hi)) | ((with_reducible refine gate_callee (f := 62) rfl ?_); refine goesL_ (some 10) rfl rfl Tryd.func62 (by kernel_rfl) rfl #[.pointer (some ⟨g, 0, none⟩), .int .i64 5] rfl aA ?_; (with_reducible refine (spec_l1Below.calls g s0_0 t344 t345 5 t346 t347 t348 w0 _ ?side1 ?side2 A4.out).mono ?_); (case side1 => exact aZ); (case side2 => exact aY); rintro e w11 ⟨rfl, hi, hb, hk⟩; refine ⟨_, rfl, ?_⟩; replace BK336 := aM (KeepBut.blk hk (g' := gb336) (o := .cells #[.string (⟨#[]⟩ : ByteArray), .int .i64 0, .int .i64 0] 68 (0, 0)) aK NB336_0.out (by simp)); replace HO339 := aM (Kd.R_mono (Kd.R_keep (IsS117.apart (show IsS117 w0 _ g s0_0 t344 t345 from aZ) (aR HO339) (by decide)) hk (fun _ h => h.2)) (fun _ h => h.1)); replace HK := aM (KeepBut.trans aQ hk (.inl rfl)); replace HB := aM (hb); replace HI0 := aM (hi); (try clear hb); (try clear hb2); (try clear hk); (try clear hi); have hnb12 := NB336_0.out; have hnc12 := NB0_336.out; have hcz13_0 : w11.cell? ⟨gb336, 0, none⟩ = some (.string (⟨#[]⟩ : ByteArray)) := (blk_cell BK336.out 0).trans rfl; have hcz13_1 : w11.cell? ⟨gb336, 1, none⟩ = some (.int .i64 0) := (blk_cell BK336.out 1).trans rfl; have hcz13_2 : w11.cell? ⟨gb336, 2, none⟩ = some (.int .i64 0) := (blk_cell BK336.out 2).trans rfl; have hfz13_0 := blk_frozen BK336.out 0; have hfz13_1 := blk_frozen BK336.out 1; have hfz13_2 := blk_frozen BK336.out 2))
 refine bodyPost_ret (results_cell_row rfl _ _ gb336 68 #[.string t340, .int .i64 (wrap64 (t343 - 1)), .int .i64 (wrap64 (t346 - 1))] (0, 0) _ rfl (by (with_reducible repeat refine pB ?_); refine blk_put (cs := #[.string t340, .int .i64 (wrap64 (t343 - 1)), .int .i64 0]) ?_ 2 _ rfl; (with_reducible repeat refine pB ?_); refine blk_put (cs := #[.string t340, .int .i64 0, .int .i64 0]) ?_ 1 _ rfl; (with_reducible repeat refine pB ?_); refine blk_put (cs := #[.string (⟨#[]⟩ : ByteArray), .int .i64 0, .int .i64 0]) ?_ 0 _ rfl; (with_reducible repeat refine pB ?_); exact BK336.out) Tryd.underlying68 rfl (by kernel_rfl)) rfl ?_
 exact ⟨aE, aZ, aY, aQ⟩

end Go.Proofs.YtckpikfbhlhhjaaDoor.PFnSelectFacts
