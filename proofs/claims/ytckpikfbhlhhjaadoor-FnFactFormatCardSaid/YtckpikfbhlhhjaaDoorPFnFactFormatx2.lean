import Derived.Test.YtckpikfbhlhhjaaDoorPFnFactFormatx0
import Derived.Test.YtckpikfbhlhhjaaDoorPFnFactFormatx1
namespace Go.Proofs.YtckpikfbhlhhjaaDoor.PFnFactFormat
open Go.RowKit Go.Proofs.YtckpikfbhlhhjaaDoorW.PrintWords Go.Proofs.YtckpikfbhlhhjaaDoorW.PrintLast Go.Proofs.YtckpikfbhlhhjaaDoorW.PrintMore
attribute [local go_sem] max2_int min2_int max_two min_two max_three min_three max_four min_four
set_option linter.unusedVariables false
set_option linter.unusedSimpArgs false

/-! ### spec_l3Fact: function 56 -/
def spec_l3Fact.l0 : Nat → List (S68) → Int → List Int → Int → Int → Int → List Int → Option (Int × List Int × Int × Int)
 | 0, _, _, _, _, _, _, _ => none
 | k + 1, x1, x2, x1000, x1001, x1002, x141000, x141001 => if 0 ≤ x141000 then (if x141000 < (x1.length : Int) then (if (x141001.length : Int) < ((rd_T68 x1 x141000).f1) then ((spec_l1Below.f x1000 x1001 x1002 x2).bind fun bt142 => (if x141001.length < 17592186044416 then (spec_l3Fact.l0 k x1 x2 x1000 bt142.2.1 bt142.2.2 x141000 (x141001 ++ [bt142.1])) else (none))) else (some (x141000, x141001, x1001, x1002))) else (none)) else (none)
def spec_l3Fact.f (k : Nat) (s0_0 : List Int) (s0_1 : Int) (s0_2 : Int) (l1 : List (S68)) (a2 : Int) : Option (Int × List Int × Int × Int) := (spec_l1Below.f s0_0 s0_1 s0_2 (l1.length : Int)).bind fun bt137 => (spec_l3Fact.l0 k l1 a2 s0_0 bt137.2.1 bt137.2.2 bt137.1 ([] : List Int))
def spec_l3Fact.T2 : Bool × List (List Nat × List Nat) := (true, [([], []), ([0], [0]), ([1], [1]), ([], []), ([], []), ([4], [4]), ([3, 5], [3, 5]), ([6], [6]), ([7], [7]), ([2, 8], [2, 8])])
def spec_l3Fact.B2 : List Nat := [0, 1, 3, 0, 0, 16, 56, 120, 248, 511]
theorem spec_l3Fact.tab2 : rtab .any (opsOf Tryd.f56 2) = spec_l3Fact.T2 := by kernel_rfl
theorem spec_l3Fact.bits2 : waitsOk spec_l3Fact.T2.2 spec_l3Fact.B2 = true := by kernel_rfl
def spec_l3Fact.T3 : Bool × List (List Nat × List Nat) := (true, [([], []), ([0], [0]), ([], []), ([], []), ([2, 3], [2, 3]), ([4], [4]), ([1, 5, 4], [1, 5]), ([0, 1, 2, 3, 4, 5, 6], []), ([7, 6, 6, 0, 1, 2, 3, 4, 5, 6], [6, 7])])
def spec_l3Fact.B3 : List Nat := [0, 1, 0, 0, 12, 28, 63, 127, 255]
theorem spec_l3Fact.tab3 : rtab .any (opsOf Tryd.f56 3) = spec_l3Fact.T3 := by kernel_rfl
theorem spec_l3Fact.bits3 : waitsOk spec_l3Fact.T3.2 spec_l3Fact.B3 = true := by kernel_rfl
set_option maxHeartbeats 8000000 in
set_option maxRecDepth 100000 in
theorem spec_l3Fact.calls (k : Nat) (g : Nat) (s0_0 : List Int) (s0_1 : Int) (s0_2 : Int) (A1 : Option Addr) (c1 : Nat) (l1 : List (S68)) (a2 : Int) (r1 : Int) (r2 : List Int) (r3 : Int) (r4 : Int) (w0 w : World) (hI : IsS117 w0 w g s0_0 s0_1 s0_2) (hB : Below w0.heap.size w0 w) (hr1 : ∀ W_, KeepBut w W_ g none → Kd.C k68 W_ A1 l1.length l1) (hc1 : l1.length ≤ c1) (h : spec_l3Fact.f k s0_0 s0_1 s0_2 l1 a2 = some (r1, r2, r3, r4)) :
  Calls Tryd.prog 56 #[.pointer (some ⟨g, 0, none⟩), .slice A1 l1.length c1, .int .i64 a2] w fun e w' => ∃ v1_ : Value, e = .returned (.agg #[.int .i64 r1, v1_]) ∧ Kd.R (Kd.int .i64) 3 w' w.heap.size (fun _ => True) v1_ r2 ∧ IsS117 w0 w' g s0_0 r3 r4 ∧ Below w0.heap.size w0 w' ∧ KeepBut w w' g none := by
 have hu39 := Tryd.underlying39
 have HR1 := aM hr1
 have HC1 := aM hc1
 clear hr1 hc1
 have HI0 := aM hI
 have HK := aM (KeepBut.refl w g none)
 have HL := aM hB.size
 clear hI
 have HW0 := aM hB.size
 have HB := aM hB
 clear hB
 have H : ((spec_l1Below.f s0_0 s0_1 s0_2 (l1.length : Int)).bind fun bt137 => (spec_l3Fact.l0 k l1 a2 s0_0 bt137.2.1 bt137.2.2 bt137.1 ([] : List Int))) = some (r1, r2, r3, r4) := h
 clear h
 replace H := bM H
 obtain ⟨⟨t137, t138, t139⟩, A40, H⟩ := H
 dsimp only at H
 have A4 := aM A40
 clear A40
 have H' := aM H
 clear H
 go_enter Tryd.func56, Tryd.ntmps56
 go_wp2_with (first | ((with_reducible refine gate_dst (N := 6) rfl ?_); refine bE 6 (cs := #[.int .i64 0, .slice none 0 0]) (t := 39) ?_; intro gb136 hg w5 hbox hb; have BK136 := aM (hbox); have GW136 := aM ((by rw [hg]; exact (kS (w := w) (g := g)) : w.heap.size ≤ gb136)); have GE136 := aM ((Nat.le_trans HW0.out (by rw [hg]; exact (kS (w := w) (g := g)) : w.heap.size ≤ gb136) : w0.heap.size ≤ gb136)); have NB0_136 := aM ((by rw [hg]; exact Nat.ne_of_lt (IsS117.lt (show IsS117 w0 _ g s0_0 s0_1 s0_2 from aZ)) : g ≠ gb136)); have NB136_0 := aM ((by rw [hg]; exact Nat.ne_of_gt (IsS117.lt (show IsS117 w0 _ g s0_0 s0_1 s0_2 from aZ)) : gb136 ≠ g)); replace HK := aM (KeepBut.trans aQ (KeepBut.of_below hb g none) (.inl rfl)); replace HB := aM (below_step aY hb); replace HI0 := aM (IsS117.below aZ hb); clear hb hbox hg) | ((with_reducible refine gate_callee (f := 62) rfl ?_); refine goesL_ (some 11) rfl rfl Tryd.func62 (by kernel_rfl) rfl #[.pointer (some ⟨g, 0, none⟩), .int .i64 (l1.length : Int)] rfl aA ?_; (with_reducible refine (spec_l1Below.calls g s0_0 s0_1 s0_2 (l1.length : Int) t137 t138 t139 w0 _ ?side1 ?side2 A4.out).mono ?_); (case side1 => exact aZ); (case side2 => exact aY); rintro e w6 ⟨rfl, hi, hb, hk⟩; refine ⟨_, rfl, ?_⟩; replace BK136 := aM (KeepBut.blk hk (g' := gb136) (o := .cells #[.int .i64 0, .slice none 0 0] 39 (0, 0)) aK NB136_0.out (by simp)); replace HK := aM (KeepBut.trans aQ hk (.inl rfl)); replace HB := aM (hb); replace HI0 := aM (hi); (try clear hb); (try clear hb2); (try clear hk); (try clear hi)) | ((with_reducible refine gate_dst (N := 7) rfl ?_); refine bE 7 (cs := #[.int .i64 0, .slice none 0 0]) (t := 39) ?_; intro gb140 hg w7 hbox hb; have BK140 := aM (hbox); have GW140 := aM ((by rw [hg]; exact (kS (w := w) (g := g)) : w.heap.size ≤ gb140)); have GE140 := aM ((Nat.le_trans HW0.out (by rw [hg]; exact (kS (w := w) (g := g)) : w.heap.size ≤ gb140) : w0.heap.size ≤ gb140)); have NB136_140 := aM ((by rw [hg]; exact Nat.ne_of_lt (blk_lt (g := gb136) (o := .cells #[.int .i64 0, .slice none 0 0] 39 (0, 0)) aK) : gb136 ≠ gb140)); have NB140_136 := aM ((by rw [hg]; exact Nat.ne_of_gt (blk_lt (g := gb136) (o := .cells #[.int .i64 0, .slice none 0 0] 39 (0, 0)) aK) : gb140 ≠ gb136)); have NB0_140 := aM ((by rw [hg]; exact Nat.ne_of_lt (IsS117.lt (show IsS117 w0 _ g s0_0 t138 t139 from aZ)) : g ≠ gb140)); have NB140_0 := aM ((by rw [hg]; exact Nat.ne_of_gt (IsS117.lt (show IsS117 w0 _ g s0_0 t138 t139 from aZ)) : gb140 ≠ g)); replace BK136 := aM (kB gb136 #[.int .i64 0, .slice none 0 0] 39 hb); replace HK := aM (KeepBut.trans aQ (KeepBut.of_below hb g none) (.inl rfl)); replace HB := aM (below_step aY hb); replace HI0 := aM (IsS117.below aZ hb); clear hb hbox hg; have hnb8 := NB140_136.out; have hnc8 := NB136_140.out; have hnb9 := NB140_0.out; have hnc9 := NB0_140.out; have hcz10_0 : w7.cell? ⟨gb140, 0, none⟩ = some (.int .i64 0) := (blk_cell BK140.out 0).trans rfl; have hcz10_1 : w7.cell? ⟨gb140, 1, none⟩ = some (.slice none 0 0) := (blk_cell BK140.out 1).trans rfl; have hfz10_0 := blk_frozen BK140.out 0; have hfz10_1 := blk_frozen BK140.out 1))
 go_loopg [] k (fun kq w' => ∃ (x1001_1 : Int) (x1002_1 : Int) (x141001_1 : List Int) (u141001 : Value), Aside0 (spec_l3Fact.l0 kq l1 a2 s0_0 x1001_1 x1002_1 t137 x141001_1 = some (r1, r2, r3, r4)) ∧ Aside0 (kq ≤ k) ∧ Aside0 (Kd.R (Kd.int .i64) 3 w' w.heap.size (fun _ => True) u141001 x141001_1) ∧ Aside0 (w'.heap[gb136]? = some (.cells #[.int .i64 0, (.slice none 0 0)] 39 (0, 0))) ∧ Aside0 (w'.heap[gb140]? = some (.cells #[.int .i64 t137, u141001] 39 (0, 0))) ∧ Aside0 (IsS117 w0 w' g s0_0 x1001_1 x1002_1) ∧ Aside0 (KeepBut w w' g none) ∧ Aside0 (Below w0.heap.size w0 w'))
 case atStart => exact ⟨(t138), (t139), (([] : List Int)), (.slice none 0 0), H', ⟨Nat.le_refl _⟩, ⟨by first | exact Kd.R_nil _ _ _ _ _ | exact Kd.N_nil _ _ _ _ _ | exact Kd.V_nil _ _ _ _ _ | exact Kd.Q_nil _ _ _ _ _ | exact Kd.S_nil _ _ _ _ _⟩, ⟨by (with_reducible repeat refine pB ?_); refine blk_far ?_ NB136_140.out _; (with_reducible repeat refine pB ?_); refine blk_far ?_ NB136_140.out _; (with_reducible repeat refine pB ?_); exact BK136.out⟩, ⟨by (with_reducible repeat refine pB ?_); refine blk_put (cs := #[.int .i64 t137, .slice none 0 0]) ?_ 1 _ rfl; (with_reducible repeat refine pB ?_); refine blk_put (cs := #[.int .i64 0, .slice none 0 0]) ?_ 0 _ rfl; (with_reducible repeat refine pB ?_); exact BK140.out⟩, ⟨aZ⟩, ⟨aQ⟩, ⟨aY⟩⟩
 case round =>
  clear H'
  try clear c1
  try clear p2
  try clear c5
  try clear c6
  try clear c8
  try clear c9
  try clear hcz10_0
  try clear hcz10_1
  try clear hfz10_0
  try clear hfz10_1
  obtain ⟨x1001_1, x1002_1, x141001_1, u141001, HA, HK1, HO_141001, BK136, BK140, HI0, HK, HB⟩ := hrel
  cases gk with
  | zero => exact absurd HA.out (by simp [spec_l3Fact.l0])
  | succ k1 =>
   have H := HA.out
   clear HA
   simp only [spec_l3Fact.l0] at H
   by_cases c11 : 0 ≤ t137
   ·rw [if_pos c11] at H
    have c11b0 : decide (0 ≤ t137) = true := decide_eq_true c11
    clear c11
    by_cases c12 : t137 < (l1.length : Int)
    ·rw [if_pos c12] at H
     have c12b0 : decide (t137 < (l1.length : Int)) = true := decide_eq_true c12
     clear c12
     by_cases c13 : (x141001_1.length : Int) < ((rd_T68 l1 t137).f1)
     ·rw [if_pos c13] at H
      have c13b0 : decide ((x141001_1.length : Int) < ((rd_T68 l1 t137).f1)) = true := decide_eq_true c13
      clear c13
      replace H := bM H
      obtain ⟨⟨t142, t143, t144⟩, A140, H⟩ := H
      dsimp only at H
      have A14 := aM A140
      clear A140
      by_cases c15 : x141001_1.length < 17592186044416
      ·rw [if_pos c15] at H
       have LMc15 := aM c15
       clear c15
       obtain ⟨y145, hy145⟩ : ∃ y_ : List Int, y_ = (x141001_1 ++ [t142]) := ⟨_, rfl⟩
       first | replace H := bY hy145 H | rw [← hy145] at H
       have Ny145 := aM hy145
       clear hy145
       have H' := aM H
       clear H
       try go_wp2
       replace HO_141001 := aM (Kd.R_drew HO_141001.out)
       replace BK136 := aM (blk_drew BK136.out)
       replace BK140 := aM (blk_drew BK140.out)
       replace HI0 := aM (IsS117.drew HI0.out)
       replace HK := aM (keep_drew HK.out)
       replace HB := aM (below_drew1 HB.out)
       obtain ⟨Ao17, co17, eo17⟩ := Kd.R_slice HO_141001.out
       (first | subst eo17 | (injection eo17 with f1_ f2_ f3_; have f4_ := f1_.symm; have f5_ := f3_.symm; clear f1_ f2_ f3_; subst f4_; subst f5_))
       have p141 : 0 ≤ (t137 : Int) := aD
       have q141 : t137 < (l1.length : Int) := aD
       obtain ⟨ad141, e141, hx141_0, hx141_1, hx141_2⟩ := at_T68 (Kd.C_foot_now HR1.out HK.out) t137 p141 q141
       have hw141_2 := hx141_2
       have hw141_1 := hx141_1
       have hw141_0 := hx141_0
       cases e141
       have hne141_2 := (show (⟨(ad141.add ((t137).toNat * 3)).block, (ad141.add ((t137).toNat * 3)).off + 2, none⟩ : Addr).block ≠ g from by first | (rw [add_block]; exact Kd.foot_ne HR1.out (by omega) (by decide)) | (show (Addr.add _ _).block ≠ _; rw [add_block]; exact Kd.foot_ne HR1.out (by omega) (by decide)) | exact Kd.foot_ne HR1.out (by omega) (by decide) | (dsimp only; exact Kd.foot_ne HR1.out (by omega) (by decide)))
       have hlt141_2 := (Kd.foot_lt HR1.out (by omega) (by decide))
       have hne141_1 := (show (⟨(ad141.add ((t137).toNat * 3)).block, (ad141.add ((t137).toNat * 3)).off + 1, none⟩ : Addr).block ≠ g from by first | (rw [add_block]; exact Kd.foot_ne HR1.out (by omega) (by decide)) | (show (Addr.add _ _).block ≠ _; rw [add_block]; exact Kd.foot_ne HR1.out (by omega) (by decide)) | exact Kd.foot_ne HR1.out (by omega) (by decide) | (dsimp only; exact Kd.foot_ne HR1.out (by omega) (by decide)))
       have hlt141_1 := (Kd.foot_lt HR1.out (by omega) (by decide))
       have hne141_0 := (show ((ad141.add ((t137).toNat * 3)) : Addr).block ≠ g from by first | (rw [add_block]; exact Kd.foot_ne HR1.out (by omega) (by decide)) | (show (Addr.add _ _).block ≠ _; rw [add_block]; exact Kd.foot_ne HR1.out (by omega) (by decide)) | exact Kd.foot_ne HR1.out (by omega) (by decide) | (dsimp only; exact Kd.foot_ne HR1.out (by omega) (by decide)))
       have hlt141_0 := (Kd.foot_lt HR1.out (by omega) (by decide))
       replace p141 := eq_true p141
       replace q141 := eq_true q141
       refine start_ (n := 10) (S := fun w' => w'.cell? ⟨gb140, 0, none⟩ = some (.int .i64 t137) ∧ w'.cell? ⟨gb140, 1, none⟩ = some (.slice Ao17 x141001_1.length co17) ∧ w'.cell? (ad141.add ((t137).toNat * 3)) = some (.string ((rd_T68 l1 t137).f0)) ∧ w'.cell? ⟨(ad141.add ((t137).toNat * 3)).block, (ad141.add ((t137).toNat * 3)).off + 1, none⟩ = some (.int .i64 ((rd_T68 l1 t137).f1)) ∧ w'.cell? ⟨(ad141.add ((t137).toNat * 3)).block, (ad141.add ((t137).toNat * 3)).off + 2, none⟩ = some (.int .i64 ((rd_T68 l1 t137).f2))) (ds := []) #[false, false, false, false, false, false, false, false, false, false] (by kernel_rfl) rfl rfl ⟨(blk_cell BK140.out 0).trans rfl, (blk_cell BK140.out 1).trans rfl, hx141_0, hx141_1, hx141_2⟩ (fun hHeld => ?_); refine with_tabW spec_l3Fact.tab2 spec_l3Fact.bits2 (fun HT_ HW_ => ?_)
       generalize wr.drew = w16 at HO_141001 BK136 BK140 HI0 HK HB hx141_0 hx141_1 hx141_2 hHeld ⊢
       refine pU 0 13 ?_
       refine pU 3 16 ?_
       refine pU 4 17 ?_
       refine tU5 1 14 hHeld ?_
       refine pU 2 15 ?_
       refine tU5 5 18 hHeld ?_
       refine pU 6 19 ?_
       refine pU 7 20 ?_
       refine tU5 8 21 hHeld ?_
       refine pU 9 22 ?_
       refine done_ (done_of HT_.out (by kernel_rfl)) ?_
       try go_wp2
       replace HO_141001 := aM (Kd.R_drew HO_141001.out)
       replace BK136 := aM (blk_drew BK136.out)
       replace BK140 := aM (blk_drew BK140.out)
       replace HI0 := aM (IsS117.drew HI0.out)
       replace HK := aM (keep_drew HK.out)
       replace HB := aM (below_drew1 HB.out)
       refine start_ (n := 9) (S := fun w' => w'.cell? ⟨gb140, 0, none⟩ = some (.int .i64 t137) ∧ w'.cell? ⟨gb140, 1, none⟩ = some (.slice Ao17 x141001_1.length co17)) (ds := [8]) #[false, false, false, false, false, false, false, false, false] (by kernel_rfl) rfl rfl ⟨(blk_cell BK140.out 0).trans rfl, (blk_cell BK140.out 1).trans rfl⟩ (fun hHeld => ?_); refine with_tabW spec_l3Fact.tab3 spec_l3Fact.bits3 (fun HT_ HW_ => ?_)
       generalize w16.drew = w18 at HO_141001 BK136 BK140 HI0 HK HB hHeld ⊢
       refine pU 0 23 ?_
       refine pU 2 25 ?_
       refine pU 3 26 ?_
       refine tU2 1 24 hHeld ?_
       refine oU 4 27 (fun K hK => ?_)
       refine goes_ Tryd.func62 (by kernel_rfl) rfl #[.pointer (some ⟨g, 0, none⟩), .int .i64 a2] (by rfl) rfl rfl aA ?_
       with_reducible refine (spec_l1Below.calls g s0_0 x1001_1 x1002_1 a2 t142 t143 t144 w0 _ ?side1 ?side2 A14.out).mono ?_
       (case side1 => exact aZ)
       (case side2 => exact aY)
       rintro e w19 ⟨rfl, hi, hb, hk⟩
       refine ⟨_, rfl, ?_⟩
       have n0_ := aM (Kd.R_mono (Kd.R_keep (IsS117.apart (show IsS117 w0 _ g s0_0 x1001_1 x1002_1 from aZ) (aR HO_141001) (by decide)) hk (fun _ h => h.2)) (fun _ h => h.1))
       have n1_ := aM (KeepBut.blk hk (g' := gb136) (o := .cells #[.int .i64 0, .slice none 0 0] 39 (0, 0)) aK NB136_0.out (by simp))
       have n2_ := aM (KeepBut.blk hk (g' := gb140) (o := .cells #[.int .i64 t137, .slice Ao17 x141001_1.length co17] 39 (0, 0)) aK NB140_0.out (by simp))
       have n3_ := aM (KeepBut.trans aQ hk (.inl rfl))
       have n4_ := aM (hb)
       have n5_ := aM (hi)
       clear HO_141001
       clear BK136
       clear BK140
       clear HK
       clear HB
       clear HI0
       have HO_141001 := n0_
       have BK136 := n1_
       have BK140 := n2_
       have HK := n3_
       have HB := n4_
       have HI0 := n5_
       clear n0_ n1_ n2_ n3_ n4_ n5_
       (try clear hb)
       (try clear hb2)
       (try clear hk)
       (try clear hi)
       refine hK.out _ _ ⟨(blk_cell BK140.out 0).trans rfl, (blk_cell BK140.out 1).trans rfl⟩ (fun hHeld => ?_)
       clear hK K
       refine nU 27 ?_
       refine oU 5 28 (fun K hK => ?_)
       refine value_ (w1 := ?_) (v := ?_) (by rfl) rfl ?_ ?_
       rotate_left 2
       ·go_simp
        constructor
        ·rfl
        ·rfl
       refine hK.out _ _ ⟨(blk_cell (blk_alloc BK140.out _) 0).trans rfl, (blk_cell (blk_alloc BK140.out _) 1).trans rfl⟩ (fun hHeld => ?_)
       clear hK K
       refine nU 28 ?_
       refine oU 6 29 (fun K hK => ?_)
       refine Kd.R_append_step (Kd.int .i64) w.heap.size (by rfl) (.tmp 24) (.tmp 28) 37 3 (.int .i64 0) 8 rfl Tryd.underlying37 info3 rfl (by decide) (by omega) (.slice Ao17 x141001_1.length co17) x141001_1 t142 [.int .i64 t142] (fun _ => True) (fun _ => False) rfl rfl ?aP (fun _ hk => hk.elim) ?aF ?aO (Below.refl _ _) ?aS ?aL ?_
       (case aP => exact rfl)
       (case aF => exact (fun _ _ => trivial))
       (case aO => exact (aR HO_141001))
       (case aS => exact (kS (w := w) (g := g)))
       (case aL => have := LMc15.out; omega)
       intro v146 w20 ho hb hg hat
       rw [← Ny145.out] at ho
       have n0_ := aM (blk_grown (g := gb136) (o := .cells #[.int .i64 0, .slice none 0 0] 39 (0, 0)) aK hg (Kd.R_ne HO_141001.out BK136.out (by decide)))
       have n1_ := aM (blk_grown (g := gb140) (o := .cells #[.int .i64 t137, .slice Ao17 x141001_1.length co17] 39 (0, 0)) aK hg (Kd.R_ne HO_141001.out BK140.out (by decide)))
       have n2_ := aM (IsS117.grown aZ hg (IsS117.own_ne HI0.out HO_141001.out (by decide)))
       have n3_ := aM (below_weaken aY HL.out hb)
       have n4_ := aM (KeepBut.trans aQ (KeepBut.of_grown hg g) (Kd.R_base2 HO_141001.out))
       have n5_ := aM (ho)
       clear BK136
       clear BK140
       clear HI0
       clear HB
       clear HK
       clear HO_141001
       have BK136 := n0_
       have BK140 := n1_
       have HI0 := n2_
       have HB := n3_
       have HK := n4_
       have HO147 := n5_
       clear n0_ n1_ n2_ n3_ n4_ n5_
       clear ho hb hg hat
       obtain ⟨Ao21, co21, eo21⟩ := Kd.R_slice HO147.out
       (first | subst eo21 | (injection eo21 with f1_ f2_ f3_; have f4_ := f1_.symm; have f5_ := f3_.symm; clear f1_ f2_ f3_; subst f4_; subst f5_))
       refine hK.out _ _ ⟨(blk_cell BK140.out 0).trans rfl, (blk_cell BK140.out 1).trans rfl⟩ (fun hHeld => ?_)
       clear hK K
       refine nU 29 ?_
       refine pU 7 30 ?_
       refine last_ (i := 8) (N := none) #[true, true, true, true, true, true, true, true, true] rfl rfl (one_of HT_.out (by kernel_rfl)) (by decide) (fun K hK => ?_)
       have hs22 : w20.cell? ⟨gb140, 1, none⟩ = some (.slice Ao17 x141001_1.length co17) := (blk_cell BK140.out 1).trans rfl
       have hfs22 := blk_frozen BK140.out 1
       have hns22_0 := NB136_140.out
       have hms22_0 := NB140_136.out
       refine skip_ (w1 := ?_) (by rfl) rfl ?_ ?_
       rotate_left
       ·go_simp
        rfl
       refine hK.out _ _ ?_
       clear hK K
       refine done_ (done_of HT_.out (by kernel_rfl)) ?_
       try go_wp2
       go_roundg k1
       case measure => have := HK1.out; omega
       case rel => exact ⟨(t143), (t144), (y145), (.slice Ao21 y145.length co21), H', ⟨by have := HK1.out; omega⟩, ⟨by (with_reducible repeat apply pR); exact Kd.R_mono (Kd.R_far (p := ⟨gb140, 1, none⟩) (Kd.R_types HO147.out BK140.out (by decide)) (fun _ hk => hk.2) (.slice Ao21 y145.length co21)) (fun _ hk => trivial)⟩, ⟨by (with_reducible repeat refine pB ?_); refine blk_far ?_ NB136_140.out _; (with_reducible repeat refine pB ?_); exact BK136.out⟩, ⟨by (with_reducible repeat refine pB ?_); refine blk_put (cs := #[.int .i64 t137, .slice Ao17 x141001_1.length co17]) ?_ 1 _ rfl; (with_reducible repeat refine pB ?_); exact BK140.out⟩, ⟨aZ⟩, ⟨aQ⟩, ⟨aY⟩⟩
      ·rw [if_neg c15] at H
       exact absurd H (by simp)
     ·rw [if_neg c13] at H
      have c13b0 : decide ((x141001_1.length : Int) < ((rd_T68 l1 t137).f1)) = false := decide_eq_false c13
      clear c13
      simp only [Option.some.injEq, Prod.mk.injEq] at H
      obtain ⟨rfl, rfl, rfl, rfl⟩ := H
      try go_wp2
      replace HO_141001 := aM (Kd.R_drew HO_141001.out)
      replace BK136 := aM (blk_drew BK136.out)
      replace BK140 := aM (blk_drew BK140.out)
      replace HI0 := aM (IsS117.drew HI0.out)
      replace HK := aM (keep_drew HK.out)
      replace HB := aM (below_drew1 HB.out)
      obtain ⟨Ao24, co24, eo24⟩ := Kd.R_slice HO_141001.out
      (first | subst eo24 | (injection eo24 with f1_ f2_ f3_; have f4_ := f1_.symm; have f5_ := f3_.symm; clear f1_ f2_ f3_; subst f4_; subst f5_))
      have p141 : 0 ≤ (t137 : Int) := aD
      have q141 : t137 < (l1.length : Int) := aD
      obtain ⟨ad141, e141, hx141_0, hx141_1, hx141_2⟩ := at_T68 (Kd.C_foot_now HR1.out HK.out) t137 p141 q141
      have hw141_2 := hx141_2
      have hw141_1 := hx141_1
      have hw141_0 := hx141_0
      cases e141
      have hne141_2 := (show (⟨(ad141.add ((t137).toNat * 3)).block, (ad141.add ((t137).toNat * 3)).off + 2, none⟩ : Addr).block ≠ g from by first | (rw [add_block]; exact Kd.foot_ne HR1.out (by omega) (by decide)) | (show (Addr.add _ _).block ≠ _; rw [add_block]; exact Kd.foot_ne HR1.out (by omega) (by decide)) | exact Kd.foot_ne HR1.out (by omega) (by decide) | (dsimp only; exact Kd.foot_ne HR1.out (by omega) (by decide)))
      have hlt141_2 := (Kd.foot_lt HR1.out (by omega) (by decide))
      have hne141_1 := (show (⟨(ad141.add ((t137).toNat * 3)).block, (ad141.add ((t137).toNat * 3)).off + 1, none⟩ : Addr).block ≠ g from by first | (rw [add_block]; exact Kd.foot_ne HR1.out (by omega) (by decide)) | (show (Addr.add _ _).block ≠ _; rw [add_block]; exact Kd.foot_ne HR1.out (by omega) (by decide)) | exact Kd.foot_ne HR1.out (by omega) (by decide) | (dsimp only; exact Kd.foot_ne HR1.out (by omega) (by decide)))
      have hlt141_1 := (Kd.foot_lt HR1.out (by omega) (by decide))
      have hne141_0 := (show ((ad141.add ((t137).toNat * 3)) : Addr).block ≠ g from by first | (rw [add_block]; exact Kd.foot_ne HR1.out (by omega) (by decide)) | (show (Addr.add _ _).block ≠ _; rw [add_block]; exact Kd.foot_ne HR1.out (by omega) (by decide)) | exact Kd.foot_ne HR1.out (by omega) (by decide) | (dsimp only; exact Kd.foot_ne HR1.out (by omega) (by decide)))
      have hlt141_0 := (Kd.foot_lt HR1.out (by omega) (by decide))
      replace p141 := eq_true p141
      replace q141 := eq_true q141
      refine start_ (n := 10) (S := fun w' => w'.cell? ⟨gb140, 0, none⟩ = some (.int .i64 t137) ∧ w'.cell? ⟨gb140, 1, none⟩ = some (.slice Ao24 x141001_1.length co24) ∧ w'.cell? (ad141.add ((t137).toNat * 3)) = some (.string ((rd_T68 l1 t137).f0)) ∧ w'.cell? ⟨(ad141.add ((t137).toNat * 3)).block, (ad141.add ((t137).toNat * 3)).off + 1, none⟩ = some (.int .i64 ((rd_T68 l1 t137).f1)) ∧ w'.cell? ⟨(ad141.add ((t137).toNat * 3)).block, (ad141.add ((t137).toNat * 3)).off + 2, none⟩ = some (.int .i64 ((rd_T68 l1 t137).f2))) (ds := []) #[false, false, false, false, false, false, false, false, false, false] (by kernel_rfl) rfl rfl ⟨(blk_cell BK140.out 0).trans rfl, (blk_cell BK140.out 1).trans rfl, hx141_0, hx141_1, hx141_2⟩ (fun hHeld => ?_); refine with_tabW spec_l3Fact.tab2 spec_l3Fact.bits2 (fun HT_ HW_ => ?_)
      generalize wr.drew = w23 at HO_141001 BK136 BK140 HI0 HK HB hx141_0 hx141_1 hx141_2 hHeld ⊢
      refine pU 0 13 ?_
      refine pU 3 16 ?_
      refine pU 4 17 ?_
      refine tU5 1 14 hHeld ?_
      refine pU 2 15 ?_
      refine tU5 5 18 hHeld ?_
      refine pU 6 19 ?_
      refine pU 7 20 ?_
      refine tU5 8 21 hHeld ?_
      refine pU 9 22 ?_
      refine done_ (done_of HT_.out (by kernel_rfl)) ?_
      have hnb25 := NB140_136.out
      have hnc25 := NB136_140.out
      have hnb26 := NB140_0.out
      have hnc26 := NB0_140.out
      have hcz27_0 : w23.cell? ⟨gb140, 0, none⟩ = some (.int .i64 t137) := (blk_cell BK140.out 0).trans rfl
      have hcz27_1 : w23.cell? ⟨gb140, 1, none⟩ = some (.slice Ao24 x141001_1.length co24) := (blk_cell BK140.out 1).trans rfl
      have hfz27_0 := blk_frozen BK140.out 0
      have hfz27_1 := blk_frozen BK140.out 1
      have hnb28 := NB136_0.out
      have hnc28 := NB0_136.out
      have hcz29_0 : w23.cell? ⟨gb136, 0, none⟩ = some (.int .i64 0) := (blk_cell BK136.out 0).trans rfl
      have hcz29_1 : w23.cell? ⟨gb136, 1, none⟩ = some (.slice none 0 0) := (blk_cell BK136.out 1).trans rfl
      have hfz29_0 := blk_frozen BK136.out 0
      have hfz29_1 := blk_frozen BK136.out 1
      try go_wp2
      refine bodyPost_ret (results_cell_row rfl _ _ gb136 39 #[.int .i64 t137, .slice Ao24 x141001_1.length co24] (0, 0) _ rfl (by (with_reducible repeat refine pB ?_); refine blk_put (cs := #[.int .i64 t137, .slice none 0 0]) ?_ 1 _ rfl; (with_reducible repeat refine pB ?_); refine blk_put (cs := #[.int .i64 0, .slice none 0 0]) ?_ 0 _ rfl; (with_reducible repeat refine pB ?_); exact BK136.out) Tryd.underlying39 rfl (by kernel_rfl)) rfl ?_
      exact ⟨_, aE, by (with_reducible repeat apply pR); exact Kd.R_mono (Kd.R_far (p := ⟨gb136, 1, none⟩) (Kd.R_far (p := ⟨gb136, 0, none⟩) (Kd.R_types HO_141001.out BK136.out (by decide)) (fun _ hk => hk.2) (.int .i64 t137)) (fun _ hk => hk.2) (.slice Ao24 x141001_1.length co24)) (fun _ hk => trivial), aZ, aY, aQ⟩
    ·rw [if_neg c12] at H
     exact absurd H (by simp)
   ·rw [if_neg c11] at H
    exact absurd H (by simp)

/-! ### spec_l3Any: function 61 -/
def spec_l3Any.f (k : Nat) (s0_0 : List Int) (s0_1 : Int) (s0_2 : Int) (l1 : List (S68)) : Option (Int × List Int × Int × Int) := (spec_l3Fact.f k s0_0 s0_1 s0_2 l1 4).bind fun bt149 => ((spec_l1Below.f s0_0 bt149.2.2.1 bt149.2.2.2 10).bind fun bt156 => (if bt156.1 = 0 then ((spec_l1Below.f s0_0 bt156.2.1 bt156.2.2 6).bind fun bt159 => (some (wrap64 (bt159.1 - 1), bt149.2.1, bt159.2.1, bt159.2.2))) else (if bt156.1 = 1 then (if bt149.2.1.length < 17592186044416 then (some (bt149.1, (bt149.2.1 ++ [1]), bt156.2.1, bt156.2.2)) else (none)) else (if bt156.1 = 2 then ((spec_l1PickInt.f s0_0 bt156.2.1 bt156.2.2 (([(-1), 10, 9] : List Int))).bind fun bt168 => (if 0 < (bt149.2.1.length : Int) then (some (bt149.1, (bt149.2.1.set (0 : Int).toNat bt168.1), bt168.2.1, bt168.2.2)) else (none))) else (some (bt149.1, bt149.2.1, bt156.2.1, bt156.2.2))))))
set_option maxHeartbeats 8000000 in
set_option maxRecDepth 100000 in
theorem spec_l3Any.calls (k : Nat) (g : Nat) (s0_0 : List Int) (s0_1 : Int) (s0_2 : Int) (A1 : Option Addr) (c1 : Nat) (l1 : List (S68)) (r1 : Int) (r2 : List Int) (r3 : Int) (r4 : Int) (w0 w : World) (hI : IsS117 w0 w g s0_0 s0_1 s0_2) (hB : Below w0.heap.size w0 w) (hr1 : ∀ W_, KeepBut w W_ g none → Kd.C k68 W_ A1 l1.length l1) (hc1 : l1.length ≤ c1) (h : spec_l3Any.f k s0_0 s0_1 s0_2 l1 = some (r1, r2, r3, r4)) :
  Calls Tryd.prog 61 #[.pointer (some ⟨g, 0, none⟩), .slice A1 l1.length c1] w fun e w' => ∃ v1_ : Value, e = .returned (.agg #[.int .i64 r1, v1_]) ∧ Kd.R (Kd.int .i64) 3 w' w.heap.size (fun _ => True) v1_ r2 ∧ IsS117 w0 w' g s0_0 r3 r4 ∧ Below w0.heap.size w0 w' ∧ KeepBut w w' g none := by
 have hu39 := Tryd.underlying39
 have HR1 := aM hr1
 have HC1 := aM hc1
 clear hr1 hc1
 have HI0 := aM hI
 have HK := aM (KeepBut.refl w g none)
 have HL := aM hB.size
 clear hI
 have HW0 := aM hB.size
 have HB := aM hB
 clear hB
 have H : ((spec_l3Fact.f k s0_0 s0_1 s0_2 l1 4).bind fun bt149 => ((spec_l1Below.f s0_0 bt149.2.2.1 bt149.2.2.2 10).bind fun bt156 => (if bt156.1 = 0 then ((spec_l1Below.f s0_0 bt156.2.1 bt156.2.2 6).bind fun bt159 => (some (wrap64 (bt159.1 - 1), bt149.2.1, bt159.2.1, bt159.2.2))) else (if bt156.1 = 1 then (if bt149.2.1.length < 17592186044416 then (some (bt149.1, (bt149.2.1 ++ [1]), bt156.2.1, bt156.2.2)) else (none)) else (if bt156.1 = 2 then ((spec_l1PickInt.f s0_0 bt156.2.1 bt156.2.2 (([(-1), 10, 9] : List Int))).bind fun bt168 => (if 0 < (bt149.2.1.length : Int) then (some (bt149.1, (bt149.2.1.set (0 : Int).toNat bt168.1), bt168.2.1, bt168.2.2)) else (none))) else (some (bt149.1, bt149.2.1, bt156.2.1, bt156.2.2))))))) = some (r1, r2, r3, r4) := h
 clear h
 replace H := bM H
 obtain ⟨⟨t149, t150, t153, t154⟩, A30, H⟩ := H
 dsimp only at H
 have A3 := aM A30
 clear A30
 replace H := bM H
 obtain ⟨⟨t156, t157, t158⟩, A40, H⟩ := H
 dsimp only at H
 have A4 := aM A40
 clear A40
 by_cases c5 : t156 = 0
 ·rw [if_pos c5] at H
  have c5b0 : (t156 == 0) = true := beq_iff_eq.mpr c5
  have c5b1 : (t156 != 0) = false := bne_eq_false_iff_eq.mpr c5
  clear c5
  replace H := bM H
  obtain ⟨⟨t159, t160, t161⟩, A60, H⟩ := H
  dsimp only at H
  have A6 := aM A60
  clear A60
  simp only [Option.some.injEq, Prod.mk.injEq] at H
  obtain ⟨rfl, rfl, rfl, rfl⟩ := H
  go_enter Tryd.func61, Tryd.ntmps61
  go_wp2_with (first | ((with_reducible refine gate_dst (N := 4) rfl ?_); refine bE 4 (cs := #[.int .i64 0, .slice none 0 0]) (t := 39) ?_; intro gb148 hg w7 hbox hb; have BK148 := aM (hbox); have GW148 := aM ((by rw [hg]; exact (kS (w := w) (g := g)) : w.heap.size ≤ gb148)); have GE148 := aM ((Nat.le_trans HW0.out (by rw [hg]; exact (kS (w := w) (g := g)) : w.heap.size ≤ gb148) : w0.heap.size ≤ gb148)); have NB0_148 := aM ((by rw [hg]; exact Nat.ne_of_lt (IsS117.lt (show IsS117 w0 _ g s0_0 s0_1 s0_2 from aZ)) : g ≠ gb148)); have NB148_0 := aM ((by rw [hg]; exact Nat.ne_of_gt (IsS117.lt (show IsS117 w0 _ g s0_0 s0_1 s0_2 from aZ)) : gb148 ≠ g)); replace HK := aM (KeepBut.trans aQ (KeepBut.of_below hb g none) (.inl rfl)); replace HB := aM (below_step aY hb); replace HI0 := aM (IsS117.below aZ hb); clear hb hbox hg) | ((with_reducible refine gate_callee (f := 56) rfl ?_); refine goesL_ (some 8) rfl rfl Tryd.func56 (by kernel_rfl) rfl #[.pointer (some ⟨g, 0, none⟩), .slice A1 l1.length c1, .int .i64 4] rfl aA ?_; (with_reducible refine (spec_l3Fact.calls k g s0_0 s0_1 s0_2 _ _ l1 4 t149 t150 t153 t154 w0 _ ?side1 ?side2 ?side3 ?side4 A3.out).mono ?_); (case side1 => exact aZ); (case side2 => exact aY); (case side3 => exact Kd.C_foot_step HR1.out aQ); (case side4 => exact HC1.out); rintro e w8 ⟨v151, rfl, ho0, hi, hb, hk⟩; refine ⟨_, rfl, ?_⟩; have HO152 := aM (Kd.R_lower ho0 (kS (w := w) (g := g))); replace BK148 := aM (KeepBut.blk hk (g' := gb148) (o := .cells #[.int .i64 0, .slice none 0 0] 39 (0, 0)) aK NB148_0.out (by simp)); replace HK := aM (KeepBut.trans aQ hk (.inl rfl)); replace HB := aM (hb); replace HI0 := aM (hi); (try clear hb); (try clear hb2); (try clear hk); (try clear hi); (try clear ho0)) | ((with_reducible refine gate_dst (N := 5) rfl ?_); refine bE 5 (cs := #[.int .i64 0, .slice none 0 0]) (t := 39) ?_; intro gb155 hg w9 hbox hb; have BK155 := aM (hbox); have GW155 := aM ((by rw [hg]; exact (kS (w := w) (g := g)) : w.heap.size ≤ gb155)); have GE155 := aM ((Nat.le_trans HW0.out (by rw [hg]; exact (kS (w := w) (g := g)) : w.heap.size ≤ gb155) : w0.heap.size ≤ gb155)); have NB148_155 := aM ((by rw [hg]; exact Nat.ne_of_lt (blk_lt (g := gb148) (o := .cells #[.int .i64 0, .slice none 0 0] 39 (0, 0)) aK) : gb148 ≠ gb155)); have NB155_148 := aM ((by rw [hg]; exact Nat.ne_of_gt (blk_lt (g := gb148) (o := .cells #[.int .i64 0, .slice none 0 0] 39 (0, 0)) aK) : gb155 ≠ gb148)); have NB0_155 := aM ((by rw [hg]; exact Nat.ne_of_lt (IsS117.lt (show IsS117 w0 _ g s0_0 t153 t154 from aZ)) : g ≠ gb155)); have NB155_0 := aM ((by rw [hg]; exact Nat.ne_of_gt (IsS117.lt (show IsS117 w0 _ g s0_0 t153 t154 from aZ)) : gb155 ≠ g)); replace HO152 := aM (Kd.R_below (aR HO152) hb); replace BK148 := aM (kB gb148 #[.int .i64 0, .slice none 0 0] 39 hb); replace HK := aM (KeepBut.trans aQ (KeepBut.of_below hb g none) (.inl rfl)); replace HB := aM (below_step aY hb); replace HI0 := aM (IsS117.below aZ hb); clear hb hbox hg; have hnb10 := NB155_148.out; have hnc10 := NB148_155.out; have hnb11 := NB155_0.out; have hnc11 := NB0_155.out; have hcz12_0 : w9.cell? ⟨gb155, 0, none⟩ = some (.int .i64 0) := (blk_cell BK155.out 0).trans rfl; have hcz12_1 : w9.cell? ⟨gb155, 1, none⟩ = some (.slice none 0 0) := (blk_cell BK155.out 1).trans rfl; have hfz12_0 := blk_frozen BK155.out 0; have hfz12_1 := blk_frozen BK155.out 1; obtain ⟨Ao13, co13, eo13⟩ := Kd.R_slice HO152.out; subst eo13) | ((with_reducible refine gate_callee (f := 62) rfl ?_); refine goesL_ (some 10) rfl rfl Tryd.func62 (by kernel_rfl) rfl #[.pointer (some ⟨g, 0, none⟩), .int .i64 10] rfl aA ?_; (with_reducible refine (spec_l1Below.calls g s0_0 t153 t154 10 t156 t157 t158 w0 _ ?side1 ?side2 A4.out).mono ?_); (case side1 => exact aZ); (case side2 => exact aY); rintro e w14 ⟨rfl, hi, hb, hk⟩; refine ⟨_, rfl, ?_⟩; replace BK148 := aM (KeepBut.blk hk (g' := gb148) (o := .cells #[.int .i64 0, .slice none 0 0] 39 (0, 0)) (by (with_reducible repeat refine pB ?_); refine blk_far ?_ NB148_155.out _; (with_reducible repeat refine pB ?_); refine blk_far ?_ NB148_155.out _; (with_reducible repeat refine pB ?_); exact BK148.out) NB148_0.out (by simp)); replace HO152 := aM (Kd.R_mono (Kd.R_keep (IsS117.apart (show IsS117 w0 _ g s0_0 t153 t154 from aZ) (by (with_reducible repeat apply pR); exact (Kd.R_mono (Kd.R_far (p := ⟨gb155, 1, none⟩) (Kd.R_far (p := ⟨gb155, 0, none⟩) (Kd.R_types HO152.out BK155.out (by decide)) (fun _ hk => hk.2) (.int .i64 t149)) (fun _ hk => hk.2) (.slice Ao13 t150.length co13)) (fun _ h_ => h_.1))) (by decide)) hk (fun _ h => h.2)) (fun _ h => h.1)); replace BK155 := aM (KeepBut.blk hk (g' := gb155) (o := .cells #[.int .i64 t149, .slice Ao13 t150.length co13] 39 (0, 0)) (by (with_reducible repeat refine pB ?_); refine blk_put (cs := #[.int .i64 t149, .slice none 0 0]) ?_ 1 _ rfl; (with_reducible repeat refine pB ?_); refine blk_put (cs := #[.int .i64 0, .slice none 0 0]) ?_ 0 _ rfl; (with_reducible repeat refine pB ?_); exact BK155.out) NB155_0.out (by simp)); replace HK := aM (KeepBut.trans aQ hk (.inl rfl)); replace HB := aM (hb); replace HI0 := aM (hi); (try clear hb); (try clear hb2); (try clear hk); (try clear hi)) | ((with_reducible refine gate_callee (f := 62) rfl ?_); refine goesL_ (some 14) rfl rfl Tryd.func62 (by kernel_rfl) rfl #[.pointer (some ⟨g, 0, none⟩), .int .i64 6] rfl aA ?_; (with_reducible refine (spec_l1Below.calls g s0_0 t157 t158 6 t159 t160 t161 w0 _ ?side1 ?side2 A6.out).mono ?_); (case side1 => exact aZ); (case side2 => exact aY); rintro e w15 ⟨rfl, hi, hb, hk⟩; refine ⟨_, rfl, ?_⟩; have n0_ := aM (KeepBut.blk hk (g' := gb148) (o := .cells #[.int .i64 0, .slice none 0 0] 39 (0, 0)) aK NB148_0.out (by simp)); have n1_ := aM (Kd.R_mono (Kd.R_keep (IsS117.apart (show IsS117 w0 _ g s0_0 t157 t158 from aZ) (aR HO152) (by decide)) hk (fun _ h => h.2)) (fun _ h => h.1)); have n2_ := aM (KeepBut.blk hk (g' := gb155) (o := .cells #[.int .i64 t149, .slice Ao13 t150.length co13] 39 (0, 0)) aK NB155_0.out (by simp)); have n3_ := aM (KeepBut.trans aQ hk (.inl rfl)); have n4_ := aM (hb); have n5_ := aM (hi); clear BK148; clear HO152; clear BK155; clear HK; clear HB; clear HI0; have BK148 := n0_; have HO152 := n1_; have BK155 := n2_; have HK := n3_; have HB := n4_; have HI0 := n5_; clear n0_ n1_ n2_ n3_ n4_ n5_; (try clear hb); (try clear hb2); (try clear hk); (try clear hi); have hcz16_0 : w15.cell? ⟨gb155, 0, none⟩ = some (.int .i64 t149) := (blk_cell BK155.out 0).trans rfl; have hcz16_1 : w15.cell? ⟨gb155, 1, none⟩ = some (.slice Ao13 t150.length co13) := (blk_cell BK155.out 1).trans rfl; have hfz16_0 := blk_frozen BK155.out 0; have hfz16_1 := blk_frozen BK155.out 1; have hnb17 := NB148_0.out; have hnc17 := NB0_148.out; have hcz18_0 : w15.cell? ⟨gb148, 0, none⟩ = some (.int .i64 0) := (blk_cell BK148.out 0).trans rfl; have hcz18_1 : w15.cell? ⟨gb148, 1, none⟩ = some (.slice none 0 0) := (blk_cell BK148.out 1).trans rfl; have hfz18_0 := blk_frozen BK148.out 0; have hfz18_1 := blk_frozen BK148.out 1))
  refine bodyPost_ret (results_cell_row rfl _ _ gb148 39 #[.int .i64 (wrap64 (t159 - 1)), .slice Ao13 t150.length co13] (0, 0) _ rfl (by (with_reducible repeat refine pB ?_); refine blk_put (cs := #[.int .i64 (wrap64 (t159 - 1)), .slice none 0 0]) ?_ 1 _ rfl; (with_reducible repeat refine pB ?_); refine blk_put (cs := #[.int .i64 0, .slice none 0 0]) ?_ 0 _ rfl; (with_reducible repeat refine pB ?_); refine blk_far ?_ NB148_155.out _; (with_reducible repeat refine pB ?_); exact BK148.out) Tryd.underlying39 rfl (by kernel_rfl)) rfl ?_
  exact ⟨_, aE, by (with_reducible repeat apply pR); exact Kd.R_mono (Kd.R_far (p := ⟨gb148, 1, none⟩) (Kd.R_far (p := ⟨gb148, 0, none⟩) (Kd.R_far (p := ⟨gb155, 0, none⟩) (Kd.R_types (Kd.R_types HO152.out BK155.out (by decide)) BK148.out (by decide)) (fun _ hk => hk.1.2) (.int .i64 (wrap64 (t159 - 1)))) (fun _ hk => hk.2) (.int .i64 (wrap64 (t159 - 1)))) (fun _ hk => hk.2) (.slice Ao13 t150.length co13)) (fun _ hk => trivial), aZ, aY, aQ⟩
 ·rw [if_neg c5] at H
  have c5b0 : (t156 == 0) = false := beq_eq_false_iff_ne.mpr c5
  have c5b1 : (t156 != 0) = true := bne_iff_ne.mpr c5
  by_cases c19 : t156 = 1
  ·rw [if_pos c19] at H
   have c19b0 : (t156 == 1) = true := beq_iff_eq.mpr c19
   have c19b1 : (t156 != 1) = false := bne_eq_false_iff_eq.mpr c19
   clear c19
   by_cases c20 : t150.length < 17592186044416
   ·rw [if_pos c20] at H
    have LMc20 := aM c20
    clear c20
    obtain ⟨y162, hy162⟩ : ∃ y_ : List Int, y_ = (t150 ++ [1]) := ⟨_, rfl⟩
    first | replace H := bY hy162 H | rw [← hy162] at H
    have Ny162 := aM hy162
    clear hy162
    simp only [Option.some.injEq, Prod.mk.injEq] at H
    obtain ⟨rfl, rfl, rfl, rfl⟩ := H
    go_enter Tryd.func61, Tryd.ntmps61
    go_wp2_with (first | ((with_reducible refine gate_dst (N := 4) rfl ?_); refine bE 4 (cs := #[.int .i64 0, .slice none 0 0]) (t := 39) ?_; intro gb148 hg w21 hbox hb; have BK148 := aM (hbox); have GW148 := aM ((by rw [hg]; exact (kS (w := w) (g := g)) : w.heap.size ≤ gb148)); have GE148 := aM ((Nat.le_trans HW0.out (by rw [hg]; exact (kS (w := w) (g := g)) : w.heap.size ≤ gb148) : w0.heap.size ≤ gb148)); have NB0_148 := aM ((by rw [hg]; exact Nat.ne_of_lt (IsS117.lt (show IsS117 w0 _ g s0_0 s0_1 s0_2 from aZ)) : g ≠ gb148)); have NB148_0 := aM ((by rw [hg]; exact Nat.ne_of_gt (IsS117.lt (show IsS117 w0 _ g s0_0 s0_1 s0_2 from aZ)) : gb148 ≠ g)); replace HK := aM (KeepBut.trans aQ (KeepBut.of_below hb g none) (.inl rfl)); replace HB := aM (below_step aY hb); replace HI0 := aM (IsS117.below aZ hb); clear hb hbox hg) | ((with_reducible refine gate_callee (f := 56) rfl ?_); refine goesL_ (some 8) rfl rfl Tryd.func56 (by kernel_rfl) rfl #[.pointer (some ⟨g, 0, none⟩), .slice A1 l1.length c1, .int .i64 4] rfl aA ?_; (with_reducible refine (spec_l3Fact.calls k g s0_0 s0_1 s0_2 _ _ l1 4 t149 t150 t153 t154 w0 _ ?side1 ?side2 ?side3 ?side4 A3.out).mono ?_); (case side1 => exact aZ); (case side2 => exact aY); (case side3 => exact Kd.C_foot_step HR1.out aQ); (case side4 => exact HC1.out); rintro e w22 ⟨v151, rfl, ho0, hi, hb, hk⟩; refine ⟨_, rfl, ?_⟩; have HO152 := aM (Kd.R_lower ho0 (kS (w := w) (g := g))); replace BK148 := aM (KeepBut.blk hk (g' := gb148) (o := .cells #[.int .i64 0, .slice none 0 0] 39 (0, 0)) aK NB148_0.out (by simp)); replace HK := aM (KeepBut.trans aQ hk (.inl rfl)); replace HB := aM (hb); replace HI0 := aM (hi); (try clear hb); (try clear hb2); (try clear hk); (try clear hi); (try clear ho0)) | ((with_reducible refine gate_dst (N := 5) rfl ?_); refine bE 5 (cs := #[.int .i64 0, .slice none 0 0]) (t := 39) ?_; intro gb155 hg w23 hbox hb; have BK155 := aM (hbox); have GW155 := aM ((by rw [hg]; exact (kS (w := w) (g := g)) : w.heap.size ≤ gb155)); have GE155 := aM ((Nat.le_trans HW0.out (by rw [hg]; exact (kS (w := w) (g := g)) : w.heap.size ≤ gb155) : w0.heap.size ≤ gb155)); have NB148_155 := aM ((by rw [hg]; exact Nat.ne_of_lt (blk_lt (g := gb148) (o := .cells #[.int .i64 0, .slice none 0 0] 39 (0, 0)) aK) : gb148 ≠ gb155)); have NB155_148 := aM ((by rw [hg]; exact Nat.ne_of_gt (blk_lt (g := gb148) (o := .cells #[.int .i64 0, .slice none 0 0] 39 (0, 0)) aK) : gb155 ≠ gb148)); have NB0_155 := aM ((by rw [hg]; exact Nat.ne_of_lt (IsS117.lt (show IsS117 w0 _ g s0_0 t153 t154 from aZ)) : g ≠ gb155)); have NB155_0 := aM ((by rw [hg]; exact Nat.ne_of_gt (IsS117.lt (show IsS117 w0 _ g s0_0 t153 t154 from aZ)) : gb155 ≠ g)); replace HO152 := aM (Kd.R_below (aR HO152) hb); replace BK148 := aM (kB gb148 #[.int .i64 0, .slice none 0 0] 39 hb); replace HK := aM (KeepBut.trans aQ (KeepBut.of_below hb g none) (.inl rfl)); replace HB := aM (below_step aY hb); replace HI0 := aM (IsS117.below aZ hb); clear hb hbox hg; have hnb24 := NB155_148.out; have hnc24 := NB148_155.out; have hnb25 := NB155_0.out; have hnc25 := NB0_155.out; have hcz26_0 : w23.cell? ⟨gb155, 0, none⟩ = some (.int .i64 0) := (blk_cell BK155.out 0).trans rfl; have hcz26_1 : w23.cell? ⟨gb155, 1, none⟩ = some (.slice none 0 0) := (blk_cell BK155.out 1).trans rfl; have hfz26_0 := blk_frozen BK155.out 0; have hfz26_1 := blk_frozen BK155.out 1; obtain ⟨Ao27, co27, eo27⟩ := Kd.R_slice HO152.out; subst eo27) | ((with_reducible refine gate_callee (f := 62) rfl ?_); refine goesL_ (some 10) rfl rfl Tryd.func62 (by kernel_rfl) rfl #[.pointer (some ⟨g, 0, none⟩), .int .i64 10] rfl aA ?_; (with_reducible refine (spec_l1Below.calls g s0_0 t153 t154 10 t156 t157 t158 w0 _ ?side1 ?side2 A4.out).mono ?_); (case side1 => exact aZ); (case side2 => exact aY); rintro e w28 ⟨rfl, hi, hb, hk⟩; refine ⟨_, rfl, ?_⟩; replace BK148 := aM (KeepBut.blk hk (g' := gb148) (o := .cells #[.int .i64 0, .slice none 0 0] 39 (0, 0)) (by (with_reducible repeat refine pB ?_); refine blk_far ?_ NB148_155.out _; (with_reducible repeat refine pB ?_); refine blk_far ?_ NB148_155.out _; (with_reducible repeat refine pB ?_); exact BK148.out) NB148_0.out (by simp)); replace HO152 := aM (Kd.R_mono (Kd.R_keep (IsS117.apart (show IsS117 w0 _ g s0_0 t153 t154 from aZ) (by (with_reducible repeat apply pR); exact (Kd.R_mono (Kd.R_far (p := ⟨gb155, 1, none⟩) (Kd.R_far (p := ⟨gb155, 0, none⟩) (Kd.R_types HO152.out BK155.out (by decide)) (fun _ hk => hk.2) (.int .i64 t149)) (fun _ hk => hk.2) (.slice Ao27 t150.length co27)) (fun _ h_ => h_.1))) (by decide)) hk (fun _ h => h.2)) (fun _ h => h.1)); replace BK155 := aM (KeepBut.blk hk (g' := gb155) (o := .cells #[.int .i64 t149, .slice Ao27 t150.length co27] 39 (0, 0)) (by (with_reducible repeat refine pB ?_); refine blk_put (cs := #[.int .i64 t149, .slice none 0 0]) ?_ 1 _ rfl; (with_reducible repeat refine pB ?_); refine blk_put (cs := #[.int .i64 0, .slice none 0 0]) ?_ 0 _ rfl; (with_reducible repeat refine pB ?_); exact BK155.out) NB155_0.out (by simp)); replace HK := aM (KeepBut.trans aQ hk (.inl rfl)); replace HB := aM (hb); replace HI0 := aM (hi); (try clear hb); (try clear hb2); (try clear hk); (try clear hi); have hcz29_0 : w28.cell? ⟨gb155, 0, none⟩ = some (.int .i64 t149) := (blk_cell BK155.out 0).trans rfl; have hcz29_1 : w28.cell? ⟨gb155, 1, none⟩ = some (.slice Ao27 t150.length co27) := (blk_cell BK155.out 1).trans rfl; have hfz29_0 := blk_frozen BK155.out 0; have hfz29_1 := blk_frozen BK155.out 1) | ((with_reducible refine gate_builtin (b := .append) (xs := #[.tmp 20, .tmp 21]) rfl ?_); at_builtin; refine Kd.R_append (Kd.int .i64) w.heap.size rfl (.tmp 20) (.tmp 21) 37 3 (.int .i64 0) 8 rfl Tryd.underlying37 info3 rfl (by decide) (by omega) (.slice Ao27 t150.length co27) t150 1 [.int .i64 1] (fun _ => True) (fun _ => False) rfl rfl ?aP (fun _ hk => hk.elim) ?aF ?aO (Below.refl _ _) ?aS ?aL ?_; (case aP => exact rfl); (case aF => exact (fun _ _ => trivial)); (case aO => exact (aR HO152)); (case aS => exact (kS (w := w) (g := g))); (case aL => have := LMc20.out; omega); intro v163 w30 ho hb hg hat; rw [← Ny162.out] at ho; have n0_ := aM (IsS117.grown aZ hg (IsS117.own_ne HI0.out HO152.out (by decide))); have n1_ := aM (blk_grown (g := gb148) (o := .cells #[.int .i64 0, .slice none 0 0] 39 (0, 0)) aK hg (Kd.R_ne HO152.out BK148.out (by decide))); have n2_ := aM (blk_grown (g := gb155) (o := .cells #[.int .i64 t149, .slice Ao27 t150.length co27] 39 (0, 0)) aK hg (Kd.R_ne HO152.out BK155.out (by decide))); have n3_ := aM (below_weaken aY HL.out hb); have n4_ := aM (KeepBut.trans aQ (KeepBut.of_grown hg g) (Kd.R_base2 HO152.out)); have n5_ := aM (ho); clear HI0; clear BK148; clear BK155; clear HB; clear HK; clear HO152; have HI0 := n0_; have BK148 := n1_; have BK155 := n2_; have HB := n3_; have HK := n4_; have HO164 := n5_; clear n0_ n1_ n2_ n3_ n4_ n5_; clear ho hb hg hat; obtain ⟨Ao31, co31, eo31⟩ := Kd.R_slice HO164.out; subst eo31; have hcz32_0 : w30.cell? ⟨gb155, 0, none⟩ = some (.int .i64 t149) := (blk_cell BK155.out 0).trans rfl; have hcz32_1 : w30.cell? ⟨gb155, 1, none⟩ = some (.slice Ao27 t150.length co27) := (blk_cell BK155.out 1).trans rfl; have hfz32_0 := blk_frozen BK155.out 0; have hfz32_1 := blk_frozen BK155.out 1; have hnb33 := NB148_0.out; have hnc33 := NB0_148.out; have hcz34_0 : w30.cell? ⟨gb148, 0, none⟩ = some (.int .i64 0) := (blk_cell BK148.out 0).trans rfl; have hcz34_1 : w30.cell? ⟨gb148, 1, none⟩ = some (.slice none 0 0) := (blk_cell BK148.out 1).trans rfl; have hfz34_0 := blk_frozen BK148.out 0; have hfz34_1 := blk_frozen BK148.out 1))
    refine bodyPost_ret (results_cell_row rfl _ _ gb148 39 #[.int .i64 t149, .slice Ao31 y162.length co31] (0, 0) _ rfl (by (with_reducible repeat refine pB ?_); refine blk_put (cs := #[.int .i64 t149, .slice none 0 0]) ?_ 1 _ rfl; (with_reducible repeat refine pB ?_); refine blk_put (cs := #[.int .i64 0, .slice none 0 0]) ?_ 0 _ rfl; (with_reducible repeat refine pB ?_); refine blk_far ?_ NB148_155.out _; (with_reducible repeat refine pB ?_); exact BK148.out) Tryd.underlying39 rfl (by kernel_rfl)) rfl ?_
    exact ⟨_, aE, by (with_reducible repeat apply pR); exact Kd.R_mono (Kd.R_far (p := ⟨gb148, 1, none⟩) (Kd.R_far (p := ⟨gb148, 0, none⟩) (Kd.R_far (p := ⟨gb155, 1, none⟩) (Kd.R_types (Kd.R_types HO164.out BK155.out (by decide)) BK148.out (by decide)) (fun _ hk => hk.1.2) (.slice Ao31 y162.length co31)) (fun _ hk => hk.2) (.int .i64 t149)) (fun _ hk => hk.2) (.slice Ao31 y162.length co31)) (fun _ hk => trivial), aZ, aY, aQ⟩
   ·rw [if_neg c20] at H
    exact absurd H (by simp)
  ·rw [if_neg c19] at H
   have c19b0 : (t156 == 1) = false := beq_eq_false_iff_ne.mpr c19
   have c19b1 : (t156 != 1) = true := bne_iff_ne.mpr c19
   by_cases c35 : t156 = 2
   ·rw [if_pos c35] at H
    have c35b0 : (t156 == 2) = true := beq_iff_eq.mpr c35
    have c35b1 : (t156 != 2) = false := bne_eq_false_iff_eq.mpr c35
    clear c35
    obtain ⟨y165, hy165⟩ : ∃ y_ : List Int, y_ = (([(-1), 10, 9] : List Int)) := ⟨_, rfl⟩
    first | replace H := bY hy165 H | rw [← hy165] at H
    have Ny165 := aM hy165
    clear hy165
    replace H := bM H
    obtain ⟨⟨t168, t169, t170⟩, A360, H⟩ := H
    dsimp only at H
    have A36 := aM A360
    clear A360
    by_cases c37 : 0 < (t150.length : Int)
    ·rw [if_pos c37] at H
     have c37b0 : decide (0 < (t150.length : Int)) = true := decide_eq_true c37
     have c37b1 : decide (0 < t150.length) = true := decide_eq_true (by omega)
     clear c37
     obtain ⟨y171, hy171⟩ : ∃ y_ : List Int, y_ = (t150.set (0 : Int).toNat t168) := ⟨_, rfl⟩
     first | replace H := bY hy171 H | rw [← hy171] at H
     have Ny171 := aM hy171
     clear hy171
     simp only [Option.some.injEq, Prod.mk.injEq] at H
     obtain ⟨rfl, rfl, rfl, rfl⟩ := H
     go_enter Tryd.func61, Tryd.ntmps61
     try go_wp2_with (first | ((with_reducible refine gate_dst (N := 4) rfl ?_); refine bE 4 (cs := #[.int .i64 0, .slice none 0 0]) (t := 39) ?_; intro gb148 hg w39 hbox hb; have BK148 := aM (hbox); have GW148 := aM ((by rw [hg]; exact (kS (w := w) (g := g)) : w.heap.size ≤ gb148)); have GE148 := aM ((Nat.le_trans HW0.out (by rw [hg]; exact (kS (w := w) (g := g)) : w.heap.size ≤ gb148) : w0.heap.size ≤ gb148)); have NB0_148 := aM ((by rw [hg]; exact Nat.ne_of_lt (IsS117.lt (show IsS117 w0 _ g s0_0 s0_1 s0_2 from aZ)) : g ≠ gb148)); have NB148_0 := aM ((by rw [hg]; exact Nat.ne_of_gt (IsS117.lt (show IsS117 w0 _ g s0_0 s0_1 s0_2 from aZ)) : gb148 ≠ g)); replace HK := aM (KeepBut.trans aQ (KeepBut.of_below hb g none) (.inl rfl)); replace HB := aM (below_step aY hb); replace HI0 := aM (IsS117.below aZ hb); clear hb hbox hg) | ((with_reducible refine gate_callee (f := 56) rfl ?_); refine goesL_ (some 8) rfl rfl Tryd.func56 (by kernel_rfl) rfl #[.pointer (some ⟨g, 0, none⟩), .slice A1 l1.length c1, .int .i64 4] rfl aA ?_; (with_reducible refine (spec_l3Fact.calls k g s0_0 s0_1 s0_2 _ _ l1 4 t149 t150 t153 t154 w0 _ ?side1 ?side2 ?side3 ?side4 A3.out).mono ?_); (case side1 => exact aZ); (case side2 => exact aY); (case side3 => exact Kd.C_foot_step HR1.out aQ); (case side4 => exact HC1.out); rintro e w40 ⟨v151, rfl, ho0, hi, hb, hk⟩; refine ⟨_, rfl, ?_⟩; have HO152 := aM (Kd.R_lower ho0 (kS (w := w) (g := g))); replace BK148 := aM (KeepBut.blk hk (g' := gb148) (o := .cells #[.int .i64 0, .slice none 0 0] 39 (0, 0)) aK NB148_0.out (by simp)); replace HK := aM (KeepBut.trans aQ hk (.inl rfl)); replace HB := aM (hb); replace HI0 := aM (hi); (try clear hb); (try clear hb2); (try clear hk); (try clear hi); (try clear ho0)) | ((with_reducible refine gate_dst (N := 5) rfl ?_); refine bE 5 (cs := #[.int .i64 0, .slice none 0 0]) (t := 39) ?_; intro gb155 hg w41 hbox hb; have BK155 := aM (hbox); have GW155 := aM ((by rw [hg]; exact (kS (w := w) (g := g)) : w.heap.size ≤ gb155)); have GE155 := aM ((Nat.le_trans HW0.out (by rw [hg]; exact (kS (w := w) (g := g)) : w.heap.size ≤ gb155) : w0.heap.size ≤ gb155)); have NB148_155 := aM ((by rw [hg]; exact Nat.ne_of_lt (blk_lt (g := gb148) (o := .cells #[.int .i64 0, .slice none 0 0] 39 (0, 0)) aK) : gb148 ≠ gb155)); have NB155_148 := aM ((by rw [hg]; exact Nat.ne_of_gt (blk_lt (g := gb148) (o := .cells #[.int .i64 0, .slice none 0 0] 39 (0, 0)) aK) : gb155 ≠ gb148)); have NB0_155 := aM ((by rw [hg]; exact Nat.ne_of_lt (IsS117.lt (show IsS117 w0 _ g s0_0 t153 t154 from aZ)) : g ≠ gb155)); have NB155_0 := aM ((by rw [hg]; exact Nat.ne_of_gt (IsS117.lt (show IsS117 w0 _ g s0_0 t153 t154 from aZ)) : gb155 ≠ g)); replace HO152 := aM (Kd.R_below (aR HO152) hb); replace BK148 := aM (kB gb148 #[.int .i64 0, .slice none 0 0] 39 hb); replace HK := aM (KeepBut.trans aQ (KeepBut.of_below hb g none) (.inl rfl)); replace HB := aM (below_step aY hb); replace HI0 := aM (IsS117.below aZ hb); clear hb hbox hg; have hnb42 := NB155_148.out; have hnc42 := NB148_155.out; have hnb43 := NB155_0.out; have hnc43 := NB0_155.out; have hcz44_0 : w41.cell? ⟨gb155, 0, none⟩ = some (.int .i64 0) := (blk_cell BK155.out 0).trans rfl; have hcz44_1 : w41.cell? ⟨gb155, 1, none⟩ = some (.slice none 0 0) := (blk_cell BK155.out 1).trans rfl; have hfz44_0 := blk_frozen BK155.out 0; have hfz44_1 := blk_frozen BK155.out 1; obtain ⟨Ao45, co45, eo45⟩ := Kd.R_slice HO152.out; subst eo45) | ((with_reducible refine gate_callee (f := 62) rfl ?_); refine goesL_ (some 10) rfl rfl Tryd.func62 (by kernel_rfl) rfl #[.pointer (some ⟨g, 0, none⟩), .int .i64 10] rfl aA ?_; (with_reducible refine (spec_l1Below.calls g s0_0 t153 t154 10 t156 t157 t158 w0 _ ?side1 ?side2 A4.out).mono ?_); (case side1 => exact aZ); (case side2 => exact aY); rintro e w46 ⟨rfl, hi, hb, hk⟩; refine ⟨_, rfl, ?_⟩; replace BK148 := aM (KeepBut.blk hk (g' := gb148) (o := .cells #[.int .i64 0, .slice none 0 0] 39 (0, 0)) (by (with_reducible repeat refine pB ?_); refine blk_far ?_ NB148_155.out _; (with_reducible repeat refine pB ?_); refine blk_far ?_ NB148_155.out _; (with_reducible repeat refine pB ?_); exact BK148.out) NB148_0.out (by simp)); replace HO152 := aM (Kd.R_mono (Kd.R_keep (IsS117.apart (show IsS117 w0 _ g s0_0 t153 t154 from aZ) (by (with_reducible repeat apply pR); exact (Kd.R_mono (Kd.R_far (p := ⟨gb155, 1, none⟩) (Kd.R_far (p := ⟨gb155, 0, none⟩) (Kd.R_types HO152.out BK155.out (by decide)) (fun _ hk => hk.2) (.int .i64 t149)) (fun _ hk => hk.2) (.slice Ao45 t150.length co45)) (fun _ h_ => h_.1))) (by decide)) hk (fun _ h => h.2)) (fun _ h => h.1)); replace BK155 := aM (KeepBut.blk hk (g' := gb155) (o := .cells #[.int .i64 t149, .slice Ao45 t150.length co45] 39 (0, 0)) (by (with_reducible repeat refine pB ?_); refine blk_put (cs := #[.int .i64 t149, .slice none 0 0]) ?_ 1 _ rfl; (with_reducible repeat refine pB ?_); refine blk_put (cs := #[.int .i64 0, .slice none 0 0]) ?_ 0 _ rfl; (with_reducible repeat refine pB ?_); exact BK155.out) NB155_0.out (by simp)); replace HK := aM (KeepBut.trans aQ hk (.inl rfl)); replace HB := aM (hb); replace HI0 := aM (hi); (try clear hb); (try clear hb2); (try clear hk); (try clear hi)))
     replace HO152 := aM (Kd.R_drew HO152.out)
     replace BK148 := aM (blk_drew BK148.out)
     replace BK155 := aM (blk_drew BK155.out)
     replace HI0 := aM (IsS117.drew HI0.out)
     replace HK := aM (keep_drew HK.out)
     replace HB := aM (below_drew1 HB.out)
     refine start_ (n := 7) (S := fun w' => w'.cell? ⟨gb155, 0, none⟩ = some (.int .i64 t149) ∧ w'.cell? ⟨gb155, 1, none⟩ = some (.slice Ao45 t150.length co45)) (ds := [6]) #[false, false, false, false, false, false, false] (by kernel_rfl) rfl rfl ⟨(blk_cell BK155.out 0).trans rfl, (blk_cell BK155.out 1).trans rfl⟩ (fun hHeld => ?_)
     generalize w46.drew = w47 at HO152 BK148 BK155 HI0 HK HB hHeld ⊢
     refine pure_ (i := 0) (N := some 26) (v := ?_) (a' := ?_) #[true, false, false, false, false, false, false] rfl rfl (by kernel_rfl) (fun _ _ _ h => h) (Or.inl ⟨by rfl, ?_⟩) ?_ ?_
     rotate_left
     ·exact aI
     rotate_left
     ·exact aP
     refine pure_ (i := 2) (N := some 28) (v := ?_) (a' := ?_) #[true, false, true, false, false, false, false] rfl rfl (by kernel_rfl) (fun _ _ _ h => h) (Or.inl ⟨by rfl, ?_⟩) ?_ ?_
     rotate_left
     ·exact aI
     rotate_left
     ·exact aP
     refine take_ (i := 1) (N := some 27) (v := ?_) (a' := ?_) #[true, true, true, false, false, false, false] rfl rfl (by kernel_rfl) (fun _ _ _ h => h) (Or.inl ⟨by rfl, ?_⟩) hHeld ?_ ?_
     rotate_left
     ·rintro w' ⟨s0, s1⟩
      go_simp
      with_reducible rfl
     rotate_left
     ·exact aP
     refine one_ (i := 3) (N := some 29) #[true, true, true, true, false, false, false] rfl rfl (by kernel_rfl) (by decide) (fun K hK => ?_)
     refine Kd.R_lit_step (Kd.int .i64) _ 3 ?hg (N := 29) ?hd (xs := ([(-1), 10, 9] : List Int)) (inner := [.int .i64 (-1), .int .i64 10, .int .i64 9]) (ok := fun _ => True) (okp := fun _ => True) ?hr ?hp (fun _ hk => hk) trivial (Below.refl _ _) (Nat.le_refl _) (by simp) ?_; (case hd => rfl); (case hg => rfl); (case hr => first | (go_simp; done) | (go_simp; rfl)); (case hp => exact (Reps.one (show Kd.M (Kd.int .i64) _ _ _ (-1) [.int .i64 (-1)] from rfl) (Reps.one (show Kd.M (Kd.int .i64) _ _ _ 10 [.int .i64 10] from rfl) (Reps.one (show Kd.M (Kd.int .i64) _ _ _ 9 [.int .i64 9] from rfl) (Reps.none _ _)))))
     intro v166 w48 ho49 hb hg_ hnew_
     clear hg_ hnew_
     (first | rw [← Ny165.out] at ho49 | (simp only [Int.reduceToNat] at ho49; rw [← Ny165.out] at ho49))
     have n0_ := aM (Kd.R_elder' (aR HO152) (Kd.R_base ho49) hb)
     have n1_ := aM (Kd.R_lower (Kd.R_new' ho49 (Kd.R_lt (aR HO152))) (kS (w := w) (g := g)))
     have n2_ := aM (IsS117.below aZ hb)
     have n3_ := aM (kB gb148 #[.int .i64 0, .slice none 0 0] 39 hb)
     have n4_ := aM (kB gb155 #[.int .i64 t149, .slice Ao45 t150.length co45] 39 hb)
     have n5_ := aM (KeepBut.trans aQ (KeepBut.of_below hb g none) (.inl rfl))
     have n6_ := aM (below_step aY hb)
     clear HO152
     clear HI0
     clear BK148
     clear BK155
     clear HK
     clear HB
     have HO152 := n0_
     have HO167 := n1_
     have HI0 := n2_
     have BK148 := n3_
     have BK155 := n4_
     have HK := n5_
     have HB := n6_
     clear n0_ n1_ n2_ n3_ n4_ n5_ n6_
     clear hb ho49
     obtain ⟨Ao50, co50, eo50⟩ := Kd.R_slice HO167.out
     (first | subst eo50 | (injection eo50 with f1_ f2_ f3_; have f4_ := f1_.symm; have f5_ := f3_.symm; clear f1_ f2_ f3_; subst f4_; subst f5_))
     refine hK.out _ _ ⟨(blk_cell BK155.out 0).trans rfl, (blk_cell BK155.out 1).trans rfl⟩ (fun hHeld => ?_)
     clear hK K
     refine nU 29 ?_
     refine one_ (i := 4) (N := some 30) #[true, true, true, true, true, false, false] rfl rfl (by kernel_rfl) (by decide) (fun K hK => ?_)
     refine goes_ Tryd.func93 (by kernel_rfl) rfl #[.pointer (some ⟨g, 0, none⟩), .slice Ao50 y165.length co50] (by rfl) rfl rfl aA ?_
     with_reducible refine (spec_l1PickInt.calls g s0_0 t157 t158 _ _ y165 t168 t169 t170 w0 _ ?side1 ?side2 ?side3 ?side4 ?side5 A36.out).mono ?_
     (case side1 => exact aZ)
     (case side2 => exact aY)
     (case side3 => repeat (first | exact (Kd.R_reads' HO167.out).2.2 | (with_reducible refine pC ?_)))
     (case side4 => exact (Kd.R_reads' HO167.out).2.1)
     (case side5 => exact far_slice (IsS117.own_ne HI0.out HO167.out (by decide)))
     rintro e w51 ⟨rfl, hi, hb, hk⟩
     refine ⟨_, rfl, ?_⟩
     have n0_ := aM (KeepBut.blk hk (g' := gb148) (o := .cells #[.int .i64 0, .slice none 0 0] 39 (0, 0)) aK NB148_0.out (by simp))
     have n1_ := aM (Kd.R_mono (Kd.R_keep (IsS117.apart (show IsS117 w0 _ g s0_0 t157 t158 from aZ) (aR HO152) (by decide)) hk (fun _ h => h.2)) (fun _ h => h.1))
     have n2_ := aM (KeepBut.blk hk (g' := gb155) (o := .cells #[.int .i64 t149, .slice Ao45 t150.length co45] 39 (0, 0)) aK NB155_0.out (by simp))
     have n3_ := aM (Kd.R_mono (Kd.R_keep (IsS117.apart (show IsS117 w0 _ g s0_0 t157 t158 from aZ) (aR HO167) (by decide)) hk (fun _ h => h.2)) (fun _ h => h.1))
     have n4_ := aM (KeepBut.trans aQ hk (.inl rfl))
     have n5_ := aM (hb)
     have n6_ := aM (hi)
     clear BK148
     clear HO152
     clear BK155
     clear HO167
     clear HK
     clear HB
     clear HI0
     have BK148 := n0_
     have HO152 := n1_
     have BK155 := n2_
     have HO167 := n3_
     have HK := n4_
     have HB := n5_
     have HI0 := n6_
     clear n0_ n1_ n2_ n3_ n4_ n5_ n6_
     (try clear hb)
     (try clear hb2)
     (try clear hk)
     (try clear hi)
     have p38 : 0 ≤ (0 : Int) := (by omega)
     have q38 : (0 : Int) < ((t150.length : Int) : Int) := aD
     have qi38 : (0 < t150.length) = True := eq_true (by omega)
     obtain ⟨go38, co38, eo38, gb38, gl38, cl38, HG38⟩ := Kd.R_form HO152.out (by omega)
     (first | cases eo38 | (injection eo38 with ea_ en_ ec_; (first | subst ea_ | (injection ea_ with ea_; subst ea_)); subst ec_; clear en_))
     have GB38 := aM gb38
     have GG38 := aM HG38
     clear gb38 gl38 HG38
     obtain ⟨hx38_0, hf38_0⟩ := Kd.R_celln 0 HO152.out (0 : Int) p38 q38
     (try rw [show ((0 : Int)).toNat = 0 from rfl] at hx38_0)
     (try simp only [Nat.reduceMul, Nat.zero_mul, Nat.zero_add, Nat.reduceAdd] at hx38_0)
     (try rw [show ((0 : Int)).toNat = 0 from rfl] at hf38_0)
     (try simp only [Nat.reduceMul, Nat.zero_mul, Nat.zero_add, Nat.reduceAdd] at hf38_0)
     replace p38 := eq_true p38
     replace q38 := eq_true q38
     have HN0_go38 := aM (show g ≠ go38 from by have h_ := IsS117.own_ne HI0.out HO152.out (by decide); intro e_; exact h_ (by rw [e_]; rfl))
     have HP52 := Kd.R_putn HO152.out (0 : Int) t168
     rw [← Ny171.out] at HP52
     have HQ52 := aM HP52
     clear HP52
     refine hK.out _ _ ⟨(blk_cell BK155.out 0).trans rfl, (blk_cell BK155.out 1).trans rfl⟩ (fun hHeld => ?_)
     clear hK K
     refine nU 30 ?_
     refine pure_ (i := 5) (N := some 31) (v := ?_) (a' := ?_) #[true, true, true, true, true, true, false] rfl rfl (by kernel_rfl) (fun _ _ _ h => h) (Or.inl ⟨by rfl, ?_⟩) ?_ ?_
     rotate_left
     ·exact aI
     rotate_left
     ·exact aP
     refine last_ (i := 6) (N := none) #[true, true, true, true, true, true, true] rfl rfl (by kernel_rfl) (by decide) (fun K hK => ?_)
     refine skip_ (w1 := ?_) (by rfl) rfl ?_ ?_
     rotate_left
     ·go_simp
      rfl
     refine hK.out _ _ ?_
     clear hK K
     refine done_ (by kernel_rfl) ?_
     have n0_ : Aside0 (Kd.R (Kd.int .i64) 3 (w51.setCell ⟨go38, 0, none⟩ (.int .i64 t168)) w.heap.size (fun k_ => some k_ ≠ (.slice Ao50 y165.length co50 : Value).ownBlock) (.slice (some ⟨go38, 0, none⟩) t150.length co45) y171) := ⟨by (with_reducible repeat apply pR); exact Kd.R_mono HQ52.out (fun _ hk => hk.2)⟩
     have n1_ : Aside0 (Kd.R (Kd.int .i64) 3 (w51.setCell ⟨go38, 0, none⟩ (.int .i64 t168)) w.heap.size (fun k_ => some k_ ≠ (.slice (some ⟨go38, 0, none⟩) t150.length co45 : Value).ownBlock) (.slice Ao50 y165.length co50) y165) := ⟨by (with_reducible repeat apply pR); exact Kd.R_mono (Kd.R_far (p := ⟨go38, 0, none⟩) (Kd.R_mono HO167.out (fun k_ hk => (⟨hk, fun e_ => hk.2 (by rw [e_]; rfl)⟩ : _ ∧ k_ ≠ go38))) (fun _ hk => hk.2) (.int .i64 t168)) (fun _ hk => hk.1.2)⟩
     have n2_ : Aside0 ((w51.setCell ⟨go38, 0, none⟩ (.int .i64 t168)).heap[gb148]? = some (.cells #[.int .i64 0, .slice none 0 0] 39 (0, 0))) := ⟨by (with_reducible repeat refine pB ?_); refine blk_far ?_ (by have h_ := Kd.R_ne HO152.out BK148.out (by decide); intro e_; exact h_ (by rw [e_]; rfl)) _; (with_reducible repeat refine pB ?_); exact BK148.out⟩
     have n3_ : Aside0 ((w51.setCell ⟨go38, 0, none⟩ (.int .i64 t168)).heap[gb155]? = some (.cells #[.int .i64 t149, .slice (some ⟨go38, 0, none⟩) t150.length co45] 39 (0, 0))) := ⟨by (with_reducible repeat refine pB ?_); refine blk_far ?_ (by have h_ := Kd.R_ne HO152.out BK155.out (by decide); intro e_; exact h_ (by rw [e_]; rfl)) _; (with_reducible repeat refine pB ?_); exact BK155.out⟩
     have n4_ : Aside0 (IsS117 w0 (w51.setCell ⟨go38, 0, none⟩ (.int .i64 t168)) g s0_0 t169 t170) := ⟨by repeat (first | (with_reducible first | exact HI0.out | apply IsS117.alloc | apply IsS117.drewN | apply IsS117.drew | apply IsS117.set_1 | apply IsS117.set_2 | refine IsS117.far ?_ HN0_go38.out _ | refine IsS117.far ?_ NB0_148.out _ | refine IsS117.far ?_ NB0_155.out _) | exact HI0.out)⟩
     have n5_ : Aside0 (KeepBut w (w51.setCell ⟨go38, 0, none⟩ (.int .i64 t168)) g none) := ⟨by repeat (first | (with_reducible first | exact HK.out | apply KeepBut.set_ | apply keep_drewN | apply keep_drew | apply keep_alloc | refine keep_far ?_ GB38.out _ | refine keep_far ?_ GW148.out _ | refine keep_far ?_ GW155.out _) | exact HK.out)⟩
     have n6_ : Aside0 (Below w0.heap.size w0 (w51.setCell ⟨go38, 0, none⟩ (.int .i64 t168))) := ⟨by repeat (first | (with_reducible first | exact HB.out | apply below_alloc | apply pw_below_drewN | apply below_drew1 | refine below_set ?_ (Nat.le_trans HL.out GB38.out) | refine below_set ?_ (IsS117.ge HI0.out) | refine below_set ?_ GE148.out | refine below_set ?_ GE155.out) | exact HB.out)⟩
     (try clear HO152)
     (try clear HO167)
     (try clear BK148)
     (try clear BK155)
     (try clear HI0)
     (try clear HK)
     (try clear HB)
     generalize (w51.setCell ⟨go38, 0, none⟩ (.int .i64 t168)) = w53 at n0_ n1_ n2_ n3_ n4_ n5_ n6_ ⊢
     have HO152 := n0_
     have HO167 := n1_
     have BK148 := n2_
     have BK155 := n3_
     have HI0 := n4_
     have HK := n5_
     have HB := n6_
     clear n0_ n1_ n2_ n3_ n4_ n5_ n6_
     have hcz54_0 : w53.cell? ⟨gb155, 0, none⟩ = some (.int .i64 t149) := (blk_cell BK155.out 0).trans rfl
     have hcz54_1 : w53.cell? ⟨gb155, 1, none⟩ = some (.slice (some ⟨go38, 0, none⟩) t150.length co45) := (blk_cell BK155.out 1).trans rfl
     have hfz54_0 := blk_frozen BK155.out 0
     have hfz54_1 := blk_frozen BK155.out 1
     have hnb55 := NB148_0.out
     have hnc55 := NB0_148.out
     have hcz56_0 : w53.cell? ⟨gb148, 0, none⟩ = some (.int .i64 0) := (blk_cell BK148.out 0).trans rfl
     have hcz56_1 : w53.cell? ⟨gb148, 1, none⟩ = some (.slice none 0 0) := (blk_cell BK148.out 1).trans rfl
     have hfz56_0 := blk_frozen BK148.out 0
     have hfz56_1 := blk_frozen BK148.out 1
     try go_wp2
     refine bodyPost_ret (results_cell_row rfl _ _ gb148 39 #[.int .i64 t149, .slice (some ⟨go38, 0, none⟩) t150.length co45] (0, 0) _ rfl (by (with_reducible repeat refine pB ?_); refine blk_put (cs := #[.int .i64 t149, .slice none 0 0]) ?_ 1 _ rfl; (with_reducible repeat refine pB ?_); refine blk_put (cs := #[.int .i64 0, .slice none 0 0]) ?_ 0 _ rfl; (with_reducible repeat refine pB ?_); exact BK148.out) Tryd.underlying39 rfl (by kernel_rfl)) rfl ?_
     exact ⟨_, aE, by (with_reducible repeat apply pR); exact Kd.R_mono (Kd.R_far (p := ⟨gb148, 1, none⟩) (Kd.R_far (p := ⟨gb148, 0, none⟩) (Kd.R_types HO152.out BK148.out (by decide)) (fun _ hk => hk.2) (.int .i64 t149)) (fun _ hk => hk.2) (.slice (some ⟨go38, 0, none⟩) t150.length co45)) (fun _ hk => trivial), aZ, aY, aQ⟩
    ·rw [if_neg c37] at H
     exact absurd H (by simp)
   ·rw [if_neg c35] at H
    have c35b0 : (t156 == 2) = false := beq_eq_false_iff_ne.mpr c35
    have c35b1 : (t156 != 2) = true := bne_iff_ne.mpr c35
    simp only [Option.some.injEq, Prod.mk.injEq] at H
    obtain ⟨rfl, rfl, rfl, rfl⟩ := H
    go_enter Tryd.func61, Tryd.ntmps61
    go_wp2_with (first | ((with_reducible refine gate_dst (N := 4) rfl ?_); refine bE 4 (cs := #[.int .i64 0, .slice none 0 0]) (t := 39) ?_; intro gb148 hg w57 hbox hb; have BK148 := aM (hbox); have GW148 := aM ((by rw [hg]; exact (kS (w := w) (g := g)) : w.heap.size ≤ gb148)); have GE148 := aM ((Nat.le_trans HW0.out (by rw [hg]; exact (kS (w := w) (g := g)) : w.heap.size ≤ gb148) : w0.heap.size ≤ gb148)); have NB0_148 := aM ((by rw [hg]; exact Nat.ne_of_lt (IsS117.lt (show IsS117 w0 _ g s0_0 s0_1 s0_2 from aZ)) : g ≠ gb148)); have NB148_0 := aM ((by rw [hg]; exact Nat.ne_of_gt (IsS117.lt (show IsS117 w0 _ g s0_0 s0_1 s0_2 from aZ)) : gb148 ≠ g)); replace HK := aM (KeepBut.trans aQ (KeepBut.of_below hb g none) (.inl rfl)); replace HB := aM (below_step aY hb); replace HI0 := aM (IsS117.below aZ hb); clear hb hbox hg) | ((with_reducible refine gate_callee (f := 56) rfl ?_); refine goesL_ (some 8) rfl rfl Tryd.func56 (by kernel_rfl) rfl #[.pointer (some ⟨g, 0, none⟩), .slice A1 l1.length c1, .int .i64 4] rfl aA ?_; (with_reducible refine (spec_l3Fact.calls k g s0_0 s0_1 s0_2 _ _ l1 4 t149 t150 t153 t154 w0 _ ?side1 ?side2 ?side3 ?side4 A3.out).mono ?_); (case side1 => exact aZ); (case side2 => exact aY); (case side3 => exact Kd.C_foot_step HR1.out aQ); (case side4 => exact HC1.out); rintro e w58 ⟨v151, rfl, ho0, hi, hb, hk⟩; refine ⟨_, rfl, ?_⟩; have HO152 := aM (Kd.R_lower ho0 (kS (w := w) (g := g))); replace BK148 := aM (KeepBut.blk hk (g' := gb148) (o := .cells #[.int .i64 0, .slice none 0 0] 39 (0, 0)) aK NB148_0.out (by simp)); replace HK := aM (KeepBut.trans aQ hk (.inl rfl)); replace HB := aM (hb); replace HI0 := aM (hi); (try clear hb); (try clear hb2); (try clear hk); (try clear hi); (try clear ho0)) | ((with_reducible refine gate_dst (N := 5) rfl ?_); refine bE 5 (cs := #[.int .i64 0, .slice none 0 0]) (t := 39) ?_; intro gb155 hg w59 hbox hb; have BK155 := aM (hbox); have GW155 := aM ((by rw [hg]; exact (kS (w := w) (g := g)) : w.heap.size ≤ gb155)); have GE155 := aM ((Nat.le_trans HW0.out (by rw [hg]; exact (kS (w := w) (g := g)) : w.heap.size ≤ gb155) : w0.heap.size ≤ gb155)); have NB148_155 := aM ((by rw [hg]; exact Nat.ne_of_lt (blk_lt (g := gb148) (o := .cells #[.int .i64 0, .slice none 0 0] 39 (0, 0)) aK) : gb148 ≠ gb155)); have NB155_148 := aM ((by rw [hg]; exact Nat.ne_of_gt (blk_lt (g := gb148) (o := .cells #[.int .i64 0, .slice none 0 0] 39 (0, 0)) aK) : gb155 ≠ gb148)); have NB0_155 := aM ((by rw [hg]; exact Nat.ne_of_lt (IsS117.lt (show IsS117 w0 _ g s0_0 t153 t154 from aZ)) : g ≠ gb155)); have NB155_0 := aM ((by rw [hg]; exact Nat.ne_of_gt (IsS117.lt (show IsS117 w0 _ g s0_0 t153 t154 from aZ)) : gb155 ≠ g)); replace HO152 := aM (Kd.R_below (aR HO152) hb); replace BK148 := aM (kB gb148 #[.int .i64 0, .slice none 0 0] 39 hb); replace HK := aM (KeepBut.trans aQ (KeepBut.of_below hb g none) (.inl rfl)); replace HB := aM (below_step aY hb); replace HI0 := aM (IsS117.below aZ hb); clear hb hbox hg; have hnb60 := NB155_148.out; have hnc60 := NB148_155.out; have hnb61 := NB155_0.out; have hnc61 := NB0_155.out; have hcz62_0 : w59.cell? ⟨gb155, 0, none⟩ = some (.int .i64 0) := (blk_cell BK155.out 0).trans rfl; have hcz62_1 : w59.cell? ⟨gb155, 1, none⟩ = some (.slice none 0 0) := (blk_cell BK155.out 1).trans rfl; have hfz62_0 := blk_frozen BK155.out 0; have hfz62_1 := blk_frozen BK155.out 1; obtain ⟨Ao63, co63, eo63⟩ := Kd.R_slice HO152.out; subst eo63) | ((with_reducible refine gate_callee (f := 62) rfl ?_); refine goesL_ (some 10) rfl rfl Tryd.func62 (by kernel_rfl) rfl #[.pointer (some ⟨g, 0, none⟩), .int .i64 10] rfl aA ?_; (with_reducible refine (spec_l1Below.calls g s0_0 t153 t154 10 t156 t157 t158 w0 _ ?side1 ?side2 A4.out).mono ?_); (case side1 => exact aZ); (case side2 => exact aY); rintro e w64 ⟨rfl, hi, hb, hk⟩; refine ⟨_, rfl, ?_⟩; replace BK148 := aM (KeepBut.blk hk (g' := gb148) (o := .cells #[.int .i64 0, .slice none 0 0] 39 (0, 0)) (by (with_reducible repeat refine pB ?_); refine blk_far ?_ NB148_155.out _; (with_reducible repeat refine pB ?_); refine blk_far ?_ NB148_155.out _; (with_reducible repeat refine pB ?_); exact BK148.out) NB148_0.out (by simp)); replace HO152 := aM (Kd.R_mono (Kd.R_keep (IsS117.apart (show IsS117 w0 _ g s0_0 t153 t154 from aZ) (by (with_reducible repeat apply pR); exact (Kd.R_mono (Kd.R_far (p := ⟨gb155, 1, none⟩) (Kd.R_far (p := ⟨gb155, 0, none⟩) (Kd.R_types HO152.out BK155.out (by decide)) (fun _ hk => hk.2) (.int .i64 t149)) (fun _ hk => hk.2) (.slice Ao63 t150.length co63)) (fun _ h_ => h_.1))) (by decide)) hk (fun _ h => h.2)) (fun _ h => h.1)); replace BK155 := aM (KeepBut.blk hk (g' := gb155) (o := .cells #[.int .i64 t149, .slice Ao63 t150.length co63] 39 (0, 0)) (by (with_reducible repeat refine pB ?_); refine blk_put (cs := #[.int .i64 t149, .slice none 0 0]) ?_ 1 _ rfl; (with_reducible repeat refine pB ?_); refine blk_put (cs := #[.int .i64 0, .slice none 0 0]) ?_ 0 _ rfl; (with_reducible repeat refine pB ?_); exact BK155.out) NB155_0.out (by simp)); replace HK := aM (KeepBut.trans aQ hk (.inl rfl)); replace HB := aM (hb); replace HI0 := aM (hi); (try clear hb); (try clear hb2); (try clear hk); (try clear hi); have hcz65_0 : w64.cell? ⟨gb155, 0, none⟩ = some (.int .i64 t149) := (blk_cell BK155.out 0).trans rfl; have hcz65_1 : w64.cell? ⟨gb155, 1, none⟩ = some (.slice Ao63 t150.length co63) := (blk_cell BK155.out 1).trans rfl; have hfz65_0 := blk_frozen BK155.out 0; have hfz65_1 := blk_frozen BK155.out 1; have hnb66 := NB148_0.out; have hnc66 := NB0_148.out; have hcz67_0 : w64.cell? ⟨gb148, 0, none⟩ = some (.int .i64 0) := (blk_cell BK148.out 0).trans rfl; have hcz67_1 : w64.cell? ⟨gb148, 1, none⟩ = some (.slice none 0 0) := (blk_cell BK148.out 1).trans rfl; have hfz67_0 := blk_frozen BK148.out 0; have hfz67_1 := blk_frozen BK148.out 1))
    refine bodyPost_ret (results_cell_row rfl _ _ gb148 39 #[.int .i64 t149, .slice Ao63 t150.length co63] (0, 0) _ rfl (by (with_reducible repeat refine pB ?_); refine blk_put (cs := #[.int .i64 t149, .slice none 0 0]) ?_ 1 _ rfl; (with_reducible repeat refine pB ?_); refine blk_put (cs := #[.int .i64 0, .slice none 0 0]) ?_ 0 _ rfl; (with_reducible repeat refine pB ?_); exact BK148.out) Tryd.underlying39 rfl (by kernel_rfl)) rfl ?_
    exact ⟨_, aE, by (with_reducible repeat apply pR); exact Kd.R_mono (Kd.R_far (p := ⟨gb148, 1, none⟩) (Kd.R_far (p := ⟨gb148, 0, none⟩) (Kd.R_types HO152.out BK148.out (by decide)) (fun _ hk => hk.2) (.int .i64 t149)) (fun _ hk => hk.2) (.slice Ao63 t150.length co63)) (fun _ hk => trivial), aZ, aY, aQ⟩

/-! ### spec_DrawIsValidFact: function 48 -/
def spec_DrawIsValidFact.f (k : Nat) (l0 : List Int) : Option ((List (S68)) × Int × List Int) := (spec_l1New.f k l0).bind fun bt173 => ((spec_l2Sigs.f bt173.1 bt173.2.1 bt173.2.2).bind fun bt177 => ((spec_l3Any.f k bt173.1 bt177.2.1 bt177.2.2 bt177.1).bind fun bt182 => (some (bt177.1, bt182.1, bt182.2.1))))
set_option maxHeartbeats 8000000 in
set_option maxRecDepth 100000 in
theorem spec_DrawIsValidFact.calls (k : Nat) (A0 : Option Addr) (c0 : Nat) (l0 : List Int) (r1 : List (S68)) (r2 : Int) (r3 : List Int) (w : World) (hr0 : Kd.C (Kd.int .u8) w A0 l0.length l0) (hc0 : l0.length ≤ c0) (h : spec_DrawIsValidFact.f k l0 = some (r1, r2, r3)) :
  Calls Tryd.prog 48 #[.slice A0 l0.length c0] w fun e w' => ∃ v0_ v2_ : Value, e = .returned (.tuple #[v0_, .agg #[.int .i64 r2, v2_]]) ∧ Kd.R k68 68 w' w.heap.size (fun _ => True) v0_ r1 ∧ Kd.R (Kd.int .i64) 3 w' w.heap.size (fun _ => True) v2_ r3 ∧ Below w.heap.size w w' := by
 have hu39 := Tryd.underlying39
 have HR0 := aM hr0
 have HC0 := aM hc0
 clear hr0 hc0
 have HB := aM (Below.refl w.heap.size w)
 have H : ((spec_l1New.f k l0).bind fun bt173 => ((spec_l2Sigs.f bt173.1 bt173.2.1 bt173.2.2).bind fun bt177 => ((spec_l3Any.f k bt173.1 bt177.2.1 bt177.2.2 bt177.1).bind fun bt182 => (some (bt177.1, bt182.1, bt182.2.1))))) = some (r1, r2, r3) := h
 clear h
 replace H := bM H
 obtain ⟨⟨t173, t174, t175⟩, A20, H⟩ := H
 dsimp only at H
 have A2 := aM A20
 clear A20
 replace H := bM H
 obtain ⟨⟨t177, t180, t181⟩, A30, H⟩ := H
 dsimp only at H
 have A3 := aM A30
 clear A30
 replace H := bM H
 obtain ⟨⟨t182, t183, t186, t187⟩, A40, H⟩ := H
 dsimp only at H
 have A4 := aM A40
 clear A40
 simp only [Option.some.injEq, Prod.mk.injEq] at H
 obtain ⟨rfl, rfl, rfl⟩ := H
 go_enter Tryd.func48, Tryd.ntmps48
 go_wp2_with (first | ((with_reducible refine gate_dst (N := 3) rfl ?_); refine bE 3 (cs := #[.int .i64 0, .slice none 0 0]) (t := 39) ?_; intro gb172 hg w5 hbox hb; have BK172 := aM (hbox); have GW172 := aM ((by rw [hg]; exact (below_size aB) : w.heap.size ≤ gb172)); have GE172 := aM ((by rw [hg]; exact (below_size aB) : w.heap.size ≤ gb172)); replace HB := aM (below_step aB hb); clear hb hbox hg) | ((with_reducible refine gate_callee (f := 53) rfl ?_); refine goesL_ (some 7) rfl rfl Tryd.func53 (by kernel_rfl) rfl #[.slice A0 l0.length c0] rfl aA ?_; (with_reducible refine (spec_l1New.calls k _ _ l0 t173 t174 t175 w _ ?side1 ?side2 ?side3 A2.out).mono ?_); (case side1 => exact aG); (case side2 => exact HR0.out); (case side3 => exact HC0.out); rintro e w6 ⟨g176, rfl, hi, hb, hb2⟩; refine ⟨_, rfl, ?_⟩; have HI176 := aM (hi); have NB176_172 := aM (IsS117.ne_blk hi (blk_below (g := gb172) (o := .cells #[.int .i64 0, .slice none 0 0] 39 (0, 0)) aK hb2) (by decide)); have NB172_176 := aM (Ne.symm (IsS117.ne_blk hi (blk_below (g := gb172) (o := .cells #[.int .i64 0, .slice none 0 0] 39 (0, 0)) aK hb2) (by decide))); replace BK172 := aM (blk_below (g := gb172) (o := .cells #[.int .i64 0, .slice none 0 0] 39 (0, 0)) aK hb2); replace HB := aM (hb); (try clear hb); (try clear hb2); (try clear hk); (try clear hi)) | ((with_reducible refine gate_callee (f := 54) rfl ?_); refine goesL_ (some 9) rfl rfl Tryd.func54 (by kernel_rfl) rfl #[.pointer (some ⟨g176, 0, none⟩)] rfl aA ?_; (with_reducible refine (spec_l2Sigs.calls g176 t173 t174 t175 t177 t180 t181 w _ ?side1 ?side2 A3.out).mono ?_); (case side1 => repeat (first | (with_reducible first | exact HI176.out | apply IsS117.alloc | apply IsS117.drewN | apply IsS117.drew | apply IsS117.set_1 | apply IsS117.set_2 | refine IsS117.far ?_ NB176_172.out _) | exact HI176.out)); (case side2 => repeat (first | (with_reducible first | exact HB.out | apply below_alloc | apply pw_below_drewN | apply below_drew1 | refine below_set ?_ (IsS117.ge HI176.out) | refine below_set ?_ GE172.out) | exact HB.out)); rintro e w7 ⟨v178, rfl, ho0, hi, hb, hk⟩; refine ⟨_, rfl, ?_⟩; have HO179 := aM (Kd.R_lower ho0 (below_size (by repeat (first | (with_reducible first | exact HB.out | apply below_alloc | apply pw_below_drewN | apply below_drew1 | refine below_set ?_ (IsS117.ge HI176.out) | refine below_set ?_ GE172.out) | exact HB.out)))); replace BK172 := aM (KeepBut.blk hk (g' := gb172) (o := .cells #[.int .i64 0, .slice none 0 0] 39 (0, 0)) aK NB172_176.out (by simp)); replace HB := aM (hb); replace HI176 := aM (hi); (try clear hb); (try clear hb2); (try clear hk); (try clear hi); (try clear ho0); obtain ⟨Ao8, co8, eo8⟩ := Kd.R_slice HO179.out; subst eo8) | ((with_reducible refine gate_callee (f := 61) rfl ?_); refine goesL_ (some 13) rfl rfl Tryd.func61 (by kernel_rfl) rfl #[.pointer (some ⟨g176, 0, none⟩), .slice Ao8 t177.length co8] rfl aA ?_; (with_reducible refine (spec_l3Any.calls k g176 t173 t180 t181 _ _ t177 t182 t183 t186 t187 w _ ?side1 ?side2 ?side3 ?side4 A4.out).mono ?_); (case side1 => repeat (first | (with_reducible first | exact HI176.out | apply IsS117.alloc | apply IsS117.drewN | apply IsS117.drew | apply IsS117.set_1 | apply IsS117.set_2 | refine IsS117.far ?_ NB176_172.out _) | exact HI176.out)); (case side2 => repeat (first | (with_reducible first | exact HB.out | apply below_alloc | apply pw_below_drewN | apply below_drew1 | refine below_set ?_ (IsS117.ge HI176.out) | refine below_set ?_ GE172.out) | exact HB.out)); (case side3 => exact Kd.C_foot_own (IsS117.apart (show IsS117 w _ g176 t173 t180 t181 from by repeat (first | (with_reducible first | exact HI176.out | apply IsS117.alloc | apply IsS117.drewN | apply IsS117.drew | apply IsS117.set_1 | apply IsS117.set_2 | refine IsS117.far ?_ NB176_172.out _) | exact HI176.out)) (aR HO179) (by decide)) (fun _ h_ => h_.2)); (case side4 => exact (Kd.R_reads' HO179.out).2.1); rintro e w9 ⟨v184, rfl, ho0, hi, hb, hk⟩; refine ⟨_, rfl, ?_⟩; have HO185 := aM (Kd.R_lower ho0 (below_size (by repeat (first | (with_reducible first | exact HB.out | apply below_alloc | apply pw_below_drewN | apply below_drew1 | refine below_set ?_ (IsS117.ge HI176.out) | refine below_set ?_ GE172.out) | exact HB.out)))); replace BK172 := aM (KeepBut.blk hk (g' := gb172) (o := .cells #[.int .i64 0, .slice none 0 0] 39 (0, 0)) aK NB172_176.out (by simp)); replace HO179 := aM (Kd.R_mono (Kd.R_keep (IsS117.apart (show IsS117 w _ g176 t173 t180 t181 from by repeat (first | (with_reducible first | exact HI176.out | apply IsS117.alloc | apply IsS117.drewN | apply IsS117.drew | apply IsS117.set_1 | apply IsS117.set_2 | refine IsS117.far ?_ NB176_172.out _) | exact HI176.out)) (aR HO179) (by decide)) hk (fun _ h => h.2)) (fun _ h => h.1)); replace HB := aM (hb); replace HI176 := aM (hi); (try clear hb); (try clear hb2); (try clear hk); (try clear hi); (try clear ho0); have hnb10 := NB172_176.out; have hnc10 := NB176_172.out; have hcz11_0 : w9.cell? ⟨gb172, 0, none⟩ = some (.int .i64 0) := (blk_cell BK172.out 0).trans rfl; have hcz11_1 : w9.cell? ⟨gb172, 1, none⟩ = some (.slice none 0 0) := (blk_cell BK172.out 1).trans rfl; have hfz11_0 := blk_frozen BK172.out 0; have hfz11_1 := blk_frozen BK172.out 1; obtain ⟨Ao12, co12, eo12⟩ := Kd.R_slice HO185.out; subst eo12))
 refine bodyPost_ret (results_tc rfl _ _ gb172 39 #[.int .i64 t182, .slice Ao12 t183.length co12] (0, 0) _ rfl (by (with_reducible repeat refine pB ?_); refine blk_put (cs := #[.int .i64 t182, .slice none 0 0]) ?_ 1 _ rfl; (with_reducible repeat refine pB ?_); refine blk_put (cs := #[.int .i64 0, .slice none 0 0]) ?_ 0 _ rfl; (with_reducible repeat refine pB ?_); exact BK172.out) Tryd.underlying39 rfl (by kernel_rfl)) rfl ?_
 exact ⟨_, _, aE, by (with_reducible repeat apply pR); exact Kd.R_mono (Kd.R_far (p := ⟨gb172, 1, none⟩) (Kd.R_far (p := ⟨gb172, 0, none⟩) (Kd.R_types HO179.out BK172.out (by decide)) (fun _ hk => hk.2) (.int .i64 t182)) (fun _ hk => hk.2) (.slice Ao12 t183.length co12)) (fun _ hk => trivial), by (with_reducible repeat apply pR); exact Kd.R_mono (Kd.R_far (p := ⟨gb172, 1, none⟩) (Kd.R_far (p := ⟨gb172, 0, none⟩) (Kd.R_types HO185.out BK172.out (by decide)) (fun _ hk => hk.2) (.int .i64 t182)) (fun _ hk => hk.2) (.slice Ao12 t183.length co12)) (fun _ hk => trivial), by repeat (first | (with_reducible first | exact HB.out | apply below_alloc | apply pw_below_drewN | apply below_drew1 | refine below_set ?_ (IsS117.ge HI176.out) | refine below_set ?_ GE172.out) | exact HB.out)⟩

/-! ### spec_DrawFormatFact: function 13 -/
def spec_DrawFormatFact.f (k : Nat) (l0 : List Int) : Option ((List (S68)) × Int × List Int) := (spec_DrawIsValidFact.f k l0).bind fun bt189 => (some (bt189.1, bt189.2.1, bt189.2.2))
set_option maxHeartbeats 8000000 in
set_option maxRecDepth 100000 in
theorem spec_DrawFormatFact.calls (k : Nat) (A0 : Option Addr) (c0 : Nat) (l0 : List Int) (r1 : List (S68)) (r2 : Int) (r3 : List Int) (w : World) (hr0 : Kd.C (Kd.int .u8) w A0 l0.length l0) (hc0 : l0.length ≤ c0) (h : spec_DrawFormatFact.f k l0 = some (r1, r2, r3)) :
  Calls Tryd.prog 13 #[.slice A0 l0.length c0] w fun e w' => ∃ v0_ v2_ : Value, e = .returned (.tuple #[v0_, .agg #[.int .i64 r2, v2_]]) ∧ Kd.R k68 68 w' w.heap.size (fun _ => True) v0_ r1 ∧ Kd.R (Kd.int .i64) 3 w' w.heap.size (fun _ => True) v2_ r3 ∧ Below w.heap.size w w' := by
 have hu39 := Tryd.underlying39
 have HR0 := aM hr0
 have HC0 := aM hc0
 clear hr0 hc0
 have HB := aM (Below.refl w.heap.size w)
 have H : ((spec_DrawIsValidFact.f k l0).bind fun bt189 => (some (bt189.1, bt189.2.1, bt189.2.2))) = some (r1, r2, r3) := h
 clear h
 replace H := bM H
 obtain ⟨⟨t189, t192, t193⟩, A20, H⟩ := H
 dsimp only at H
 have A2 := aM A20
 clear A20
 simp only [Option.some.injEq, Prod.mk.injEq] at H
 obtain ⟨rfl, rfl, rfl⟩ := H
 go_enter Tryd.func13, Tryd.ntmps13
 go_wp2_with (first | ((with_reducible refine gate_dst (N := 3) rfl ?_); refine bE 3 (cs := #[.int .i64 0, .slice none 0 0]) (t := 39) ?_; intro gb188 hg w3 hbox hb; have BK188 := aM (hbox); have GW188 := aM ((by rw [hg]; exact (below_size aB) : w.heap.size ≤ gb188)); have GE188 := aM ((by rw [hg]; exact (below_size aB) : w.heap.size ≤ gb188)); replace HB := aM (below_step aB hb); clear hb hbox hg) | ((with_reducible refine gate_callee (f := 48) rfl ?_); refine goesL_ (some 5) rfl rfl Tryd.func48 (by kernel_rfl) rfl #[.slice A0 l0.length c0] rfl aA ?_; (with_reducible refine (spec_DrawIsValidFact.calls k _ _ l0 t189 t192 t193 _ ?side1 ?side2 A2.out).mono ?_); (case side1 => exact aC); (case side2 => exact HC0.out); rintro e w4 ⟨v190, v194, rfl, ho0, ho1, hb⟩; refine ⟨_, rfl, ?_⟩; have HO191 := aM (Kd.R_lower ho0 (below_size aG)); have HO195 := aM (Kd.R_lower ho1 (below_size aG)); replace BK188 := aM (kB gb188 #[.int .i64 0, .slice none 0 0] 39 hb); replace HB := aM (below_step aG hb); (try clear hb); (try clear hb2); (try clear hk); (try clear hi); (try clear ho0); (try clear ho1); have hcz5_0 : w4.cell? ⟨gb188, 0, none⟩ = some (.int .i64 0) := (blk_cell BK188.out 0).trans rfl; have hcz5_1 : w4.cell? ⟨gb188, 1, none⟩ = some (.slice none 0 0) := (blk_cell BK188.out 1).trans rfl; have hfz5_0 := blk_frozen BK188.out 0; have hfz5_1 := blk_frozen BK188.out 1; obtain ⟨Ao6, co6, eo6⟩ := Kd.R_slice HO195.out; subst eo6))
 refine bodyPost_ret (results_tc rfl _ _ gb188 39 #[.int .i64 t192, .slice Ao6 t193.length co6] (0, 0) _ rfl (by (with_reducible repeat refine pB ?_); refine blk_put (cs := #[.int .i64 t192, .slice none 0 0]) ?_ 1 _ rfl; (with_reducible repeat refine pB ?_); refine blk_put (cs := #[.int .i64 0, .slice none 0 0]) ?_ 0 _ rfl; (with_reducible repeat refine pB ?_); exact BK188.out) Tryd.underlying39 rfl (by kernel_rfl)) rfl ?_
 exact ⟨_, _, aE, by (with_reducible repeat apply pR); exact Kd.R_mono (Kd.R_far (p := ⟨gb188, 1, none⟩) (Kd.R_far (p := ⟨gb188, 0, none⟩) (Kd.R_types HO191.out BK188.out (by decide)) (fun _ hk => hk.2) (.int .i64 t192)) (fun _ hk => hk.2) (.slice Ao6 t193.length co6)) (fun _ hk => trivial), by (with_reducible repeat apply pR); exact Kd.R_mono (Kd.R_far (p := ⟨gb188, 1, none⟩) (Kd.R_far (p := ⟨gb188, 0, none⟩) (Kd.R_types HO195.out BK188.out (by decide)) (fun _ hk => hk.2) (.int .i64 t192)) (fun _ hk => hk.2) (.slice Ao6 t193.length co6)) (fun _ hk => trivial), aG⟩

/-! ### impl_within: function 100 -/
def impl_within.f (a0 : Int) (a1 : Int) (a2 : Int) : Option (Bool) := if a1 ≤ a0 then (some (decide (a0 ≤ a2))) else (some false)
set_option maxHeartbeats 8000000 in
set_option maxRecDepth 100000 in
theorem impl_within.calls (a0 : Int) (a1 : Int) (a2 : Int) (r : Bool) (w : World) (h : impl_within.f a0 a1 a2 = some r) :
  Calls Tryd.prog 100 #[.int .i64 a0, .int .i64 a1, .int .i64 a2] w fun e w' => e = .returned (.bool r) ∧ Drawn0 w w' := by
 unfold impl_within.f at h
 replace h := ie h; rcases h with ⟨c0, c0a, h⟩ | ⟨c0, c0a, h⟩
 obtain rfl := si h
 rotate_left
 obtain rfl := si h
 rotate_left
 all_goals (go_enter Tryd.func100, Tryd.ntmps100; go_wp2; go_ret; exact zE zD)

end Go.Proofs.YtckpikfbhlhhjaaDoor.PFnFactFormat
