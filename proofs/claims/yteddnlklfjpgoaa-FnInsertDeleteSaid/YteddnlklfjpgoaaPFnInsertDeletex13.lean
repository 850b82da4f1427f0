import Derived.Test.YteddnlklfjpgoaaPFnInsertDeletex0
import Derived.Test.YteddnlklfjpgoaaPFnInsertDeletex12
namespace Go.Proofs.Yteddnlklfjpgoaa.PFnInsertDelete
open Go.RowKit Go.Proofs.YteddnlklfjpgoaaW.PrintWords Go.Proofs.YteddnlklfjpgoaaW.PrintLast Go.Proofs.YteddnlklfjpgoaaW.PrintMore
attribute [local go_sem] max2_int min2_int max_two min_two max_three min_three max_four min_four
set_option linter.unusedVariables false
set_option linter.unusedSimpArgs false

/-! ### spec_l3Fact: function 92 -/
def spec_l3Fact.l0 : Nat → List (S74) → Int → List Int → Int → Int → Int → List Int → Option (Int × List Int × Int × Int)
 | 0, _, _, _, _, _, _, _ => none
 | k + 1, x1, x2, x1000, x1001, x1002, x349000, x349001 => if 0 ≤ x349000 then (if x349000 < (x1.length : Int) then (if (x349001.length : Int) < ((rd_T74 x1 x349000).f1) then ((spec_l1Below.f x1000 x1001 x1002 x2).bind fun bt350 => (if x349001.length < 17592186044416 then (spec_l3Fact.l0 k x1 x2 x1000 bt350.2.1 bt350.2.2 x349000 (x349001 ++ [bt350.1])) else (none))) else (some (x349000, x349001, x1001, x1002))) else (none)) else (none)
def spec_l3Fact.f (k : Nat) (s0_0 : List Int) (s0_1 : Int) (s0_2 : Int) (l1 : List (S74)) (a2 : Int) : Option (Int × List Int × Int × Int) := (spec_l1Below.f s0_0 s0_1 s0_2 (l1.length : Int)).bind fun bt345 => (spec_l3Fact.l0 k l1 a2 s0_0 bt345.2.1 bt345.2.2 bt345.1 ([] : List Int))
def spec_l3Fact.T2 : Bool × List (List Nat × List Nat) := (true, [([], []), ([0], [0]), ([1], [1]), ([], []), ([], []), ([4], [4]), ([3, 5], [3, 5]), ([6], [6]), ([7], [7]), ([2, 8], [2, 8])])
def spec_l3Fact.B2 : List Nat := [0, 1, 3, 0, 0, 16, 56, 120, 248, 511]
theorem spec_l3Fact.tab2 : rtab .any (opsOf Try.f92 2) = spec_l3Fact.T2 := by kernel_rfl
theorem spec_l3Fact.bits2 : waitsOk spec_l3Fact.T2.2 spec_l3Fact.B2 = true := by kernel_rfl
def spec_l3Fact.T3 : Bool × List (List Nat × List Nat) := (true, [([], []), ([0], [0]), ([], []), ([], []), ([2, 3], [2, 3]), ([4], [4]), ([1, 5, 4], [1, 5]), ([0, 1, 2, 3, 4, 5, 6], []), ([7, 6, 6, 0, 1, 2, 3, 4, 5, 6], [6, 7])])
def spec_l3Fact.B3 : List Nat := [0, 1, 0, 0, 12, 28, 63, 127, 255]
theorem spec_l3Fact.tab3 : rtab .any (opsOf Try.f92 3) = spec_l3Fact.T3 := by kernel_rfl
theorem spec_l3Fact.bits3 : waitsOk spec_l3Fact.T3.2 spec_l3Fact.B3 = true := by kernel_rfl
set_option maxHeartbeats 8000000 in
set_option maxRecDepth 100000 in
theorem spec_l3Fact.calls (k : Nat) (g : Nat) (s0_0 : List Int) (s0_1 : Int) (s0_2 : Int) (A1 : Option Addr) (c1 : Nat) (l1 : List (S74)) (a2 : Int) (r1 : Int) (r2 : List Int) (r3 : Int) (r4 : Int) (w0 w : World) (hI : IsS95 w0 w g s0_0 s0_1 s0_2) (hB : Below w0.heap.size w0 w) (hr1 : ∀ W_, KeepBut w W_ g none → Kd.C k74 W_ A1 l1.length l1) (hc1 : l1.length ≤ c1) (h : spec_l3Fact.f k s0_0 s0_1 s0_2 l1 a2 = some (r1, r2, r3, r4)) :
  Calls Try.prog 92 #[.pointer (some ⟨g, 0, none⟩), .slice A1 l1.length c1, .int .i64 a2] w fun e w' => ∃ v1_ : Value, e = .returned (.agg #[.int .i64 r1, v1_]) ∧ Kd.R (Kd.int .i64) 3 w' w.heap.size (fun _ => True) v1_ r2 ∧ IsS95 w0 w' g s0_0 r3 r4 ∧ Below w0.heap.size w0 w' ∧ KeepBut w w' g none := by
 have hu45 := Try.underlying45
 have HR1 := aM hr1
 have HC1 := aM hc1
 clear hr1 hc1
 have HI0 := aM hI
 have HK := aM (KeepBut.refl w g none)
 have HL := aM hB.size
 clear hI
 have HW0 := aM hB.size
 have HB := aM hB
 clear hB
 have H : ((spec_l1Below.f s0_0 s0_1 s0_2 (l1.length : Int)).bind fun bt345 => (spec_l3Fact.l0 k l1 a2 s0_0 bt345.2.1 bt345.2.2 bt345.1 ([] : List Int))) = some (r1, r2, r3, r4) := h
 clear h
 replace H := bM H
 obtain ⟨⟨t345, t346, t347⟩, A40, H⟩ := H
 dsimp only at H
 have A4 := aM A40
 clear A40
 have H' := aM H
 clear H
 go_enter Try.func92, Try.ntmps92
 go_wp2_with (first | ((with_reducible refine gate_dst (N := 6) rfl ?_); refine bE 6 (cs := #[.int .i64 0, .slice none 0 0]) (t := 45) ?_; intro gb344 hg w5 hbox hb; have BK344 := aM (hbox); have GW344 := aM ((by rw [hg]; exact (kS (w := w) (g := g)) : w.heap.size ≤ gb344)); have GE344 := aM ((Nat.le_trans HW0.out (by rw [hg]; exact (kS (w := w) (g := g)) : w.heap.size ≤ gb344) : w0.heap.size ≤ gb344)); have NB0_344 := aM ((by rw [hg]; exact Nat.ne_of_lt (IsS95.lt (show IsS95 w0 _ g s0_0 s0_1 s0_2 from aZ)) : g ≠ gb344)); have NB344_0 := aM ((by rw [hg]; exact Nat.ne_of_gt (IsS95.lt (show IsS95 w0 _ g s0_0 s0_1 s0_2 from aZ)) : gb344 ≠ g)); replace HK := aM (KeepBut.trans aQ (KeepBut.of_below hb g none) (.inl rfl)); replace HB := aM (below_step aY hb); replace HI0 := aM (IsS95.below aZ hb); clear hb hbox hg) | ((with_reducible refine gate_callee (f := 83) rfl ?_); refine goesL_ (some 11) rfl rfl Try.func83 (by kernel_rfl) rfl #[.pointer (some ⟨g, 0, none⟩), .int .i64 (l1.length : Int)] rfl aA ?_; (with_reducible refine (spec_l1Below.calls g s0_0 s0_1 s0_2 (l1.length : Int) t345 t346 t347 w0 _ ?side1 ?side2 A4.out).mono ?_); (case side1 => exact aZ); (case side2 => exact aY); rintro e w6 ⟨rfl, hi, hb, hk⟩; refine ⟨_, rfl, ?_⟩; replace BK344 := aM (KeepBut.blk hk (g' := gb344) aK NB344_0.out (by simp)); replace HK := aM (KeepBut.trans aQ hk (.inl rfl)); replace HB := aM (hb); replace HI0 := aM (hi); (try clear hb); (try clear hb2); (try clear hk); (try clear hi)) | ((with_reducible refine gate_dst (N := 7) rfl ?_); refine bE 7 (cs := #[.int .i64 0, .slice none 0 0]) (t := 45) ?_; intro gb348 hg w7 hbox hb; have BK348 := aM (hbox); have GW348 := aM ((by rw [hg]; exact (kS (w := w) (g := g)) : w.heap.size ≤ gb348)); have GE348 := aM ((Nat.le_trans HW0.out (by rw [hg]; exact (kS (w := w) (g := g)) : w.heap.size ≤ gb348) : w0.heap.size ≤ gb348)); have NB344_348 := aM ((by rw [hg]; exact Nat.ne_of_lt (blk_lt (g := gb344) aK) : gb344 ≠ gb348)); have NB348_344 := aM ((by rw [hg]; exact Nat.ne_of_gt (blk_lt (g := gb344) aK) : gb348 ≠ gb344)); have NB0_348 := aM ((by rw [hg]; exact Nat.ne_of_lt (IsS95.lt (show IsS95 w0 _ g s0_0 t346 t347 from aZ)) : g ≠ gb348)); have NB348_0 := aM ((by rw [hg]; exact Nat.ne_of_gt (IsS95.lt (show IsS95 w0 _ g s0_0 t346 t347 from aZ)) : gb348 ≠ g)); replace BK344 := aM (kB gb344 #[.int .i64 0, .slice none 0 0] 45 hb); replace HK := aM (KeepBut.trans aQ (KeepBut.of_below hb g none) (.inl rfl)); replace HB := aM (below_step aY hb); replace HI0 := aM (IsS95.below aZ hb); clear hb hbox hg; have hnb8 := NB348_344.out; have hnc8 := NB344_348.out; have hnb9 := NB348_0.out; have hnc9 := NB0_348.out; have hcz10_0 : w7.cell? ⟨gb348, 0, none⟩ = some (.int .i64 0) := (blk_cell BK348.out 0).trans rfl; have hcz10_1 : w7.cell? ⟨gb348, 1, none⟩ = some (.slice none 0 0) := (blk_cell BK348.out 1).trans rfl; have hfz10_0 := blk_frozen BK348.out 0; have hfz10_1 := blk_frozen BK348.out 1))
 go_loopg [] k (fun kq w' => ∃ (x1001_1 : Int) (x1002_1 : Int) (x349001_1 : List Int) (u349001 : Value), Aside0 (spec_l3Fact.l0 kq l1 a2 s0_0 x1001_1 x1002_1 t345 x349001_1 = some (r1, r2, r3, r4)) ∧ Aside0 (kq ≤ k) ∧ Aside0 (Kd.R (Kd.int .i64) 3 w' w.heap.size (fun _ => True) u349001 x349001_1) ∧ Aside0 (w'.heap[gb344]? = some (.cells #[.int .i64 0, (.slice none 0 0)] 45 (0, 0))) ∧ Aside0 (w'.heap[gb348]? = some (.cells #[.int .i64 t345, u349001] 45 (0, 0))) ∧ Aside0 (IsS95 w0 w' g s0_0 x1001_1 x1002_1) ∧ Aside0 (KeepBut w w' g none) ∧ Aside0 (Below w0.heap.size w0 w'))
 case atStart => exact ⟨(t346), (t347), (([] : List Int)), (.slice none 0 0), H', ⟨Nat.le_refl _⟩, ⟨by first | exact Kd.R_nil _ _ _ _ _ | exact Kd.N_nil _ _ _ _ _ | exact Kd.V_nil _ _ _ _ _ | exact Kd.Q_nil _ _ _ _ _ | exact Kd.S_nil _ _ _ _ _⟩, ⟨by (with_reducible repeat refine pB ?_); refine blk_far ?_ NB344_348.out _; (with_reducible repeat refine pB ?_); refine blk_far ?_ NB344_348.out _; (with_reducible repeat refine pB ?_); exact BK344.out⟩, ⟨by (with_reducible repeat refine pB ?_); refine blk_put (cs := #[.int .i64 t345, .slice none 0 0]) ?_ 1 _ rfl; (with_reducible repeat refine pB ?_); refine blk_put (cs := #[.int .i64 0, .slice none 0 0]) ?_ 0 _ rfl; (with_reducible repeat refine pB ?_); exact BK348.out⟩, ⟨aZ⟩, ⟨aQ⟩, ⟨aY⟩⟩
 case round =>
  clear H'
  try clear c1
  try clear p2
  try clear c8
  try clear c9
  try clear hcz10_0
  try clear hcz10_1
  try clear hfz10_0
  try clear hfz10_1
  obtain ⟨x1001_1, x1002_1, x349001_1, u349001, HA, HK1, HO_349001, BK344, BK348, HI0, HK, HB⟩ := hrel
  cases gk with
  | zero => exact absurd HA.out (by simp [spec_l3Fact.l0])
  | succ k1 =>
   have H := HA.out
   clear HA
   simp only [spec_l3Fact.l0] at H
   by_cases c11 : 0 ≤ t345
   ·rw [if_pos c11] at H
    have c11b0 : decide (0 ≤ t345) = true := decide_eq_true c11
    clear c11
    by_cases c12 : t345 < (l1.length : Int)
    ·rw [if_pos c12] at H
     have c12b0 : decide (t345 < (l1.length : Int)) = true := decide_eq_true c12
     clear c12
     by_cases c13 : (x349001_1.length : Int) < ((rd_T74 l1 t345).f1)
     ·rw [if_pos c13] at H
      have c13b0 : decide ((x349001_1.length : Int) < ((rd_T74 l1 t345).f1)) = true := decide_eq_true c13
      clear c13
      replace H := bM H
      obtain ⟨⟨t350, t351, t352⟩, A140, H⟩ := H
      dsimp only at H
      have A14 := aM A140
      clear A140
      by_cases c15 : x349001_1.length < 17592186044416
      ·rw [if_pos c15] at H
       have LMc15 := aM c15
       clear c15
       obtain ⟨y353, hy353⟩ : ∃ y_ : List Int, y_ = (x349001_1 ++ [t350]) := ⟨_, rfl⟩
       first | replace H := bY hy353 H | rw [← hy353] at H
       have Ny353 := aM hy353
       clear hy353
       have H' := aM H
       clear H
       try go_wp2
       replace HO_349001 := aM (Kd.R_drew HO_349001.out)
       replace BK344 := aM (blk_drew BK344.out)
       replace BK348 := aM (blk_drew BK348.out)
       replace HI0 := aM (IsS95.drew HI0.out)
       replace HK := aM (keep_drew HK.out)
       replace HB := aM (below_drew1 HB.out)
       obtain ⟨Ao17, co17, eo17⟩ := Kd.R_slice HO_349001.out
       (first | subst eo17 | (injection eo17 with f1_ f2_ f3_; have f4_ := f1_.symm; have f5_ := f3_.symm; clear f1_ f2_ f3_; subst f4_; subst f5_))
       have p349 : 0 ≤ (t345 : Int) := aD
       have q349 : t345 < (l1.length : Int) := aD
       obtain ⟨ad349, e349, hx349_0, hx349_1, hx349_2⟩ := at_T74 (Kd.C_foot_now HR1.out HK.out) t345 p349 q349
       have hw349_2 := hx349_2
       have hw349_1 := hx349_1
       have hw349_0 := hx349_0
       cases e349
       have hne349_2 := (show (⟨(ad349.add ((t345).toNat * 3)).block, (ad349.add ((t345).toNat * 3)).off + 2, none⟩ : Addr).block ≠ g from by first | (rw [add_block]; exact Kd.foot_ne HR1.out (by omega) (by decide)) | (show (Addr.add _ _).block ≠ _; rw [add_block]; exact Kd.foot_ne HR1.out (by omega) (by decide)) | exact Kd.foot_ne HR1.out (by omega) (by decide) | (dsimp only; exact Kd.foot_ne HR1.out (by omega) (by decide)))
       have hlt349_2 := (Kd.foot_lt HR1.out (by omega) (by decide))
       have hne349_1 := (show (⟨(ad349.add ((t345).toNat * 3)).block, (ad349.add ((t345).toNat * 3)).off + 1, none⟩ : Addr).block ≠ g from by first | (rw [add_block]; exact Kd.foot_ne HR1.out (by omega) (by decide)) | (show (Addr.add _ _).block ≠ _; rw [add_block]; exact Kd.foot_ne HR1.out (by omega) (by decide)) | exact Kd.foot_ne HR1.out (by omega) (by decide) | (dsimp only; exact Kd.foot_ne HR1.out (by omega) (by decide)))
       have hlt349_1 := (Kd.foot_lt HR1.out (by omega) (by decide))
       have hne349_0 := (show ((ad349.add ((t345).toNat * 3)) : Addr).block ≠ g from by first | (rw [add_block]; exact Kd.foot_ne HR1.out (by omega) (by decide)) | (show (Addr.add _ _).block ≠ _; rw [add_block]; exact Kd.foot_ne HR1.out (by omega) (by decide)) | exact Kd.foot_ne HR1.out (by omega) (by decide) | (dsimp only; exact Kd.foot_ne HR1.out (by omega) (by decide)))
       have hlt349_0 := (Kd.foot_lt HR1.out (by omega) (by decide))
       replace p349 := eq_true p349
       replace q349 := eq_true q349
       refine start_ (n := 10) (S := fun w' => w'.cell? ⟨gb348, 0, none⟩ = some (.int .i64 t345) ∧ w'.cell? ⟨gb348, 1, none⟩ = some (.slice Ao17 x349001_1.length co17) ∧ w'.cell? (ad349.add ((t345).toNat * 3)) = some (.string ((rd_T74 l1 t345).f0)) ∧ w'.cell? ⟨(ad349.add ((t345).toNat * 3)).block, (ad349.add ((t345).toNat * 3)).off + 1, none⟩ = some (.int .i64 ((rd_T74 l1 t345).f1)) ∧ w'.cell? ⟨(ad349.add ((t345).toNat * 3)).block, (ad349.add ((t345).toNat * 3)).off + 2, none⟩ = some (.int .i64 ((rd_T74 l1 t345).f2))) (ds := []) #[false, false, false, false, false, false, false, false, false, false] (by kernel_rfl) rfl rfl ⟨(blk_cell BK348.out 0).trans rfl, (blk_cell BK348.out 1).trans rfl, hx349_0, hx349_1, hx349_2⟩ (fun hHeld => ?_); refine with_tabW spec_l3Fact.tab2 spec_l3Fact.bits2 (fun HT_ HW_ => ?_)
       generalize wr.drew = w16 at HO_349001 BK344 BK348 HI0 HK HB hx349_0 hx349_1 hx349_2 hHeld ⊢
       refine pU 0 13 ?_
       refine pU 3 16 ?_
       refine pU 4 17 ?_
       refine tU5 1 14 hHeld ?_
       refine pU 2 15 ?_
       refine tU5 5 18 hHeld ?_
       refine pU 6 19 ?_
       refine pU 7 20 ?_
       refine tU5 8 21 hHeld ?_
       refine pU 9 22 ?_
       refine done_ (done_of HT_.out (by kernel_rfl)) ?_
       try go_wp2
       replace HO_349001 := aM (Kd.R_drew HO_349001.out)
       replace BK344 := aM (blk_drew BK344.out)
       replace BK348 := aM (blk_drew BK348.out)
       replace HI0 := aM (IsS95.drew HI0.out)
       replace HK := aM (keep_drew HK.out)
       replace HB := aM (below_drew1 HB.out)
       refine start_ (n := 9) (S := fun w' => w'.cell? ⟨gb348, 0, none⟩ = some (.int .i64 t345) ∧ w'.cell? ⟨gb348, 1, none⟩ = some (.slice Ao17 x349001_1.length co17)) (ds := [8]) #[false, false, false, false, false, false, false, false, false] (by kernel_rfl) rfl rfl ⟨(blk_cell BK348.out 0).trans rfl, (blk_cell BK348.out 1).trans rfl⟩ (fun hHeld => ?_); refine with_tabW spec_l3Fact.tab3 spec_l3Fact.bits3 (fun HT_ HW_ => ?_)
       generalize w16.drew = w18 at HO_349001 BK344 BK348 HI0 HK HB hHeld ⊢
       refine pU 0 23 ?_
       refine pU 2 25 ?_
       refine pU 3 26 ?_
       refine tU2 1 24 hHeld ?_
       refine oU 4 27 (fun K hK => ?_)
       refine goes_ Try.func83 (by kernel_rfl) rfl #[.pointer (some ⟨g, 0, none⟩), .int .i64 a2] (by rfl) rfl rfl aA ?_
       with_reducible refine (spec_l1Below.calls g s0_0 x1001_1 x1002_1 a2 t350 t351 t352 w0 _ ?side1 ?side2 A14.out).mono ?_
       (case side1 => exact aZ)
       (case side2 => exact aY)
       rintro e w19 ⟨rfl, hi, hb, hk⟩
       refine ⟨_, rfl, ?_⟩
       have n0_ := aM (Kd.R_mono (Kd.R_keep (IsS95.apart (show IsS95 w0 _ g s0_0 x1001_1 x1002_1 from aZ) (aR HO_349001) (by decide)) hk (fun _ h => h.2)) (fun _ h => h.1))
       have n1_ := aM (KeepBut.blk hk (g' := gb344) aK NB344_0.out (by simp))
       have n2_ := aM (KeepBut.blk hk (g' := gb348) aK NB348_0.out (by simp))
       have n3_ := aM (KeepBut.trans aQ hk (.inl rfl))
       have n4_ := aM (hb)
       have n5_ := aM (hi)
       clear HO_349001
       clear BK344
       clear BK348
       clear HK
       clear HB
       clear HI0
       have HO_349001 := n0_
       have BK344 := n1_
       have BK348 := n2_
       have HK := n3_
       have HB := n4_
       have HI0 := n5_
       clear n0_ n1_ n2_ n3_ n4_ n5_
       (try clear hb)
       (try clear hb2)
       (try clear hk)
       (try clear hi)
       refine hK.out _ _ ⟨(blk_cell BK348.out 0).trans rfl, (blk_cell BK348.out 1).trans rfl⟩ (fun hHeld => ?_)
       clear hK K
       refine nU 27 ?_
       refine oU 5 28 (fun K hK => ?_)
       refine value_ (w1 := ?_) (v := ?_) (by rfl) rfl ?_ ?_
       rotate_left 2
       ·go_simp
        constructor
        ·rfl
        ·rfl
       refine hK.out _ _ ⟨(blk_cell (blk_alloc BK348.out _) 0).trans rfl, (blk_cell (blk_alloc BK348.out _) 1).trans rfl⟩ (fun hHeld => ?_)
       clear hK K
       refine nU 28 ?_
       refine oU 6 29 (fun K hK => ?_)
       refine Kd.R_append_step (Kd.int .i64) w.heap.size (by rfl) (.tmp 24) (.tmp 28) 26 3 (.int .i64 0) 8 rfl Try.underlying26 info3 rfl (by decide) (by omega) (.slice Ao17 x349001_1.length co17) x349001_1 t350 [.int .i64 t350] (fun _ => True) (fun _ => False) rfl rfl ?aP (fun _ hk => hk.elim) ?aF ?aO (Below.refl _ _) ?aS ?aL ?_
       (case aP => exact rfl)
       (case aF => exact (fun _ _ => trivial))
       (case aO => exact (aR HO_349001))
       (case aS => exact (kS (w := w) (g := g)))
       (case aL => have := LMc15.out; omega)
       intro v354 w20 ho hb hg hat
       rw [← Ny353.out] at ho
       have n0_ := aM (blk_grown (g := gb344) aK hg (Kd.R_ne HO_349001.out BK344.out (by decide)))
       have n1_ := aM (blk_grown (g := gb348) aK hg (Kd.R_ne HO_349001.out BK348.out (by decide)))
       have n2_ := aM (IsS95.grown aZ hg (IsS95.own_ne HI0.out HO_349001.out (by decide)))
       have n3_ := aM (below_weaken aY HL.out hb)
       have n4_ := aM (KeepBut.trans aQ (KeepBut.of_grown hg g) (Kd.R_base2 HO_349001.out))
       have n5_ := aM (ho)
       clear BK344
       clear BK348
       clear HI0
       clear HB
       clear HK
       clear HO_349001
       have BK344 := n0_
       have BK348 := n1_
       have HI0 := n2_
       have HB := n3_
       have HK := n4_
       have HO355 := n5_
       clear n0_ n1_ n2_ n3_ n4_ n5_
       clear ho hb hg hat
       obtain ⟨Ao21, co21, eo21⟩ := Kd.R_slice HO355.out
       (first | subst eo21 | (injection eo21 with f1_ f2_ f3_; have f4_ := f1_.symm; have f5_ := f3_.symm; clear f1_ f2_ f3_; subst f4_; subst f5_))
       refine hK.out _ _ ⟨(blk_cell BK348.out 0).trans rfl, (blk_cell BK348.out 1).trans rfl⟩ (fun hHeld => ?_)
       clear hK K
       refine nU 29 ?_
       refine pU 7 30 ?_
       refine last_ (i := 8) (N := none) #[true, true, true, true, true, true, true, true, true] rfl rfl (one_of HT_.out (by kernel_rfl)) (by decide) (fun K hK => ?_)
       have hs22 : w20.cell? ⟨gb348, 1, none⟩ = some (.slice Ao17 x349001_1.length co17) := (blk_cell BK348.out 1).trans rfl
       have hfs22 := blk_frozen BK348.out 1
       have hns22_0 := NB344_348.out
       have hms22_0 := NB348_344.out
       refine skip_ (w1 := ?_) (by rfl) rfl ?_ ?_
       rotate_left
       ·go_simp
        rfl
       refine hK.out _ _ ?_
       clear hK K
       refine done_ (done_of HT_.out (by kernel_rfl)) ?_
       try go_wp2
       go_roundg k1
       case measure => have := HK1.out; omega
       case rel => exact ⟨(t351), (t352), (y353), (.slice Ao21 y353.length co21), H', ⟨by have := HK1.out; omega⟩, ⟨by (with_reducible repeat apply pR); exact Kd.R_mono (Kd.R_far (p := ⟨gb348, 1, none⟩) (Kd.R_types HO355.out BK348.out (by decide)) (fun _ hk => hk.2) (.slice Ao21 y353.length co21)) (fun _ hk => trivial)⟩, ⟨by (with_reducible repeat refine pB ?_); refine blk_far ?_ NB344_348.out _; (with_reducible repeat refine pB ?_); exact BK344.out⟩, ⟨by (with_reducible repeat refine pB ?_); refine blk_put (cs := #[.int .i64 t345, .slice Ao17 x349001_1.length co17]) ?_ 1 _ rfl; (with_reducible repeat refine pB ?_); exact BK348.out⟩, ⟨aZ⟩, ⟨aQ⟩, ⟨aY⟩⟩
      ·rw [if_neg c15] at H
       exact absurd H (by simp)
     ·rw [if_neg c13] at H
      have c13b0 : decide ((x349001_1.length : Int) < ((rd_T74 l1 t345).f1)) = false := decide_eq_false c13
      clear c13
      simp only [Option.some.injEq, Prod.mk.injEq] at H
      obtain ⟨rfl, rfl, rfl, rfl⟩ := H
      try go_wp2
      replace HO_349001 := aM (Kd.R_drew HO_349001.out)
      replace BK344 := aM (blk_drew BK344.out)
      replace BK348 := aM (blk_drew BK348.out)
      replace HI0 := aM (IsS95.drew HI0.out)
      replace HK := aM (keep_drew HK.out)
      replace HB := aM (below_drew1 HB.out)
      obtain ⟨Ao24, co24, eo24⟩ := Kd.R_slice HO_349001.out
      (first | subst eo24 | (injection eo24 with f1_ f2_ f3_; have f4_ := f1_.symm; have f5_ := f3_.symm; clear f1_ f2_ f3_; subst f4_; subst f5_))
      have p349 : 0 ≤ (t345 : Int) := aD
      have q349 : t345 < (l1.length : Int) := aD
      obtain ⟨ad349, e349, hx349_0, hx349_1, hx349_2⟩ := at_T74 (Kd.C_foot_now HR1.out HK.out) t345 p349 q349
      have hw349_2 := hx349_2
      have hw349_1 := hx349_1
      have hw349_0 := hx349_0
      cases e349
      have hne349_2 := (show (⟨(ad349.add ((t345).toNat * 3)).block, (ad349.add ((t345).toNat * 3)).off + 2, none⟩ : Addr).block ≠ g from by first | (rw [add_block]; exact Kd.foot_ne HR1.out (by omega) (by decide)) | (show (Addr.add _ _).block ≠ _; rw [add_block]; exact Kd.foot_ne HR1.out (by omega) (by decide)) | exact Kd.foot_ne HR1.out (by omega) (by decide) | (dsimp only; exact Kd.foot_ne HR1.out (by omega) (by decide)))
      have hlt349_2 := (Kd.foot_lt HR1.out (by omega) (by decide))
      have hne349_1 := (show (⟨(ad349.add ((t345).toNat * 3)).block, (ad349.add ((t345).toNat * 3)).off + 1, none⟩ : Addr).block ≠ g from by first | (rw [add_block]; exact Kd.foot_ne HR1.out (by omega) (by decide)) | (show (Addr.add _ _).block ≠ _; rw [add_block]; exact Kd.foot_ne HR1.out (by omega) (by decide)) | exact Kd.foot_ne HR1.out (by omega) (by decide) | (dsimp only; exact Kd.foot_ne HR1.out (by omega) (by decide)))
      have hlt349_1 := (Kd.foot_lt HR1.out (by omega) (by decide))
      have hne349_0 := (show ((ad349.add ((t345).toNat * 3)) : Addr).block ≠ g from by first | (rw [add_block]; exact Kd.foot_ne HR1.out (by omega) (by decide)) | (show (Addr.add _ _).block ≠ _; rw [add_block]; exact Kd.foot_ne HR1.out (by omega) (by decide)) | exact Kd.foot_ne HR1.out (by omega) (by decide) | (dsimp only; exact Kd.foot_ne HR1.out (by omega) (by decide)))
      have hlt349_0 := (Kd.foot_lt HR1.out (by omega) (by decide))
      replace p349 := eq_true p349
      replace q349 := eq_true q349
      refine start_ (n := 10) (S := fun w' => w'.cell? ⟨gb348, 0, none⟩ = some (.int .i64 t345) ∧ w'.cell? ⟨gb348, 1, none⟩ = some (.slice Ao24 x349001_1.length co24) ∧ w'.cell? (ad349.add ((t345).toNat * 3)) = some (.string ((rd_T74 l1 t345).f0)) ∧ w'.cell? ⟨(ad349.add ((t345).toNat * 3)).block, (ad349.add ((t345).toNat * 3)).off + 1, none⟩ = some (.int .i64 ((rd_T74 l1 t345).f1)) ∧ w'.cell? ⟨(ad349.add ((t345).toNat * 3)).block, (ad349.add ((t345).toNat * 3)).off + 2, none⟩ = some (.int .i64 ((rd_T74 l1 t345).f2))) (ds := []) #[false, false, false, false, false, false, false, false, false, false] (by kernel_rfl) rfl rfl ⟨(blk_cell BK348.out 0).trans rfl, (blk_cell BK348.out 1).trans rfl, hx349_0, hx349_1, hx349_2⟩ (fun hHeld => ?_); refine with_tabW spec_l3Fact.tab2 spec_l3Fact.bits2 (fun HT_ HW_ => ?_)
      generalize wr.drew = w23 at HO_349001 BK344 BK348 HI0 HK HB hx349_0 hx349_1 hx349_2 hHeld ⊢
      refine pU 0 13 ?_
      refine pU 3 16 ?_
      refine pU 4 17 ?_
      refine tU5 1 14 hHeld ?_
      refine pU 2 15 ?_
      refine tU5 5 18 hHeld ?_
      refine pU 6 19 ?_
      refine pU 7 20 ?_
      refine tU5 8 21 hHeld ?_
      refine pU 9 22 ?_
      refine done_ (done_of HT_.out (by kernel_rfl)) ?_
      have hnb25 := NB348_344.out
      have hnc25 := NB344_348.out
      have hnb26 := NB348_0.out
      have hnc26 := NB0_348.out
      have hcz27_0 : w23.cell? ⟨gb348, 0, none⟩ = some (.int .i64 t345) := (blk_cell BK348.out 0).trans rfl
      have hcz27_1 : w23.cell? ⟨gb348, 1, none⟩ = some (.slice Ao24 x349001_1.length co24) := (blk_cell BK348.out 1).trans rfl
      have hfz27_0 := blk_frozen BK348.out 0
      have hfz27_1 := blk_frozen BK348.out 1
      have hnb28 := NB344_0.out
      have hnc28 := NB0_344.out
      have hcz29_0 : w23.cell? ⟨gb344, 0, none⟩ = some (.int .i64 0) := (blk_cell BK344.out 0).trans rfl
      have hcz29_1 : w23.cell? ⟨gb344, 1, none⟩ = some (.slice none 0 0) := (blk_cell BK344.out 1).trans rfl
      have hfz29_0 := blk_frozen BK344.out 0
      have hfz29_1 := blk_frozen BK344.out 1
      try go_wp2
      refine bodyPost_ret (results_cell_row rfl _ _ gb344 45 #[.int .i64 t345, .slice Ao24 x349001_1.length co24] (0, 0) _ rfl (bP2 BK344.out) Try.underlying45 rfl (by kernel_rfl)) rfl ?_
      exact ⟨_, aE, by (with_reducible repeat apply pR); exact Kd.R_mono (Kd.R_far (p := ⟨gb344, 1, none⟩) (Kd.R_far (p := ⟨gb344, 0, none⟩) (Kd.R_types HO_349001.out BK344.out (by decide)) (fun _ hk => hk.2) (.int .i64 t345)) (fun _ hk => hk.2) (.slice Ao24 x349001_1.length co24)) (fun _ hk => trivial), aZ, aY, aQ⟩
    ·rw [if_neg c12] at H
     exact absurd H (by simp)
   ·rw [if_neg c11] at H
    exact absurd H (by simp)

end Go.Proofs.Yteddnlklfjpgoaa.PFnInsertDelete
