import Derived.Test.YteddnlklfjpgoaaPFnInsertDeletex0
import Derived.Test.YteddnlklfjpgoaaPFnInsertDeletex12
import Derived.Test.YteddnlklfjpgoaaPFnInsertDeletex14
import Derived.Test.YteddnlklfjpgoaaPFnInsertDeletex15
namespace Go.Proofs.Yteddnlklfjpgoaa.PFnInsertDelete
open Go.RowKit Go.Proofs.YteddnlklfjpgoaaW.PrintWords Go.Proofs.YteddnlklfjpgoaaW.PrintLast Go.Proofs.YteddnlklfjpgoaaW.PrintMore
attribute [local go_sem] max2_int min2_int max_two min_two max_three min_three max_four min_four
set_option linter.unusedVariables false
set_option linter.unusedSimpArgs false

/-! ### spec_l4Any: function 74 -/
def spec_l4Any.f (k : Nat) (s0_0 : List Int) (s0_1 : Int) (s0_2 : Int) : Option ((List (S74)) × (List (S45)) × Int × Int) := (spec_l4Db.f k s0_0 s0_1 s0_2).bind fun bt427 => ((spec_l1Below.f s0_0 bt427.2.2.1 bt427.2.2.2 14).bind fun bt436 => (if bt436.1 = 0 then ((spec_l3Any.f k s0_0 bt436.2.1 bt436.2.2 bt427.1).bind fun bt439 => (if bt427.2.1.length < 4398046511104 then (some (bt427.1, (bt427.2.1 ++ [(⟨bt439.1, bt439.2.1⟩ : S45)]), bt439.2.2.1, bt439.2.2.2)) else (none))) else (if bt436.1 = 1 then ((spec_l1Below.f s0_0 bt436.2.1 bt436.2.2 4).bind fun bt448 => (if 0 ≤ bt448.1 then (if bt448.1 ≤ (bt427.1.length : Int) then (some ((bt427.1.take (bt448.1 : Int).toNat), bt427.2.1, bt448.2.1, bt448.2.2)) else (none)) else (none))) else (if bt436.1 = 2 then ((spec_l1Below.f s0_0 bt436.2.1 bt436.2.2 4).bind fun bt454 => ((spec_l2Any.f s0_0 bt454.2.1 bt454.2.2).bind fun bt457 => (if 0 ≤ bt454.1 then (if bt454.1 < (bt427.1.length : Int) then (some ((bt427.1.set (bt454.1 : Int).toNat (⟨bt457.1, bt457.2.1, bt457.2.2.1⟩ : S74)), bt427.2.1, bt457.2.2.2.1, bt457.2.2.2.2)) else (none)) else (none)))) else (some (bt427.1, bt427.2.1, bt436.2.1, bt436.2.2))))))
def spec_l4Any.T4 : Bool × List (List Nat × List Nat) := (true, [([], []), ([0], [0]), ([], []), ([], []), ([3], [3]), ([2, 4], [2, 4]), ([5], [5]), ([1, 6, 5], [1, 6]), ([0, 1, 2, 3, 4, 5, 6, 7], []), ([8, 7, 7, 0, 1, 2, 3, 4, 5, 6, 7], [7, 8])])
def spec_l4Any.B4 : List Nat := [0, 1, 0, 0, 8, 28, 60, 127, 255, 511]
theorem spec_l4Any.tab4 : rtab .any (opsOf Try.f74 4) = spec_l4Any.T4 := by kernel_rfl
theorem spec_l4Any.bits4 : waitsOk spec_l4Any.T4.2 spec_l4Any.B4 = true := by kernel_rfl
def spec_l4Any.T8 : Bool × List (List Nat × List Nat) := (true, [([], []), ([0], [0]), ([], []), ([2], [2]), ([], []), ([4, 3], [4]), ([1, 3, 0, 1, 2, 3, 4, 5], [1, 3]), ([6, 5, 5, 0, 1, 2, 3, 4, 5], [5, 6])])
def spec_l4Any.B8 : List Nat := [0, 1, 0, 4, 0, 28, 63, 127]
theorem spec_l4Any.tab8 : rtab .any (opsOf Try.f74 8) = spec_l4Any.T8 := by kernel_rfl
theorem spec_l4Any.bits8 : waitsOk spec_l4Any.T8.2 spec_l4Any.B8 = true := by kernel_rfl
set_option maxHeartbeats 8000000 in
set_option maxRecDepth 100000 in
theorem spec_l4Any.calls (k : Nat) (g : Nat) (s0_0 : List Int) (s0_1 : Int) (s0_2 : Int) (r1 : List (S74)) (r2 : List (S45)) (r3 : Int) (r4 : Int) (w0 w : World) (hI : IsS95 w0 w g s0_0 s0_1 s0_2) (hB : Below w0.heap.size w0 w) (h : spec_l4Any.f k s0_0 s0_1 s0_2 = some (r1, r2, r3, r4)) :
  Calls Try.prog 74 #[.pointer (some ⟨g, 0, none⟩)] w fun e w' => ∃ v0_ v1_ : Value, e = .returned (.agg #[v0_, v1_]) ∧ Kd.R k74 74 w' w.heap.size (fun k_ => (w.heap.size ≤ k_)) v0_ r1 ∧ Kd.N k45 45 w' w.heap.size (fun k_ => (w.heap.size ≤ k_) ∧ some k_ ≠ (v0_ : Value).ownBlock) v1_ r2 ∧ IsS95 w0 w' g s0_0 r3 r4 ∧ Below w0.heap.size w0 w' ∧ KeepBut w w' g none := by
 have hu31 := Try.underlying31
 have hu74 := Try.underlying74
 have HI0 := aM hI
 have HK := aM (KeepBut.refl w g none)
 have HL := aM hB.size
 clear hI
 have HW0 := aM hB.size
 have HB := aM hB
 clear hB
 have H : ((spec_l4Db.f k s0_0 s0_1 s0_2).bind fun bt427 => ((spec_l1Below.f s0_0 bt427.2.2.1 bt427.2.2.2 14).bind fun bt436 => (if bt436.1 = 0 then ((spec_l3Any.f k s0_0 bt436.2.1 bt436.2.2 bt427.1).bind fun bt439 => (if bt427.2.1.length < 4398046511104 then (some (bt427.1, (bt427.2.1 ++ [(⟨bt439.1, bt439.2.1⟩ : S45)]), bt439.2.2.1, bt439.2.2.2)) else (none))) else (if bt436.1 = 1 then ((spec_l1Below.f s0_0 bt436.2.1 bt436.2.2 4).bind fun bt448 => (if 0 ≤ bt448.1 then (if bt448.1 ≤ (bt427.1.length : Int) then (some ((bt427.1.take (bt448.1 : Int).toNat), bt427.2.1, bt448.2.1, bt448.2.2)) else (none)) else (none))) else (if bt436.1 = 2 then ((spec_l1Below.f s0_0 bt436.2.1 bt436.2.2 4).bind fun bt454 => ((spec_l2Any.f s0_0 bt454.2.1 bt454.2.2).bind fun bt457 => (if 0 ≤ bt454.1 then (if bt454.1 < (bt427.1.length : Int) then (some ((bt427.1.set (bt454.1 : Int).toNat (⟨bt457.1, bt457.2.1, bt457.2.2.1⟩ : S74)), bt427.2.1, bt457.2.2.2.1, bt457.2.2.2.2)) else (none)) else (none)))) else (some (bt427.1, bt427.2.1, bt436.2.1, bt436.2.2))))))) = some (r1, r2, r3, r4) := h
 clear h
 replace H := bM H
 obtain ⟨⟨t427, t430, t433, t434⟩, A20, H⟩ := H
 dsimp only at H
 have A2 := aM A20
 clear A20
 replace H := bM H
 obtain ⟨⟨t436, t437, t438⟩, A30, H⟩ := H
 dsimp only at H
 have A3 := aM A30
 clear A30
 by_cases c4 : t436 = 0
 ·rw [if_pos c4] at H
  have c4b0 : (t436 == 0) = true := beq_iff_eq.mpr c4
  have c4b1 : (t436 != 0) = false := bne_eq_false_iff_eq.mpr c4
  clear c4
  replace H := bM H
  obtain ⟨⟨t439, t440, t443, t444⟩, A50, H⟩ := H
  dsimp only at H
  have A5 := aM A50
  clear A50
  by_cases c6 : t430.length < 4398046511104
  ·rw [if_pos c6] at H
   have LMc6 := aM c6
   clear c6
   obtain ⟨y445, hy445⟩ : ∃ y_ : List (S45), y_ = (t430 ++ [(⟨t439, t440⟩ : S45)]) := ⟨_, rfl⟩
   first | replace H := bY hy445 H | rw [← hy445] at H
   have Ny445 := aM hy445
   clear hy445
   simp only [Option.some.injEq, Prod.mk.injEq] at H
   obtain ⟨rfl, rfl, rfl, rfl⟩ := H
   go_enter Try.func74, Try.ntmps74
   try go_wp2_with (first | ((with_reducible refine gate_dst (N := 2) rfl ?_); refine bE 2 (cs := #[.slice none 0 0, .slice none 0 0]) (t := 31) ?_; intro gb426 hg w7 hbox hb; have BK426 := aM (hbox); have GW426 := aM ((by rw [hg]; exact (kS (w := w) (g := g)) : w.heap.size ≤ gb426)); have GE426 := aM ((Nat.le_trans HW0.out (by rw [hg]; exact (kS (w := w) (g := g)) : w.heap.size ≤ gb426) : w0.heap.size ≤ gb426)); have NB0_426 := aM ((by rw [hg]; exact Nat.ne_of_lt (IsS95.lt (show IsS95 w0 _ g s0_0 s0_1 s0_2 from aZ)) : g ≠ gb426)); have NB426_0 := aM ((by rw [hg]; exact Nat.ne_of_gt (IsS95.lt (show IsS95 w0 _ g s0_0 s0_1 s0_2 from aZ)) : gb426 ≠ g)); replace HK := aM (KeepBut.trans aQ (KeepBut.of_below hb g none) (.inl rfl)); replace HB := aM (below_step aY hb); replace HI0 := aM (IsS95.below aZ hb); clear hb hbox hg) | ((with_reducible refine gate_callee (f := 82) rfl ?_); refine goesL_ (some 5) rfl rfl Try.func82 (by kernel_rfl) rfl #[.pointer (some ⟨g, 0, none⟩)] rfl aA ?_; (with_reducible refine (spec_l4Db.calls k g s0_0 s0_1 s0_2 t427 t430 t433 t434 w0 _ ?side1 ?side2 A2.out).mono ?_); (case side1 => exact aZ); (case side2 => exact aY); rintro e w8 ⟨v428, v431, rfl, ho0, ho1, hi, hb, hk⟩; refine ⟨_, rfl, ?_⟩; have HO429 := aM (Kd.R_lower (Kd.R_newM (M := fun k_ => (w.heap.size ≤ k_)) (Kd.R_mono (ok' := fun k_ => True) ho0 (fun _ hk_ => trivial)) (kS (w := w) (g := g)) (fun k_ h_ => h_)) (kS (w := w) (g := g))); have HO432 := aM (Kd.N_lower (Kd.N_mono (ok' := fun k_ => (w.heap.size ≤ k_) ∧ some k_ ≠ (v428 : Value).ownBlock ∧ k_ ≠ gb426 ∧ k_ ≠ g) ho1 (fun k_ hk_ => ⟨(Nat.le_trans (kS (w := w) (g := g)) hk_.1), hk_.2, (Kd.freshB (g := gb426) aK k_ hk_.1), (IsS95.fresh aZ k_ hk_.1)⟩)) (kS (w := w) (g := g))); replace BK426 := aM (KeepBut.blk hk (g' := gb426) aK NB426_0.out (by simp)); replace HK := aM (KeepBut.trans aQ hk (.inl rfl)); replace HB := aM (hb); replace HI0 := aM (hi); (try clear hb); (try clear hb2); (try clear hk); (try clear hi); (try clear ho0); (try clear ho1)) | ((with_reducible refine gate_dst (N := 3) rfl ?_); refine bE 3 (cs := #[.slice none 0 0, .slice none 0 0]) (t := 31) ?_; intro gb435 hg w9 hbox hb; have BK435 := aM (hbox); have GW435 := aM ((by rw [hg]; exact (kS (w := w) (g := g)) : w.heap.size ≤ gb435)); have GE435 := aM ((Nat.le_trans HW0.out (by rw [hg]; exact (kS (w := w) (g := g)) : w.heap.size ≤ gb435) : w0.heap.size ≤ gb435)); have NB426_435 := aM ((by rw [hg]; exact Nat.ne_of_lt (blk_lt (g := gb426) aK) : gb426 ≠ gb435)); have NB435_426 := aM ((by rw [hg]; exact Nat.ne_of_gt (blk_lt (g := gb426) aK) : gb435 ≠ gb426)); have NB0_435 := aM ((by rw [hg]; exact Nat.ne_of_lt (IsS95.lt (show IsS95 w0 _ g s0_0 t433 t434 from aZ)) : g ≠ gb435)); have NB435_0 := aM ((by rw [hg]; exact Nat.ne_of_gt (IsS95.lt (show IsS95 w0 _ g s0_0 t433 t434 from aZ)) : gb435 ≠ g)); replace HO429 := aM (Kd.R_below (aR HO429) hb); replace HO432 := aM (Kd.N_below (Kd.N_elderB (aN HO432) gb435 (Nat.le_of_eq hg.symm)) hb); replace BK426 := aM (kB gb426 #[.slice none 0 0, .slice none 0 0] 31 hb); replace HK := aM (KeepBut.trans aQ (KeepBut.of_below hb g none) (.inl rfl)); replace HB := aM (below_step aY hb); replace HI0 := aM (IsS95.below aZ hb); clear hb hbox hg; obtain ⟨Ao10, co10, eo10⟩ := Kd.R_slice HO429.out; subst eo10; have hnb11 := NB435_426.out; have hnc11 := NB426_435.out; have hnb12 := NB435_0.out; have hnc12 := NB0_435.out; have hcz13_0 : w9.cell? ⟨gb435, 0, none⟩ = some (.slice none 0 0) := (blk_cell BK435.out 0).trans rfl; have hcz13_1 : w9.cell? ⟨gb435, 1, none⟩ = some (.slice none 0 0) := (blk_cell BK435.out 1).trans rfl; have hfz13_0 := blk_frozen BK435.out 0; have hfz13_1 := blk_frozen BK435.out 1; obtain ⟨Ao14, co14, eo14⟩ := Kd.N_slice HO432.out; subst eo14) | ((with_reducible refine gate_callee (f := 83) rfl ?_); refine goesL_ (some 7) rfl rfl Try.func83 (by kernel_rfl) rfl #[.pointer (some ⟨g, 0, none⟩), .int .i64 14] rfl aA ?_; (with_reducible refine (spec_l1Below.calls g s0_0 t433 t434 14 t436 t437 t438 w0 _ ?side1 ?side2 A3.out).mono ?_); (case side1 => exact aZ); (case side2 => exact aY); rintro e w15 ⟨rfl, hi, hb, hk⟩; refine ⟨_, rfl, ?_⟩; replace BK426 := aM (KeepBut.blk hk (g' := gb426) (bF2 NB426_435.out BK426.out) NB426_0.out (by simp)); replace HO429 := aM (Kd.R_mono (Kd.R_keep (IsS95.apart (show IsS95 w0 _ g s0_0 t433 t434 from aZ) (by (with_reducible repeat apply pR); exact (rF1 HO429.out BK435.out (.slice Ao10 t427.length co10) (.slice Ao14 t430.length co14))) (by decide)) hk (fun _ h => h.2)) (fun _ h => h.1)); replace HO432 := aM (Kd.N_mono (Kd.N_keep (Kd.N_mono (ok := fun k_ => ((((w.heap.size ≤ k_)) ∧ (some k_ ≠ (.slice Ao10 t427.length co10 : Value).ownBlock ∧ (k_ ≠ gb426 ∧ k_ ≠ g))) ∧ k_ ≠ gb435)) (by (with_reducible repeat apply pN); exact (nF1 gb435 HO432.out (fun _ hk => hk.2) (.slice Ao10 t427.length co10) (.slice Ao14 t430.length co14))) (fun k_ hk_ => (⟨hk_, hk_.1.2.2.2⟩ : _ ∧ k_ ≠ g))) hk (fun _ h => h.2)) (fun _ h => h.1)); replace BK435 := aM (KeepBut.blk hk (g' := gb435) (bP2 BK435.out) NB435_0.out (by simp)); replace HK := aM (KeepBut.trans aQ hk (.inl rfl)); replace HB := aM (hb); replace HI0 := aM (hi); (try clear hb); (try clear hb2); (try clear hk); (try clear hi)))
   replace HO429 := aM (Kd.R_drew HO429.out)
   replace HO432 := aM (Kd.N_drew HO432.out)
   replace BK426 := aM (blk_drew BK426.out)
   replace BK435 := aM (blk_drew BK435.out)
   replace HI0 := aM (IsS95.drew HI0.out)
   replace HK := aM (keep_drew HK.out)
   replace HB := aM (below_drew1 HB.out)
   refine start_ (n := 10) (S := fun w' => w'.cell? ⟨gb435, 0, none⟩ = some (.slice Ao10 t427.length co10) ∧ w'.cell? ⟨gb435, 1, none⟩ = some (.slice Ao14 t430.length co14)) (ds := [9]) #[false, false, false, false, false, false, false, false, false, false] (by kernel_rfl) rfl rfl ⟨(blk_cell BK435.out 0).trans rfl, (blk_cell BK435.out 1).trans rfl⟩ (fun hHeld => ?_); refine with_tabW spec_l4Any.tab4 spec_l4Any.bits4 (fun HT_ HW_ => ?_)
   generalize w15.drew = w16 at HO429 HO432 BK426 BK435 HI0 HK HB hHeld ⊢
   refine pU 0 10 ?_
   refine pU 2 12 ?_
   refine pU 3 13 ?_
   refine tU2 1 11 hHeld ?_
   refine tU2 4 14 hHeld ?_
   refine oU 5 15 (fun K hK => ?_)
   refine goes_ Try.func84 (by kernel_rfl) rfl #[.pointer (some ⟨g, 0, none⟩), .slice Ao10 t427.length co10] (by rfl) rfl rfl aA ?_
   with_reducible refine (spec_l3Any.calls k g s0_0 t437 t438 _ _ t427 t439 t440 t443 t444 w0 _ ?side1 ?side2 ?side3 ?side4 A5.out).mono ?_
   (case side1 => exact aZ)
   (case side2 => exact aY)
   (case side3 => exact Kd.C_foot_own (IsS95.apart (show IsS95 w0 _ g s0_0 t437 t438 from aZ) (aR HO429) (by decide)) (fun _ h_ => h_.2))
   (case side4 => exact (Kd.R_reads' HO429.out).2.1)
   rintro e w17 ⟨v441, rfl, ho0, hi, hb, hk⟩
   refine ⟨_, rfl, ?_⟩
   have n0_ := aM (KeepBut.blk hk (g' := gb426) aK NB426_0.out (by simp))
   have n1_ := aM (Kd.R_mono (Kd.R_keep (IsS95.apart (show IsS95 w0 _ g s0_0 t437 t438 from aZ) (aR HO429) (by decide)) hk (fun _ h => h.2)) (fun _ h => h.1))
   have n2_ := aM (Kd.N_mono (Kd.N_told (Kd.N_oldK (Kd.N_mono (ok := fun k_ => ((((w.heap.size ≤ k_)) ∧ (some k_ ≠ (.slice Ao10 t427.length co10 : Value).ownBlock ∧ (k_ ≠ gb426 ∧ k_ ≠ g))) ∧ k_ ≠ gb435)) (aN HO432) (fun k_ hk_ => (⟨hk_, hk_.1.2.2.2⟩ : _ ∧ k_ ≠ g))) hk) (Kd.R_base ho0)) (fun _ h_ => h_.1))
   have n3_ := aM (KeepBut.blk hk (g' := gb435) aK NB435_0.out (by simp))
   have n4_ := aM (Kd.R_lower (Kd.R_newM (M := fun k_ => (w.heap.size ≤ k_)) ho0 (kS (w := w) (g := g)) (fun k_ h_ => h_)) (kS (w := w) (g := g)))
   have n5_ := aM (KeepBut.trans aQ hk (.inl rfl))
   have n6_ := aM (hb)
   have n7_ := aM (hi)
   clear BK426
   clear HO429
   clear HO432
   clear BK435
   clear HK
   clear HB
   clear HI0
   have BK426 := n0_
   have HO429 := n1_
   have HO432 := n2_
   have BK435 := n3_
   have HO442 := n4_
   have HK := n5_
   have HB := n6_
   have HI0 := n7_
   clear n0_ n1_ n2_ n3_ n4_ n5_ n6_ n7_
   (try clear hb)
   (try clear hb2)
   (try clear hk)
   (try clear hi)
   (try clear ho0)
   obtain ⟨Ao19, co19, eo19⟩ := Kd.R_slice HO442.out
   (first | subst eo19 | (injection eo19 with f1_ f2_ f3_; have f4_ := f1_.symm; have f5_ := f3_.symm; clear f1_ f2_ f3_; subst f4_; subst f5_))
   refine hK.out _ _ ⟨(blk_cell BK435.out 0).trans rfl, (blk_cell BK435.out 1).trans rfl⟩ (fun hHeld => ?_)
   clear hK K
   refine nU 15 ?_
   refine oU 6 16 (fun K hK => ?_)
   refine value_ (w1 := ?_) (v := ?_) (by rfl) rfl ?_ ?_
   rotate_left 2
   ·go_simp
    constructor
    ·rfl
    ·rfl
   refine hK.out _ _ ⟨(blk_cell (blk_alloc BK435.out _) 0).trans rfl, (blk_cell (blk_alloc BK435.out _) 1).trans rfl⟩ (fun hHeld => ?_)
   clear hK K
   refine nU 16 ?_
   refine oU 7 17 (fun K hK => ?_)
   refine Kd.N_append_step k45 w.heap.size (by rfl) (.tmp 11) (.tmp 16) 29 45 (.agg #[(.int .i64 0), (.slice none 0 0)]) 32 rfl Try.underlying29 info45 rfl (by decide) (by omega) (.slice Ao14 t430.length co14) t430 (⟨t439, t440⟩ : S45) [.int .i64 t439, .slice Ao19 t440.length co19] (fun k_ => (w.heap.size ≤ k_) ∧ some k_ ≠ (.slice Ao10 t427.length co10 : Value).ownBlock ∧ k_ ≠ gb426 ∧ k_ ≠ gb435 ∧ k_ ≠ g) (fun k_ => ((fun k_ => (w.heap.size ≤ k_) ∧ some k_ ≠ (.slice Ao10 t427.length co10 : Value).ownBlock ∧ k_ ≠ gb426 ∧ k_ ≠ gb435 ∧ k_ ≠ g)) k_ ∧ some k_ ≠ (.slice Ao14 t430.length co14 : Value).ownBlock) rfl rfl ?aP (fun _ hk => hk) ?aF ?aO (Below.refl _ _) ?aS ?aL ?_
   (case aP => exact (k45_mkF _ _ (⟨t439, t440⟩ : S45) (Kd.R_reads' (Kd.R_mono (ok' := (fun k_ => ((fun k_ => (w.heap.size ≤ k_) ∧ some k_ ≠ (.slice Ao10 t427.length co10 : Value).ownBlock ∧ k_ ≠ gb426 ∧ k_ ≠ gb435 ∧ k_ ≠ g)) k_ ∧ some k_ ≠ (.slice Ao14 t430.length co14 : Value).ownBlock)) (IsS95.apart HI0.out (Kd.R_types (Kd.R_types (Kd.R_apart' (Kd.R_apart' (HO442.out) (Kd.R_typed HO429.out) (by decide)) (Kd.N_typed HO432.out) (by decide)) BK426.out (by decide)) BK435.out (by decide)) (by decide)) (fun k_ hk => ⟨⟨hk.1.1.1.1.1.1, ⟨hk.1.1.1.1.2, ⟨hk.1.1.2, ⟨hk.1.2, hk.2⟩⟩⟩⟩, hk.1.1.1.2⟩))).2.1 (Kd.R_F (Kd.R_mono (ok' := (fun k_ => ((fun k_ => (w.heap.size ≤ k_) ∧ some k_ ≠ (.slice Ao10 t427.length co10 : Value).ownBlock ∧ k_ ≠ gb426 ∧ k_ ≠ gb435 ∧ k_ ≠ g)) k_ ∧ some k_ ≠ (.slice Ao14 t430.length co14 : Value).ownBlock)) (IsS95.apart HI0.out (Kd.R_types (Kd.R_types (Kd.R_apart' (Kd.R_apart' (HO442.out) (Kd.R_typed HO429.out) (by decide)) (Kd.N_typed HO432.out) (by decide)) BK426.out (by decide)) BK435.out (by decide)) (by decide)) (fun k_ hk => ⟨⟨hk.1.1.1.1.1.1, ⟨hk.1.1.1.1.2, ⟨hk.1.1.2, ⟨hk.1.2, hk.2⟩⟩⟩⟩, hk.1.1.1.2⟩)))))
   (case aF => exact (fun k_ hk => ⟨(Nat.le_trans (kS (w := w) (g := g)) hk), Kd.fresh' (Kd.R_lt (aR HO429)) k_ hk, Kd.freshB (g := gb426) aK k_ hk, Kd.freshB (g := gb435) aK k_ hk, IsS95.fresh aZ k_ hk⟩))
   (case aO => exact (by (with_reducible repeat apply pN); exact Kd.N_mono HO432.out (fun _ hk => ⟨hk.1.1.1, ⟨hk.1.1.2.1, ⟨hk.1.1.2.2.1, ⟨hk.1.2, hk.1.1.2.2.2⟩⟩⟩⟩)))
   (case aS => exact (kS (w := w) (g := g)))
   (case aL => have := LMc6.out; omega)
   intro v446 w18 ho hb hg hat
   rw [← Ny445.out] at ho
   have n0_ := aM (IsS95.grown aZ hg (IsS95.own_neN HI0.out HO432.out (by decide)))
   have n1_ := aM (blk_grown (g := gb426) aK hg (Kd.N_ne HO432.out BK426.out (by decide)))
   have n2_ := aM (Kd.R_over' (aR HO429) (Kd.N_typed (aN HO432)) (by decide) hg)
   have n3_ := aM (blk_grown (g := gb435) aK hg (Kd.N_ne HO432.out BK435.out (by decide)))
   have n4_ := aM (below_weaken aY HL.out hb)
   have n5_ := aM (KeepBut.trans aQ (KeepBut.of_grown hg g) (Kd.N_base2 HO432.out))
   have n6_ := aM (ho)
   clear HI0
   clear BK426
   clear HO429
   clear BK435
   clear HB
   clear HK
   clear HO432
   clear HO442
   have HI0 := n0_
   have BK426 := n1_
   have HO429 := n2_
   have BK435 := n3_
   have HB := n4_
   have HK := n5_
   have HO447 := n6_
   clear n0_ n1_ n2_ n3_ n4_ n5_ n6_
   clear ho hb hg hat
   obtain ⟨Ao20, co20, eo20⟩ := Kd.N_slice HO447.out
   (first | subst eo20 | (injection eo20 with f1_ f2_ f3_; have f4_ := f1_.symm; have f5_ := f3_.symm; clear f1_ f2_ f3_; subst f4_; subst f5_))
   refine hK.out _ _ ⟨(blk_cell BK435.out 0).trans rfl, (blk_cell BK435.out 1).trans rfl⟩ (fun hHeld => ?_)
   clear hK K
   refine nU 17 ?_
   refine pU 8 18 ?_
   refine last_ (i := 9) (N := none) #[true, true, true, true, true, true, true, true, true, true] rfl rfl (one_of HT_.out (by kernel_rfl)) (by decide) (fun K hK => ?_)
   have hs21 : w18.cell? ⟨gb435, 1, none⟩ = some (.slice Ao14 t430.length co14) := (blk_cell BK435.out 1).trans rfl
   have hfs21 := blk_frozen BK435.out 1
   have hns21_0 := NB426_435.out
   have hms21_0 := NB435_426.out
   refine skip_ (w1 := ?_) (by rfl) rfl ?_ ?_
   rotate_left
   ·go_simp
    rfl
   refine hK.out _ _ ?_
   clear hK K
   refine done_ (done_of HT_.out (by kernel_rfl)) ?_
   have hcz22_0 : w18.cell? ⟨gb435, 0, none⟩ = some (.slice Ao10 t427.length co10) := (blk_cell BK435.out 0).trans rfl
   have hcz22_1 : w18.cell? ⟨gb435, 1, none⟩ = some (.slice Ao14 t430.length co14) := (blk_cell BK435.out 1).trans rfl
   have hfz22_0 := blk_frozen BK435.out 0
   have hfz22_1 := blk_frozen BK435.out 1
   have hnb23 := NB426_0.out
   have hnc23 := NB0_426.out
   have hcz24_0 : w18.cell? ⟨gb426, 0, none⟩ = some (.slice none 0 0) := (blk_cell BK426.out 0).trans rfl
   have hcz24_1 : w18.cell? ⟨gb426, 1, none⟩ = some (.slice none 0 0) := (blk_cell BK426.out 1).trans rfl
   have hfz24_0 := blk_frozen BK426.out 0
   have hfz24_1 := blk_frozen BK426.out 1
   try go_wp2
   refine bodyPost_ret (results_cell_row rfl _ _ gb426 31 #[.slice Ao10 t427.length co10, .slice Ao20 y445.length co20] (0, 0) _ rfl (by (with_reducible repeat refine pB ?_); refine blk_put (cs := #[.slice Ao10 t427.length co10, .slice none 0 0]) ?_ 1 _ rfl; (with_reducible repeat refine pB ?_); refine blk_put (cs := #[.slice none 0 0, .slice none 0 0]) ?_ 0 _ rfl; (with_reducible repeat refine pB ?_); refine blk_far ?_ NB426_435.out _; (with_reducible repeat refine pB ?_); exact BK426.out) Try.underlying31 rfl (by kernel_rfl)) rfl ?_
   exact ⟨_, _, aE, by (with_reducible repeat apply pR); exact Kd.R_mono (Kd.R_far (p := ⟨gb426, 1, none⟩) (Kd.R_far (p := ⟨gb426, 0, none⟩) (Kd.R_far (p := ⟨gb435, 1, none⟩) (Kd.R_types (Kd.R_types HO429.out BK435.out (by decide)) BK426.out (by decide)) (fun _ hk => hk.1.2) (.slice Ao20 y445.length co20)) (fun _ hk => hk.2) (.slice Ao10 t427.length co10)) (fun _ hk => hk.2) (.slice Ao20 y445.length co20)) (fun _ hk => hk.1.1.1), by (with_reducible repeat apply pN); exact Kd.N_mono (Kd.N_far (p := ⟨gb426, 1, none⟩) (Kd.N_far (p := ⟨gb426, 0, none⟩) (Kd.N_far (p := ⟨gb435, 1, none⟩) (Kd.N_mono (Kd.N_mono HO447.out (fun k_ hk => (⟨hk, hk.2.2.2.1⟩ : _ ∧ k_ ≠ gb435))) (fun k_ hk => (⟨hk, hk.1.2.2.1⟩ : _ ∧ k_ ≠ gb426))) (fun _ hk => hk.1.2) (.slice Ao20 y445.length co20)) (fun _ hk => hk.2) (.slice Ao10 t427.length co10)) (fun _ hk => hk.2) (.slice Ao20 y445.length co20)) (fun _ hk => ⟨hk.1.1.1, obn hk.1.1.2.1⟩), aZ, aY, aQ⟩
  ·rw [if_neg c6] at H
   exact absurd H (by simp)
 ·rw [if_neg c4] at H
  have c4b0 : (t436 == 0) = false := beq_eq_false_iff_ne.mpr c4
  have c4b1 : (t436 != 0) = true := bne_iff_ne.mpr c4
  by_cases c25 : t436 = 1
  ·rw [if_pos c25] at H
   have c25b0 : (t436 == 1) = true := beq_iff_eq.mpr c25
   have c25b1 : (t436 != 1) = false := bne_eq_false_iff_eq.mpr c25
   clear c25
   replace H := bM H
   obtain ⟨⟨t448, t449, t450⟩, A260, H⟩ := H
   dsimp only at H
   have A26 := aM A260
   clear A260
   by_cases c27 : 0 ≤ t448
   ·rw [if_pos c27] at H
    have c27b0 := eq_true c27
    have c27b1 : decide (0 ≤ t448) = true := decide_eq_true c27
    clear c27
    by_cases c28 : t448 ≤ (t427.length : Int)
    ·rw [if_pos c28] at H
     have c28b0 := eq_true c28
     have c28b1 : decide (t448 ≤ (t427.length : Int)) = true := decide_eq_true c28
     clear c28
     obtain ⟨y451, hy451⟩ : ∃ y_ : List (S74), y_ = (t427.take (t448 : Int).toNat) := ⟨_, rfl⟩
     first | replace H := bY hy451 H | rw [← hy451] at H
     have Ny451 := aM hy451
     clear hy451
     simp only [Option.some.injEq, Prod.mk.injEq] at H
     obtain ⟨rfl, rfl, rfl, rfl⟩ := H
     go_enter Try.func74, Try.ntmps74
     try go_wp2_with (first | ((with_reducible refine gate_dst (N := 2) rfl ?_); refine bE 2 (cs := #[.slice none 0 0, .slice none 0 0]) (t := 31) ?_; intro gb426 hg w29 hbox hb; have BK426 := aM (hbox); have GW426 := aM ((by rw [hg]; exact (kS (w := w) (g := g)) : w.heap.size ≤ gb426)); have GE426 := aM ((Nat.le_trans HW0.out (by rw [hg]; exact (kS (w := w) (g := g)) : w.heap.size ≤ gb426) : w0.heap.size ≤ gb426)); have NB0_426 := aM ((by rw [hg]; exact Nat.ne_of_lt (IsS95.lt (show IsS95 w0 _ g s0_0 s0_1 s0_2 from aZ)) : g ≠ gb426)); have NB426_0 := aM ((by rw [hg]; exact Nat.ne_of_gt (IsS95.lt (show IsS95 w0 _ g s0_0 s0_1 s0_2 from aZ)) : gb426 ≠ g)); replace HK := aM (KeepBut.trans aQ (KeepBut.of_below hb g none) (.inl rfl)); replace HB := aM (below_step aY hb); replace HI0 := aM (IsS95.below aZ hb); clear hb hbox hg) | ((with_reducible refine gate_callee (f := 82) rfl ?_); refine goesL_ (some 5) rfl rfl Try.func82 (by kernel_rfl) rfl #[.pointer (some ⟨g, 0, none⟩)] rfl aA ?_; (with_reducible refine (spec_l4Db.calls k g s0_0 s0_1 s0_2 t427 t430 t433 t434 w0 _ ?side1 ?side2 A2.out).mono ?_); (case side1 => exact aZ); (case side2 => exact aY); rintro e w30 ⟨v428, v431, rfl, ho0, ho1, hi, hb, hk⟩; refine ⟨_, rfl, ?_⟩; have HO429 := aM (Kd.R_lower (Kd.R_newM (M := fun k_ => (w.heap.size ≤ k_)) (Kd.R_mono (ok' := fun k_ => True) ho0 (fun _ hk_ => trivial)) (kS (w := w) (g := g)) (fun k_ h_ => h_)) (kS (w := w) (g := g))); have HO432 := aM (Kd.N_lower (Kd.N_mono (ok' := fun k_ => (w.heap.size ≤ k_) ∧ some k_ ≠ (v428 : Value).ownBlock ∧ k_ ≠ gb426 ∧ k_ ≠ g) ho1 (fun k_ hk_ => ⟨(Nat.le_trans (kS (w := w) (g := g)) hk_.1), hk_.2, (Kd.freshB (g := gb426) aK k_ hk_.1), (IsS95.fresh aZ k_ hk_.1)⟩)) (kS (w := w) (g := g))); replace BK426 := aM (KeepBut.blk hk (g' := gb426) aK NB426_0.out (by simp)); replace HK := aM (KeepBut.trans aQ hk (.inl rfl)); replace HB := aM (hb); replace HI0 := aM (hi); (try clear hb); (try clear hb2); (try clear hk); (try clear hi); (try clear ho0); (try clear ho1)) | ((with_reducible refine gate_dst (N := 3) rfl ?_); refine bE 3 (cs := #[.slice none 0 0, .slice none 0 0]) (t := 31) ?_; intro gb435 hg w31 hbox hb; have BK435 := aM (hbox); have GW435 := aM ((by rw [hg]; exact (kS (w := w) (g := g)) : w.heap.size ≤ gb435)); have GE435 := aM ((Nat.le_trans HW0.out (by rw [hg]; exact (kS (w := w) (g := g)) : w.heap.size ≤ gb435) : w0.heap.size ≤ gb435)); have NB426_435 := aM ((by rw [hg]; exact Nat.ne_of_lt (blk_lt (g := gb426) aK) : gb426 ≠ gb435)); have NB435_426 := aM ((by rw [hg]; exact Nat.ne_of_gt (blk_lt (g := gb426) aK) : gb435 ≠ gb426)); have NB0_435 := aM ((by rw [hg]; exact Nat.ne_of_lt (IsS95.lt (show IsS95 w0 _ g s0_0 t433 t434 from aZ)) : g ≠ gb435)); have NB435_0 := aM ((by rw [hg]; exact Nat.ne_of_gt (IsS95.lt (show IsS95 w0 _ g s0_0 t433 t434 from aZ)) : gb435 ≠ g)); replace HO429 := aM (Kd.R_below (aR HO429) hb); replace HO432 := aM (Kd.N_below (Kd.N_elderB (aN HO432) gb435 (Nat.le_of_eq hg.symm)) hb); replace BK426 := aM (kB gb426 #[.slice none 0 0, .slice none 0 0] 31 hb); replace HK := aM (KeepBut.trans aQ (KeepBut.of_below hb g none) (.inl rfl)); replace HB := aM (below_step aY hb); replace HI0 := aM (IsS95.below aZ hb); clear hb hbox hg; obtain ⟨Ao32, co32, eo32⟩ := Kd.R_slice HO429.out; subst eo32; have hnb33 := NB435_426.out; have hnc33 := NB426_435.out; have hnb34 := NB435_0.out; have hnc34 := NB0_435.out; have hcz35_0 : w31.cell? ⟨gb435, 0, none⟩ = some (.slice none 0 0) := (blk_cell BK435.out 0).trans rfl; have hcz35_1 : w31.cell? ⟨gb435, 1, none⟩ = some (.slice none 0 0) := (blk_cell BK435.out 1).trans rfl; have hfz35_0 := blk_frozen BK435.out 0; have hfz35_1 := blk_frozen BK435.out 1; obtain ⟨Ao36, co36, eo36⟩ := Kd.N_slice HO432.out; subst eo36) | ((with_reducible refine gate_callee (f := 83) rfl ?_); refine goesL_ (some 7) rfl rfl Try.func83 (by kernel_rfl) rfl #[.pointer (some ⟨g, 0, none⟩), .int .i64 14] rfl aA ?_; (with_reducible refine (spec_l1Below.calls g s0_0 t433 t434 14 t436 t437 t438 w0 _ ?side1 ?side2 A3.out).mono ?_); (case side1 => exact aZ); (case side2 => exact aY); rintro e w37 ⟨rfl, hi, hb, hk⟩; refine ⟨_, rfl, ?_⟩; replace BK426 := aM (KeepBut.blk hk (g' := gb426) (bF2 NB426_435.out BK426.out) NB426_0.out (by simp)); replace HO429 := aM (Kd.R_mono (Kd.R_keep (IsS95.apart (show IsS95 w0 _ g s0_0 t433 t434 from aZ) (by (with_reducible repeat apply pR); exact (rF1 HO429.out BK435.out (.slice Ao32 t427.length co32) (.slice Ao36 t430.length co36))) (by decide)) hk (fun _ h => h.2)) (fun _ h => h.1)); replace HO432 := aM (Kd.N_mono (Kd.N_keep (Kd.N_mono (ok := fun k_ => ((((w.heap.size ≤ k_)) ∧ (some k_ ≠ (.slice Ao32 t427.length co32 : Value).ownBlock ∧ (k_ ≠ gb426 ∧ k_ ≠ g))) ∧ k_ ≠ gb435)) (by (with_reducible repeat apply pN); exact (nF1 gb435 HO432.out (fun _ hk => hk.2) (.slice Ao32 t427.length co32) (.slice Ao36 t430.length co36))) (fun k_ hk_ => (⟨hk_, hk_.1.2.2.2⟩ : _ ∧ k_ ≠ g))) hk (fun _ h => h.2)) (fun _ h => h.1)); replace BK435 := aM (KeepBut.blk hk (g' := gb435) (bP2 BK435.out) NB435_0.out (by simp)); replace HK := aM (KeepBut.trans aQ hk (.inl rfl)); replace HB := aM (hb); replace HI0 := aM (hi); (try clear hb); (try clear hb2); (try clear hk); (try clear hi)))
     replace HO429 := aM (Kd.R_drew HO429.out)
     replace HO432 := aM (Kd.N_drew HO432.out)
     replace BK426 := aM (blk_drew BK426.out)
     replace BK435 := aM (blk_drew BK435.out)
     replace HI0 := aM (IsS95.drew HI0.out)
     replace HK := aM (keep_drew HK.out)
     replace HB := aM (below_drew1 HB.out)
     refine start_ (n := 7) (S := fun w' => w'.cell? ⟨gb435, 0, none⟩ = some (.slice Ao32 t427.length co32) ∧ w'.cell? ⟨gb435, 1, none⟩ = some (.slice Ao36 t430.length co36)) (ds := [6]) #[false, false, false, false, false, false, false] (by kernel_rfl) rfl rfl ⟨(blk_cell BK435.out 0).trans rfl, (blk_cell BK435.out 1).trans rfl⟩ (fun hHeld => ?_)
     generalize w37.drew = w38 at HO429 HO432 BK426 BK435 HI0 HK HB hHeld ⊢
     refine pure_ (i := 0) (N := some 21) (v := ?_) (a' := ?_) #[true, false, false, false, false, false, false] rfl rfl (by kernel_rfl) (fun _ _ _ h => h) (Or.inl ⟨by rfl, ?_⟩) ?_ ?_
     rotate_left
     ·exact aI
     rotate_left
     ·exact aP
     refine pure_ (i := 2) (N := some 23) (v := ?_) (a' := ?_) #[true, false, true, false, false, false, false] rfl rfl (by kernel_rfl) (fun _ _ _ h => h) (Or.inl ⟨by rfl, ?_⟩) ?_ ?_
     rotate_left
     ·exact aI
     rotate_left
     ·exact aP
     refine take_ (i := 1) (N := some 22) (v := ?_) (a' := ?_) #[true, true, true, false, false, false, false] rfl rfl (by kernel_rfl) (fun _ _ _ h => h) (Or.inl ⟨by rfl, ?_⟩) hHeld ?_ ?_
     rotate_left
     ·rintro w' ⟨s0, s1⟩
      go_simp
      with_reducible rfl
     rotate_left
     ·exact aP
     refine one_ (i := 3) (N := some 24) #[true, true, true, true, false, false, false] rfl rfl (by kernel_rfl) (by decide) (fun K hK => ?_)
     refine goes_ Try.func83 (by kernel_rfl) rfl #[.pointer (some ⟨g, 0, none⟩), .int .i64 4] (by rfl) rfl rfl aA ?_
     with_reducible refine (spec_l1Below.calls g s0_0 t437 t438 4 t448 t449 t450 w0 _ ?side1 ?side2 A26.out).mono ?_
     (case side1 => exact aZ)
     (case side2 => exact aY)
     rintro e w39 ⟨rfl, hi, hb, hk⟩
     refine ⟨_, rfl, ?_⟩
     have n0_ := aM (KeepBut.blk hk (g' := gb426) aK NB426_0.out (by simp))
     have n1_ := aM (Kd.R_mono (Kd.R_keep (IsS95.apart (show IsS95 w0 _ g s0_0 t437 t438 from aZ) (aR HO429) (by decide)) hk (fun _ h => h.2)) (fun _ h => h.1))
     have n2_ := aM (Kd.N_mono (Kd.N_keep (Kd.N_mono (ok := fun k_ => ((((w.heap.size ≤ k_)) ∧ (some k_ ≠ (.slice Ao32 t427.length co32 : Value).ownBlock ∧ (k_ ≠ gb426 ∧ k_ ≠ g))) ∧ k_ ≠ gb435)) (aN HO432) (fun k_ hk_ => (⟨hk_, hk_.1.2.2.2⟩ : _ ∧ k_ ≠ g))) hk (fun _ h => h.2)) (fun _ h => h.1))
     have n3_ := aM (KeepBut.blk hk (g' := gb435) aK NB435_0.out (by simp))
     have n4_ := aM (KeepBut.trans aQ hk (.inl rfl))
     have n5_ := aM (hb)
     have n6_ := aM (hi)
     clear BK426
     clear HO429
     clear HO432
     clear BK435
     clear HK
     clear HB
     clear HI0
     have BK426 := n0_
     have HO429 := n1_
     have HO432 := n2_
     have BK435 := n3_
     have HK := n4_
     have HB := n5_
     have HI0 := n6_
     clear n0_ n1_ n2_ n3_ n4_ n5_ n6_
     (try clear hb)
     (try clear hb2)
     (try clear hk)
     (try clear hi)
     have q40 : (t448 : Int) ≤ ((t427.length : Int) : Int) := aD
     obtain ⟨i040, hi040, _, hsz40, _⟩ := info_parts info74
     have hcut40 := cut_to (P := Try.prog) 28 74 .i64 Try.underlying28 hi040 Ao32 t427.length co32 t448 (aD) q40 (Kd.R_reads' HO429.out).2.1
     have hr40 := Kd.R_take (m := (t448 : Int).toNat) HO429.out (by omega)
     have hy40 : y451.length = (t448 : Int).toNat := (by rw [Ny451.out, List.length_take]; omega)
     rw [← Ny451.out] at hr40
     rw [← hy40] at hr40 hcut40
     clear hy40 hi040 hsz40 HO429
     have HO453 := aM hr40
     clear hr40
     replace q40 := eq_true q40
     refine hK.out _ _ ⟨(blk_cell BK435.out 0).trans rfl, (blk_cell BK435.out 1).trans rfl⟩ (fun hHeld => ?_)
     clear hK K
     refine nU 24 ?_
     refine pure_ (i := 4) (N := some 25) (v := ?_) (a' := ?_) #[true, true, true, true, true, false, false] rfl rfl (by kernel_rfl) (fun _ _ _ h => h) (Or.inl ⟨by rfl, ?_⟩) ?_ ?_
     rotate_left
     ·exact aI
     rotate_left
     ·exact aP
     refine pure_ (i := 5) (N := some 26) (v := ?_) (a' := ?_) #[true, true, true, true, true, true, false] rfl rfl (by kernel_rfl) (fun _ _ _ h => h) (Or.inl ⟨by rfl, ?_⟩) ?_ ?_
     rotate_left
     ·exact aI
     rotate_left
     ·exact aP
     refine last_ (i := 6) (N := none) #[true, true, true, true, true, true, true] rfl rfl (by kernel_rfl) (by decide) (fun K hK => ?_)
     have hs41 : w39.cell? ⟨gb435, 0, none⟩ = some (.slice Ao32 t427.length co32) := (blk_cell BK435.out 0).trans rfl
     have hfs41 := blk_frozen BK435.out 0
     have hns41_0 := NB426_435.out
     have hms41_0 := NB435_426.out
     refine skip_ (w1 := ?_) (by rfl) rfl ?_ ?_
     rotate_left
     ·go_simp
      rfl
     refine hK.out _ _ ?_
     clear hK K
     refine done_ (by kernel_rfl) ?_
     have hcz42_0 : w39.cell? ⟨gb435, 0, none⟩ = some (.slice Ao32 t427.length co32) := (blk_cell BK435.out 0).trans rfl
     have hcz42_1 : w39.cell? ⟨gb435, 1, none⟩ = some (.slice Ao36 t430.length co36) := (blk_cell BK435.out 1).trans rfl
     have hfz42_0 := blk_frozen BK435.out 0
     have hfz42_1 := blk_frozen BK435.out 1
     have hnb43 := NB426_0.out
     have hnc43 := NB0_426.out
     have hcz44_0 : w39.cell? ⟨gb426, 0, none⟩ = some (.slice none 0 0) := (blk_cell BK426.out 0).trans rfl
     have hcz44_1 : w39.cell? ⟨gb426, 1, none⟩ = some (.slice none 0 0) := (blk_cell BK426.out 1).trans rfl
     have hfz44_0 := blk_frozen BK426.out 0
     have hfz44_1 := blk_frozen BK426.out 1
     try go_wp2
     refine bodyPost_ret (results_cell_row rfl _ _ gb426 31 #[.slice Ao32 y451.length co32, .slice Ao36 t430.length co36] (0, 0) _ rfl (by (with_reducible repeat refine pB ?_); refine blk_put (cs := #[.slice Ao32 y451.length co32, .slice none 0 0]) ?_ 1 _ rfl; (with_reducible repeat refine pB ?_); refine blk_put (cs := #[.slice none 0 0, .slice none 0 0]) ?_ 0 _ rfl; (with_reducible repeat refine pB ?_); refine blk_far ?_ NB426_435.out _; (with_reducible repeat refine pB ?_); exact BK426.out) Try.underlying31 rfl (by kernel_rfl)) rfl ?_
     exact ⟨_, _, aE, by (with_reducible repeat apply pR); exact Kd.R_mono (Kd.R_far (p := ⟨gb426, 1, none⟩) (Kd.R_far (p := ⟨gb426, 0, none⟩) (Kd.R_far (p := ⟨gb435, 0, none⟩) (Kd.R_types (Kd.R_types HO453.out BK435.out (by decide)) BK426.out (by decide)) (fun _ hk => hk.1.2) (.slice Ao32 y451.length co32)) (fun _ hk => hk.2) (.slice Ao32 y451.length co32)) (fun _ hk => hk.2) (.slice Ao36 t430.length co36)) (fun _ hk => hk.1.1.1), by (with_reducible repeat apply pN); exact Kd.N_mono (Kd.N_far (p := ⟨gb426, 1, none⟩) (Kd.N_far (p := ⟨gb426, 0, none⟩) (Kd.N_far (p := ⟨gb435, 0, none⟩) (Kd.N_mono (Kd.N_mono HO432.out (fun k_ hk => (⟨hk, hk.2⟩ : _ ∧ k_ ≠ gb435))) (fun k_ hk => (⟨hk, hk.1.1.2.2.1⟩ : _ ∧ k_ ≠ gb426))) (fun _ hk => hk.1.2) (.slice Ao32 y451.length co32)) (fun _ hk => hk.2) (.slice Ao32 y451.length co32)) (fun _ hk => hk.2) (.slice Ao36 t430.length co36)) (fun _ hk => ⟨hk.1.1.1.1, obn hk.1.1.1.2.1⟩), aZ, aY, aQ⟩
    ·rw [if_neg c28] at H
     exact absurd H (by simp)
   ·rw [if_neg c27] at H
    exact absurd H (by simp)
  ·rw [if_neg c25] at H
   have c25b0 : (t436 == 1) = false := beq_eq_false_iff_ne.mpr c25
   have c25b1 : (t436 != 1) = true := bne_iff_ne.mpr c25
   by_cases c45 : t436 = 2
   ·rw [if_pos c45] at H
    have c45b0 : (t436 == 2) = true := beq_iff_eq.mpr c45
    have c45b1 : (t436 != 2) = false := bne_eq_false_iff_eq.mpr c45
    clear c45
    replace H := bM H
    obtain ⟨⟨t454, t455, t456⟩, A460, H⟩ := H
    dsimp only at H
    have A46 := aM A460
    clear A460
    replace H := bM H
    obtain ⟨⟨t457, t458, t459, t460, t461⟩, A470, H⟩ := H
    dsimp only at H
    have A47 := aM A470
    clear A470
    by_cases c48 : 0 ≤ t454
    ·rw [if_pos c48] at H
     have c48b0 : decide (0 ≤ t454) = true := decide_eq_true c48
     clear c48
     by_cases c49 : t454 < (t427.length : Int)
     ·rw [if_pos c49] at H
      have c49b0 : decide (t454 < (t427.length : Int)) = true := decide_eq_true c49
      clear c49
      obtain ⟨y462, hy462⟩ : ∃ y_ : List (S74), y_ = (t427.set (t454 : Int).toNat (⟨t457, t458, t459⟩ : S74)) := ⟨_, rfl⟩
      first | replace H := bY hy462 H | rw [← hy462] at H
      have Ny462 := aM hy462
      clear hy462
      simp only [Option.some.injEq, Prod.mk.injEq] at H
      obtain ⟨rfl, rfl, rfl, rfl⟩ := H
      go_enter Try.func74, Try.ntmps74
      try go_wp2_with (first | ((with_reducible refine gate_dst (N := 2) rfl ?_); refine bE 2 (cs := #[.slice none 0 0, .slice none 0 0]) (t := 31) ?_; intro gb426 hg w51 hbox hb; have BK426 := aM (hbox); have GW426 := aM ((by rw [hg]; exact (kS (w := w) (g := g)) : w.heap.size ≤ gb426)); have GE426 := aM ((Nat.le_trans HW0.out (by rw [hg]; exact (kS (w := w) (g := g)) : w.heap.size ≤ gb426) : w0.heap.size ≤ gb426)); have NB0_426 := aM ((by rw [hg]; exact Nat.ne_of_lt (IsS95.lt (show IsS95 w0 _ g s0_0 s0_1 s0_2 from aZ)) : g ≠ gb426)); have NB426_0 := aM ((by rw [hg]; exact Nat.ne_of_gt (IsS95.lt (show IsS95 w0 _ g s0_0 s0_1 s0_2 from aZ)) : gb426 ≠ g)); replace HK := aM (KeepBut.trans aQ (KeepBut.of_below hb g none) (.inl rfl)); replace HB := aM (below_step aY hb); replace HI0 := aM (IsS95.below aZ hb); clear hb hbox hg) | ((with_reducible refine gate_callee (f := 82) rfl ?_); refine goesL_ (some 5) rfl rfl Try.func82 (by kernel_rfl) rfl #[.pointer (some ⟨g, 0, none⟩)] rfl aA ?_; (with_reducible refine (spec_l4Db.calls k g s0_0 s0_1 s0_2 t427 t430 t433 t434 w0 _ ?side1 ?side2 A2.out).mono ?_); (case side1 => exact aZ); (case side2 => exact aY); rintro e w52 ⟨v428, v431, rfl, ho0, ho1, hi, hb, hk⟩; refine ⟨_, rfl, ?_⟩; have HO429 := aM (Kd.R_lower (Kd.R_newM (M := fun k_ => (w.heap.size ≤ k_)) (Kd.R_mono (ok' := fun k_ => True) ho0 (fun _ hk_ => trivial)) (kS (w := w) (g := g)) (fun k_ h_ => h_)) (kS (w := w) (g := g))); have HO432 := aM (Kd.N_lower (Kd.N_mono (ok' := fun k_ => (w.heap.size ≤ k_) ∧ some k_ ≠ (v428 : Value).ownBlock ∧ k_ ≠ gb426 ∧ k_ ≠ g) ho1 (fun k_ hk_ => ⟨(Nat.le_trans (kS (w := w) (g := g)) hk_.1), hk_.2, (Kd.freshB (g := gb426) aK k_ hk_.1), (IsS95.fresh aZ k_ hk_.1)⟩)) (kS (w := w) (g := g))); replace BK426 := aM (KeepBut.blk hk (g' := gb426) aK NB426_0.out (by simp)); replace HK := aM (KeepBut.trans aQ hk (.inl rfl)); replace HB := aM (hb); replace HI0 := aM (hi); (try clear hb); (try clear hb2); (try clear hk); (try clear hi); (try clear ho0); (try clear ho1)) | ((with_reducible refine gate_dst (N := 3) rfl ?_); refine bE 3 (cs := #[.slice none 0 0, .slice none 0 0]) (t := 31) ?_; intro gb435 hg w53 hbox hb; have BK435 := aM (hbox); have GW435 := aM ((by rw [hg]; exact (kS (w := w) (g := g)) : w.heap.size ≤ gb435)); have GE435 := aM ((Nat.le_trans HW0.out (by rw [hg]; exact (kS (w := w) (g := g)) : w.heap.size ≤ gb435) : w0.heap.size ≤ gb435)); have NB426_435 := aM ((by rw [hg]; exact Nat.ne_of_lt (blk_lt (g := gb426) aK) : gb426 ≠ gb435)); have NB435_426 := aM ((by rw [hg]; exact Nat.ne_of_gt (blk_lt (g := gb426) aK) : gb435 ≠ gb426)); have NB0_435 := aM ((by rw [hg]; exact Nat.ne_of_lt (IsS95.lt (show IsS95 w0 _ g s0_0 t433 t434 from aZ)) : g ≠ gb435)); have NB435_0 := aM ((by rw [hg]; exact Nat.ne_of_gt (IsS95.lt (show IsS95 w0 _ g s0_0 t433 t434 from aZ)) : gb435 ≠ g)); replace HO429 := aM (Kd.R_below (aR HO429) hb); replace HO432 := aM (Kd.N_below (Kd.N_elderB (aN HO432) gb435 (Nat.le_of_eq hg.symm)) hb); replace BK426 := aM (kB gb426 #[.slice none 0 0, .slice none 0 0] 31 hb); replace HK := aM (KeepBut.trans aQ (KeepBut.of_below hb g none) (.inl rfl)); replace HB := aM (below_step aY hb); replace HI0 := aM (IsS95.below aZ hb); clear hb hbox hg; obtain ⟨Ao54, co54, eo54⟩ := Kd.R_slice HO429.out; subst eo54; have hnb55 := NB435_426.out; have hnc55 := NB426_435.out; have hnb56 := NB435_0.out; have hnc56 := NB0_435.out; have hcz57_0 : w53.cell? ⟨gb435, 0, none⟩ = some (.slice none 0 0) := (blk_cell BK435.out 0).trans rfl; have hcz57_1 : w53.cell? ⟨gb435, 1, none⟩ = some (.slice none 0 0) := (blk_cell BK435.out 1).trans rfl; have hfz57_0 := blk_frozen BK435.out 0; have hfz57_1 := blk_frozen BK435.out 1; obtain ⟨Ao58, co58, eo58⟩ := Kd.N_slice HO432.out; subst eo58) | ((with_reducible refine gate_callee (f := 83) rfl ?_); refine goesL_ (some 7) rfl rfl Try.func83 (by kernel_rfl) rfl #[.pointer (some ⟨g, 0, none⟩), .int .i64 14] rfl aA ?_; (with_reducible refine (spec_l1Below.calls g s0_0 t433 t434 14 t436 t437 t438 w0 _ ?side1 ?side2 A3.out).mono ?_); (case side1 => exact aZ); (case side2 => exact aY); rintro e w59 ⟨rfl, hi, hb, hk⟩; refine ⟨_, rfl, ?_⟩; replace BK426 := aM (KeepBut.blk hk (g' := gb426) (bF2 NB426_435.out BK426.out) NB426_0.out (by simp)); replace HO429 := aM (Kd.R_mono (Kd.R_keep (IsS95.apart (show IsS95 w0 _ g s0_0 t433 t434 from aZ) (by (with_reducible repeat apply pR); exact (rF1 HO429.out BK435.out (.slice Ao54 t427.length co54) (.slice Ao58 t430.length co58))) (by decide)) hk (fun _ h => h.2)) (fun _ h => h.1)); replace HO432 := aM (Kd.N_mono (Kd.N_keep (Kd.N_mono (ok := fun k_ => ((((w.heap.size ≤ k_)) ∧ (some k_ ≠ (.slice Ao54 t427.length co54 : Value).ownBlock ∧ (k_ ≠ gb426 ∧ k_ ≠ g))) ∧ k_ ≠ gb435)) (by (with_reducible repeat apply pN); exact (nF1 gb435 HO432.out (fun _ hk => hk.2) (.slice Ao54 t427.length co54) (.slice Ao58 t430.length co58))) (fun k_ hk_ => (⟨hk_, hk_.1.2.2.2⟩ : _ ∧ k_ ≠ g))) hk (fun _ h => h.2)) (fun _ h => h.1)); replace BK435 := aM (KeepBut.blk hk (g' := gb435) (bP2 BK435.out) NB435_0.out (by simp)); replace HK := aM (KeepBut.trans aQ hk (.inl rfl)); replace HB := aM (hb); replace HI0 := aM (hi); (try clear hb); (try clear hb2); (try clear hk); (try clear hi)))
      replace HO429 := aM (Kd.R_drew HO429.out)
      replace HO432 := aM (Kd.N_drew HO432.out)
      replace BK426 := aM (blk_drew BK426.out)
      replace BK435 := aM (blk_drew BK435.out)
      replace HI0 := aM (IsS95.drew HI0.out)
      replace HK := aM (keep_drew HK.out)
      replace HB := aM (below_drew1 HB.out)
      refine start_ (n := 8) (S := fun w' => w'.cell? ⟨gb435, 0, none⟩ = some (.slice Ao54 t427.length co54) ∧ w'.cell? ⟨gb435, 1, none⟩ = some (.slice Ao58 t430.length co58)) (ds := [7]) #[false, false, false, false, false, false, false, false] (by kernel_rfl) rfl rfl ⟨(blk_cell BK435.out 0).trans rfl, (blk_cell BK435.out 1).trans rfl⟩ (fun hHeld => ?_); refine with_tabW spec_l4Any.tab8 spec_l4Any.bits8 (fun HT_ HW_ => ?_)
      generalize w59.drew = w60 at HO429 HO432 BK426 BK435 HI0 HK HB hHeld ⊢
      refine pU 0 29 ?_
      refine pU 2 31 ?_
      refine pU 4 33 ?_
      refine tU2 1 30 hHeld ?_
      refine oU 3 32 (fun K hK => ?_)
      refine goes_ Try.func83 (by kernel_rfl) rfl #[.pointer (some ⟨g, 0, none⟩), .int .i64 4] (by rfl) rfl rfl aA ?_
      with_reducible refine (spec_l1Below.calls g s0_0 t437 t438 4 t454 t455 t456 w0 _ ?side1 ?side2 A46.out).mono ?_
      (case side1 => exact aZ)
      (case side2 => exact aY)
      rintro e w61 ⟨rfl, hi, hb, hk⟩
      refine ⟨_, rfl, ?_⟩
      have n0_ := aM (KeepBut.blk hk (g' := gb426) aK NB426_0.out (by simp))
      have n1_ := aM (Kd.R_mono (Kd.R_keep (IsS95.apart (show IsS95 w0 _ g s0_0 t437 t438 from aZ) (aR HO429) (by decide)) hk (fun _ h => h.2)) (fun _ h => h.1))
      have n2_ := aM (Kd.N_mono (Kd.N_keep (Kd.N_mono (ok := fun k_ => ((((w.heap.size ≤ k_)) ∧ (some k_ ≠ (.slice Ao54 t427.length co54 : Value).ownBlock ∧ (k_ ≠ gb426 ∧ k_ ≠ g))) ∧ k_ ≠ gb435)) (aN HO432) (fun k_ hk_ => (⟨hk_, hk_.1.2.2.2⟩ : _ ∧ k_ ≠ g))) hk (fun _ h => h.2)) (fun _ h => h.1))
      have n3_ := aM (KeepBut.blk hk (g' := gb435) aK NB435_0.out (by simp))
      have n4_ := aM (KeepBut.trans aQ hk (.inl rfl))
      have n5_ := aM (hb)
      have n6_ := aM (hi)
      clear BK426
      clear HO429
      clear HO432
      clear BK435
      clear HK
      clear HB
      clear HI0
      have BK426 := n0_
      have HO429 := n1_
      have HO432 := n2_
      have BK435 := n3_
      have HK := n4_
      have HB := n5_
      have HI0 := n6_
      clear n0_ n1_ n2_ n3_ n4_ n5_ n6_
      (try clear hb)
      (try clear hb2)
      (try clear hk)
      (try clear hi)
      refine hK.out _ _ ⟨(blk_cell BK435.out 0).trans rfl, (blk_cell BK435.out 1).trans rfl⟩ (fun hHeld => ?_)
      clear hK K
      refine nU 32 ?_
      refine oU 5 34 (fun K hK => ?_)
      refine goes_ Try.func85 (by kernel_rfl) rfl #[.pointer (some ⟨g, 0, none⟩)] (by rfl) rfl rfl aA ?_
      with_reducible refine (spec_l2Any.calls g s0_0 t455 t456 t457 t458 t459 t460 t461 w0 _ ?side1 ?side2 A47.out).mono ?_
      (case side1 => exact aZ)
      (case side2 => exact aY)
      rintro e w62 ⟨rfl, hi, hb, hk⟩
      refine ⟨_, rfl, ?_⟩
      have n0_ := aM (KeepBut.blk hk (g' := gb426) aK NB426_0.out (by simp))
      have n1_ := aM (Kd.R_mono (Kd.R_keep (IsS95.apart (show IsS95 w0 _ g s0_0 t455 t456 from aZ) (aR HO429) (by decide)) hk (fun _ h => h.2)) (fun _ h => h.1))
      have n2_ := aM (Kd.N_mono (Kd.N_keep (Kd.N_mono (ok := fun k_ => ((((w.heap.size ≤ k_)) ∧ (some k_ ≠ (.slice Ao54 t427.length co54 : Value).ownBlock ∧ (k_ ≠ gb426 ∧ k_ ≠ g))) ∧ k_ ≠ gb435)) (aN HO432) (fun k_ hk_ => (⟨hk_, hk_.1.2.2.2⟩ : _ ∧ k_ ≠ g))) hk (fun _ h => h.2)) (fun _ h => h.1))
      have n3_ := aM (KeepBut.blk hk (g' := gb435) aK NB435_0.out (by simp))
      have n4_ := aM (KeepBut.trans aQ hk (.inl rfl))
      have n5_ := aM (hb)
      have n6_ := aM (hi)
      clear BK426
      clear HO429
      clear HO432
      clear BK435
      clear HK
      clear HB
      clear HI0
      have BK426 := n0_
      have HO429 := n1_
      have HO432 := n2_
      have BK435 := n3_
      have HK := n4_
      have HB := n5_
      have HI0 := n6_
      clear n0_ n1_ n2_ n3_ n4_ n5_ n6_
      (try clear hb)
      (try clear hb2)
      (try clear hk)
      (try clear hi)
      have p50 : 0 ≤ (t454 : Int) := aD
      have q50 : (t454 : Int) < ((t427.length : Int) : Int) := aD
      obtain ⟨go50, co50, eo50, gb50, gl50, cl50, HG50⟩ := Kd.R_form HO429.out (by omega)
      (first | cases eo50 | (injection eo50 with ea_ en_ ec_; (first | subst ea_ | (injection ea_ with ea_; subst ea_)); subst ec_; clear en_))
      have GB50 := aM gb50
      have GG50 := aM HG50
      clear gb50 gl50 HG50
      obtain ⟨ce50, hcl50, hM50, hcc50, hfr50⟩ := Kd.R_elem HO429.out z74 (t454 : Int) p50 q50
      obtain rfl := k74_openM hM50
      have hx50_0 : World.cell? _ ⟨go50, (t454 : Int).toNat * 3, none⟩ = some (.string ((rd_T74 t427 t454).f0)) := hcc50 0 _ rfl
      have hx50_1 : World.cell? _ ⟨go50, (t454 : Int).toNat * 3 + 1, none⟩ = some (.int .i64 ((rd_T74 t427 t454).f1)) := hcc50 1 _ rfl
      have hx50_2 : World.cell? _ ⟨go50, (t454 : Int).toNat * 3 + 2, none⟩ = some (.int .i64 ((rd_T74 t427 t454).f2)) := hcc50 2 _ rfl
      have hf50_0 : World.frozen? _ ⟨go50, (t454 : Int).toNat * 3, none⟩ = false := hfr50 0
      have hf50_1 : World.frozen? _ ⟨go50, (t454 : Int).toNat * 3 + 1, none⟩ = false := hfr50 1
      have hf50_2 : World.frozen? _ ⟨go50, (t454 : Int).toNat * 3 + 2, none⟩ = false := hfr50 2
      clear hcl50 hcc50 hfr50 hM50
      replace p50 := eq_true p50
      replace q50 := eq_true q50
      have HN0_go50 := aM (show g ≠ go50 from by have h_ := IsS95.own_ne HI0.out HO429.out (by decide); intro e_; exact h_ (by rw [e_]; rfl))
      obtain ⟨ce63, hcl63, hM63, hcc63, hfr63⟩ := Kd.R_elem HO429.out z74 (t454 : Int) (aD) (by have h_ : (t454 : Int) < ((t427.length : Int) : Int) := aD; first | exact h_ | (have e_ := (Kd.R_reads' HO429.out).1; omega) | simpa using h_)
      obtain rfl := k74_openM hM63
      have HP63 := (Kd.R_seg HO429.out (t454 : Int) (aD) (by have h_ : (t454 : Int) < ((t427.length : Int) : Int) := aD; first | exact h_ | (have e_ := (Kd.R_reads' HO429.out).1; omega) | simpa using h_) (seg := [.string t457, .int .i64 t458, .int .i64 t459]) (j := 0) hcl63 hcc63 (show 3 ≤ 3 from by decide) (x' := (⟨t457, t458, t459⟩ : S74)) (k74_mkM _ _ _ (⟨t457, t458, t459⟩ : S74) ) (fun _ hk => hk)).1
      rw [← Ny462.out] at HP63
      have HQ63 := aM HP63
      clear hcl63 hcc63 hfr63 hM63 HP63
      refine hK.out _ _ ⟨(blk_cell BK435.out 0).trans rfl, (blk_cell BK435.out 1).trans rfl⟩ (fun hHeld => ?_)
      clear hK K
      refine nU 34 ?_
      refine pU 6 35 ?_
      refine last_ (i := 7) (N := none) #[true, true, true, true, true, true, true, true] rfl rfl (one_of HT_.out (by kernel_rfl)) (by decide) (fun K hK => ?_)
      refine skip_ (w1 := ?_) (by rfl) rfl ?_ ?_
      rotate_left
      ·go_simp
       rfl
      refine hK.out _ _ ?_
      clear hK K
      refine done_ (done_of HT_.out (by kernel_rfl)) ?_
      have n0_ : Aside0 (Kd.R k74 74 (((w62.setCell ⟨go50, (t454 : Int).toNat * 3, none⟩ (.string t457)).setCell ⟨go50, (t454 : Int).toNat * 3 + 1, none⟩ (.int .i64 t458)).setCell ⟨go50, (t454 : Int).toNat * 3 + 2, none⟩ (.int .i64 t459)) w.heap.size (fun k_ => (w.heap.size ≤ k_)) (.slice (some ⟨go50, 0, none⟩) t427.length co54) y462) := ⟨by (with_reducible repeat apply pR); exact Kd.R_mono HQ63.out (fun _ hk => hk.1)⟩
      have n1_ : Aside0 (Kd.N k45 45 (((w62.setCell ⟨go50, (t454 : Int).toNat * 3, none⟩ (.string t457)).setCell ⟨go50, (t454 : Int).toNat * 3 + 1, none⟩ (.int .i64 t458)).setCell ⟨go50, (t454 : Int).toNat * 3 + 2, none⟩ (.int .i64 t459)) w.heap.size (fun k_ => (w.heap.size ≤ k_) ∧ some k_ ≠ (.slice (some ⟨go50, 0, none⟩) t427.length co54 : Value).ownBlock ∧ k_ ≠ gb426 ∧ k_ ≠ g ∧ k_ ≠ gb435) (.slice Ao58 t430.length co58) t430) := ⟨by (with_reducible repeat apply pN); exact Kd.N_mono (Kd.N_far (p := ⟨go50, (t454 : Int).toNat * 3 + 2, none⟩) (Kd.N_far (p := ⟨go50, (t454 : Int).toNat * 3 + 1, none⟩) (Kd.N_far (p := ⟨go50, (t454 : Int).toNat * 3, none⟩) (Kd.N_mono HO432.out (fun k_ hk => (⟨hk, fun e_ => hk.1.2.1 (by rw [e_]; rfl)⟩ : _ ∧ k_ ≠ go50))) (fun _ hk => hk.2) (.string t457)) (fun _ hk => hk.2) (.int .i64 t458)) (fun _ hk => hk.2) (.int .i64 t459)) (fun _ hk => ⟨hk.1.1.1, ⟨hk.1.1.2.1, ⟨hk.1.1.2.2.1, ⟨hk.1.1.2.2.2, hk.1.2⟩⟩⟩⟩)⟩
      have n2_ : Aside0 ((((w62.setCell ⟨go50, (t454 : Int).toNat * 3, none⟩ (.string t457)).setCell ⟨go50, (t454 : Int).toNat * 3 + 1, none⟩ (.int .i64 t458)).setCell ⟨go50, (t454 : Int).toNat * 3 + 2, none⟩ (.int .i64 t459)).heap[gb426]? = some (.cells #[.slice none 0 0, .slice none 0 0] 31 (0, 0))) := ⟨by (with_reducible repeat refine pB ?_); refine blk_far ?_ (by have h_ := Kd.R_ne HO429.out BK426.out (by decide); intro e_; exact h_ (by rw [e_]; rfl)) _; (with_reducible repeat refine pB ?_); refine blk_far ?_ (by have h_ := Kd.R_ne HO429.out BK426.out (by decide); intro e_; exact h_ (by rw [e_]; rfl)) _; (with_reducible repeat refine pB ?_); refine blk_far ?_ (by have h_ := Kd.R_ne HO429.out BK426.out (by decide); intro e_; exact h_ (by rw [e_]; rfl)) _; (with_reducible repeat refine pB ?_); exact BK426.out⟩
      have n3_ : Aside0 ((((w62.setCell ⟨go50, (t454 : Int).toNat * 3, none⟩ (.string t457)).setCell ⟨go50, (t454 : Int).toNat * 3 + 1, none⟩ (.int .i64 t458)).setCell ⟨go50, (t454 : Int).toNat * 3 + 2, none⟩ (.int .i64 t459)).heap[gb435]? = some (.cells #[.slice (some ⟨go50, 0, none⟩) t427.length co54, .slice Ao58 t430.length co58] 31 (0, 0))) := ⟨by (with_reducible repeat refine pB ?_); refine blk_far ?_ (by have h_ := Kd.R_ne HO429.out BK435.out (by decide); intro e_; exact h_ (by rw [e_]; rfl)) _; (with_reducible repeat refine pB ?_); refine blk_far ?_ (by have h_ := Kd.R_ne HO429.out BK435.out (by decide); intro e_; exact h_ (by rw [e_]; rfl)) _; (with_reducible repeat refine pB ?_); refine blk_far ?_ (by have h_ := Kd.R_ne HO429.out BK435.out (by decide); intro e_; exact h_ (by rw [e_]; rfl)) _; (with_reducible repeat refine pB ?_); exact BK435.out⟩
      have n4_ : Aside0 (IsS95 w0 (((w62.setCell ⟨go50, (t454 : Int).toNat * 3, none⟩ (.string t457)).setCell ⟨go50, (t454 : Int).toNat * 3 + 1, none⟩ (.int .i64 t458)).setCell ⟨go50, (t454 : Int).toNat * 3 + 2, none⟩ (.int .i64 t459)) g s0_0 t460 t461) := ⟨by repeat (first | (with_reducible first | exact HI0.out | apply IsS95.alloc | apply IsS95.drewN | apply IsS95.drew | apply IsS95.set_1 | apply IsS95.set_2 | refine IsS95.far ?_ HN0_go50.out _ | refine IsS95.far ?_ HN0_go50.out _ | refine IsS95.far ?_ HN0_go50.out _ | refine IsS95.far ?_ NB0_426.out _ | refine IsS95.far ?_ NB0_435.out _) | exact HI0.out)⟩
      have n5_ : Aside0 (KeepBut w (((w62.setCell ⟨go50, (t454 : Int).toNat * 3, none⟩ (.string t457)).setCell ⟨go50, (t454 : Int).toNat * 3 + 1, none⟩ (.int .i64 t458)).setCell ⟨go50, (t454 : Int).toNat * 3 + 2, none⟩ (.int .i64 t459)) g none) := ⟨by repeat (first | (with_reducible first | exact HK.out | apply KeepBut.set_ | apply keep_drewN | apply keep_drew | apply keep_alloc | refine keep_far ?_ GB50.out _ | refine keep_far ?_ GB50.out _ | refine keep_far ?_ GB50.out _ | refine keep_far ?_ GW426.out _ | refine keep_far ?_ GW435.out _) | exact HK.out)⟩
      have n6_ : Aside0 (Below w0.heap.size w0 (((w62.setCell ⟨go50, (t454 : Int).toNat * 3, none⟩ (.string t457)).setCell ⟨go50, (t454 : Int).toNat * 3 + 1, none⟩ (.int .i64 t458)).setCell ⟨go50, (t454 : Int).toNat * 3 + 2, none⟩ (.int .i64 t459))) := ⟨by repeat (first | (with_reducible first | exact HB.out | apply below_alloc | apply pw_below_drewN | apply below_drew1 | refine below_set ?_ (Nat.le_trans HL.out GB50.out) | refine below_set ?_ (Nat.le_trans HL.out GB50.out) | refine below_set ?_ (Nat.le_trans HL.out GB50.out) | refine below_set ?_ (IsS95.ge HI0.out) | refine below_set ?_ GE426.out | refine below_set ?_ GE435.out) | exact HB.out)⟩
      (try clear HO429)
      (try clear HO432)
      (try clear BK426)
      (try clear BK435)
      (try clear HI0)
      (try clear HK)
      (try clear HB)
      generalize (((w62.setCell ⟨go50, (t454 : Int).toNat * 3, none⟩ (.string t457)).setCell ⟨go50, (t454 : Int).toNat * 3 + 1, none⟩ (.int .i64 t458)).setCell ⟨go50, (t454 : Int).toNat * 3 + 2, none⟩ (.int .i64 t459)) = w64 at n0_ n1_ n2_ n3_ n4_ n5_ n6_ ⊢
      have HO429 := n0_
      have HO432 := n1_
      have BK426 := n2_
      have BK435 := n3_
      have HI0 := n4_
      have HK := n5_
      have HB := n6_
      clear n0_ n1_ n2_ n3_ n4_ n5_ n6_
      have hcz65_0 : w64.cell? ⟨gb435, 0, none⟩ = some (.slice (some ⟨go50, 0, none⟩) t427.length co54) := (blk_cell BK435.out 0).trans rfl
      have hcz65_1 : w64.cell? ⟨gb435, 1, none⟩ = some (.slice Ao58 t430.length co58) := (blk_cell BK435.out 1).trans rfl
      have hfz65_0 := blk_frozen BK435.out 0
      have hfz65_1 := blk_frozen BK435.out 1
      have hnb66 := NB426_0.out
      have hnc66 := NB0_426.out
      have hcz67_0 : w64.cell? ⟨gb426, 0, none⟩ = some (.slice none 0 0) := (blk_cell BK426.out 0).trans rfl
      have hcz67_1 : w64.cell? ⟨gb426, 1, none⟩ = some (.slice none 0 0) := (blk_cell BK426.out 1).trans rfl
      have hfz67_0 := blk_frozen BK426.out 0
      have hfz67_1 := blk_frozen BK426.out 1
      try go_wp2
      refine bodyPost_ret (results_cell_row rfl _ _ gb426 31 #[.slice (some ⟨go50, 0, none⟩) t427.length co54, .slice Ao58 t430.length co58] (0, 0) _ rfl (bP2 BK426.out) Try.underlying31 rfl (by kernel_rfl)) rfl ?_
      exact ⟨_, _, aE, by (with_reducible repeat apply pR); exact Kd.R_mono (Kd.R_far (p := ⟨gb426, 1, none⟩) (Kd.R_far (p := ⟨gb426, 0, none⟩) (Kd.R_types HO429.out BK426.out (by decide)) (fun _ hk => hk.2) (.slice (some ⟨go50, 0, none⟩) t427.length co54)) (fun _ hk => hk.2) (.slice Ao58 t430.length co58)) (fun _ hk => hk.1), by (with_reducible repeat apply pN); exact Kd.N_mono (Kd.N_far (p := ⟨gb426, 1, none⟩) (Kd.N_far (p := ⟨gb426, 0, none⟩) (Kd.N_mono HO432.out (fun k_ hk => (⟨hk, hk.2.2.1⟩ : _ ∧ k_ ≠ gb426))) (fun _ hk => hk.2) (.slice (some ⟨go50, 0, none⟩) t427.length co54)) (fun _ hk => hk.2) (.slice Ao58 t430.length co58)) (fun _ hk => ⟨hk.1.1, obn hk.1.2.1⟩), aZ, aY, aQ⟩
     ·rw [if_neg c49] at H
      exact absurd H (by simp)
    ·rw [if_neg c48] at H
     exact absurd H (by simp)
   ·rw [if_neg c45] at H
    have c45b0 : (t436 == 2) = false := beq_eq_false_iff_ne.mpr c45
    have c45b1 : (t436 != 2) = true := bne_iff_ne.mpr c45
    simp only [Option.some.injEq, Prod.mk.injEq] at H
    obtain ⟨rfl, rfl, rfl, rfl⟩ := H
    go_enter Try.func74, Try.ntmps74
    go_wp2_with (first | ((with_reducible refine gate_dst (N := 2) rfl ?_); refine bE 2 (cs := #[.slice none 0 0, .slice none 0 0]) (t := 31) ?_; intro gb426 hg w68 hbox hb; have BK426 := aM (hbox); have GW426 := aM ((by rw [hg]; exact (kS (w := w) (g := g)) : w.heap.size ≤ gb426)); have GE426 := aM ((Nat.le_trans HW0.out (by rw [hg]; exact (kS (w := w) (g := g)) : w.heap.size ≤ gb426) : w0.heap.size ≤ gb426)); have NB0_426 := aM ((by rw [hg]; exact Nat.ne_of_lt (IsS95.lt (show IsS95 w0 _ g s0_0 s0_1 s0_2 from aZ)) : g ≠ gb426)); have NB426_0 := aM ((by rw [hg]; exact Nat.ne_of_gt (IsS95.lt (show IsS95 w0 _ g s0_0 s0_1 s0_2 from aZ)) : gb426 ≠ g)); replace HK := aM (KeepBut.trans aQ (KeepBut.of_below hb g none) (.inl rfl)); replace HB := aM (below_step aY hb); replace HI0 := aM (IsS95.below aZ hb); clear hb hbox hg) | ((with_reducible refine gate_callee (f := 82) rfl ?_); refine goesL_ (some 5) rfl rfl Try.func82 (by kernel_rfl) rfl #[.pointer (some ⟨g, 0, none⟩)] rfl aA ?_; (with_reducible refine (spec_l4Db.calls k g s0_0 s0_1 s0_2 t427 t430 t433 t434 w0 _ ?side1 ?side2 A2.out).mono ?_); (case side1 => exact aZ); (case side2 => exact aY); rintro e w69 ⟨v428, v431, rfl, ho0, ho1, hi, hb, hk⟩; refine ⟨_, rfl, ?_⟩; have HO429 := aM (Kd.R_lower (Kd.R_newM (M := fun k_ => (w.heap.size ≤ k_)) (Kd.R_mono (ok' := fun k_ => True) ho0 (fun _ hk_ => trivial)) (kS (w := w) (g := g)) (fun k_ h_ => h_)) (kS (w := w) (g := g))); have HO432 := aM (Kd.N_lower (Kd.N_mono (ok' := fun k_ => (w.heap.size ≤ k_) ∧ some k_ ≠ (v428 : Value).ownBlock ∧ k_ ≠ gb426 ∧ k_ ≠ g) ho1 (fun k_ hk_ => ⟨(Nat.le_trans (kS (w := w) (g := g)) hk_.1), hk_.2, (Kd.freshB (g := gb426) aK k_ hk_.1), (IsS95.fresh aZ k_ hk_.1)⟩)) (kS (w := w) (g := g))); replace BK426 := aM (KeepBut.blk hk (g' := gb426) aK NB426_0.out (by simp)); replace HK := aM (KeepBut.trans aQ hk (.inl rfl)); replace HB := aM (hb); replace HI0 := aM (hi); (try clear hb); (try clear hb2); (try clear hk); (try clear hi); (try clear ho0); (try clear ho1)) | ((with_reducible refine gate_dst (N := 3) rfl ?_); refine bE 3 (cs := #[.slice none 0 0, .slice none 0 0]) (t := 31) ?_; intro gb435 hg w70 hbox hb; have BK435 := aM (hbox); have GW435 := aM ((by rw [hg]; exact (kS (w := w) (g := g)) : w.heap.size ≤ gb435)); have GE435 := aM ((Nat.le_trans HW0.out (by rw [hg]; exact (kS (w := w) (g := g)) : w.heap.size ≤ gb435) : w0.heap.size ≤ gb435)); have NB426_435 := aM ((by rw [hg]; exact Nat.ne_of_lt (blk_lt (g := gb426) aK) : gb426 ≠ gb435)); have NB435_426 := aM ((by rw [hg]; exact Nat.ne_of_gt (blk_lt (g := gb426) aK) : gb435 ≠ gb426)); have NB0_435 := aM ((by rw [hg]; exact Nat.ne_of_lt (IsS95.lt (show IsS95 w0 _ g s0_0 t433 t434 from aZ)) : g ≠ gb435)); have NB435_0 := aM ((by rw [hg]; exact Nat.ne_of_gt (IsS95.lt (show IsS95 w0 _ g s0_0 t433 t434 from aZ)) : gb435 ≠ g)); replace HO429 := aM (Kd.R_below (aR HO429) hb); replace HO432 := aM (Kd.N_below (Kd.N_elderB (aN HO432) gb435 (Nat.le_of_eq hg.symm)) hb); replace BK426 := aM (kB gb426 #[.slice none 0 0, .slice none 0 0] 31 hb); replace HK := aM (KeepBut.trans aQ (KeepBut.of_below hb g none) (.inl rfl)); replace HB := aM (below_step aY hb); replace HI0 := aM (IsS95.below aZ hb); clear hb hbox hg; obtain ⟨Ao71, co71, eo71⟩ := Kd.R_slice HO429.out; subst eo71; have hnb72 := NB435_426.out; have hnc72 := NB426_435.out; have hnb73 := NB435_0.out; have hnc73 := NB0_435.out; have hcz74_0 : w70.cell? ⟨gb435, 0, none⟩ = some (.slice none 0 0) := (blk_cell BK435.out 0).trans rfl; have hcz74_1 : w70.cell? ⟨gb435, 1, none⟩ = some (.slice none 0 0) := (blk_cell BK435.out 1).trans rfl; have hfz74_0 := blk_frozen BK435.out 0; have hfz74_1 := blk_frozen BK435.out 1; obtain ⟨Ao75, co75, eo75⟩ := Kd.N_slice HO432.out; subst eo75) | ((with_reducible refine gate_callee (f := 83) rfl ?_); refine goesL_ (some 7) rfl rfl Try.func83 (by kernel_rfl) rfl #[.pointer (some ⟨g, 0, none⟩), .int .i64 14] rfl aA ?_; (with_reducible refine (spec_l1Below.calls g s0_0 t433 t434 14 t436 t437 t438 w0 _ ?side1 ?side2 A3.out).mono ?_); (case side1 => exact aZ); (case side2 => exact aY); rintro e w76 ⟨rfl, hi, hb, hk⟩; refine ⟨_, rfl, ?_⟩; replace BK426 := aM (KeepBut.blk hk (g' := gb426) (bF2 NB426_435.out BK426.out) NB426_0.out (by simp)); replace HO429 := aM (Kd.R_mono (Kd.R_keep (IsS95.apart (show IsS95 w0 _ g s0_0 t433 t434 from aZ) (by (with_reducible repeat apply pR); exact (rF1 HO429.out BK435.out (.slice Ao71 t427.length co71) (.slice Ao75 t430.length co75))) (by decide)) hk (fun _ h => h.2)) (fun _ h => h.1)); replace HO432 := aM (Kd.N_mono (Kd.N_keep (Kd.N_mono (ok := fun k_ => ((((w.heap.size ≤ k_)) ∧ (some k_ ≠ (.slice Ao71 t427.length co71 : Value).ownBlock ∧ (k_ ≠ gb426 ∧ k_ ≠ g))) ∧ k_ ≠ gb435)) (by (with_reducible repeat apply pN); exact (nF1 gb435 HO432.out (fun _ hk => hk.2) (.slice Ao71 t427.length co71) (.slice Ao75 t430.length co75))) (fun k_ hk_ => (⟨hk_, hk_.1.2.2.2⟩ : _ ∧ k_ ≠ g))) hk (fun _ h => h.2)) (fun _ h => h.1)); replace BK435 := aM (KeepBut.blk hk (g' := gb435) (bP2 BK435.out) NB435_0.out (by simp)); replace HK := aM (KeepBut.trans aQ hk (.inl rfl)); replace HB := aM (hb); replace HI0 := aM (hi); (try clear hb); (try clear hb2); (try clear hk); (try clear hi); have hcz77_0 : w76.cell? ⟨gb435, 0, none⟩ = some (.slice Ao71 t427.length co71) := (blk_cell BK435.out 0).trans rfl; have hcz77_1 : w76.cell? ⟨gb435, 1, none⟩ = some (.slice Ao75 t430.length co75) := (blk_cell BK435.out 1).trans rfl; have hfz77_0 := blk_frozen BK435.out 0; have hfz77_1 := blk_frozen BK435.out 1; have hnb78 := NB426_0.out; have hnc78 := NB0_426.out; have hcz79_0 : w76.cell? ⟨gb426, 0, none⟩ = some (.slice none 0 0) := (blk_cell BK426.out 0).trans rfl; have hcz79_1 : w76.cell? ⟨gb426, 1, none⟩ = some (.slice none 0 0) := (blk_cell BK426.out 1).trans rfl; have hfz79_0 := blk_frozen BK426.out 0; have hfz79_1 := blk_frozen BK426.out 1))
    refine bodyPost_ret (results_cell_row rfl _ _ gb426 31 #[.slice Ao71 t427.length co71, .slice Ao75 t430.length co75] (0, 0) _ rfl (bP2 BK426.out) Try.underlying31 rfl (by kernel_rfl)) rfl ?_
    exact ⟨_, _, aE, by (with_reducible repeat apply pR); exact Kd.R_mono (Kd.R_far (p := ⟨gb426, 1, none⟩) (Kd.R_far (p := ⟨gb426, 0, none⟩) (Kd.R_types HO429.out BK426.out (by decide)) (fun _ hk => hk.2) (.slice Ao71 t427.length co71)) (fun _ hk => hk.2) (.slice Ao75 t430.length co75)) (fun _ hk => hk.1.1), by (with_reducible repeat apply pN); exact Kd.N_mono (Kd.N_far (p := ⟨gb426, 1, none⟩) (Kd.N_far (p := ⟨gb426, 0, none⟩) (Kd.N_mono HO432.out (fun k_ hk => (⟨hk, hk.1.2.2.1⟩ : _ ∧ k_ ≠ gb426))) (fun _ hk => hk.2) (.slice Ao71 t427.length co71)) (fun _ hk => hk.2) (.slice Ao75 t430.length co75)) (fun _ hk => ⟨hk.1.1.1, obn hk.1.1.2.1⟩), aZ, aY, aQ⟩

end Go.Proofs.Yteddnlklfjpgoaa.PFnInsertDelete
