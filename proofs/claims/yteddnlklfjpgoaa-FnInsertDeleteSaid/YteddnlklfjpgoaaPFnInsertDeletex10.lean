import Derived.Test.YteddnlklfjpgoaaPFnInsertDeletex0
import Derived.Test.YteddnlklfjpgoaaPFnInsertDeletex6
import Derived.Test.YteddnlklfjpgoaaPFnInsertDeletex7
import Derived.Test.YteddnlklfjpgoaaPFnInsertDeletex8
import Derived.Test.YteddnlklfjpgoaaPFnInsertDeletex9
namespace Go.Proofs.Yteddnlklfjpgoaa.PFnInsertDelete
open Go.RowKit Go.Proofs.YteddnlklfjpgoaaW.PrintWords Go.Proofs.YteddnlklfjpgoaaW.PrintLast Go.Proofs.YteddnlklfjpgoaaW.PrintMore
attribute [local go_sem] max2_int min2_int max_two min_two max_three min_three max_four min_four
set_option linter.unusedVariables false
set_option linter.unusedSimpArgs false

/-! ### impl_InsertFact: function 20 -/
mutual
def impl_InsertFact.j0 : Nat → Bool → List (S74) → List (S45) → Int → List Int → List (S74) → List (S45) → Option ((List (S74)) × (List (S45)) × Bool)
 | 0, _, _, _, _, _, _, _ => none
 | k + 1, x31, x361000, x361001, x362000, x362001, x370000, x370001 => if x31 = true then (some (x370000, x370001, false)) else (impl_InsertFact.l0 k 0 x361000 x361001 x362000 x362001 x370000 x370001)
def impl_InsertFact.l0 : Nat → Int → List (S74) → List (S45) → Int → List Int → List (S74) → List (S45) → Option ((List (S74)) × (List (S45)) × Bool)
 | 0, _, _, _, _, _, _, _ => none
 | k + 1, x7, x361000, x361001, x362000, x362001, x370000, x370001 => if x7 < (x361001.length : Int) then (if 0 ≤ x7 then ((impl_CompareFacts.f k ((rd_T45 x361001 x7).f0) ((rd_T45 x361001 x7).f1) x362000 x362001).bind fun t374 => (if t374 < 0 then (impl_InsertFact.l0 k (wrap64 (x7 + 1)) x361000 x361001 x362000 x362001 x370000 x370001) else ((some (([] : List Int) : List Int)).bind fun y375 => (if y375.length + x362001.length < 17592186044416 then ((impl_Fact_52.f x370001 x7 (([(⟨x362000, (y375 ++ x362001)⟩ : S45)] : List (S45)))).bind fun t384 => (some (x370000, t384, true))) else (none))))) else (none)) else ((some (([] : List Int) : List Int)).bind fun y387 => (if y387.length + x362001.length < 17592186044416 then ((impl_Fact_52.f x370001 x7 (([(⟨x362000, (y387 ++ x362001)⟩ : S45)] : List (S45)))).bind fun t396 => (some (x370000, t396, true))) else (none)))
end
def impl_InsertFact.f (k : Nat) (l0_0 : List (S74)) (l0_1 : List (S45)) (a1_0 : Int) (l1_1 : List Int) : Option ((List (S74)) × (List (S45)) × Bool) := (impl_copyDatabase.f k l0_0 l0_1).bind fun bt363 => ((impl_IsValidDatabase.f l0_0 l0_1).bind fun t370 => (if t370 = true then ((impl_isFact.f l0_0 a1_0 l1_1).bind fun t371 => (if t371 = true then ((impl_FactIndex.f l0_0 l0_1 a1_0 l1_1).bind fun t372 => (if t372 ≥ 0 then (impl_InsertFact.j0 k true l0_0 l0_1 a1_0 l1_1 bt363.1 bt363.2) else (impl_InsertFact.j0 k ((l0_1.length : Int) == 14) l0_0 l0_1 a1_0 l1_1 bt363.1 bt363.2))) else (impl_InsertFact.j0 k true l0_0 l0_1 a1_0 l1_1 bt363.1 bt363.2))) else (impl_InsertFact.j0 k true l0_0 l0_1 a1_0 l1_1 bt363.1 bt363.2)))
def impl_InsertFact.T5 : Bool × List (List Nat × List Nat) := (true, [([], []), ([], []), ([1], [1]), ([2], [2]), ([0, 3], [0, 3]), ([4], [4]), ([5], [5]), ([6, 5], [5, 6]), ([5], [5]), ([7, 8, 5], [5, 7, 8]), ([9, 5], [5, 9]), ([5], [5]), ([10, 11, 5, 5], [5, 10, 11]), ([12, 5], [5, 12]), ([5, 13], [5, 13])])
def impl_InsertFact.B5 : List Nat := [0, 0, 2, 6, 15, 31, 63, 127, 63, 511, 1023, 63, 4095, 8191, 16383]
theorem impl_InsertFact.tab5 : rtab .any (opsOf Try.f20 5) = impl_InsertFact.T5 := by kernel_rfl
theorem impl_InsertFact.bits5 : waitsOk impl_InsertFact.T5.2 impl_InsertFact.B5 = true := by kernel_rfl
def impl_InsertFact.T7 : Bool × List (List Nat × List Nat) := (true, [([], []), ([0], [0]), ([], []), ([], []), ([3], [3]), ([], []), ([], []), ([6], [6]), ([5, 7], [5, 7]), ([4, 8], [4, 8]), ([9], [9]), ([1, 2, 10, 8], [1, 2, 10]), ([0, 1, 2, 3, 4, 5, 6, 7, 8, 9, 10, 11], []), ([12, 11, 11, 0, 1, 2, 3, 4, 5, 6, 7, 8, 9, 10, 11], [11, 12])])
def impl_InsertFact.B7 : List Nat := [0, 1, 0, 0, 8, 0, 0, 64, 224, 504, 1016, 2047, 4095, 8191]
theorem impl_InsertFact.tab7 : rtab .any (opsOf Try.f20 7) = impl_InsertFact.T7 := by kernel_rfl
theorem impl_InsertFact.bits7 : waitsOk impl_InsertFact.T7.2 impl_InsertFact.B7 = true := by kernel_rfl
theorem int_own {e base : Nat} {w : World} {ok : Nat → Prop} {v : Value} {xs : List Int} (h : (Kd.int .i64).R e w base ok v xs) : (Kd.int .i64).R e w base (fun k => some k = v.ownBlock) v xs := by
 obtain ⟨h0, inner, ho, hr⟩ := h
 exact ⟨fun k hk => hk.symm, inner, ho, hr.imp_ (fun p cs hp => hp)⟩
set_option maxHeartbeats 8000000 in
set_option maxRecDepth 100000 in
theorem impl_InsertFact.calls (k : Nat) (A0_0 : Option Addr) (c0_0 : Nat) (l0_0 : List (S74)) (A0_1 : Option Addr) (c0_1 : Nat) (l0_1 : List (S45)) (a1_0 : Int) (A1_1 : Option Addr) (c1_1 : Nat) (l1_1 : List Int) (r1 : List (S74)) (r2 : List (S45)) (r3 : Bool) (w : World) (hr0_0 : Kd.C k74 w A0_0 l0_0.length l0_0) (hc0_0 : l0_0.length ≤ c0_0) (hr0_1 : Kd.C k45 w A0_1 l0_1.length l0_1) (hc0_1 : l0_1.length ≤ c0_1) (hr1_1 : Kd.C (Kd.int .i64) w A1_1 l1_1.length l1_1) (hc1_1 : l1_1.length ≤ c1_1) (h : impl_InsertFact.f k l0_0 l0_1 a1_0 l1_1 = some (r1, r2, r3)) :
  Calls Try.prog 20 #[.agg #[.slice A0_0 l0_0.length c0_0, .slice A0_1 l0_1.length c0_1], .agg #[.int .i64 a1_0, .slice A1_1 l1_1.length c1_1]] w fun e w' => ∃ v0_ v1_ : Value, e = .returned (.tuple #[.agg #[v0_, v1_], .bool r3]) ∧ Kd.R k74 74 w' w.heap.size (fun _ => True) v0_ r1 ∧ Kd.S k45 45 w' w.heap.size (fun _ => True) v1_ r2 ∧ Below w.heap.size w w' := by
 have hu31 := Try.underlying31
 have hu45 := Try.underlying45
 have HR0_0 := aM hr0_0
 have HC0_0 := aM hc0_0
 clear hr0_0 hc0_0
 have HR0_1 := aM hr0_1
 have HC0_1 := aM hc0_1
 clear hr0_1 hc0_1
 have HR1_1 := aM hr1_1
 have HC1_1 := aM hc1_1
 clear hr1_1 hc1_1
 have HB := aM (Below.refl w.heap.size w)
 have H : ((impl_copyDatabase.f k l0_0 l0_1).bind fun bt363 => ((impl_IsValidDatabase.f l0_0 l0_1).bind fun t370 => (if t370 = true then ((impl_isFact.f l0_0 a1_0 l1_1).bind fun t371 => (if t371 = true then ((impl_FactIndex.f l0_0 l0_1 a1_0 l1_1).bind fun t372 => (if t372 ≥ 0 then (impl_InsertFact.j0 k true l0_0 l0_1 a1_0 l1_1 bt363.1 bt363.2) else (impl_InsertFact.j0 k ((l0_1.length : Int) == 14) l0_0 l0_1 a1_0 l1_1 bt363.1 bt363.2))) else (impl_InsertFact.j0 k true l0_0 l0_1 a1_0 l1_1 bt363.1 bt363.2))) else (impl_InsertFact.j0 k true l0_0 l0_1 a1_0 l1_1 bt363.1 bt363.2)))) = some (r1, r2, r3) := h
 clear h
 replace H := bM H
 obtain ⟨⟨t363, t366⟩, A30, H⟩ := H
 dsimp only at H
 have A3 := aM A30
 clear A30
 have HC4 := aM H
 clear H
 go_enter Try.func20, Try.ntmps20
 go_upto_region 2 with (first | ((with_reducible refine gate_dst (N := 2) rfl ?_); (try (refine gate_guard (by rfl) ?_; dsimp only)); refine bE 2 (cs := #[.slice A0_0 l0_0.length c0_0, .slice A0_1 l0_1.length c0_1]) (t := 31) ?_; intro gb360 hg w5 hbox hb; have BK360 := aM (hbox); have GW360 := aM ((by rw [hg]; exact (below_size aB) : w.heap.size ≤ gb360)); have GE360 := aM ((by rw [hg]; exact (below_size aB) : w.heap.size ≤ gb360)); replace HB := aM (below_step aB hb); clear hb hbox hg) | ((with_reducible refine gate_dst (N := 3) rfl ?_); (try (refine gate_guard (by rfl) ?_; dsimp only)); refine bE 3 (cs := #[.int .i64 a1_0, .slice A1_1 l1_1.length c1_1]) (t := 45) ?_; intro gb361 hg w6 hbox hb; have BK361 := aM (hbox); have GW361 := aM ((by rw [hg]; exact (below_size aG) : w.heap.size ≤ gb361)); have GE361 := aM ((by rw [hg]; exact (below_size aG) : w.heap.size ≤ gb361)); have NB360_361 := aM ((by rw [hg]; exact Nat.ne_of_lt (blk_lt (g := gb360) aK) : gb360 ≠ gb361)); have NB361_360 := aM ((by rw [hg]; exact Nat.ne_of_gt (blk_lt (g := gb360) aK) : gb361 ≠ gb360)); replace BK360 := aM (kB gb360 #[.slice A0_0 l0_0.length c0_0, .slice A0_1 l0_1.length c0_1] 31 hb); replace HB := aM (below_step aG hb); clear hb hbox hg) | ((with_reducible refine gate_dst (N := 4) rfl ?_); (try (refine gate_guard (by rfl) ?_; dsimp only)); refine bE 4 (cs := #[.slice none 0 0, .slice none 0 0]) (t := 31) ?_; intro gb362 hg w7 hbox hb; have n0_ := aM (kB gb360 #[.slice A0_0 l0_0.length c0_0, .slice A0_1 l0_1.length c0_1] 31 hb); have n1_ := aM (kB gb361 #[.int .i64 a1_0, .slice A1_1 l1_1.length c1_1] 45 hb); have n2_ := aM (below_step aG hb); have n3_ := aM (hbox); have n4_ := aM ((by rw [hg]; exact (below_size aG) : w.heap.size ≤ gb362)); have n5_ := aM ((by rw [hg]; exact (below_size aG) : w.heap.size ≤ gb362)); have n6_ := aM ((by rw [hg]; exact Nat.ne_of_lt (blk_lt (g := gb360) aK) : gb360 ≠ gb362)); have n7_ := aM ((by rw [hg]; exact Nat.ne_of_gt (blk_lt (g := gb360) aK) : gb362 ≠ gb360)); have n8_ := aM ((by rw [hg]; exact Nat.ne_of_lt (blk_lt (g := gb361) aK) : gb361 ≠ gb362)); have n9_ := aM ((by rw [hg]; exact Nat.ne_of_gt (blk_lt (g := gb361) aK) : gb362 ≠ gb361)); clear BK360; clear BK361; clear HB; have BK360 := n0_; have BK361 := n1_; have HB := n2_; have BK362 := n3_; have GW362 := n4_; have GE362 := n5_; have NB360_362 := n6_; have NB362_360 := n7_; have NB361_362 := n8_; have NB362_361 := n9_; clear n0_ n1_ n2_ n3_ n4_ n5_ n6_ n7_ n8_ n9_; clear hb hbox hg; have hnb8 := NB360_361.out; have hnc8 := NB361_360.out; have hnb9 := NB360_362.out; have hnc9 := NB362_360.out; have hcz10_0 : w7.cell? ⟨gb360, 0, none⟩ = some (.slice A0_0 l0_0.length c0_0) := (blk_cell BK360.out 0).trans rfl; have hcz10_1 : w7.cell? ⟨gb360, 1, none⟩ = some (.slice A0_1 l0_1.length c0_1) := (blk_cell BK360.out 1).trans rfl; have hfz10_0 := blk_frozen BK360.out 0; have hfz10_1 := blk_frozen BK360.out 1) | ((with_reducible refine gate_callee (f := 38) rfl ?_); refine goesL_ (some 9) rfl rfl Try.func38 (by kernel_rfl) rfl #[.agg #[.slice A0_0 l0_0.length c0_0, .slice A0_1 l0_1.length c0_1]] rfl aA ?_; (with_reducible refine (impl_copyDatabase.calls k _ _ l0_0 _ _ l0_1 t363 t366 _ ?side1 ?side2 ?side3 ?side4 A3.out).mono ?_); (case side1 => exact aC); (case side2 => exact HC0_0.out); (case side3 => exact aC); (case side4 => exact HC0_1.out); rintro e w11 ⟨v364, v367, rfl, ho0, ho1, hb⟩; refine ⟨_, rfl, ?_⟩; have n0_ := aM (Kd.R_lower (Kd.R_newM (M := fun k_ => (w.heap.size ≤ k_)) ho0 (below_size aG) (fun k_ h_ => h_)) (below_size aG)); have n1_ := aM (Kd.S_lower (Kd.S_mono (ok' := fun k_ => (w.heap.size ≤ k_) ∧ some k_ ≠ (v364 : Value).ownBlock ∧ k_ ≠ gb360 ∧ k_ ≠ gb361 ∧ k_ ≠ gb362) (Kd.S_bound (Kd.S_apart' ho1 (Kd.R_typed ho0) (by decide))) (fun k_ hk_ => ⟨(Nat.le_trans (below_size aG) hk_.2.1), hk_.1.2, (Kd.freshB (g := gb360) aK k_ hk_.2.1), (Kd.freshB (g := gb361) aK k_ hk_.2.1), (Kd.freshB (g := gb362) aK k_ hk_.2.1)⟩)) (below_size aG)); have n2_ := aM (kB gb360 #[.slice A0_0 l0_0.length c0_0, .slice A0_1 l0_1.length c0_1] 31 hb); have n3_ := aM (kB gb361 #[.int .i64 a1_0, .slice A1_1 l1_1.length c1_1] 45 hb); have n4_ := aM (kB gb362 #[.slice none 0 0, .slice none 0 0] 31 hb); have n5_ := aM (below_step aG hb); clear BK360; clear BK361; clear BK362; clear HB; have HO365 := n0_; have HO368 := n1_; have BK360 := n2_; have BK361 := n3_; have BK362 := n4_; have HB := n5_; clear n0_ n1_ n2_ n3_ n4_ n5_; (try clear hb); (try clear hb2); (try clear hk); (try clear hi); (try clear ho0); (try clear ho1)) | ((with_reducible refine gate_dst (N := 6) rfl ?_); (try (refine gate_guard (by rfl) ?_; dsimp only)); refine bE 6 (cs := #[.slice none 0 0, .slice none 0 0]) (t := 31) ?_; intro gb369 hg w12 hbox hb; have n0_ := aM (Kd.R_below (aR HO365) hb); have n1_ := aM (Kd.S_below (Kd.S_elderB (aS HO368) gb369 (Nat.le_of_eq hg.symm)) hb); have n2_ := aM (kB gb360 #[.slice A0_0 l0_0.length c0_0, .slice A0_1 l0_1.length c0_1] 31 hb); have n3_ := aM (kB gb361 #[.int .i64 a1_0, .slice A1_1 l1_1.length c1_1] 45 hb); have n4_ := aM (kB gb362 #[.slice none 0 0, .slice none 0 0] 31 hb); have n5_ := aM (below_step aG hb); have n6_ := aM (hbox); have n7_ := aM ((by rw [hg]; exact (below_size aG) : w.heap.size ≤ gb369)); have n8_ := aM ((by rw [hg]; exact (below_size aG) : w.heap.size ≤ gb369)); have n9_ := aM ((by rw [hg]; exact Nat.ne_of_lt (blk_lt (g := gb360) aK) : gb360 ≠ gb369)); have n10_ := aM ((by rw [hg]; exact Nat.ne_of_gt (blk_lt (g := gb360) aK) : gb369 ≠ gb360)); have n11_ := aM ((by rw [hg]; exact Nat.ne_of_lt (blk_lt (g := gb361) aK) : gb361 ≠ gb369)); have n12_ := aM ((by rw [hg]; exact Nat.ne_of_gt (blk_lt (g := gb361) aK) : gb369 ≠ gb361)); have n13_ := aM ((by rw [hg]; exact Nat.ne_of_lt (blk_lt (g := gb362) aK) : gb362 ≠ gb369)); have n14_ := aM ((by rw [hg]; exact Nat.ne_of_gt (blk_lt (g := gb362) aK) : gb369 ≠ gb362)); clear HO365; clear HO368; clear BK360; clear BK361; clear BK362; clear HB; have HO365 := n0_; have HO368 := n1_; have BK360 := n2_; have BK361 := n3_; have BK362 := n4_; have HB := n5_; have BK369 := n6_; have GW369 := n7_; have GE369 := n8_; have NB360_369 := n9_; have NB369_360 := n10_; have NB361_369 := n11_; have NB369_361 := n12_; have NB362_369 := n13_; have NB369_362 := n14_; clear n0_ n1_ n2_ n3_ n4_ n5_ n6_ n7_ n8_ n9_ n10_ n11_ n12_ n13_ n14_; clear hb hbox hg; obtain ⟨Ao13, co13, eo13⟩ := Kd.R_slice HO365.out; subst eo13; have hnb14 := NB369_360.out; have hnc14 := NB360_369.out; have hnb15 := NB369_361.out; have hnc15 := NB361_369.out; have hnb16 := NB369_362.out; have hnc16 := NB362_369.out; have hcz17_0 : w12.cell? ⟨gb369, 0, none⟩ = some (.slice none 0 0) := (blk_cell BK369.out 0).trans rfl; have hcz17_1 : w12.cell? ⟨gb369, 1, none⟩ = some (.slice none 0 0) := (blk_cell BK369.out 1).trans rfl; have hfz17_0 := blk_frozen BK369.out 0; have hfz17_1 := blk_frozen BK369.out 1; obtain ⟨Ao18, co18, eo18⟩ := Kd.S_slice HO368.out; subst eo18))
 (try simp only [Act.put, List.setIfInBounds_toArray, List.set_cons_zero, List.set_cons_succ])
 go_cut [31] (fun v31 wc => ∃ (kq : Nat) (x31_3 : Bool), v31 = .bool x31_3 ∧ Aside0 (impl_InsertFact.j0 kq x31_3 l0_0 l0_1 a1_0 l1_1 t363 t366 = some (r1, r2, r3)) ∧ Aside0 (kq ≤ k) ∧ Aside0 (Kd.R k74 74 wc w.heap.size (fun k_ => (w.heap.size ≤ k_)) (.slice Ao13 t363.length co13) t363) ∧ Aside0 (Kd.S k45 45 wc w.heap.size (fun k_ => (w.heap.size ≤ k_) ∧ some k_ ≠ ((.slice Ao13 t363.length co13) : Value).ownBlock ∧ k_ ≠ gb360 ∧ k_ ≠ gb361 ∧ k_ ≠ gb362 ∧ k_ ≠ gb369) (.slice Ao18 t366.length co18) t366) ∧ Aside0 (wc.heap[gb360]? = some (.cells #[(.slice A0_0 l0_0.length c0_0), (.slice A0_1 l0_1.length c0_1)] 31 (0, 0))) ∧ Aside0 (wc.heap[gb361]? = some (.cells #[.int .i64 a1_0, (.slice A1_1 l1_1.length c1_1)] 45 (0, 0))) ∧ Aside0 (wc.heap[gb362]? = some (.cells #[(.slice none 0 0), (.slice none 0 0)] 31 (0, 0))) ∧ Aside0 (wc.heap[gb369]? = some (.cells #[(.slice Ao13 t363.length co13), (.slice Ao18 t366.length co18)] 31 (0, 0))) ∧ Aside0 (Below w.heap.size w wc))
 case first =>
  have H := HC4.out
  clear HC4
  replace H := bM H
  obtain ⟨t370, A190, H⟩ := H
  have A19 := aM A190
  clear A190
  by_cases c20 : t370 = true
  ·subst c20
   replace H := iT H
   replace H := bM H
   obtain ⟨t371, A210, H⟩ := H
   have A21 := aM A210
   clear A210
   by_cases c22 : t371 = true
   ·subst c22
    replace H := iT H
    replace H := bM H
    obtain ⟨t372, A230, H⟩ := H
    have A23 := aM A230
    clear A230
    by_cases c24 : t372 ≥ 0
    ·rw [if_pos c24] at H
     have c24b0 : decide (0 ≤ t372) = true := decide_eq_true c24
     clear c24
     (first | rw [c24b0] | (simp only [i64_w, i32_w]; rw [c24b0]) | skip)
     have H' := aM H
     clear H
     have hnb25 := NB360_361.out
     have hnc25 := NB361_360.out
     have hnb26 := NB360_362.out
     have hnc26 := NB362_360.out
     have hnb27 := NB360_369.out
     have hnc27 := NB369_360.out
     have hcz28_0 : w12.cell? ⟨gb360, 0, none⟩ = some (.slice A0_0 l0_0.length c0_0) := (blk_cell BK360.out 0).trans rfl
     have hcz28_1 : w12.cell? ⟨gb360, 1, none⟩ = some (.slice A0_1 l0_1.length c0_1) := (blk_cell BK360.out 1).trans rfl
     have hfz28_0 := blk_frozen BK360.out 0
     have hfz28_1 := blk_frozen BK360.out 1
     go_wp2_with (first | ((with_reducible refine gate_callee (f := 27) rfl ?_); refine goesL_ (some 11) rfl rfl Try.func27 (by kernel_rfl) rfl #[.agg #[.slice A0_0 l0_0.length c0_0, .slice A0_1 l0_1.length c0_1]] rfl aA ?_; (with_reducible refine (impl_IsValidDatabase.calls _ _ l0_0 _ _ l0_1 true _ ?side1 ?side2 ?side3 ?side4 A19.out).mono ?_); (case side1 => exact Kd.C_below HR0_0.out aG); (case side2 => exact HC0_0.out); (case side3 => exact Kd.C_below HR0_1.out aG); (case side4 => exact HC0_1.out); rintro e w29 ⟨rfl, hb⟩; refine ⟨_, rfl, ?_⟩; replace HO365 := aM (Kd.R_below (by (with_reducible repeat apply pR); exact (rF1 HO365.out BK369.out (.slice Ao13 t363.length co13) (.slice Ao18 t366.length co18))) hb); replace HO368 := aM (Kd.S_below (by (with_reducible repeat apply pS); exact (Kd.S_mono (Kd.S_far (p := ⟨gb369, 1, none⟩) (Kd.S_far (p := ⟨gb369, 0, none⟩) (Kd.S_mono HO368.out (fun k_ hk => (⟨hk, hk.2⟩ : _ ∧ k_ ≠ gb369))) (fun _ hk => hk.2) (.slice Ao13 t363.length co13)) (fun _ hk => hk.2) (.slice Ao18 t366.length co18)) (fun _ h_ => h_.1))) hb); replace BK360 := aM (blk_below (g := gb360) (bF2 NB360_369.out BK360.out) hb); replace BK361 := aM (blk_below (g := gb361) (bF2 NB361_369.out BK361.out) hb); replace BK362 := aM (blk_below (g := gb362) (bF2 NB362_369.out BK362.out) hb); replace BK369 := aM (blk_below (g := gb369) (bP2 BK369.out) hb); replace HB := aM (below_step aG hb); (try clear hb); (try clear hb2); (try clear hk); (try clear hi); have hcz30_0 : w29.cell? ⟨gb360, 0, none⟩ = some (.slice A0_0 l0_0.length c0_0) := (blk_cell BK360.out 0).trans rfl; have hcz30_1 : w29.cell? ⟨gb360, 1, none⟩ = some (.slice A0_1 l0_1.length c0_1) := (blk_cell BK360.out 1).trans rfl; have hfz30_0 := blk_frozen BK360.out 0; have hfz30_1 := blk_frozen BK360.out 1; have hnb31 := NB361_362.out; have hnc31 := NB362_361.out; have hnb32 := NB361_369.out; have hnc32 := NB369_361.out; have hcz33_0 : w29.cell? ⟨gb361, 0, none⟩ = some (.int .i64 a1_0) := (blk_cell BK361.out 0).trans rfl; have hcz33_1 : w29.cell? ⟨gb361, 1, none⟩ = some (.slice A1_1 l1_1.length c1_1) := (blk_cell BK361.out 1).trans rfl; have hfz33_0 := blk_frozen BK361.out 0; have hfz33_1 := blk_frozen BK361.out 1) | (go_at_call 50; (with_reducible refine (impl_isFact.calls _ _ l0_0 a1_0 _ _ l1_1 true _ ?side1 ?side2 ?side3 ?side4 A21.out).mono ?_); (case side1 => exact aC); (case side2 => exact HC0_0.out); (case side3 => exact aC); (case side4 => exact HC1_1.out); rintro e w34 ⟨rfl, hb⟩; have n0_ := aM (Kd.R_below (aR HO365) hb); have n1_ := aM (Kd.S_below (aS HO368) hb); have n2_ := aM (kB gb360 #[.slice A0_0 l0_0.length c0_0, .slice A0_1 l0_1.length c0_1] 31 hb); have n3_ := aM (kB gb361 #[.int .i64 a1_0, .slice A1_1 l1_1.length c1_1] 45 hb); have n4_ := aM (kB gb362 #[.slice none 0 0, .slice none 0 0] 31 hb); have n5_ := aM (kB gb369 #[.slice Ao13 t363.length co13, .slice Ao18 t366.length co18] 31 hb); have n6_ := aM (below_step aG hb); clear HO365; clear HO368; clear BK360; clear BK361; clear BK362; clear BK369; clear HB; have HO365 := n0_; have HO368 := n1_; have BK360 := n2_; have BK361 := n3_; have BK362 := n4_; have BK369 := n5_; have HB := n6_; clear n0_ n1_ n2_ n3_ n4_ n5_ n6_; (try clear hb); (try clear hb2); (try clear hk); (try clear hi); have hcz35_0 : w34.cell? ⟨gb360, 0, none⟩ = some (.slice A0_0 l0_0.length c0_0) := (blk_cell BK360.out 0).trans rfl; have hcz35_1 : w34.cell? ⟨gb360, 1, none⟩ = some (.slice A0_1 l0_1.length c0_1) := (blk_cell BK360.out 1).trans rfl; have hfz35_0 := blk_frozen BK360.out 0; have hfz35_1 := blk_frozen BK360.out 1; have hcz36_0 : w34.cell? ⟨gb361, 0, none⟩ = some (.int .i64 a1_0) := (blk_cell BK361.out 0).trans rfl; have hcz36_1 : w34.cell? ⟨gb361, 1, none⟩ = some (.slice A1_1 l1_1.length c1_1) := (blk_cell BK361.out 1).trans rfl; have hfz36_0 := blk_frozen BK361.out 0; have hfz36_1 := blk_frozen BK361.out 1) | (go_at_call 31; (with_reducible refine (impl_FactIndex.calls _ _ l0_0 _ _ l0_1 a1_0 _ _ l1_1 t372 _ ?side1 ?side2 ?side3 ?side4 ?side5 ?side6 A23.out).mono ?_); (case side1 => exact aC); (case side2 => exact HC0_0.out); (case side3 => exact aC); (case side4 => exact HC0_1.out); (case side5 => exact aC); (case side6 => exact HC1_1.out); rintro e w37 ⟨rfl, hb⟩; have n0_ := aM (Kd.R_below (aR HO365) hb); have n1_ := aM (Kd.S_below (aS HO368) hb); have n2_ := aM (kB gb360 #[.slice A0_0 l0_0.length c0_0, .slice A0_1 l0_1.length c0_1] 31 hb); have n3_ := aM (kB gb361 #[.int .i64 a1_0, .slice A1_1 l1_1.length c1_1] 45 hb); have n4_ := aM (kB gb362 #[.slice none 0 0, .slice none 0 0] 31 hb); have n5_ := aM (kB gb369 #[.slice Ao13 t363.length co13, .slice Ao18 t366.length co18] 31 hb); have n6_ := aM (below_step aG hb); clear HO365; clear HO368; clear BK360; clear BK361; clear BK362; clear BK369; clear HB; have HO365 := n0_; have HO368 := n1_; have BK360 := n2_; have BK361 := n3_; have BK362 := n4_; have BK369 := n5_; have HB := n6_; clear n0_ n1_ n2_ n3_ n4_ n5_ n6_; (try clear hb); (try clear hb2); (try clear hk); (try clear hi)))
     go_meet
     case rel => exact ⟨_, (true), aX, H', ⟨by first | omega | exact Nat.le_refl _⟩, ⟨by (with_reducible repeat apply pR); exact Kd.R_mono HO365.out (fun _ hk => hk.1)⟩, ⟨by (with_reducible repeat apply pS); exact Kd.S_mono HO368.out (fun _ hk => ⟨hk.1.1, ⟨hk.1.2.1, ⟨hk.1.2.2.1, ⟨hk.1.2.2.2.1, ⟨hk.1.2.2.2.2, hk.2⟩⟩⟩⟩⟩)⟩, ⟨aK⟩, ⟨aK⟩, ⟨aK⟩, ⟨aK⟩, ⟨aG⟩⟩
    ·rw [if_neg c24] at H
     have c24b0 : decide (0 ≤ t372) = false := decide_eq_false c24
     clear c24
     (first | rw [c24b0] | (simp only [i64_w, i32_w]; rw [c24b0]) | skip)
     have H' := aM H
     clear H
     have hnb38 := NB360_361.out
     have hnc38 := NB361_360.out
     have hnb39 := NB360_362.out
     have hnc39 := NB362_360.out
     have hnb40 := NB360_369.out
     have hnc40 := NB369_360.out
     have hcz41_0 : w12.cell? ⟨gb360, 0, none⟩ = some (.slice A0_0 l0_0.length c0_0) := (blk_cell BK360.out 0).trans rfl
     have hcz41_1 : w12.cell? ⟨gb360, 1, none⟩ = some (.slice A0_1 l0_1.length c0_1) := (blk_cell BK360.out 1).trans rfl
     have hfz41_0 := blk_frozen BK360.out 0
     have hfz41_1 := blk_frozen BK360.out 1
     go_wp2_with (first | ((with_reducible refine gate_callee (f := 27) rfl ?_); refine goesL_ (some 11) rfl rfl Try.func27 (by kernel_rfl) rfl #[.agg #[.slice A0_0 l0_0.length c0_0, .slice A0_1 l0_1.length c0_1]] rfl aA ?_; (with_reducible refine (impl_IsValidDatabase.calls _ _ l0_0 _ _ l0_1 true _ ?side1 ?side2 ?side3 ?side4 A19.out).mono ?_); (case side1 => exact Kd.C_below HR0_0.out aG); (case side2 => exact HC0_0.out); (case side3 => exact Kd.C_below HR0_1.out aG); (case side4 => exact HC0_1.out); rintro e w42 ⟨rfl, hb⟩; refine ⟨_, rfl, ?_⟩; replace HO365 := aM (Kd.R_below (by (with_reducible repeat apply pR); exact (rF1 HO365.out BK369.out (.slice Ao13 t363.length co13) (.slice Ao18 t366.length co18))) hb); replace HO368 := aM (Kd.S_below (by (with_reducible repeat apply pS); exact (Kd.S_mono (Kd.S_far (p := ⟨gb369, 1, none⟩) (Kd.S_far (p := ⟨gb369, 0, none⟩) (Kd.S_mono HO368.out (fun k_ hk => (⟨hk, hk.2⟩ : _ ∧ k_ ≠ gb369))) (fun _ hk => hk.2) (.slice Ao13 t363.length co13)) (fun _ hk => hk.2) (.slice Ao18 t366.length co18)) (fun _ h_ => h_.1))) hb); replace BK360 := aM (blk_below (g := gb360) (bF2 NB360_369.out BK360.out) hb); replace BK361 := aM (blk_below (g := gb361) (bF2 NB361_369.out BK361.out) hb); replace BK362 := aM (blk_below (g := gb362) (bF2 NB362_369.out BK362.out) hb); replace BK369 := aM (blk_below (g := gb369) (bP2 BK369.out) hb); replace HB := aM (below_step aG hb); (try clear hb); (try clear hb2); (try clear hk); (try clear hi); have hcz43_0 : w42.cell? ⟨gb360, 0, none⟩ = some (.slice A0_0 l0_0.length c0_0) := (blk_cell BK360.out 0).trans rfl; have hcz43_1 : w42.cell? ⟨gb360, 1, none⟩ = some (.slice A0_1 l0_1.length c0_1) := (blk_cell BK360.out 1).trans rfl; have hfz43_0 := blk_frozen BK360.out 0; have hfz43_1 := blk_frozen BK360.out 1; have hnb44 := NB361_362.out; have hnc44 := NB362_361.out; have hnb45 := NB361_369.out; have hnc45 := NB369_361.out; have hcz46_0 : w42.cell? ⟨gb361, 0, none⟩ = some (.int .i64 a1_0) := (blk_cell BK361.out 0).trans rfl; have hcz46_1 : w42.cell? ⟨gb361, 1, none⟩ = some (.slice A1_1 l1_1.length c1_1) := (blk_cell BK361.out 1).trans rfl; have hfz46_0 := blk_frozen BK361.out 0; have hfz46_1 := blk_frozen BK361.out 1) | (go_at_call 50; (with_reducible refine (impl_isFact.calls _ _ l0_0 a1_0 _ _ l1_1 true _ ?side1 ?side2 ?side3 ?side4 A21.out).mono ?_); (case side1 => exact aC); (case side2 => exact HC0_0.out); (case side3 => exact aC); (case side4 => exact HC1_1.out); rintro e w47 ⟨rfl, hb⟩; have n0_ := aM (Kd.R_below (aR HO365) hb); have n1_ := aM (Kd.S_below (aS HO368) hb); have n2_ := aM (kB gb360 #[.slice A0_0 l0_0.length c0_0, .slice A0_1 l0_1.length c0_1] 31 hb); have n3_ := aM (kB gb361 #[.int .i64 a1_0, .slice A1_1 l1_1.length c1_1] 45 hb); have n4_ := aM (kB gb362 #[.slice none 0 0, .slice none 0 0] 31 hb); have n5_ := aM (kB gb369 #[.slice Ao13 t363.length co13, .slice Ao18 t366.length co18] 31 hb); have n6_ := aM (below_step aG hb); clear HO365; clear HO368; clear BK360; clear BK361; clear BK362; clear BK369; clear HB; have HO365 := n0_; have HO368 := n1_; have BK360 := n2_; have BK361 := n3_; have BK362 := n4_; have BK369 := n5_; have HB := n6_; clear n0_ n1_ n2_ n3_ n4_ n5_ n6_; (try clear hb); (try clear hb2); (try clear hk); (try clear hi); have hcz48_0 : w47.cell? ⟨gb360, 0, none⟩ = some (.slice A0_0 l0_0.length c0_0) := (blk_cell BK360.out 0).trans rfl; have hcz48_1 : w47.cell? ⟨gb360, 1, none⟩ = some (.slice A0_1 l0_1.length c0_1) := (blk_cell BK360.out 1).trans rfl; have hfz48_0 := blk_frozen BK360.out 0; have hfz48_1 := blk_frozen BK360.out 1; have hcz49_0 : w47.cell? ⟨gb361, 0, none⟩ = some (.int .i64 a1_0) := (blk_cell BK361.out 0).trans rfl; have hcz49_1 : w47.cell? ⟨gb361, 1, none⟩ = some (.slice A1_1 l1_1.length c1_1) := (blk_cell BK361.out 1).trans rfl; have hfz49_0 := blk_frozen BK361.out 0; have hfz49_1 := blk_frozen BK361.out 1) | (go_at_call 31; (with_reducible refine (impl_FactIndex.calls _ _ l0_0 _ _ l0_1 a1_0 _ _ l1_1 t372 _ ?side1 ?side2 ?side3 ?side4 ?side5 ?side6 A23.out).mono ?_); (case side1 => exact aC); (case side2 => exact HC0_0.out); (case side3 => exact aC); (case side4 => exact HC0_1.out); (case side5 => exact aC); (case side6 => exact HC1_1.out); rintro e w50 ⟨rfl, hb⟩; have n0_ := aM (Kd.R_below (aR HO365) hb); have n1_ := aM (Kd.S_below (aS HO368) hb); have n2_ := aM (kB gb360 #[.slice A0_0 l0_0.length c0_0, .slice A0_1 l0_1.length c0_1] 31 hb); have n3_ := aM (kB gb361 #[.int .i64 a1_0, .slice A1_1 l1_1.length c1_1] 45 hb); have n4_ := aM (kB gb362 #[.slice none 0 0, .slice none 0 0] 31 hb); have n5_ := aM (kB gb369 #[.slice Ao13 t363.length co13, .slice Ao18 t366.length co18] 31 hb); have n6_ := aM (below_step aG hb); clear HO365; clear HO368; clear BK360; clear BK361; clear BK362; clear BK369; clear HB; have HO365 := n0_; have HO368 := n1_; have BK360 := n2_; have BK361 := n3_; have BK362 := n4_; have BK369 := n5_; have HB := n6_; clear n0_ n1_ n2_ n3_ n4_ n5_ n6_; (try clear hb); (try clear hb2); (try clear hk); (try clear hi); have hcz51_0 : w50.cell? ⟨gb360, 0, none⟩ = some (.slice A0_0 l0_0.length c0_0) := (blk_cell BK360.out 0).trans rfl; have hcz51_1 : w50.cell? ⟨gb360, 1, none⟩ = some (.slice A0_1 l0_1.length c0_1) := (blk_cell BK360.out 1).trans rfl; have hfz51_0 := blk_frozen BK360.out 0; have hfz51_1 := blk_frozen BK360.out 1))
     go_meet
     case rel => exact ⟨_, (((l0_1.length : Int) == 14)), aX, H', ⟨by first | omega | exact Nat.le_refl _⟩, ⟨by (with_reducible repeat apply pR); exact Kd.R_mono HO365.out (fun _ hk => hk.1)⟩, ⟨by (with_reducible repeat apply pS); exact Kd.S_mono HO368.out (fun _ hk => ⟨hk.1.1, ⟨hk.1.2.1, ⟨hk.1.2.2.1, ⟨hk.1.2.2.2.1, ⟨hk.1.2.2.2.2, hk.2⟩⟩⟩⟩⟩)⟩, ⟨aK⟩, ⟨aK⟩, ⟨aK⟩, ⟨aK⟩, ⟨aG⟩⟩
   ·replace c22 := Bool.eq_false_iff.mpr c22
    subst c22
    have H1 : (impl_InsertFact.j0 k true l0_0 l0_1 a1_0 l1_1 t363 t366) = some (r1, r2, r3) := by rw [if_neg (show ¬ (false = true) by decide)] at H; exact H
    clear H
    have H := H1
    clear H1
    have H' := aM H
    clear H
    have hnb52 := NB360_361.out
    have hnc52 := NB361_360.out
    have hnb53 := NB360_362.out
    have hnc53 := NB362_360.out
    have hnb54 := NB360_369.out
    have hnc54 := NB369_360.out
    have hcz55_0 : w12.cell? ⟨gb360, 0, none⟩ = some (.slice A0_0 l0_0.length c0_0) := (blk_cell BK360.out 0).trans rfl
    have hcz55_1 : w12.cell? ⟨gb360, 1, none⟩ = some (.slice A0_1 l0_1.length c0_1) := (blk_cell BK360.out 1).trans rfl
    have hfz55_0 := blk_frozen BK360.out 0
    have hfz55_1 := blk_frozen BK360.out 1
    go_wp2_with (first | ((with_reducible refine gate_callee (f := 27) rfl ?_); refine goesL_ (some 11) rfl rfl Try.func27 (by kernel_rfl) rfl #[.agg #[.slice A0_0 l0_0.length c0_0, .slice A0_1 l0_1.length c0_1]] rfl aA ?_; (with_reducible refine (impl_IsValidDatabase.calls _ _ l0_0 _ _ l0_1 true _ ?side1 ?side2 ?side3 ?side4 A19.out).mono ?_); (case side1 => exact Kd.C_below HR0_0.out aG); (case side2 => exact HC0_0.out); (case side3 => exact Kd.C_below HR0_1.out aG); (case side4 => exact HC0_1.out); rintro e w56 ⟨rfl, hb⟩; refine ⟨_, rfl, ?_⟩; replace HO365 := aM (Kd.R_below (by (with_reducible repeat apply pR); exact (rF1 HO365.out BK369.out (.slice Ao13 t363.length co13) (.slice Ao18 t366.length co18))) hb); replace HO368 := aM (Kd.S_below (by (with_reducible repeat apply pS); exact (Kd.S_mono (Kd.S_far (p := ⟨gb369, 1, none⟩) (Kd.S_far (p := ⟨gb369, 0, none⟩) (Kd.S_mono HO368.out (fun k_ hk => (⟨hk, hk.2⟩ : _ ∧ k_ ≠ gb369))) (fun _ hk => hk.2) (.slice Ao13 t363.length co13)) (fun _ hk => hk.2) (.slice Ao18 t366.length co18)) (fun _ h_ => h_.1))) hb); replace BK360 := aM (blk_below (g := gb360) (bF2 NB360_369.out BK360.out) hb); replace BK361 := aM (blk_below (g := gb361) (bF2 NB361_369.out BK361.out) hb); replace BK362 := aM (blk_below (g := gb362) (bF2 NB362_369.out BK362.out) hb); replace BK369 := aM (blk_below (g := gb369) (bP2 BK369.out) hb); replace HB := aM (below_step aG hb); (try clear hb); (try clear hb2); (try clear hk); (try clear hi); have hcz57_0 : w56.cell? ⟨gb360, 0, none⟩ = some (.slice A0_0 l0_0.length c0_0) := (blk_cell BK360.out 0).trans rfl; have hcz57_1 : w56.cell? ⟨gb360, 1, none⟩ = some (.slice A0_1 l0_1.length c0_1) := (blk_cell BK360.out 1).trans rfl; have hfz57_0 := blk_frozen BK360.out 0; have hfz57_1 := blk_frozen BK360.out 1; have hnb58 := NB361_362.out; have hnc58 := NB362_361.out; have hnb59 := NB361_369.out; have hnc59 := NB369_361.out; have hcz60_0 : w56.cell? ⟨gb361, 0, none⟩ = some (.int .i64 a1_0) := (blk_cell BK361.out 0).trans rfl; have hcz60_1 : w56.cell? ⟨gb361, 1, none⟩ = some (.slice A1_1 l1_1.length c1_1) := (blk_cell BK361.out 1).trans rfl; have hfz60_0 := blk_frozen BK361.out 0; have hfz60_1 := blk_frozen BK361.out 1) | (go_at_call 50; (with_reducible refine (impl_isFact.calls _ _ l0_0 a1_0 _ _ l1_1 false _ ?side1 ?side2 ?side3 ?side4 A21.out).mono ?_); (case side1 => exact aC); (case side2 => exact HC0_0.out); (case side3 => exact aC); (case side4 => exact HC1_1.out); rintro e w61 ⟨rfl, hb⟩; have n0_ := aM (Kd.R_below (aR HO365) hb); have n1_ := aM (Kd.S_below (aS HO368) hb); have n2_ := aM (kB gb360 #[.slice A0_0 l0_0.length c0_0, .slice A0_1 l0_1.length c0_1] 31 hb); have n3_ := aM (kB gb361 #[.int .i64 a1_0, .slice A1_1 l1_1.length c1_1] 45 hb); have n4_ := aM (kB gb362 #[.slice none 0 0, .slice none 0 0] 31 hb); have n5_ := aM (kB gb369 #[.slice Ao13 t363.length co13, .slice Ao18 t366.length co18] 31 hb); have n6_ := aM (below_step aG hb); clear HO365; clear HO368; clear BK360; clear BK361; clear BK362; clear BK369; clear HB; have HO365 := n0_; have HO368 := n1_; have BK360 := n2_; have BK361 := n3_; have BK362 := n4_; have BK369 := n5_; have HB := n6_; clear n0_ n1_ n2_ n3_ n4_ n5_ n6_; (try clear hb); (try clear hb2); (try clear hk); (try clear hi)))
    go_meet
    case rel => exact ⟨_, (true), aX, H', ⟨by first | omega | exact Nat.le_refl _⟩, ⟨by (with_reducible repeat apply pR); exact Kd.R_mono HO365.out (fun _ hk => hk.1)⟩, ⟨by (with_reducible repeat apply pS); exact Kd.S_mono HO368.out (fun _ hk => ⟨hk.1.1, ⟨hk.1.2.1, ⟨hk.1.2.2.1, ⟨hk.1.2.2.2.1, ⟨hk.1.2.2.2.2, hk.2⟩⟩⟩⟩⟩)⟩, ⟨aK⟩, ⟨aK⟩, ⟨aK⟩, ⟨aK⟩, ⟨aG⟩⟩
  ·replace c20 := Bool.eq_false_iff.mpr c20
   subst c20
   have H1 : (impl_InsertFact.j0 k true l0_0 l0_1 a1_0 l1_1 t363 t366) = some (r1, r2, r3) := by rw [if_neg (show ¬ (false = true) by decide)] at H; exact H
   clear H
   have H := H1
   clear H1
   have H' := aM H
   clear H
   have hnb62 := NB360_361.out
   have hnc62 := NB361_360.out
   have hnb63 := NB360_362.out
   have hnc63 := NB362_360.out
   have hnb64 := NB360_369.out
   have hnc64 := NB369_360.out
   have hcz65_0 : w12.cell? ⟨gb360, 0, none⟩ = some (.slice A0_0 l0_0.length c0_0) := (blk_cell BK360.out 0).trans rfl
   have hcz65_1 : w12.cell? ⟨gb360, 1, none⟩ = some (.slice A0_1 l0_1.length c0_1) := (blk_cell BK360.out 1).trans rfl
   have hfz65_0 := blk_frozen BK360.out 0
   have hfz65_1 := blk_frozen BK360.out 1
   go_wp2_with (first | ((with_reducible refine gate_callee (f := 27) rfl ?_); refine goesL_ (some 11) rfl rfl Try.func27 (by kernel_rfl) rfl #[.agg #[.slice A0_0 l0_0.length c0_0, .slice A0_1 l0_1.length c0_1]] rfl aA ?_; (with_reducible refine (impl_IsValidDatabase.calls _ _ l0_0 _ _ l0_1 false _ ?side1 ?side2 ?side3 ?side4 A19.out).mono ?_); (case side1 => exact Kd.C_below HR0_0.out aG); (case side2 => exact HC0_0.out); (case side3 => exact Kd.C_below HR0_1.out aG); (case side4 => exact HC0_1.out); rintro e w66 ⟨rfl, hb⟩; refine ⟨_, rfl, ?_⟩; replace HO365 := aM (Kd.R_below (by (with_reducible repeat apply pR); exact (rF1 HO365.out BK369.out (.slice Ao13 t363.length co13) (.slice Ao18 t366.length co18))) hb); replace HO368 := aM (Kd.S_below (by (with_reducible repeat apply pS); exact (Kd.S_mono (Kd.S_far (p := ⟨gb369, 1, none⟩) (Kd.S_far (p := ⟨gb369, 0, none⟩) (Kd.S_mono HO368.out (fun k_ hk => (⟨hk, hk.2⟩ : _ ∧ k_ ≠ gb369))) (fun _ hk => hk.2) (.slice Ao13 t363.length co13)) (fun _ hk => hk.2) (.slice Ao18 t366.length co18)) (fun _ h_ => h_.1))) hb); replace BK360 := aM (blk_below (g := gb360) (bF2 NB360_369.out BK360.out) hb); replace BK361 := aM (blk_below (g := gb361) (bF2 NB361_369.out BK361.out) hb); replace BK362 := aM (blk_below (g := gb362) (bF2 NB362_369.out BK362.out) hb); replace BK369 := aM (blk_below (g := gb369) (bP2 BK369.out) hb); replace HB := aM (below_step aG hb); (try clear hb); (try clear hb2); (try clear hk); (try clear hi)))
   go_meet
   case rel => exact ⟨_, (true), aX, H', ⟨by first | omega | exact Nat.le_refl _⟩, ⟨by (with_reducible repeat apply pR); exact Kd.R_mono HO365.out (fun _ hk => hk.1)⟩, ⟨by (with_reducible repeat apply pS); exact Kd.S_mono HO368.out (fun _ hk => ⟨hk.1.1, ⟨hk.1.2.1, ⟨hk.1.2.2.1, ⟨hk.1.2.2.2.1, ⟨hk.1.2.2.2.2, hk.2⟩⟩⟩⟩⟩)⟩, ⟨aK⟩, ⟨aK⟩, ⟨aK⟩, ⟨aK⟩, ⟨aG⟩⟩
 case rest =>
  clear HC4
  try clear c1
  try clear c2
  try clear p2
  try clear c3
  try clear c4
  try clear c5
  try clear c6
  try clear c8
  try clear c9
  try clear c14
  try clear c15
  try clear c16
  try clear c20
  try clear c22
  try clear c24
  try clear c24b0
  try clear c25
  try clear c26
  try clear c27
  try clear c31
  try clear c32
  try clear c38
  try clear c39
  try clear c40
  try clear c44
  try clear c45
  try clear c52
  try clear c53
  try clear c54
  try clear c58
  try clear c59
  try clear c62
  try clear c63
  try clear c64
  try clear hcz10_0
  try clear hcz10_1
  try clear hcz17_0
  try clear hcz17_1
  try clear hcz28_0
  try clear hcz28_1
  try clear hcz30_0
  try clear hcz30_1
  try clear hcz33_0
  try clear hcz33_1
  try clear hcz35_0
  try clear hcz35_1
  try clear hcz36_0
  try clear hcz36_1
  try clear hcz41_0
  try clear hcz41_1
  try clear hcz43_0
  try clear hcz43_1
  try clear hcz46_0
  try clear hcz46_1
  try clear hcz48_0
  try clear hcz48_1
  try clear hcz49_0
  try clear hcz49_1
  try clear hcz51_0
  try clear hcz51_1
  try clear hcz55_0
  try clear hcz55_1
  try clear hcz57_0
  try clear hcz57_1
  try clear hcz60_0
  try clear hcz60_1
  try clear hcz65_0
  try clear hcz65_1
  try clear hfz10_0
  try clear hfz10_1
  try clear hfz17_0
  try clear hfz17_1
  try clear hfz28_0
  try clear hfz28_1
  try clear hfz30_0
  try clear hfz30_1
  try clear hfz33_0
  try clear hfz33_1
  try clear hfz35_0
  try clear hfz35_1
  try clear hfz36_0
  try clear hfz36_1
  try clear hfz41_0
  try clear hfz41_1
  try clear hfz43_0
  try clear hfz43_1
  try clear hfz46_0
  try clear hfz46_1
  try clear hfz48_0
  try clear hfz48_1
  try clear hfz49_0
  try clear hfz49_1
  try clear hfz51_0
  try clear hfz51_1
  try clear hfz55_0
  try clear hfz55_1
  try clear hfz57_0
  try clear hfz57_1
  try clear hfz60_0
  try clear hfz60_1
  try clear hfz65_0
  try clear hfz65_1
  obtain ⟨kq, x31_3, rfl, HA, HJ3, HO_370000, HO_370001, BK360, BK361, BK362, BK369, HB⟩ := hcut
  cases kq with
  | zero => exact absurd HA.out (by simp [impl_InsertFact.j0])
  | succ kj3 =>
   have H := HA.out
   clear HA
   simp only [impl_InsertFact.j0] at H
   by_cases c67 : x31_3 = true
   ·subst c67
    replace H := iT H
    simp only [Option.some.injEq, Prod.mk.injEq] at H
    obtain ⟨rfl, rfl, rfl⟩ := H
    have hnb68 := NB369_360.out
    have hnc68 := NB360_369.out
    have hnb69 := NB369_361.out
    have hnc69 := NB361_369.out
    have hnb70 := NB369_362.out
    have hnc70 := NB362_369.out
    have hcz71_0 : wc.cell? ⟨gb369, 0, none⟩ = some (.slice Ao13 t363.length co13) := (blk_cell BK369.out 0).trans rfl
    have hcz71_1 : wc.cell? ⟨gb369, 1, none⟩ = some (.slice Ao18 t366.length co18) := (blk_cell BK369.out 1).trans rfl
    have hfz71_0 := blk_frozen BK369.out 0
    have hfz71_1 := blk_frozen BK369.out 1
    have hnb72 := NB362_360.out
    have hnc72 := NB360_362.out
    have hnb73 := NB362_361.out
    have hnc73 := NB361_362.out
    have hcz74_0 : wc.cell? ⟨gb362, 0, none⟩ = some (.slice none 0 0) := (blk_cell BK362.out 0).trans rfl
    have hcz74_1 : wc.cell? ⟨gb362, 1, none⟩ = some (.slice none 0 0) := (blk_cell BK362.out 1).trans rfl
    have hfz74_0 := blk_frozen BK362.out 0
    have hfz74_1 := blk_frozen BK362.out 1
    go_wp2
    refine bodyPost_ret (results_ct rfl _ _ gb362 31 #[.slice Ao13 t363.length co13, .slice Ao18 t366.length co18] (0, 0) _ rfl (bP2 BK362.out) Try.underlying31 rfl (by kernel_rfl)) rfl ?_
    exact ⟨_, _, aE, by (with_reducible repeat apply pR); exact Kd.R_mono (Kd.R_far (p := ⟨gb362, 1, none⟩) (Kd.R_far (p := ⟨gb362, 0, none⟩) (Kd.R_types HO_370000.out BK362.out (by decide)) (fun _ hk => hk.2) (.slice Ao13 t363.length co13)) (fun _ hk => hk.2) (.slice Ao18 t366.length co18)) (fun _ _ => trivial), by (with_reducible repeat apply pS); exact Kd.S_mono (Kd.S_far (p := ⟨gb362, 1, none⟩) (Kd.S_far (p := ⟨gb362, 0, none⟩) (Kd.S_mono HO_370001.out (fun k_ hk => (⟨hk, hk.2.2.2.2.1⟩ : _ ∧ k_ ≠ gb362))) (fun _ hk => hk.2) (.slice Ao13 t363.length co13)) (fun _ hk => hk.2) (.slice Ao18 t366.length co18)) (fun _ _ => trivial), aG⟩
   ·replace c67 := Bool.eq_false_iff.mpr c67
    subst c67
    have H1 : (impl_InsertFact.l0 kj3 0 l0_0 l0_1 a1_0 l1_1 t363 t366) = some (r1, r2, r3) := by rw [if_neg (show ¬ (false = true) by decide)] at H; exact H
    clear H
    have H := H1
    clear H1
    have H' := aM H
    clear H
    go_wp2
    go_loopg [7] kj3 (fun kq v7 w' => ∃ (x7_2 : Int), v7 = .int .i64 x7_2 ∧ Aside0 (impl_InsertFact.l0 kq x7_2 l0_0 l0_1 a1_0 l1_1 t363 t366 = some (r1, r2, r3)) ∧ Aside0 (kq ≤ kj3) ∧ Aside0 (Kd.R k74 74 w' w.heap.size (fun k_ => (w.heap.size ≤ k_)) (.slice Ao13 t363.length co13) t363) ∧ Aside0 (Kd.S k45 45 w' w.heap.size (fun k_ => (w.heap.size ≤ k_) ∧ some k_ ≠ ((.slice Ao13 t363.length co13) : Value).ownBlock ∧ k_ ≠ gb360 ∧ k_ ≠ gb361 ∧ k_ ≠ gb362 ∧ k_ ≠ gb369) (.slice Ao18 t366.length co18) t366) ∧ Aside0 (w'.heap[gb360]? = some (.cells #[(.slice A0_0 l0_0.length c0_0), (.slice A0_1 l0_1.length c0_1)] 31 (0, 0))) ∧ Aside0 (w'.heap[gb361]? = some (.cells #[.int .i64 a1_0, (.slice A1_1 l1_1.length c1_1)] 45 (0, 0))) ∧ Aside0 (w'.heap[gb362]? = some (.cells #[(.slice none 0 0), (.slice none 0 0)] 31 (0, 0))) ∧ Aside0 (w'.heap[gb369]? = some (.cells #[(.slice Ao13 t363.length co13), (.slice Ao18 t366.length co18)] 31 (0, 0))) ∧ Aside0 (Below w.heap.size w w'))
    case atStart => exact ⟨(0), aX, H', ⟨Nat.le_refl _⟩, ⟨aR HO_370000⟩, ⟨aS HO_370001⟩, ⟨aK⟩, ⟨aK⟩, ⟨aK⟩, ⟨aK⟩, ⟨aG⟩⟩
    case round =>
     clear H'
     try clear c1
     try clear c2
     try clear p2
     try clear c3
     try clear c4
     try clear c5
     try clear c6
     try clear c7
     try clear c8
     try clear c9
     try clear c14
     try clear c15
     try clear c16
     try clear c20
     try clear c22
     try clear c24
     try clear c24b0
     try clear c25
     try clear c26
     try clear c27
     try clear c31
     try clear c32
     try clear c38
     try clear c39
     try clear c40
     try clear c44
     try clear c45
     try clear c52
     try clear c53
     try clear c54
     try clear c58
     try clear c59
     try clear c62
     try clear c63
     try clear c64
     try clear c67
     try clear c68
     try clear c69
     try clear c70
     try clear c72
     try clear c73
     try clear hcz10_0
     try clear hcz10_1
     try clear hcz17_0
     try clear hcz17_1
     try clear hcz28_0
     try clear hcz28_1
     try clear hcz30_0
     try clear hcz30_1
     try clear hcz33_0
     try clear hcz33_1
     try clear hcz35_0
     try clear hcz35_1
     try clear hcz36_0
     try clear hcz36_1
     try clear hcz41_0
     try clear hcz41_1
     try clear hcz43_0
     try clear hcz43_1
     try clear hcz46_0
     try clear hcz46_1
     try clear hcz48_0
     try clear hcz48_1
     try clear hcz49_0
     try clear hcz49_1
     try clear hcz51_0
     try clear hcz51_1
     try clear hcz55_0
     try clear hcz55_1
     try clear hcz57_0
     try clear hcz57_1
     try clear hcz60_0
     try clear hcz60_1
     try clear hcz65_0
     try clear hcz65_1
     try clear hcz71_0
     try clear hcz71_1
     try clear hcz74_0
     try clear hcz74_1
     try clear hfz10_0
     try clear hfz10_1
     try clear hfz17_0
     try clear hfz17_1
     try clear hfz28_0
     try clear hfz28_1
     try clear hfz30_0
     try clear hfz30_1
     try clear hfz33_0
     try clear hfz33_1
     try clear hfz35_0
     try clear hfz35_1
     try clear hfz36_0
     try clear hfz36_1
     try clear hfz41_0
     try clear hfz41_1
     try clear hfz43_0
     try clear hfz43_1
     try clear hfz46_0
     try clear hfz46_1
     try clear hfz48_0
     try clear hfz48_1
     try clear hfz49_0
     try clear hfz49_1
     try clear hfz51_0
     try clear hfz51_1
     try clear hfz55_0
     try clear hfz55_1
     try clear hfz57_0
     try clear hfz57_1
     try clear hfz60_0
     try clear hfz60_1
     try clear hfz65_0
     try clear hfz65_1
     try clear hfz71_0
     try clear hfz71_1
     try clear hfz74_0
     try clear hfz74_1
     try clear p2
     obtain ⟨x7_2, rfl, HA, HK2, HO_370000, HO_370001, BK360, BK361, BK362, BK369, HB⟩ := hrel
     cases gk with
     | zero => exact absurd HA.out (by simp [impl_InsertFact.l0])
     | succ k2 =>
      have H := HA.out
      clear HA
      simp only [impl_InsertFact.l0] at H
      by_cases c75 : x7_2 < (l0_1.length : Int)
      ·rw [if_pos c75] at H
       have c75b0 : decide (x7_2 < (l0_1.length : Int)) = true := decide_eq_true c75
       clear c75
       by_cases c76 : 0 ≤ x7_2
       ·rw [if_pos c76] at H
        have c76b0 : decide (0 ≤ x7_2) = true := decide_eq_true c76
        clear c76
        replace H := bM H
        obtain ⟨t374, A770, H⟩ := H
        have A77 := aM A770
        clear A770
        by_cases c78 : t374 < 0
        ·rw [if_pos c78] at H
         have c78b0 : decide (t374 < 0) = true := decide_eq_true c78
         clear c78
         have H' := aM H
         clear H
         try go_wp2
         replace HO_370000 := aM (Kd.R_drew HO_370000.out)
         replace HO_370001 := aM (Kd.S_drew HO_370001.out)
         replace BK360 := aM (blk_drew BK360.out)
         replace BK361 := aM (blk_drew BK361.out)
         replace BK362 := aM (blk_drew BK362.out)
         replace BK369 := aM (blk_drew BK369.out)
         replace HB := aM (below_drew1 HB.out)
         have p373 : 0 ≤ (x7_2 : Int) := aD
         have q373 : x7_2 < (l0_1.length : Int) := aD
         obtain ⟨ad373, A373_1, c373_1, e373, hx373_0, hx373_1, hl373_1, hi373_1⟩ := at_T45 HR0_1.out x7_2 p373 q373
         have hw373_1 := hx373_1
         have hw373_0 := hx373_0
         cases e373
         replace hx373_0 := (HB.out.cell (World.block_lt_of_cell? w _ hx373_0)).trans hx373_0
         replace hx373_1 := (HB.out.cell (World.block_lt_of_cell? w _ hx373_1)).trans hx373_1
         have HR373_1 := aM hi373_1
         have HC373_1 := aM hl373_1
         clear hi373_1 hl373_1
         replace p373 := eq_true p373
         replace q373 := eq_true q373
         have qf0_ : ∀ (d_ : Nat) (os_ : Array Obj), (Go.Sort.grow (redrawn wr d_) os_).cell? ⟨gb360, 0, none⟩ = some (.slice A0_0 l0_0.length c0_0) := cell_regrown_drew ((blk_cell BK360.out 0).trans rfl)
         have qf1_ : ∀ (d_ : Nat) (os_ : Array Obj), (Go.Sort.grow (redrawn wr d_) os_).cell? ⟨gb360, 1, none⟩ = some (.slice (some ad373) l0_1.length c0_1) := cell_regrown_drew ((blk_cell BK360.out 1).trans rfl)
         have qf2_ : ∀ (d_ : Nat) (os_ : Array Obj), (Go.Sort.grow (redrawn wr d_) os_).cell? ⟨gb361, 0, none⟩ = some (.int .i64 a1_0) := cell_regrown_drew ((blk_cell BK361.out 0).trans rfl)
         have qf3_ : ∀ (d_ : Nat) (os_ : Array Obj), (Go.Sort.grow (redrawn wr d_) os_).cell? ⟨gb361, 1, none⟩ = some (.slice A1_1 l1_1.length c1_1) := cell_regrown_drew ((blk_cell BK361.out 1).trans rfl)
         have qf4_ : ∀ (d_ : Nat) (os_ : Array Obj), (Go.Sort.grow (redrawn wr d_) os_).cell? (ad373.add ((x7_2).toNat * 2)) = some (.int .i64 ((rd_T45 l0_1 x7_2).f0)) := cell_regrown_drew ((pw_cell_below HB.out hw373_0))
         have qf5_ : ∀ (d_ : Nat) (os_ : Array Obj), (Go.Sort.grow (redrawn wr d_) os_).cell? ⟨(ad373.add ((x7_2).toNat * 2)).block, (ad373.add ((x7_2).toNat * 2)).off + 1, none⟩ = some (.slice A373_1 ((rd_T45 l0_1 x7_2).f1).length c373_1) := cell_regrown_drew ((pw_cell_below HB.out hw373_1))
         have HBQ_ := aM (below_class HB.out)
         have HBS_ := HB
         clear HB
         refine wp_region_quiet_below (by kernel_rfl) (by kernel_rfl) ?_
         repeat (go_big_quiet_step ((refine with_class HBQ_.out ?_; intro hbz_; have HB := aM hbz_; clear hbz_; first | (go_at_call 51; apply Calls.regrown_of; with_reducible refine impl_CompareFacts.calls k2 ((rd_T45 l0_1 x7_2).f0) _ _ ((rd_T45 l0_1 x7_2).f1) a1_0 _ _ l1_1 t374 _ ?side1 ?side2 ?side3 ?side4 A77.out; (case side1 => exact aC); (case side2 => first | exact HC373_1.out); (case side3 => repeat (first | exact (Kd.C_below HR1_1.out HB.out) | exact (Kd.C_below HR373_1.out HB.out) | (with_reducible refine pC ?_))); (case side4 => first | exact HC1_1.out | exact HC373_1.out)))))
         refine wpQuiet_nil ?_
         intro _ hw_
         obtain ⟨⟨dq_, osq_⟩, hw2_⟩ := hw_
         subst hw2_
         have hb := below_regrown_drew wr dq_ osq_
         have HB := HBS_
         clear HBS_
         clear qf0_ qf1_ qf2_ qf3_ qf4_ qf5_
         clear HBQ_
         generalize Go.Sort.grow (redrawn wr dq_) osq_ = w80 at hb ⊢
         generalize wr.drew = wd_ at HO_370000 HO_370001 BK360 BK361 BK362 BK369 HB hb
         have n0_ := aM (Kd.R_below (aR HO_370000) hb)
         have n1_ := aM (Kd.S_below (aS HO_370001) hb)
         have n2_ := aM (kB gb360 #[.slice A0_0 l0_0.length c0_0, .slice (some ad373) l0_1.length c0_1] 31 hb)
         have n3_ := aM (kB gb361 #[.int .i64 a1_0, .slice A1_1 l1_1.length c1_1] 45 hb)
         have n4_ := aM (kB gb362 #[.slice none 0 0, .slice none 0 0] 31 hb)
         have n5_ := aM (kB gb369 #[.slice Ao13 t363.length co13, .slice Ao18 t366.length co18] 31 hb)
         have n6_ := aM (below_step aG hb)
         clear HO_370000
         clear HO_370001
         clear BK360
         clear BK361
         clear BK362
         clear BK369
         clear HB
         have HO_370000 := n0_
         have HO_370001 := n1_
         have BK360 := n2_
         have BK361 := n3_
         have BK362 := n4_
         have BK369 := n5_
         have HB := n6_
         clear n0_ n1_ n2_ n3_ n4_ n5_ n6_
         (try clear hb)
         (try clear hb2)
         (try clear hk)
         (try clear hi)
         try go_wp2
         go_roundg k2
         case measure => have := HJ3.out; have := HK2.out; omega
         case rel => exact ⟨(wrap64 (x7_2 + 1)), aX, H', ⟨by have := HJ3.out; have := HK2.out; omega⟩, ⟨aR HO_370000⟩, ⟨aS HO_370001⟩, ⟨aK⟩, ⟨aK⟩, ⟨aK⟩, ⟨aK⟩, ⟨aG⟩⟩
        ·rw [if_neg c78] at H
         have c78b0 : decide (t374 < 0) = false := decide_eq_false c78
         clear c78
         obtain ⟨y375, hy375⟩ : ∃ y_ : List Int, y_ = (([] : List Int)) := ⟨_, rfl⟩
         first | replace H := bY hy375 H | rw [← hy375] at H
         have Ny375 := aM hy375
         clear hy375
         by_cases c81 : y375.length + l1_1.length < 17592186044416
         ·rw [if_pos c81] at H
          have LMc81 := aM c81
          clear c81
          obtain ⟨y378, hy378⟩ : ∃ y_ : List Int, y_ = (y375 ++ l1_1) := ⟨_, rfl⟩
          first | replace H := bY hy378 H | rw [← hy378] at H
          have Ny378 := aM hy378
          clear hy378
          obtain ⟨y381, hy381⟩ : ∃ y_ : List (S45), y_ = (([(⟨a1_0, y378⟩ : S45)] : List (S45))) := ⟨_, rfl⟩
          first | replace H := bY hy381 H | rw [← hy381] at H
          have Ny381 := aM hy381
          clear hy381
          replace H := bM H
          obtain ⟨t384, A820, H⟩ := H
          have A82 := aM A820
          clear A820
          simp only [Option.some.injEq, Prod.mk.injEq] at H
          obtain ⟨rfl, rfl, rfl⟩ := H
          try go_wp2
          replace HO_370000 := aM (Kd.R_drew HO_370000.out)
          replace HO_370001 := aM (Kd.S_drew HO_370001.out)
          replace BK360 := aM (blk_drew BK360.out)
          replace BK361 := aM (blk_drew BK361.out)
          replace BK362 := aM (blk_drew BK362.out)
          replace BK369 := aM (blk_drew BK369.out)
          replace HB := aM (below_drew1 HB.out)
          have p373 : 0 ≤ (x7_2 : Int) := aD
          have q373 : x7_2 < (l0_1.length : Int) := aD
          obtain ⟨ad373, A373_1, c373_1, e373, hx373_0, hx373_1, hl373_1, hi373_1⟩ := at_T45 HR0_1.out x7_2 p373 q373
          have hw373_1 := hx373_1
          have hw373_0 := hx373_0
          cases e373
          replace hx373_0 := (HB.out.cell (World.block_lt_of_cell? w _ hx373_0)).trans hx373_0
          replace hx373_1 := (HB.out.cell (World.block_lt_of_cell? w _ hx373_1)).trans hx373_1
          have HR373_1 := aM hi373_1
          have HC373_1 := aM hl373_1
          clear hi373_1 hl373_1
          replace p373 := eq_true p373
          replace q373 := eq_true q373
          have qf0_ : ∀ (d_ : Nat) (os_ : Array Obj), (Go.Sort.grow (redrawn wr d_) os_).cell? ⟨gb360, 0, none⟩ = some (.slice A0_0 l0_0.length c0_0) := cell_regrown_drew ((blk_cell BK360.out 0).trans rfl)
          have qf1_ : ∀ (d_ : Nat) (os_ : Array Obj), (Go.Sort.grow (redrawn wr d_) os_).cell? ⟨gb360, 1, none⟩ = some (.slice (some ad373) l0_1.length c0_1) := cell_regrown_drew ((blk_cell BK360.out 1).trans rfl)
          have qf2_ : ∀ (d_ : Nat) (os_ : Array Obj), (Go.Sort.grow (redrawn wr d_) os_).cell? ⟨gb361, 0, none⟩ = some (.int .i64 a1_0) := cell_regrown_drew ((blk_cell BK361.out 0).trans rfl)
          have qf3_ : ∀ (d_ : Nat) (os_ : Array Obj), (Go.Sort.grow (redrawn wr d_) os_).cell? ⟨gb361, 1, none⟩ = some (.slice A1_1 l1_1.length c1_1) := cell_regrown_drew ((blk_cell BK361.out 1).trans rfl)
          have qf4_ : ∀ (d_ : Nat) (os_ : Array Obj), (Go.Sort.grow (redrawn wr d_) os_).cell? (ad373.add ((x7_2).toNat * 2)) = some (.int .i64 ((rd_T45 l0_1 x7_2).f0)) := cell_regrown_drew ((pw_cell_below HB.out hw373_0))
          have qf5_ : ∀ (d_ : Nat) (os_ : Array Obj), (Go.Sort.grow (redrawn wr d_) os_).cell? ⟨(ad373.add ((x7_2).toNat * 2)).block, (ad373.add ((x7_2).toNat * 2)).off + 1, none⟩ = some (.slice A373_1 ((rd_T45 l0_1 x7_2).f1).length c373_1) := cell_regrown_drew ((pw_cell_below HB.out hw373_1))
          have HBQ_ := aM (below_class HB.out)
          have HBS_ := HB
          clear HB
          refine wp_region_quiet_below (by kernel_rfl) (by kernel_rfl) ?_
          repeat (go_big_quiet_step ((refine with_class HBQ_.out ?_; intro hbz_; have HB := aM hbz_; clear hbz_; first | (go_at_call 51; apply Calls.regrown_of; with_reducible refine impl_CompareFacts.calls k2 ((rd_T45 l0_1 x7_2).f0) _ _ ((rd_T45 l0_1 x7_2).f1) a1_0 _ _ l1_1 t374 _ ?side1 ?side2 ?side3 ?side4 A77.out; (case side1 => exact aC); (case side2 => first | exact HC373_1.out); (case side3 => repeat (first | exact (Kd.C_below HR1_1.out HB.out) | exact (Kd.C_below HR373_1.out HB.out) | (with_reducible refine pC ?_))); (case side4 => first | exact HC1_1.out | exact HC373_1.out)))))
          refine wpQuiet_nil ?_
          intro _ hw_
          obtain ⟨⟨dq_, osq_⟩, hw2_⟩ := hw_
          subst hw2_
          have hb := below_regrown_drew wr dq_ osq_
          have HB := HBS_
          clear HBS_
          clear qf0_ qf1_ qf2_ qf3_ qf4_ qf5_
          clear HBQ_
          generalize Go.Sort.grow (redrawn wr dq_) osq_ = w84 at hb ⊢
          generalize wr.drew = wd_ at HO_370000 HO_370001 BK360 BK361 BK362 BK369 HB hb
          have n0_ := aM (Kd.R_below (aR HO_370000) hb)
          have n1_ := aM (Kd.S_below (aS HO_370001) hb)
          have n2_ := aM (kB gb360 #[.slice A0_0 l0_0.length c0_0, .slice (some ad373) l0_1.length c0_1] 31 hb)
          have n3_ := aM (kB gb361 #[.int .i64 a1_0, .slice A1_1 l1_1.length c1_1] 45 hb)
          have n4_ := aM (kB gb362 #[.slice none 0 0, .slice none 0 0] 31 hb)
          have n5_ := aM (kB gb369 #[.slice Ao13 t363.length co13, .slice Ao18 t366.length co18] 31 hb)
          have n6_ := aM (below_step aG hb)
          clear HO_370000
          clear HO_370001
          clear BK360
          clear BK361
          clear BK362
          clear BK369
          clear HB
          have HO_370000 := n0_
          have HO_370001 := n1_
          have BK360 := n2_
          have BK361 := n3_
          have BK362 := n4_
          have BK369 := n5_
          have HB := n6_
          clear n0_ n1_ n2_ n3_ n4_ n5_ n6_
          (try clear hb)
          (try clear hb2)
          (try clear hk)
          (try clear hi)
          try go_wp2
          replace HO_370000 := aM (Kd.R_drew HO_370000.out)
          replace HO_370001 := aM (Kd.S_drew HO_370001.out)
          replace BK360 := aM (blk_drew BK360.out)
          replace BK361 := aM (blk_drew BK361.out)
          replace BK362 := aM (blk_drew BK362.out)
          replace BK369 := aM (blk_drew BK369.out)
          replace HB := aM (below_drew1 HB.out)
          refine start_ (n := 14) (S := fun w' => w'.cell? ⟨gb369, 0, none⟩ = some (.slice Ao13 t363.length co13) ∧ w'.cell? ⟨gb369, 1, none⟩ = some (.slice Ao18 t366.length co18) ∧ w'.cell? ⟨gb361, 0, none⟩ = some (.int .i64 a1_0) ∧ w'.cell? ⟨gb361, 1, none⟩ = some (.slice A1_1 l1_1.length c1_1)) (ds := [13]) #[false, false, false, false, false, false, false, false, false, false, false, false, false, false] (by kernel_rfl) rfl rfl ⟨(blk_cell BK369.out 0).trans rfl, (blk_cell BK369.out 1).trans rfl, (blk_cell BK361.out 0).trans rfl, (blk_cell BK361.out 1).trans rfl⟩ (fun hHeld => ?_); refine with_tabW impl_InsertFact.tab7 impl_InsertFact.bits7 (fun HT_ HW_ => ?_)
          generalize w84.drew = w85 at HO_370000 HO_370001 BK360 BK361 BK362 BK369 HB hHeld ⊢
          refine pU 0 50 ?_
          refine pU 2 52 ?_
          refine pU 3 53 ?_
          refine pU 6 56 ?_
          refine tU4 1 51 hHeld ?_
          refine tU4 4 54 hHeld ?_
          refine tU4 7 57 hHeld ?_
          refine oU 5 55 (fun K hK => ?_)
          refine Kd.R_lit_step (Kd.int .i64) _ 3 ?hg (N := 55) ?hd (xs := ([] : List Int)) (inner := []) (ok := fun _ => True) (okp := fun _ => True) ?hr ?hp (fun _ hk => hk) trivial (Below.refl _ _) (Nat.le_refl _) (by simp) ?_; (case hd => rfl); (case hg => rfl); (case hr => first | (go_simp; done) | (go_simp; rfl)); (case hp => exact (Reps.none _ _))
          intro v376 w86 ho87 hb hg_ hnew_
          clear hg_ hnew_
          (first | rw [← Ny375.out] at ho87 | (simp only [Int.reduceToNat] at ho87; rw [← Ny375.out] at ho87))
          have n0_ := aM (Kd.R_below (aR HO_370000) hb)
          have n1_ := aM (Kd.S_elder' (aS HO_370001) (Kd.R_base ho87) hb)
          have n2_ := aM (Kd.R_lower (Kd.R_newM (M := fun k_ => (w.heap.size ≤ k_)) ho87 (below_size aG) (fun k_ h_ => h_)) (below_size aG))
          have n3_ := aM (kB gb360 #[.slice A0_0 l0_0.length c0_0, .slice (some ad373) l0_1.length c0_1] 31 hb)
          have n4_ := aM (kB gb361 #[.int .i64 a1_0, .slice A1_1 l1_1.length c1_1] 45 hb)
          have n5_ := aM (kB gb362 #[.slice none 0 0, .slice none 0 0] 31 hb)
          have n6_ := aM (kB gb369 #[.slice Ao13 t363.length co13, .slice Ao18 t366.length co18] 31 hb)
          have n7_ := aM (below_step aG hb)
          clear HO_370000
          clear HO_370001
          clear BK360
          clear BK361
          clear BK362
          clear BK369
          clear HB
          have HO_370000 := n0_
          have HO_370001 := n1_
          have HO377 := n2_
          have BK360 := n3_
          have BK361 := n4_
          have BK362 := n5_
          have BK369 := n6_
          have HB := n7_
          clear n0_ n1_ n2_ n3_ n4_ n5_ n6_ n7_
          clear hb ho87
          refine hK.out _ _ ⟨(blk_cell BK369.out 0).trans rfl, (blk_cell BK369.out 1).trans rfl, (blk_cell BK361.out 0).trans rfl, (blk_cell BK361.out 1).trans rfl⟩ (fun hHeld => ?_)
          clear hK K
          refine nU 55 ?_
          refine oU 8 58 (fun K hK => ?_)
          refine Kd.R_append_rows_step (Kd.int .i64) (w0 := w) w.heap.size (by rfl) (.tmp 55) (.tmp 57) 26 3 (.int .i64 0) 8 rfl Try.underlying26 info3 rfl (by decide) (by omega) v376 y375 l1_1 _ _ _ (fun k_ => (w.heap.size ≤ k_)) (fun _ => False) rfl rfl ?aO ?aR (fun _ _ h => h) (fun _ h => h.elim) ?aF ?aB ?aS ?aL ?_
          (case aR => exact aC)
          (case aB => exact aG)
          (case aF => exact (fun k_ hk => (Nat.le_trans (below_size aG) hk)))
          (case aO => exact (by (with_reducible repeat apply pR); exact Kd.R_mono HO377.out (fun _ hk => hk.1)))
          (case aS => exact (below_size aG))
          (case aL => have := LMc81.out; omega)
          intro v379 w88 ho hb hg hat
          rw [← Ny378.out] at ho
          have n0_ := aM (Kd.R_over' (aR HO_370000) (Kd.R_typed (aR HO377)) (by decide) hg)
          have n1_ := aM (Kd.S_after (ok := (fun k_ => (w.heap.size ≤ k_) ∧ some k_ ≠ (.slice Ao13 t363.length co13 : Value).ownBlock ∧ k_ ≠ gb360 ∧ k_ ≠ gb361 ∧ k_ ≠ gb362 ∧ k_ ≠ gb369)) (aS HO_370001) hg hat)
          have n2_ := aM (blk_grown (g := gb360) aK hg (Kd.R_ne HO377.out BK360.out (by decide)))
          have n3_ := aM (blk_grown (g := gb361) aK hg (Kd.R_ne HO377.out BK361.out (by decide)))
          have n4_ := aM (blk_grown (g := gb362) aK hg (Kd.R_ne HO377.out BK362.out (by decide)))
          have n5_ := aM (blk_grown (g := gb369) aK hg (Kd.R_ne HO377.out BK369.out (by decide)))
          have n6_ := aM (hb)
          have n7_ := aM (ho)
          clear HO_370000
          clear HO_370001
          clear BK360
          clear BK361
          clear BK362
          clear BK369
          clear HB
          clear HO377
          have HO_370000 := n0_
          have HO_370001 := n1_
          have BK360 := n2_
          have BK361 := n3_
          have BK362 := n4_
          have BK369 := n5_
          have HB := n6_
          have HO380 := n7_
          clear n0_ n1_ n2_ n3_ n4_ n5_ n6_ n7_
          clear ho hb hg hat
          obtain ⟨Ao89, co89, eo89⟩ := Kd.R_slice HO380.out
          (first | subst eo89 | (injection eo89 with f1_ f2_ f3_; have f4_ := f1_.symm; have f5_ := f3_.symm; clear f1_ f2_ f3_; subst f4_; subst f5_))
          refine hK.out _ _ ⟨(blk_cell BK369.out 0).trans rfl, (blk_cell BK369.out 1).trans rfl, (blk_cell BK361.out 0).trans rfl, (blk_cell BK361.out 1).trans rfl⟩ (fun hHeld => ?_)
          clear hK K
          refine nU 58 ?_
          refine pU 9 59 ?_
          refine oU 10 60 (fun K hK => ?_)
          refine Kd.R_lit_step k45 (w0 := w) w.heap.size 45 ?hg (N := 60) ?hd (xs := ([(⟨a1_0, y378⟩ : S45)] : List (S45))) (inner := [.int .i64 a1_0, .slice Ao89 y378.length co89]) (ok := (fun k_ => some k_ = (.slice Ao89 y378.length co89 : Value).ownBlock ∨ w88.heap.size ≤ k_)) (okp := (fun k_ => some k_ = (.slice Ao89 y378.length co89 : Value).ownBlock)) ?hr ?hp (fun _ hk => .inl hk) (.inr (Nat.le_refl _)) aG (below_size aG) (by simp) ?_; (case hd => rfl); (case hg => rfl); (case hr => first | (go_simp; done) | (go_simp; rfl)); (case hp => exact (Reps.c2 (k45_mkM _ _ _ (⟨a1_0, y378⟩ : S45) (int_own HO380.out)) (Reps.none _ _)))
          intro v382 w90 ho91 hb hg_ hnew_
          clear hb hnew_
          have hb := Below.grown (Below.refl _ _) hg_ (Nat.le_refl _) (fun k hk => by cases hk)
          clear hg_
          (first | rw [← Ny381.out] at ho91 | (simp only [Int.reduceToNat] at ho91; rw [← Ny381.out] at ho91))
          have n0_ := aM (Kd.R_below (aR HO_370000) hb)
          have n1_ := aM (Kd.S_below (Kd.S_mono (ok' := fun k_ => ((w.heap.size ≤ k_) ∧ some k_ ≠ (.slice Ao13 t363.length co13 : Value).ownBlock ∧ k_ ≠ gb360 ∧ k_ ≠ gb361 ∧ k_ ≠ gb362 ∧ k_ ≠ gb369) ∧ ¬ (fun k_ => some k_ = (.slice Ao89 y378.length co89 : Value).ownBlock ∨ w88.heap.size ≤ k_) k_) (Kd.S_bound (ok := fun k_ => ((w.heap.size ≤ k_) ∧ some k_ ≠ (.slice Ao13 t363.length co13 : Value).ownBlock ∧ k_ ≠ gb360 ∧ k_ ≠ gb361 ∧ k_ ≠ gb362 ∧ k_ ≠ gb369) ∧ some k_ ≠ (.slice Ao89 y378.length co89 : Value).ownBlock) (aS HO_370001)) (fun k_ hk => ⟨hk.1.1, fun h_ => h_.elim hk.1.2 (fun h_ => Nat.not_le_of_lt hk.2.2.1 h_)⟩)) hb)
          have n2_ := aM ho91
          have n3_ := aM (kB gb360 #[.slice A0_0 l0_0.length c0_0, .slice (some ad373) l0_1.length c0_1] 31 hb)
          have n4_ := aM (kB gb361 #[.int .i64 a1_0, .slice A1_1 l1_1.length c1_1] 45 hb)
          have n5_ := aM (kB gb362 #[.slice none 0 0, .slice none 0 0] 31 hb)
          have n6_ := aM (kB gb369 #[.slice Ao13 t363.length co13, .slice Ao18 t366.length co18] 31 hb)
          have n7_ := aM (below_step aG hb)
          clear HO_370000
          clear HO_370001
          clear BK360
          clear BK361
          clear BK362
          clear BK369
          clear HB
          clear HO380
          have HO_370000 := n0_
          have HO_370001 := n1_
          have HO383 := n2_
          have BK360 := n3_
          have BK361 := n4_
          have BK362 := n5_
          have BK369 := n6_
          have HB := n7_
          clear n0_ n1_ n2_ n3_ n4_ n5_ n6_ n7_
          clear hb ho91
          obtain ⟨Ao92, co92, eo92⟩ := Kd.R_slice HO383.out
          (first | subst eo92 | (injection eo92 with f1_ f2_ f3_; have f4_ := f1_.symm; have f5_ := f3_.symm; clear f1_ f2_ f3_; subst f4_; subst f5_))
          refine hK.out _ _ ⟨(blk_cell BK369.out 0).trans rfl, (blk_cell BK369.out 1).trans rfl, (blk_cell BK361.out 0).trans rfl, (blk_cell BK361.out 1).trans rfl⟩ (fun hHeld => ?_)
          clear hK K
          refine nU 60 ?_
          refine oU 11 61 (fun K hK => ?_)
          refine goes_ Try.func52 (by kernel_rfl) rfl #[.slice Ao18 t366.length co18, .int .i64 x7_2, .slice Ao92 y381.length co92] (by rfl) rfl rfl aA ?_
          with_reducible refine (impl_Fact_52.calls (fun k_ => some k_ = (.slice Ao89 y378.length co89 : Value).ownBlock ∨ w88.heap.size ≤ k_) _ t366 x7_2 _ _ y381 t384 w _ ?side1 ?side2 ?side3 A82.out).mono ?_
          (case side1 => exact aG)
          (case side2 => exact (Kd.S_mono (ok := fun k_ => ((w.heap.size ≤ k_) ∧ some k_ ≠ (.slice Ao13 t363.length co13 : Value).ownBlock ∧ k_ ≠ gb360 ∧ k_ ≠ gb361 ∧ k_ ≠ gb362 ∧ k_ ≠ gb369) ∧ ¬ (fun k_ => some k_ = (.slice Ao89 y378.length co89 : Value).ownBlock ∨ w88.heap.size ≤ k_) k_) (aS HO_370001) (fun _ hk => ⟨trivial, hk.2⟩)))
          (case side3 => (with_reducible repeat apply pR); exact HO383.out)
          rintro e w93 ⟨v385, rfl, ho0, hg, hb⟩
          refine ⟨_, rfl, ?_⟩
          have n0_ := aM (Kd.R_over' (aR HO_370000) (Kd.S_typed HO_370001.out) (by decide) hg)
          have n1_ := aM trivial
          have n2_ := aM trivial
          have n3_ := aM ho0
          have n4_ := aM (blk_grown (g := gb360) aK hg (Kd.S_ne HO_370001.out BK360.out (by decide)))
          have n5_ := aM (blk_grown (g := gb361) aK hg (Kd.S_away HO_370001.out (fun _ hk => hk.1.2.2.2.1)))
          have n6_ := aM (blk_grown (g := gb362) aK hg (Kd.S_ne HO_370001.out BK362.out (by decide)))
          have n7_ := aM (blk_grown (g := gb369) aK hg (Kd.S_ne HO_370001.out BK369.out (by decide)))
          have n8_ := aM hb
          clear HO_370000
          clear HO_370001
          clear HO383
          clear BK360
          clear BK361
          clear BK362
          clear BK369
          clear HB
          have HO_370000 := n0_
          have HO_370001 := n1_
          have HO383 := n2_
          have HO386 := n3_
          have BK360 := n4_
          have BK361 := n5_
          have BK362 := n6_
          have BK369 := n7_
          have HB := n8_
          clear n0_ n1_ n2_ n3_ n4_ n5_ n6_ n7_ n8_
          (try clear hb)
          (try clear hg)
          (try clear hk)
          (try clear hi)
          (try clear ho0)
          obtain ⟨Ao94, co94, eo94⟩ := Kd.S_slice HO386.out
          (first | subst eo94 | (injection eo94 with f1_ f2_ f3_; have f4_ := f1_.symm; have f5_ := f3_.symm; clear f1_ f2_ f3_; subst f4_; subst f5_))
          refine hK.out _ _ ⟨(blk_cell BK369.out 0).trans rfl, (blk_cell BK369.out 1).trans rfl, (blk_cell BK361.out 0).trans rfl, (blk_cell BK361.out 1).trans rfl⟩ (fun hHeld => ?_)
          clear hK K
          refine nU 61 ?_
          refine pU 12 62 ?_
          refine last_ (i := 13) (N := none) #[true, true, true, true, true, true, true, true, true, true, true, true, true, true] rfl rfl (one_of HT_.out (by kernel_rfl)) (by decide) (fun K hK => ?_)
          have hs95 : w93.cell? ⟨gb369, 1, none⟩ = some (.slice Ao18 t366.length co18) := (blk_cell BK369.out 1).trans rfl
          have hfs95 := blk_frozen BK369.out 1
          have hns95_0 := NB360_369.out
          have hns95_1 := NB361_369.out
          have hns95_2 := NB362_369.out
          have hms95_0 := NB369_360.out
          have hms95_1 := NB369_361.out
          have hms95_2 := NB369_362.out
          refine skip_ (w1 := ?_) (by rfl) rfl ?_ ?_
          rotate_left
          ·go_simp
           rfl
          refine hK.out _ _ ?_
          clear hK K
          refine done_ (done_of HT_.out (by kernel_rfl)) ?_
          have hnb96 := NB369_360.out
          have hnc96 := NB360_369.out
          have hnb97 := NB369_361.out
          have hnc97 := NB361_369.out
          have hnb98 := NB369_362.out
          have hnc98 := NB362_369.out
          have hcz99_0 : w93.cell? ⟨gb369, 0, none⟩ = some (.slice Ao13 t363.length co13) := (blk_cell BK369.out 0).trans rfl
          have hcz99_1 : w93.cell? ⟨gb369, 1, none⟩ = some (.slice Ao18 t366.length co18) := (blk_cell BK369.out 1).trans rfl
          have hfz99_0 := blk_frozen BK369.out 0
          have hfz99_1 := blk_frozen BK369.out 1
          have hnb100 := NB362_360.out
          have hnc100 := NB360_362.out
          have hnb101 := NB362_361.out
          have hnc101 := NB361_362.out
          have hcz102_0 : w93.cell? ⟨gb362, 0, none⟩ = some (.slice none 0 0) := (blk_cell BK362.out 0).trans rfl
          have hcz102_1 : w93.cell? ⟨gb362, 1, none⟩ = some (.slice none 0 0) := (blk_cell BK362.out 1).trans rfl
          have hfz102_0 := blk_frozen BK362.out 0
          have hfz102_1 := blk_frozen BK362.out 1
          try go_wp2
          refine bodyPost_ret (results_ct rfl _ _ gb362 31 #[.slice Ao13 t363.length co13, .slice Ao94 t384.length co94] (0, 0) _ rfl (by (with_reducible repeat refine pB ?_); refine blk_put (cs := #[.slice Ao13 t363.length co13, .slice none 0 0]) ?_ 1 _ rfl; (with_reducible repeat refine pB ?_); refine blk_put (cs := #[.slice none 0 0, .slice none 0 0]) ?_ 0 _ rfl; (with_reducible repeat refine pB ?_); refine blk_far ?_ NB362_369.out _; (with_reducible repeat refine pB ?_); exact BK362.out) Try.underlying31 rfl (by kernel_rfl)) rfl ?_
          exact ⟨_, _, aE, by (with_reducible repeat apply pR); exact Kd.R_mono (Kd.R_far (p := ⟨gb362, 1, none⟩) (Kd.R_far (p := ⟨gb362, 0, none⟩) (Kd.R_far (p := ⟨gb369, 1, none⟩) (Kd.R_types (Kd.R_types HO_370000.out BK369.out (by decide)) BK362.out (by decide)) (fun _ hk => hk.1.2) (.slice Ao94 t384.length co94)) (fun _ hk => hk.2) (.slice Ao13 t363.length co13)) (fun _ hk => hk.2) (.slice Ao94 t384.length co94)) (fun _ _ => trivial), by (with_reducible repeat apply pS); exact Kd.S_mono (Kd.S_far (p := ⟨gb362, 1, none⟩) (Kd.S_far (p := ⟨gb362, 0, none⟩) (Kd.S_far (p := ⟨gb369, 1, none⟩) (Kd.S_types (Kd.S_types HO386.out BK369.out (by decide)) BK362.out (by decide)) (fun _ hk => hk.1.2) (.slice Ao94 t384.length co94)) (fun _ hk => hk.2) (.slice Ao13 t363.length co13)) (fun _ hk => hk.2) (.slice Ao94 t384.length co94)) (fun _ _ => trivial), aG⟩
         ·rw [if_neg c81] at H
          exact absurd H (by simp)
       ·rw [if_neg c76] at H
        exact absurd H (by simp)
      ·rw [if_neg c75] at H
       have c75b0 : decide (x7_2 < (l0_1.length : Int)) = false := decide_eq_false c75
       clear c75
       obtain ⟨y387, hy387⟩ : ∃ y_ : List Int, y_ = (([] : List Int)) := ⟨_, rfl⟩
       first | replace H := bY hy387 H | rw [← hy387] at H
       have Ny387 := aM hy387
       clear hy387
       by_cases c103 : y387.length + l1_1.length < 17592186044416
       ·rw [if_pos c103] at H
        have LMc103 := aM c103
        clear c103
        obtain ⟨y390, hy390⟩ : ∃ y_ : List Int, y_ = (y387 ++ l1_1) := ⟨_, rfl⟩
        first | replace H := bY hy390 H | rw [← hy390] at H
        have Ny390 := aM hy390
        clear hy390
        obtain ⟨y393, hy393⟩ : ∃ y_ : List (S45), y_ = (([(⟨a1_0, y390⟩ : S45)] : List (S45))) := ⟨_, rfl⟩
        first | replace H := bY hy393 H | rw [← hy393] at H
        have Ny393 := aM hy393
        clear hy393
        replace H := bM H
        obtain ⟨t396, A1040, H⟩ := H
        have A104 := aM A1040
        clear A1040
        simp only [Option.some.injEq, Prod.mk.injEq] at H
        obtain ⟨rfl, rfl, rfl⟩ := H
        try go_wp2
        replace HO_370000 := aM (Kd.R_drew HO_370000.out)
        replace HO_370001 := aM (Kd.S_drew HO_370001.out)
        replace BK360 := aM (blk_drew BK360.out)
        replace BK361 := aM (blk_drew BK361.out)
        replace BK362 := aM (blk_drew BK362.out)
        replace BK369 := aM (blk_drew BK369.out)
        replace HB := aM (below_drew1 HB.out)
        refine start_ (n := 15) (S := fun w' => w'.cell? ⟨gb360, 0, none⟩ = some (.slice A0_0 l0_0.length c0_0) ∧ w'.cell? ⟨gb360, 1, none⟩ = some (.slice A0_1 l0_1.length c0_1)) (ds := []) #[false, false, false, false, false, false, false, false, false, false, false, false, false, false, false] (by kernel_rfl) rfl rfl ⟨(blk_cell BK360.out 0).trans rfl, (blk_cell BK360.out 1).trans rfl⟩ (fun hHeld => ?_); refine with_tabW impl_InsertFact.tab5 impl_InsertFact.bits5 (fun HT_ HW_ => ?_)
        generalize wr.drew = w105 at HO_370000 HO_370001 BK360 BK361 BK362 BK369 HB hHeld ⊢
        refine pU 0 33 ?_
        refine pU 1 34 ?_
        refine tU2 2 35 hHeld ?_
        refine pU 3 36 ?_
        refine pU 4 37 ?_
        refine pU 5 38 ?_
        refine pure_ (i := 6) (N := some 39) (v := undef) (a' := ?_) #[true, true, true, true, true, true, true, false, false, false, false, false, false, false, false] rfl rfl (any_of HT_.out (by kernel_rfl)) (fun _ _ _ h => h) (Or.inr ⟨by rfl, rfl⟩) ?_ ?_
        rotate_left
        ·exact aP
        refine pure_ (i := 7) (N := some 40) (v := undef) (a' := ?_) #[true, true, true, true, true, true, true, true, false, false, false, false, false, false, false] rfl rfl (any_of HT_.out (by kernel_rfl)) (fun _ _ _ h => h) (Or.inr ⟨by rfl, rfl⟩) ?_ ?_
        rotate_left
        ·exact aP
        refine pure_ (i := 8) (N := some 41) (v := undef) (a' := ?_) #[true, true, true, true, true, true, true, true, true, false, false, false, false, false, false] rfl rfl (any_of HT_.out (by kernel_rfl)) (fun _ _ _ h => h) (Or.inr ⟨by rfl, rfl⟩) ?_ ?_
        rotate_left
        ·exact aP
        refine pure_ (i := 9) (N := some 42) (v := undef) (a' := ?_) #[true, true, true, true, true, true, true, true, true, true, false, false, false, false, false] rfl rfl (any_of HT_.out (by kernel_rfl)) (fun _ _ _ h => h) (Or.inr ⟨by rfl, rfl⟩) ?_ ?_
        rotate_left
        ·exact aP
        refine pure_ (i := 10) (N := some 43) (v := undef) (a' := ?_) #[true, true, true, true, true, true, true, true, true, true, true, false, false, false, false] rfl rfl (any_of HT_.out (by kernel_rfl)) (fun _ _ _ h => h) (Or.inr ⟨by rfl, rfl⟩) ?_ ?_
        rotate_left
        ·exact aP
        refine pure_ (i := 11) (N := some 44) (v := undef) (a' := ?_) #[true, true, true, true, true, true, true, true, true, true, true, true, false, false, false] rfl rfl (any_of HT_.out (by kernel_rfl)) (fun _ _ _ h => h) (Or.inr ⟨by rfl, rfl⟩) ?_ ?_
        rotate_left
        ·exact aP
        refine pure_ (i := 12) (N := some 45) (v := undef) (a' := ?_) #[true, true, true, true, true, true, true, true, true, true, true, true, true, false, false] rfl rfl (any_of HT_.out (by kernel_rfl)) (fun _ _ _ h => h) (Or.inr ⟨by rfl, rfl⟩) ?_ ?_
        rotate_left
        ·exact aP
        refine pure_ (i := 13) (N := some 46) (v := undef) (a' := ?_) #[true, true, true, true, true, true, true, true, true, true, true, true, true, true, false] rfl rfl (any_of HT_.out (by kernel_rfl)) (fun _ _ _ h => h) (Or.inr ⟨by rfl, rfl⟩) ?_ ?_
        rotate_left
        ·exact aP
        refine pU 14 47 ?_
        refine done_ (done_of HT_.out (by kernel_rfl)) ?_
        try go_wp2
        replace HO_370000 := aM (Kd.R_drew HO_370000.out)
        replace HO_370001 := aM (Kd.S_drew HO_370001.out)
        replace BK360 := aM (blk_drew BK360.out)
        replace BK361 := aM (blk_drew BK361.out)
        replace BK362 := aM (blk_drew BK362.out)
        replace BK369 := aM (blk_drew BK369.out)
        replace HB := aM (below_drew1 HB.out)
        refine start_ (n := 14) (S := fun w' => w'.cell? ⟨gb369, 0, none⟩ = some (.slice Ao13 t363.length co13) ∧ w'.cell? ⟨gb369, 1, none⟩ = some (.slice Ao18 t366.length co18) ∧ w'.cell? ⟨gb361, 0, none⟩ = some (.int .i64 a1_0) ∧ w'.cell? ⟨gb361, 1, none⟩ = some (.slice A1_1 l1_1.length c1_1)) (ds := [13]) #[false, false, false, false, false, false, false, false, false, false, false, false, false, false] (by kernel_rfl) rfl rfl ⟨(blk_cell BK369.out 0).trans rfl, (blk_cell BK369.out 1).trans rfl, (blk_cell BK361.out 0).trans rfl, (blk_cell BK361.out 1).trans rfl⟩ (fun hHeld => ?_); refine with_tabW impl_InsertFact.tab7 impl_InsertFact.bits7 (fun HT_ HW_ => ?_)
        generalize w105.drew = w106 at HO_370000 HO_370001 BK360 BK361 BK362 BK369 HB hHeld ⊢
        refine pU 0 50 ?_
        refine pU 2 52 ?_
        refine pU 3 53 ?_
        refine pU 6 56 ?_
        refine tU4 1 51 hHeld ?_
        refine tU4 4 54 hHeld ?_
        refine tU4 7 57 hHeld ?_
        refine oU 5 55 (fun K hK => ?_)
        refine Kd.R_lit_step (Kd.int .i64) _ 3 ?hg (N := 55) ?hd (xs := ([] : List Int)) (inner := []) (ok := fun _ => True) (okp := fun _ => True) ?hr ?hp (fun _ hk => hk) trivial (Below.refl _ _) (Nat.le_refl _) (by simp) ?_; (case hd => rfl); (case hg => rfl); (case hr => first | (go_simp; done) | (go_simp; rfl)); (case hp => exact (Reps.none _ _))
        intro v388 w107 ho108 hb hg_ hnew_
        clear hg_ hnew_
        (first | rw [← Ny387.out] at ho108 | (simp only [Int.reduceToNat] at ho108; rw [← Ny387.out] at ho108))
        have n0_ := aM (Kd.R_below (aR HO_370000) hb)
        have n1_ := aM (Kd.S_elder' (aS HO_370001) (Kd.R_base ho108) hb)
        have n2_ := aM (Kd.R_lower (Kd.R_newM (M := fun k_ => (w.heap.size ≤ k_)) ho108 (below_size aG) (fun k_ h_ => h_)) (below_size aG))
        have n3_ := aM (kB gb360 #[.slice A0_0 l0_0.length c0_0, .slice A0_1 l0_1.length c0_1] 31 hb)
        have n4_ := aM (kB gb361 #[.int .i64 a1_0, .slice A1_1 l1_1.length c1_1] 45 hb)
        have n5_ := aM (kB gb362 #[.slice none 0 0, .slice none 0 0] 31 hb)
        have n6_ := aM (kB gb369 #[.slice Ao13 t363.length co13, .slice Ao18 t366.length co18] 31 hb)
        have n7_ := aM (below_step aG hb)
        clear HO_370000
        clear HO_370001
        clear BK360
        clear BK361
        clear BK362
        clear BK369
        clear HB
        have HO_370000 := n0_
        have HO_370001 := n1_
        have HO389 := n2_
        have BK360 := n3_
        have BK361 := n4_
        have BK362 := n5_
        have BK369 := n6_
        have HB := n7_
        clear n0_ n1_ n2_ n3_ n4_ n5_ n6_ n7_
        clear hb ho108
        refine hK.out _ _ ⟨(blk_cell BK369.out 0).trans rfl, (blk_cell BK369.out 1).trans rfl, (blk_cell BK361.out 0).trans rfl, (blk_cell BK361.out 1).trans rfl⟩ (fun hHeld => ?_)
        clear hK K
        refine nU 55 ?_
        refine oU 8 58 (fun K hK => ?_)
        refine Kd.R_append_rows_step (Kd.int .i64) (w0 := w) w.heap.size (by rfl) (.tmp 55) (.tmp 57) 26 3 (.int .i64 0) 8 rfl Try.underlying26 info3 rfl (by decide) (by omega) v388 y387 l1_1 _ _ _ (fun k_ => (w.heap.size ≤ k_)) (fun _ => False) rfl rfl ?aO ?aR (fun _ _ h => h) (fun _ h => h.elim) ?aF ?aB ?aS ?aL ?_
        (case aR => exact aC)
        (case aB => exact aG)
        (case aF => exact (fun k_ hk => (Nat.le_trans (below_size aG) hk)))
        (case aO => exact (by (with_reducible repeat apply pR); exact Kd.R_mono HO389.out (fun _ hk => hk.1)))
        (case aS => exact (below_size aG))
        (case aL => have := LMc103.out; omega)
        intro v391 w109 ho hb hg hat
        rw [← Ny390.out] at ho
        have n0_ := aM (Kd.R_over' (aR HO_370000) (Kd.R_typed (aR HO389)) (by decide) hg)
        have n1_ := aM (Kd.S_after (ok := (fun k_ => (w.heap.size ≤ k_) ∧ some k_ ≠ (.slice Ao13 t363.length co13 : Value).ownBlock ∧ k_ ≠ gb360 ∧ k_ ≠ gb361 ∧ k_ ≠ gb362 ∧ k_ ≠ gb369)) (aS HO_370001) hg hat)
        have n2_ := aM (blk_grown (g := gb360) aK hg (Kd.R_ne HO389.out BK360.out (by decide)))
        have n3_ := aM (blk_grown (g := gb361) aK hg (Kd.R_ne HO389.out BK361.out (by decide)))
        have n4_ := aM (blk_grown (g := gb362) aK hg (Kd.R_ne HO389.out BK362.out (by decide)))
        have n5_ := aM (blk_grown (g := gb369) aK hg (Kd.R_ne HO389.out BK369.out (by decide)))
        have n6_ := aM (hb)
        have n7_ := aM (ho)
        clear HO_370000
        clear HO_370001
        clear BK360
        clear BK361
        clear BK362
        clear BK369
        clear HB
        clear HO389
        have HO_370000 := n0_
        have HO_370001 := n1_
        have BK360 := n2_
        have BK361 := n3_
        have BK362 := n4_
        have BK369 := n5_
        have HB := n6_
        have HO392 := n7_
        clear n0_ n1_ n2_ n3_ n4_ n5_ n6_ n7_
        clear ho hb hg hat
        obtain ⟨Ao110, co110, eo110⟩ := Kd.R_slice HO392.out
        (first | subst eo110 | (injection eo110 with f1_ f2_ f3_; have f4_ := f1_.symm; have f5_ := f3_.symm; clear f1_ f2_ f3_; subst f4_; subst f5_))
        refine hK.out _ _ ⟨(blk_cell BK369.out 0).trans rfl, (blk_cell BK369.out 1).trans rfl, (blk_cell BK361.out 0).trans rfl, (blk_cell BK361.out 1).trans rfl⟩ (fun hHeld => ?_)
        clear hK K
        refine nU 58 ?_
        refine pU 9 59 ?_
        refine oU 10 60 (fun K hK => ?_)
        refine Kd.R_lit_step k45 (w0 := w) w.heap.size 45 ?hg (N := 60) ?hd (xs := ([(⟨a1_0, y390⟩ : S45)] : List (S45))) (inner := [.int .i64 a1_0, .slice Ao110 y390.length co110]) (ok := (fun k_ => some k_ = (.slice Ao110 y390.length co110 : Value).ownBlock ∨ w109.heap.size ≤ k_)) (okp := (fun k_ => some k_ = (.slice Ao110 y390.length co110 : Value).ownBlock)) ?hr ?hp (fun _ hk => .inl hk) (.inr (Nat.le_refl _)) aG (below_size aG) (by simp) ?_; (case hd => rfl); (case hg => rfl); (case hr => first | (go_simp; done) | (go_simp; rfl)); (case hp => exact (Reps.c2 (k45_mkM _ _ _ (⟨a1_0, y390⟩ : S45) (int_own HO392.out)) (Reps.none _ _)))
        intro v394 w111 ho112 hb hg_ hnew_
        clear hb hnew_
        have hb := Below.grown (Below.refl _ _) hg_ (Nat.le_refl _) (fun k hk => by cases hk)
        clear hg_
        (first | rw [← Ny393.out] at ho112 | (simp only [Int.reduceToNat] at ho112; rw [← Ny393.out] at ho112))
        have n0_ := aM (Kd.R_below (aR HO_370000) hb)
        have n1_ := aM (Kd.S_below (Kd.S_mono (ok' := fun k_ => ((w.heap.size ≤ k_) ∧ some k_ ≠ (.slice Ao13 t363.length co13 : Value).ownBlock ∧ k_ ≠ gb360 ∧ k_ ≠ gb361 ∧ k_ ≠ gb362 ∧ k_ ≠ gb369) ∧ ¬ (fun k_ => some k_ = (.slice Ao110 y390.length co110 : Value).ownBlock ∨ w109.heap.size ≤ k_) k_) (Kd.S_bound (ok := fun k_ => ((w.heap.size ≤ k_) ∧ some k_ ≠ (.slice Ao13 t363.length co13 : Value).ownBlock ∧ k_ ≠ gb360 ∧ k_ ≠ gb361 ∧ k_ ≠ gb362 ∧ k_ ≠ gb369) ∧ some k_ ≠ (.slice Ao110 y390.length co110 : Value).ownBlock) (aS HO_370001)) (fun k_ hk => ⟨hk.1.1, fun h_ => h_.elim hk.1.2 (fun h_ => Nat.not_le_of_lt hk.2.2.1 h_)⟩)) hb)
        have n2_ := aM ho112
        have n3_ := aM (kB gb360 #[.slice A0_0 l0_0.length c0_0, .slice A0_1 l0_1.length c0_1] 31 hb)
        have n4_ := aM (kB gb361 #[.int .i64 a1_0, .slice A1_1 l1_1.length c1_1] 45 hb)
        have n5_ := aM (kB gb362 #[.slice none 0 0, .slice none 0 0] 31 hb)
        have n6_ := aM (kB gb369 #[.slice Ao13 t363.length co13, .slice Ao18 t366.length co18] 31 hb)
        have n7_ := aM (below_step aG hb)
        clear HO_370000
        clear HO_370001
        clear BK360
        clear BK361
        clear BK362
        clear BK369
        clear HB
        clear HO392
        have HO_370000 := n0_
        have HO_370001 := n1_
        have HO395 := n2_
        have BK360 := n3_
        have BK361 := n4_
        have BK362 := n5_
        have BK369 := n6_
        have HB := n7_
        clear n0_ n1_ n2_ n3_ n4_ n5_ n6_ n7_
        clear hb ho112
        obtain ⟨Ao113, co113, eo113⟩ := Kd.R_slice HO395.out
        (first | subst eo113 | (injection eo113 with f1_ f2_ f3_; have f4_ := f1_.symm; have f5_ := f3_.symm; clear f1_ f2_ f3_; subst f4_; subst f5_))
        refine hK.out _ _ ⟨(blk_cell BK369.out 0).trans rfl, (blk_cell BK369.out 1).trans rfl, (blk_cell BK361.out 0).trans rfl, (blk_cell BK361.out 1).trans rfl⟩ (fun hHeld => ?_)
        clear hK K
        refine nU 60 ?_
        refine oU 11 61 (fun K hK => ?_)
        refine goes_ Try.func52 (by kernel_rfl) rfl #[.slice Ao18 t366.length co18, .int .i64 x7_2, .slice Ao113 y393.length co113] (by rfl) rfl rfl aA ?_
        with_reducible refine (impl_Fact_52.calls (fun k_ => some k_ = (.slice Ao110 y390.length co110 : Value).ownBlock ∨ w109.heap.size ≤ k_) _ t366 x7_2 _ _ y393 t396 w _ ?side1 ?side2 ?side3 A104.out).mono ?_
        (case side1 => exact aG)
        (case side2 => exact (Kd.S_mono (ok := fun k_ => ((w.heap.size ≤ k_) ∧ some k_ ≠ (.slice Ao13 t363.length co13 : Value).ownBlock ∧ k_ ≠ gb360 ∧ k_ ≠ gb361 ∧ k_ ≠ gb362 ∧ k_ ≠ gb369) ∧ ¬ (fun k_ => some k_ = (.slice Ao110 y390.length co110 : Value).ownBlock ∨ w109.heap.size ≤ k_) k_) (aS HO_370001) (fun _ hk => ⟨trivial, hk.2⟩)))
        (case side3 => (with_reducible repeat apply pR); exact HO395.out)
        rintro e w114 ⟨v397, rfl, ho0, hg, hb⟩
        refine ⟨_, rfl, ?_⟩
        have n0_ := aM (Kd.R_over' (aR HO_370000) (Kd.S_typed HO_370001.out) (by decide) hg)
        have n1_ := aM trivial
        have n2_ := aM trivial
        have n3_ := aM ho0
        have n4_ := aM (blk_grown (g := gb360) aK hg (Kd.S_ne HO_370001.out BK360.out (by decide)))
        have n5_ := aM (blk_grown (g := gb361) aK hg (Kd.S_away HO_370001.out (fun _ hk => hk.1.2.2.2.1)))
        have n6_ := aM (blk_grown (g := gb362) aK hg (Kd.S_ne HO_370001.out BK362.out (by decide)))
        have n7_ := aM (blk_grown (g := gb369) aK hg (Kd.S_ne HO_370001.out BK369.out (by decide)))
        have n8_ := aM hb
        clear HO_370000
        clear HO_370001
        clear HO395
        clear BK360
        clear BK361
        clear BK362
        clear BK369
        clear HB
        have HO_370000 := n0_
        have HO_370001 := n1_
        have HO395 := n2_
        have HO398 := n3_
        have BK360 := n4_
        have BK361 := n5_
        have BK362 := n6_
        have BK369 := n7_
        have HB := n8_
        clear n0_ n1_ n2_ n3_ n4_ n5_ n6_ n7_ n8_
        (try clear hb)
        (try clear hg)
        (try clear hk)
        (try clear hi)
        (try clear ho0)
        obtain ⟨Ao115, co115, eo115⟩ := Kd.S_slice HO398.out
        (first | subst eo115 | (injection eo115 with f1_ f2_ f3_; have f4_ := f1_.symm; have f5_ := f3_.symm; clear f1_ f2_ f3_; subst f4_; subst f5_))
        refine hK.out _ _ ⟨(blk_cell BK369.out 0).trans rfl, (blk_cell BK369.out 1).trans rfl, (blk_cell BK361.out 0).trans rfl, (blk_cell BK361.out 1).trans rfl⟩ (fun hHeld => ?_)
        clear hK K
        refine nU 61 ?_
        refine pU 12 62 ?_
        refine last_ (i := 13) (N := none) #[true, true, true, true, true, true, true, true, true, true, true, true, true, true] rfl rfl (one_of HT_.out (by kernel_rfl)) (by decide) (fun K hK => ?_)
        have hs116 : w114.cell? ⟨gb369, 1, none⟩ = some (.slice Ao18 t366.length co18) := (blk_cell BK369.out 1).trans rfl
        have hfs116 := blk_frozen BK369.out 1
        have hns116_0 := NB360_369.out
        have hns116_1 := NB361_369.out
        have hns116_2 := NB362_369.out
        have hms116_0 := NB369_360.out
        have hms116_1 := NB369_361.out
        have hms116_2 := NB369_362.out
        refine skip_ (w1 := ?_) (by rfl) rfl ?_ ?_
        rotate_left
        ·go_simp
         rfl
        refine hK.out _ _ ?_
        clear hK K
        refine done_ (done_of HT_.out (by kernel_rfl)) ?_
        have hnb117 := NB369_360.out
        have hnc117 := NB360_369.out
        have hnb118 := NB369_361.out
        have hnc118 := NB361_369.out
        have hnb119 := NB369_362.out
        have hnc119 := NB362_369.out
        have hcz120_0 : w114.cell? ⟨gb369, 0, none⟩ = some (.slice Ao13 t363.length co13) := (blk_cell BK369.out 0).trans rfl
        have hcz120_1 : w114.cell? ⟨gb369, 1, none⟩ = some (.slice Ao18 t366.length co18) := (blk_cell BK369.out 1).trans rfl
        have hfz120_0 := blk_frozen BK369.out 0
        have hfz120_1 := blk_frozen BK369.out 1
        have hnb121 := NB362_360.out
        have hnc121 := NB360_362.out
        have hnb122 := NB362_361.out
        have hnc122 := NB361_362.out
        have hcz123_0 : w114.cell? ⟨gb362, 0, none⟩ = some (.slice none 0 0) := (blk_cell BK362.out 0).trans rfl
        have hcz123_1 : w114.cell? ⟨gb362, 1, none⟩ = some (.slice none 0 0) := (blk_cell BK362.out 1).trans rfl
        have hfz123_0 := blk_frozen BK362.out 0
        have hfz123_1 := blk_frozen BK362.out 1
        try go_wp2
        refine bodyPost_ret (results_ct rfl _ _ gb362 31 #[.slice Ao13 t363.length co13, .slice Ao115 t396.length co115] (0, 0) _ rfl (by (with_reducible repeat refine pB ?_); refine blk_put (cs := #[.slice Ao13 t363.length co13, .slice none 0 0]) ?_ 1 _ rfl; (with_reducible repeat refine pB ?_); refine blk_put (cs := #[.slice none 0 0, .slice none 0 0]) ?_ 0 _ rfl; (with_reducible repeat refine pB ?_); refine blk_far ?_ NB362_369.out _; (with_reducible repeat refine pB ?_); exact BK362.out) Try.underlying31 rfl (by kernel_rfl)) rfl ?_
        exact ⟨_, _, aE, by (with_reducible repeat apply pR); exact Kd.R_mono (Kd.R_far (p := ⟨gb362, 1, none⟩) (Kd.R_far (p := ⟨gb362, 0, none⟩) (Kd.R_far (p := ⟨gb369, 1, none⟩) (Kd.R_types (Kd.R_types HO_370000.out BK369.out (by decide)) BK362.out (by decide)) (fun _ hk => hk.1.2) (.slice Ao115 t396.length co115)) (fun _ hk => hk.2) (.slice Ao13 t363.length co13)) (fun _ hk => hk.2) (.slice Ao115 t396.length co115)) (fun _ _ => trivial), by (with_reducible repeat apply pS); exact Kd.S_mono (Kd.S_far (p := ⟨gb362, 1, none⟩) (Kd.S_far (p := ⟨gb362, 0, none⟩) (Kd.S_far (p := ⟨gb369, 1, none⟩) (Kd.S_types (Kd.S_types HO398.out BK369.out (by decide)) BK362.out (by decide)) (fun _ hk => hk.1.2) (.slice Ao115 t396.length co115)) (fun _ hk => hk.2) (.slice Ao13 t363.length co13)) (fun _ hk => hk.2) (.slice Ao115 t396.length co115)) (fun _ _ => trivial), aG⟩
       ·rw [if_neg c103] at H
        exact absurd H (by simp)



end Go.Proofs.Yteddnlklfjpgoaa.PFnInsertDelete
