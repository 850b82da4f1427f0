import Derived.Test.YtbdeimhlohhhiaaPFnRepairEnumerationx0
import Derived.Test.YtbdeimhlohhhiaaPFnRepairEnumerationx7
import Derived.Test.YtbdeimhlohhhiaaPFnRepairEnumerationx11
namespace Go.Proofs.Ytbdeimhlohhhiaa.PFnRepairEnumeration
open Go.RowKit Go.Proofs.YtbdeimhlohhhiaaW.PrintWords Go.Proofs.YtbdeimhlohhhiaaW.PrintLast Go.Proofs.YtbdeimhlohhhiaaW.PrintMore
attribute [local go_sem] max2_int min2_int max_two min_two max_three min_three max_four min_four
set_option linter.unusedVariables false
set_option linter.unusedSimpArgs false

/-! ### spec_InsertFact: function 19 -/
mutual
def spec_InsertFact.j0 : Nat → Bool → Int → List Int → List (S70) → List (S35) → Option ((List (S70)) × (List (S35)) × Bool)
 | 0, _, _, _, _, _ => none
 | k + 1, x31, x350000, x350001, x358000, x358001 => if x31 = true then (some (x358000, x358001, false)) else (spec_InsertFact.l0 k 0 x350000 x350001 x358000 x358001)
def spec_InsertFact.l0 : Nat → Int → Int → List Int → List (S70) → List (S35) → Option ((List (S70)) × (List (S35)) × Bool)
 | 0, _, _, _, _, _ => none
 | k + 1, x7, x350000, x350001, x358000, x358001 => if x7 < (x358001.length : Int) then (if 0 ≤ x7 then ((spec_CompareFacts.f k ((rd_T35 x358001 x7).f0) ((rd_T35 x358001 x7).f1) x350000 x350001).bind fun t362 => (if t362 < 0 then (spec_InsertFact.l0 k (wrap64 (x7 + 1)) x350000 x350001 x358000 x358001) else ((some (([] : List Int) : List Int)).bind fun y363 => (if y363.length + x350001.length < 17592186044416 then ((some (([(⟨x350000, (y363 ++ x350001)⟩ : S35)] : List (S35)) : List (S35))).bind fun y369 => (if x7 ≤ (x358001.length : Int) then ((some (x358001.drop (x7 : Int).toNat : List (S35))).bind fun y372 => (if y369.length + y372.length < 4398046511104 then ((some (y369 ++ y372 : List (S35))).bind fun y377 => ((some (([] : List (S35)) : List (S35))).bind fun y380 => ((some (x358001.take (x7 : Int).toNat : List (S35))).bind fun y383 => (if y380.length + y383.length < 4398046511104 then ((some (y380 ++ y383 : List (S35))).bind fun y388 => (if y388.length + y377.length < 4398046511104 then (some (x358000, (y388 ++ y377), true)) else (none))) else (none))))) else (none))) else (none))) else (none))))) else (none)) else ((some (([] : List Int) : List Int)).bind fun y394 => (if y394.length + x350001.length < 17592186044416 then ((some (([(⟨x350000, (y394 ++ x350001)⟩ : S35)] : List (S35)) : List (S35))).bind fun y400 => (if 0 ≤ x7 then (if x7 ≤ (x358001.length : Int) then ((some (x358001.drop (x7 : Int).toNat : List (S35))).bind fun y403 => (if y400.length + y403.length < 4398046511104 then ((some (y400 ++ y403 : List (S35))).bind fun y408 => ((some (([] : List (S35)) : List (S35))).bind fun y411 => ((some (x358001.take (x7 : Int).toNat : List (S35))).bind fun y414 => (if y411.length + y414.length < 4398046511104 then ((some (y411 ++ y414 : List (S35))).bind fun y419 => (if y419.length + y408.length < 4398046511104 then (some (x358000, (y419 ++ y408), true)) else (none))) else (none))))) else (none))) else (none)) else (none))) else (none)))
end
def spec_InsertFact.f (k : Nat) (l0_0 : List (S70)) (l0_1 : List (S35)) (a1_0 : Int) (l1_1 : List Int) : Option ((List (S70)) × (List (S35)) × Bool) := (spec_l4Copy.f k l0_0 l0_1).bind fun bt351 => ((spec_IsValidDatabase.f k l0_0 l0_1).bind fun t358 => (if t358 = true then ((spec_IsValidFact.f k l0_0 a1_0 l1_1).bind fun t359 => (if t359 = true then ((spec_ContainsFact.f k l0_0 l0_1 a1_0 l1_1).bind fun t360 => (if t360 = true then (spec_InsertFact.j0 k true a1_0 l1_1 bt351.1 bt351.2) else (spec_InsertFact.j0 k ((l0_1.length : Int) == 14) a1_0 l1_1 bt351.1 bt351.2))) else (spec_InsertFact.j0 k true a1_0 l1_1 bt351.1 bt351.2))) else (spec_InsertFact.j0 k true a1_0 l1_1 bt351.1 bt351.2)))
def spec_InsertFact.T5 : Bool × List (List Nat × List Nat) := (true, [([], []), ([], []), ([1], [1]), ([2], [2]), ([0, 3], [0, 3]), ([4], [4]), ([5], [5]), ([6, 5], [5, 6]), ([5], [5]), ([7, 8, 5], [5, 7, 8]), ([9, 5], [5, 9]), ([5], [5]), ([10, 11, 5, 5], [5, 10, 11]), ([12, 5], [5, 12]), ([5, 13], [5, 13])])
def spec_InsertFact.B5 : List Nat := [0, 0, 2, 6, 15, 31, 63, 127, 63, 511, 1023, 63, 4095, 8191, 16383]
theorem spec_InsertFact.tab5 : rtab .any (opsOf Try.f19 5) = spec_InsertFact.T5 := by kernel_rfl
theorem spec_InsertFact.bits5 : waitsOk spec_InsertFact.T5.2 spec_InsertFact.B5 = true := by kernel_rfl
def spec_InsertFact.T7 : Bool × List (List Nat × List Nat) := (true, [([], []), ([0], [0]), ([], []), ([], []), ([3], [3]), ([2, 4], [2, 4]), ([1, 5], [1, 5]), ([6], [6]), ([], []), ([8], [8]), ([], []), ([9, 10], [9, 10]), ([7, 11, 5], [7, 11]), ([12, 12, 0, 1, 2, 3, 4, 5, 6, 7, 8, 9, 10, 11, 12], [12])])
def spec_InsertFact.B7 : List Nat := [0, 1, 0, 0, 8, 28, 63, 127, 0, 256, 0, 1792, 4095, 8191]
theorem spec_InsertFact.tab7 : rtab .any (opsOf Try.f19 7) = spec_InsertFact.T7 := by kernel_rfl
theorem spec_InsertFact.bits7 : waitsOk spec_InsertFact.T7.2 spec_InsertFact.B7 = true := by kernel_rfl
set_option maxHeartbeats 8000000 in
set_option maxRecDepth 100000 in
theorem spec_InsertFact.calls (k : Nat) (A0_0 : Option Addr) (c0_0 : Nat) (l0_0 : List (S70)) (A0_1 : Option Addr) (c0_1 : Nat) (l0_1 : List (S35)) (a1_0 : Int) (A1_1 : Option Addr) (c1_1 : Nat) (l1_1 : List Int) (r1 : List (S70)) (r2 : List (S35)) (r3 : Bool) (w : World) (hr0_0 : Kd.C k70 w A0_0 l0_0.length l0_0) (hc0_0 : l0_0.length ≤ c0_0) (hr0_1 : Kd.C k35 w A0_1 l0_1.length l0_1) (hc0_1 : l0_1.length ≤ c0_1) (hr1_1 : Kd.C (Kd.int .i64) w A1_1 l1_1.length l1_1) (hc1_1 : l1_1.length ≤ c1_1) (h : spec_InsertFact.f k l0_0 l0_1 a1_0 l1_1 = some (r1, r2, r3)) :
  Calls Try.prog 19 #[.agg #[.slice A0_0 l0_0.length c0_0, .slice A0_1 l0_1.length c0_1], .agg #[.int .i64 a1_0, .slice A1_1 l1_1.length c1_1]] w fun e w' => ∃ v0_ v1_ : Value, e = .returned (.tuple #[.agg #[v0_, v1_], .bool r3]) ∧ Kd.R k70 70 w' w.heap.size (fun k_ => (w.heap.size ≤ k_)) v0_ r1 ∧ Kd.N k35 35 w' w.heap.size (fun k_ => (w.heap.size ≤ k_) ∧ some k_ ≠ (v0_ : Value).ownBlock) v1_ r2 ∧ Below w.heap.size w w' := by
 have hu27 := Try.underlying27
 have hu35 := Try.underlying35
 have HR0_0 := aM hr0_0
 have HC0_0 := aM hc0_0
 clear hr0_0 hc0_0
 have HR0_1 := aM hr0_1
 have HC0_1 := aM hc0_1
 clear hr0_1 hc0_1
 have HR1_1 := aM hr1_1
 have HC1_1 := aM hc1_1
 clear hr1_1 hc1_1
 have HB := aM (Below.refl w.heap.size w)
 have H : ((spec_l4Copy.f k l0_0 l0_1).bind fun bt351 => ((spec_IsValidDatabase.f k l0_0 l0_1).bind fun t358 => (if t358 = true then ((spec_IsValidFact.f k l0_0 a1_0 l1_1).bind fun t359 => (if t359 = true then ((spec_ContainsFact.f k l0_0 l0_1 a1_0 l1_1).bind fun t360 => (if t360 = true then (spec_InsertFact.j0 k true a1_0 l1_1 bt351.1 bt351.2) else (spec_InsertFact.j0 k ((l0_1.length : Int) == 14) a1_0 l1_1 bt351.1 bt351.2))) else (spec_InsertFact.j0 k true a1_0 l1_1 bt351.1 bt351.2))) else (spec_InsertFact.j0 k true a1_0 l1_1 bt351.1 bt351.2)))) = some (r1, r2, r3) := h
 clear h
 replace H := bM H
 obtain ⟨⟨t351, t354⟩, A30, H⟩ := H
 dsimp only at H
 have A3 := aM A30
 clear A30
 have HC4 := aM H
 clear H
 go_enter Try.func19, Try.ntmps19
 go_upto_region 2 with (first | ((with_reducible refine gate_dst (N := 2) rfl ?_); (try (refine gate_guard (by rfl) ?_; dsimp only)); refine bE 2 (cs := #[.slice A0_0 l0_0.length c0_0, .slice A0_1 l0_1.length c0_1]) (t := 27) ?_; intro gb348 hg w5 hbox hb; have BK348 := aM (hbox); have GW348 := aM ((by rw [hg]; exact (below_size aB) : w.heap.size ≤ gb348)); have GE348 := aM ((by rw [hg]; exact (below_size aB) : w.heap.size ≤ gb348)); replace HB := aM (below_step aB hb); clear hb hbox hg) | ((with_reducible refine gate_dst (N := 3) rfl ?_); (try (refine gate_guard (by rfl) ?_; dsimp only)); refine bE 3 (cs := #[.int .i64 a1_0, .slice A1_1 l1_1.length c1_1]) (t := 35) ?_; intro gb349 hg w6 hbox hb; have BK349 := aM (hbox); have GW349 := aM ((by rw [hg]; exact (below_size aG) : w.heap.size ≤ gb349)); have GE349 := aM ((by rw [hg]; exact (below_size aG) : w.heap.size ≤ gb349)); have NB348_349 := aM ((by rw [hg]; exact Nat.ne_of_lt (blk_lt (g := gb348) (o := .cells #[.slice A0_0 l0_0.length c0_0, .slice A0_1 l0_1.length c0_1] 27 (0, 0)) aK) : gb348 ≠ gb349)); have NB349_348 := aM ((by rw [hg]; exact Nat.ne_of_gt (blk_lt (g := gb348) (o := .cells #[.slice A0_0 l0_0.length c0_0, .slice A0_1 l0_1.length c0_1] 27 (0, 0)) aK) : gb349 ≠ gb348)); replace BK348 := aM (kB gb348 #[.slice A0_0 l0_0.length c0_0, .slice A0_1 l0_1.length c0_1] 27 hb); replace HB := aM (below_step aG hb); clear hb hbox hg) | ((with_reducible refine gate_dst (N := 4) rfl ?_); (try (refine gate_guard (by rfl) ?_; dsimp only)); refine bE 4 (cs := #[.slice none 0 0, .slice none 0 0]) (t := 27) ?_; intro gb350 hg w7 hbox hb; have n0_ := aM (kB gb348 #[.slice A0_0 l0_0.length c0_0, .slice A0_1 l0_1.length c0_1] 27 hb); have n1_ := aM (kB gb349 #[.int .i64 a1_0, .slice A1_1 l1_1.length c1_1] 35 hb); have n2_ := aM (below_step aG hb); have n3_ := aM (hbox); have n4_ := aM ((by rw [hg]; exact (below_size aG) : w.heap.size ≤ gb350)); have n5_ := aM ((by rw [hg]; exact (below_size aG) : w.heap.size ≤ gb350)); have n6_ := aM ((by rw [hg]; exact Nat.ne_of_lt (blk_lt (g := gb348) (o := .cells #[.slice A0_0 l0_0.length c0_0, .slice A0_1 l0_1.length c0_1] 27 (0, 0)) aK) : gb348 ≠ gb350)); have n7_ := aM ((by rw [hg]; exact Nat.ne_of_gt (blk_lt (g := gb348) (o := .cells #[.slice A0_0 l0_0.length c0_0, .slice A0_1 l0_1.length c0_1] 27 (0, 0)) aK) : gb350 ≠ gb348)); have n8_ := aM ((by rw [hg]; exact Nat.ne_of_lt (blk_lt (g := gb349) (o := .cells #[.int .i64 a1_0, .slice A1_1 l1_1.length c1_1] 35 (0, 0)) aK) : gb349 ≠ gb350)); have n9_ := aM ((by rw [hg]; exact Nat.ne_of_gt (blk_lt (g := gb349) (o := .cells #[.int .i64 a1_0, .slice A1_1 l1_1.length c1_1] 35 (0, 0)) aK) : gb350 ≠ gb349)); clear BK348; clear BK349; clear HB; have BK348 := n0_; have BK349 := n1_; have HB := n2_; have BK350 := n3_; have GW350 := n4_; have GE350 := n5_; have NB348_350 := n6_; have NB350_348 := n7_; have NB349_350 := n8_; have NB350_349 := n9_; clear n0_ n1_ n2_ n3_ n4_ n5_ n6_ n7_ n8_ n9_; clear hb hbox hg; have hnb8 := NB348_349.out; have hnc8 := NB349_348.out; have hnb9 := NB348_350.out; have hnc9 := NB350_348.out; have hcz10_0 : w7.cell? ⟨gb348, 0, none⟩ = some (.slice A0_0 l0_0.length c0_0) := (blk_cell BK348.out 0).trans rfl; have hcz10_1 : w7.cell? ⟨gb348, 1, none⟩ = some (.slice A0_1 l0_1.length c0_1) := (blk_cell BK348.out 1).trans rfl; have hfz10_0 := blk_frozen BK348.out 0; have hfz10_1 := blk_frozen BK348.out 1) | ((with_reducible refine gate_callee (f := 56) rfl ?_); refine goesL_ (some 10) rfl rfl Try.func56 (by kernel_rfl) rfl #[.agg #[.slice A0_0 l0_0.length c0_0, .slice A0_1 l0_1.length c0_1]] rfl aA ?_; (with_reducible refine (spec_l4Copy.calls k _ _ l0_0 _ _ l0_1 t351 t354 _ ?side1 ?side2 ?side3 ?side4 A3.out).mono ?_); (case side1 => exact aC); (case side2 => exact HC0_0.out); (case side3 => exact aC); (case side4 => exact HC0_1.out); rintro e w11 ⟨v352, v355, rfl, ho0, ho1, hb⟩; refine ⟨_, rfl, ?_⟩; have n0_ := aM (Kd.R_lower (Kd.R_newM (M := fun k_ => (w.heap.size ≤ k_)) ho0 (below_size aG) (fun k_ h_ => h_)) (below_size aG)); have n1_ := aM (Kd.N_lower (Kd.N_mono (ok' := fun k_ => (w.heap.size ≤ k_) ∧ some k_ ≠ (v352 : Value).ownBlock ∧ k_ ≠ gb348 ∧ k_ ≠ gb349 ∧ k_ ≠ gb350) (Kd.S_N (Kd.S_bound (Kd.S_apart' ho1 (Kd.R_typed ho0) (by decide)))) (fun k_ hk_ => ⟨(Nat.le_trans (below_size aG) hk_.2.1), hk_.1.2, (Kd.freshB (g := gb348) (o := .cells #[.slice A0_0 l0_0.length c0_0, .slice A0_1 l0_1.length c0_1] 27 (0, 0)) aK k_ hk_.2.1), (Kd.freshB (g := gb349) (o := .cells #[.int .i64 a1_0, .slice A1_1 l1_1.length c1_1] 35 (0, 0)) aK k_ hk_.2.1), (Kd.freshB (g := gb350) (o := .cells #[.slice none 0 0, .slice none 0 0] 27 (0, 0)) aK k_ hk_.2.1)⟩)) (below_size aG)); have n2_ := aM (kB gb348 #[.slice A0_0 l0_0.length c0_0, .slice A0_1 l0_1.length c0_1] 27 hb); have n3_ := aM (kB gb349 #[.int .i64 a1_0, .slice A1_1 l1_1.length c1_1] 35 hb); have n4_ := aM (kB gb350 #[.slice none 0 0, .slice none 0 0] 27 hb); have n5_ := aM (below_step aG hb); clear BK348; clear BK349; clear BK350; clear HB; have HO353 := n0_; have HO356 := n1_; have BK348 := n2_; have BK349 := n3_; have BK350 := n4_; have HB := n5_; clear n0_ n1_ n2_ n3_ n4_ n5_; (try clear hb); (try clear hb2); (try clear hk); (try clear hi); (try clear ho0); (try clear ho1)) | ((with_reducible refine gate_dst (N := 6) rfl ?_); (try (refine gate_guard (by rfl) ?_; dsimp only)); refine bE 6 (cs := #[.slice none 0 0, .slice none 0 0]) (t := 27) ?_; intro gb357 hg w12 hbox hb; have n0_ := aM (Kd.R_below (aR HO353) hb); have n1_ := aM (Kd.N_below (Kd.N_elderB (aN HO356) gb357 (Nat.le_of_eq hg.symm)) hb); have n2_ := aM (kB gb348 #[.slice A0_0 l0_0.length c0_0, .slice A0_1 l0_1.length c0_1] 27 hb); have n3_ := aM (kB gb349 #[.int .i64 a1_0, .slice A1_1 l1_1.length c1_1] 35 hb); have n4_ := aM (kB gb350 #[.slice none 0 0, .slice none 0 0] 27 hb); have n5_ := aM (below_step aG hb); have n6_ := aM (hbox); have n7_ := aM ((by rw [hg]; exact (below_size aG) : w.heap.size ≤ gb357)); have n8_ := aM ((by rw [hg]; exact (below_size aG) : w.heap.size ≤ gb357)); have n9_ := aM ((by rw [hg]; exact Nat.ne_of_lt (blk_lt (g := gb348) (o := .cells #[.slice A0_0 l0_0.length c0_0, .slice A0_1 l0_1.length c0_1] 27 (0, 0)) aK) : gb348 ≠ gb357)); have n10_ := aM ((by rw [hg]; exact Nat.ne_of_gt (blk_lt (g := gb348) (o := .cells #[.slice A0_0 l0_0.length c0_0, .slice A0_1 l0_1.length c0_1] 27 (0, 0)) aK) : gb357 ≠ gb348)); have n11_ := aM ((by rw [hg]; exact Nat.ne_of_lt (blk_lt (g := gb349) (o := .cells #[.int .i64 a1_0, .slice A1_1 l1_1.length c1_1] 35 (0, 0)) aK) : gb349 ≠ gb357)); have n12_ := aM ((by rw [hg]; exact Nat.ne_of_gt (blk_lt (g := gb349) (o := .cells #[.int .i64 a1_0, .slice A1_1 l1_1.length c1_1] 35 (0, 0)) aK) : gb357 ≠ gb349)); have n13_ := aM ((by rw [hg]; exact Nat.ne_of_lt (blk_lt (g := gb350) (o := .cells #[.slice none 0 0, .slice none 0 0] 27 (0, 0)) aK) : gb350 ≠ gb357)); have n14_ := aM ((by rw [hg]; exact Nat.ne_of_gt (blk_lt (g := gb350) (o := .cells #[.slice none 0 0, .slice none 0 0] 27 (0, 0)) aK) : gb357 ≠ gb350)); clear HO353; clear HO356; clear BK348; clear BK349; clear BK350; clear HB; have HO353 := n0_; have HO356 := n1_; have BK348 := n2_; have BK349 := n3_; have BK350 := n4_; have HB := n5_; have BK357 := n6_; have GW357 := n7_; have GE357 := n8_; have NB348_357 := n9_; have NB357_348 := n10_; have NB349_357 := n11_; have NB357_349 := n12_; have NB350_357 := n13_; have NB357_350 := n14_; clear n0_ n1_ n2_ n3_ n4_ n5_ n6_ n7_ n8_ n9_ n10_ n11_ n12_ n13_ n14_; clear hb hbox hg; obtain ⟨Ao13, co13, eo13⟩ := Kd.R_slice HO353.out; subst eo13; have hnb14 := NB357_348.out; have hnc14 := NB348_357.out; have hnb15 := NB357_349.out; have hnc15 := NB349_357.out; have hnb16 := NB357_350.out; have hnc16 := NB350_357.out; have hcz17_0 : w12.cell? ⟨gb357, 0, none⟩ = some (.slice none 0 0) := (blk_cell BK357.out 0).trans rfl; have hcz17_1 : w12.cell? ⟨gb357, 1, none⟩ = some (.slice none 0 0) := (blk_cell BK357.out 1).trans rfl; have hfz17_0 := blk_frozen BK357.out 0; have hfz17_1 := blk_frozen BK357.out 1; obtain ⟨Ao18, co18, eo18⟩ := Kd.N_slice HO356.out; subst eo18))
 (try simp only [Act.put, List.setIfInBounds_toArray, List.set_cons_zero, List.set_cons_succ])
 go_cut [31] (fun v31 wc => ∃ (kq : Nat) (x31_3 : Bool), v31 = .bool x31_3 ∧ Aside0 (spec_InsertFact.j0 kq x31_3 a1_0 l1_1 t351 t354 = some (r1, r2, r3)) ∧ Aside0 (kq ≤ k) ∧ Aside0 (Kd.R k70 70 wc w.heap.size (fun k_ => (w.heap.size ≤ k_)) (.slice Ao13 t351.length co13) t351) ∧ Aside0 (Kd.N k35 35 wc w.heap.size (fun k_ => (w.heap.size ≤ k_) ∧ some k_ ≠ ((.slice Ao13 t351.length co13) : Value).ownBlock ∧ k_ ≠ gb348 ∧ k_ ≠ gb349 ∧ k_ ≠ gb350 ∧ k_ ≠ gb357) (.slice Ao18 t354.length co18) t354) ∧ Aside0 (wc.heap[gb348]? = some (.cells #[(.slice A0_0 l0_0.length c0_0), (.slice A0_1 l0_1.length c0_1)] 27 (0, 0))) ∧ Aside0 (wc.heap[gb349]? = some (.cells #[.int .i64 a1_0, (.slice A1_1 l1_1.length c1_1)] 35 (0, 0))) ∧ Aside0 (wc.heap[gb350]? = some (.cells #[(.slice none 0 0), (.slice none 0 0)] 27 (0, 0))) ∧ Aside0 (wc.heap[gb357]? = some (.cells #[(.slice Ao13 t351.length co13), (.slice Ao18 t354.length co18)] 27 (0, 0))) ∧ Aside0 (Below w.heap.size w wc))
 case first =>
  have H := HC4.out
  clear HC4
  replace H := bM H
  obtain ⟨t358, A190, H⟩ := H
  have A19 := aM A190
  clear A190
  by_cases c20 : t358 = true
  ·subst c20
   replace H := iT H
   replace H := bM H
   obtain ⟨t359, A210, H⟩ := H
   have A21 := aM A210
   clear A210
   by_cases c22 : t359 = true
   ·subst c22
    replace H := iT H
    replace H := bM H
    obtain ⟨t360, A230, H⟩ := H
    have A23 := aM A230
    clear A230
    by_cases c24 : t360 = true
    ·subst c24
     replace H := iT H
     have H' := aM H
     clear H
     have hnb25 := NB348_349.out
     have hnc25 := NB349_348.out
     have hnb26 := NB348_350.out
     have hnc26 := NB350_348.out
     have hnb27 := NB348_357.out
     have hnc27 := NB357_348.out
     have hcz28_0 : w12.cell? ⟨gb348, 0, none⟩ = some (.slice A0_0 l0_0.length c0_0) := (blk_cell BK348.out 0).trans rfl
     have hcz28_1 : w12.cell? ⟨gb348, 1, none⟩ = some (.slice A0_1 l0_1.length c0_1) := (blk_cell BK348.out 1).trans rfl
     have hfz28_0 := blk_frozen BK348.out 0
     have hfz28_1 := blk_frozen BK348.out 1
     go_wp2_with (first | ((with_reducible refine gate_callee (f := 10) rfl ?_); refine goesL_ (some 12) rfl rfl Try.func10 (by kernel_rfl) rfl #[.agg #[.slice A0_0 l0_0.length c0_0, .slice A0_1 l0_1.length c0_1]] rfl aA ?_; (with_reducible refine (spec_IsValidDatabase.calls k _ _ l0_0 _ _ l0_1 true _ ?side1 ?side2 ?side3 ?side4 A19.out).mono ?_); (case side1 => exact Kd.C_below HR0_0.out aG); (case side2 => exact HC0_0.out); (case side3 => exact Kd.C_below HR0_1.out aG); (case side4 => exact HC0_1.out); rintro e w29 ⟨rfl, hb⟩; refine ⟨_, rfl, ?_⟩; replace HO353 := aM (Kd.R_below (by (with_reducible repeat apply pR); exact (Kd.R_mono (Kd.R_far (p := ⟨gb357, 1, none⟩) (Kd.R_far (p := ⟨gb357, 0, none⟩) (Kd.R_types HO353.out BK357.out (by decide)) (fun _ hk => hk.2) (.slice Ao13 t351.length co13)) (fun _ hk => hk.2) (.slice Ao18 t354.length co18)) (fun _ h_ => h_.1))) hb); replace HO356 := aM (Kd.N_below (by (with_reducible repeat apply pN); exact (Kd.N_mono (Kd.N_far (p := ⟨gb357, 1, none⟩) (Kd.N_far (p := ⟨gb357, 0, none⟩) (Kd.N_mono HO356.out (fun k_ hk => (⟨hk, hk.2⟩ : _ ∧ k_ ≠ gb357))) (fun _ hk => hk.2) (.slice Ao13 t351.length co13)) (fun _ hk => hk.2) (.slice Ao18 t354.length co18)) (fun _ h_ => h_.1))) hb); replace BK348 := aM (blk_below (g := gb348) (o := .cells #[.slice A0_0 l0_0.length c0_0, .slice A0_1 l0_1.length c0_1] 27 (0, 0)) (by (with_reducible repeat refine pB ?_); refine blk_far ?_ NB348_357.out _; (with_reducible repeat refine pB ?_); refine blk_far ?_ NB348_357.out _; (with_reducible repeat refine pB ?_); exact BK348.out) hb); replace BK349 := aM (blk_below (g := gb349) (o := .cells #[.int .i64 a1_0, .slice A1_1 l1_1.length c1_1] 35 (0, 0)) (by (with_reducible repeat refine pB ?_); refine blk_far ?_ NB349_357.out _; (with_reducible repeat refine pB ?_); refine blk_far ?_ NB349_357.out _; (with_reducible repeat refine pB ?_); exact BK349.out) hb); replace BK350 := aM (blk_below (g := gb350) (o := .cells #[.slice none 0 0, .slice none 0 0] 27 (0, 0)) (by (with_reducible repeat refine pB ?_); refine blk_far ?_ NB350_357.out _; (with_reducible repeat refine pB ?_); refine blk_far ?_ NB350_357.out _; (with_reducible repeat refine pB ?_); exact BK350.out) hb); replace BK357 := aM (blk_below (g := gb357) (o := .cells #[.slice Ao13 t351.length co13, .slice Ao18 t354.length co18] 27 (0, 0)) (by (with_reducible repeat refine pB ?_); refine blk_put (cs := #[.slice Ao13 t351.length co13, .slice none 0 0]) ?_ 1 _ rfl; (with_reducible repeat refine pB ?_); refine blk_put (cs := #[.slice none 0 0, .slice none 0 0]) ?_ 0 _ rfl; (with_reducible repeat refine pB ?_); exact BK357.out) hb); replace HB := aM (below_step aG hb); (try clear hb); (try clear hb2); (try clear hk); (try clear hi); have hcz30_0 : w29.cell? ⟨gb348, 0, none⟩ = some (.slice A0_0 l0_0.length c0_0) := (blk_cell BK348.out 0).trans rfl; have hcz30_1 : w29.cell? ⟨gb348, 1, none⟩ = some (.slice A0_1 l0_1.length c0_1) := (blk_cell BK348.out 1).trans rfl; have hfz30_0 := blk_frozen BK348.out 0; have hfz30_1 := blk_frozen BK348.out 1; have hnb31 := NB349_350.out; have hnc31 := NB350_349.out; have hnb32 := NB349_357.out; have hnc32 := NB357_349.out; have hcz33_0 : w29.cell? ⟨gb349, 0, none⟩ = some (.int .i64 a1_0) := (blk_cell BK349.out 0).trans rfl; have hcz33_1 : w29.cell? ⟨gb349, 1, none⟩ = some (.slice A1_1 l1_1.length c1_1) := (blk_cell BK349.out 1).trans rfl; have hfz33_0 := blk_frozen BK349.out 0; have hfz33_1 := blk_frozen BK349.out 1) | (go_at_call 45; (with_reducible refine (spec_IsValidFact.calls k _ _ l0_0 a1_0 _ _ l1_1 true _ ?side1 ?side2 ?side3 ?side4 A21.out).mono ?_); (case side1 => exact aC); (case side2 => exact HC0_0.out); (case side3 => exact aC); (case side4 => exact HC1_1.out); rintro e w34 ⟨rfl, hb⟩; have n0_ := aM (Kd.R_below (aR HO353) hb); have n1_ := aM (Kd.N_below (aN HO356) hb); have n2_ := aM (kB gb348 #[.slice A0_0 l0_0.length c0_0, .slice A0_1 l0_1.length c0_1] 27 hb); have n3_ := aM (kB gb349 #[.int .i64 a1_0, .slice A1_1 l1_1.length c1_1] 35 hb); have n4_ := aM (kB gb350 #[.slice none 0 0, .slice none 0 0] 27 hb); have n5_ := aM (kB gb357 #[.slice Ao13 t351.length co13, .slice Ao18 t354.length co18] 27 hb); have n6_ := aM (below_step aG hb); clear HO353; clear HO356; clear BK348; clear BK349; clear BK350; clear BK357; clear HB; have HO353 := n0_; have HO356 := n1_; have BK348 := n2_; have BK349 := n3_; have BK350 := n4_; have BK357 := n5_; have HB := n6_; clear n0_ n1_ n2_ n3_ n4_ n5_ n6_; (try clear hb); (try clear hb2); (try clear hk); (try clear hi); have hcz35_0 : w34.cell? ⟨gb348, 0, none⟩ = some (.slice A0_0 l0_0.length c0_0) := (blk_cell BK348.out 0).trans rfl; have hcz35_1 : w34.cell? ⟨gb348, 1, none⟩ = some (.slice A0_1 l0_1.length c0_1) := (blk_cell BK348.out 1).trans rfl; have hfz35_0 := blk_frozen BK348.out 0; have hfz35_1 := blk_frozen BK348.out 1; have hcz36_0 : w34.cell? ⟨gb349, 0, none⟩ = some (.int .i64 a1_0) := (blk_cell BK349.out 0).trans rfl; have hcz36_1 : w34.cell? ⟨gb349, 1, none⟩ = some (.slice A1_1 l1_1.length c1_1) := (blk_cell BK349.out 1).trans rfl; have hfz36_0 := blk_frozen BK349.out 0; have hfz36_1 := blk_frozen BK349.out 1) | (go_at_call 57; (with_reducible refine (spec_ContainsFact.calls k _ _ l0_0 _ _ l0_1 a1_0 _ _ l1_1 true _ ?side1 ?side2 ?side3 ?side4 ?side5 ?side6 A23.out).mono ?_); (case side1 => exact aC); (case side2 => exact HC0_0.out); (case side3 => exact aC); (case side4 => exact HC0_1.out); (case side5 => exact aC); (case side6 => exact HC1_1.out); rintro e w37 ⟨rfl, hb⟩; have n0_ := aM (Kd.R_below (aR HO353) hb); have n1_ := aM (Kd.N_below (aN HO356) hb); have n2_ := aM (kB gb348 #[.slice A0_0 l0_0.length c0_0, .slice A0_1 l0_1.length c0_1] 27 hb); have n3_ := aM (kB gb349 #[.int .i64 a1_0, .slice A1_1 l1_1.length c1_1] 35 hb); have n4_ := aM (kB gb350 #[.slice none 0 0, .slice none 0 0] 27 hb); have n5_ := aM (kB gb357 #[.slice Ao13 t351.length co13, .slice Ao18 t354.length co18] 27 hb); have n6_ := aM (below_step aG hb); clear HO353; clear HO356; clear BK348; clear BK349; clear BK350; clear BK357; clear HB; have HO353 := n0_; have HO356 := n1_; have BK348 := n2_; have BK349 := n3_; have BK350 := n4_; have BK357 := n5_; have HB := n6_; clear n0_ n1_ n2_ n3_ n4_ n5_ n6_; (try clear hb); (try clear hb2); (try clear hk); (try clear hi)))
     go_meet
     case rel => exact ⟨_, (true), aX, H', ⟨by first | omega | exact Nat.le_refl _⟩, ⟨by (with_reducible repeat apply pR); exact Kd.R_mono HO353.out (fun _ hk => hk.1)⟩, ⟨by (with_reducible repeat apply pN); exact Kd.N_mono HO356.out (fun _ hk => ⟨hk.1.1, ⟨hk.1.2.1, ⟨hk.1.2.2.1, ⟨hk.1.2.2.2.1, ⟨hk.1.2.2.2.2, hk.2⟩⟩⟩⟩⟩)⟩, ⟨aK⟩, ⟨aK⟩, ⟨aK⟩, ⟨aK⟩, ⟨aG⟩⟩
    ·replace c24 := Bool.eq_false_iff.mpr c24
     subst c24
     have H1 : (spec_InsertFact.j0 k ((l0_1.length : Int) == 14) a1_0 l1_1 t351 t354) = some (r1, r2, r3) := by rw [if_neg (show ¬ (false = true) by decide)] at H; exact H
     clear H
     have H := H1
     clear H1
     have H' := aM H
     clear H
     have hnb38 := NB348_349.out
     have hnc38 := NB349_348.out
     have hnb39 := NB348_350.out
     have hnc39 := NB350_348.out
     have hnb40 := NB348_357.out
     have hnc40 := NB357_348.out
     have hcz41_0 : w12.cell? ⟨gb348, 0, none⟩ = some (.slice A0_0 l0_0.length c0_0) := (blk_cell BK348.out 0).trans rfl
     have hcz41_1 : w12.cell? ⟨gb348, 1, none⟩ = some (.slice A0_1 l0_1.length c0_1) := (blk_cell BK348.out 1).trans rfl
     have hfz41_0 := blk_frozen BK348.out 0
     have hfz41_1 := blk_frozen BK348.out 1
     go_wp2_with (first | ((with_reducible refine gate_callee (f := 10) rfl ?_); refine goesL_ (some 12) rfl rfl Try.func10 (by kernel_rfl) rfl #[.agg #[.slice A0_0 l0_0.length c0_0, .slice A0_1 l0_1.length c0_1]] rfl aA ?_; (with_reducible refine (spec_IsValidDatabase.calls k _ _ l0_0 _ _ l0_1 true _ ?side1 ?side2 ?side3 ?side4 A19.out).mono ?_); (case side1 => exact Kd.C_below HR0_0.out aG); (case side2 => exact HC0_0.out); (case side3 => exact Kd.C_below HR0_1.out aG); (case side4 => exact HC0_1.out); rintro e w42 ⟨rfl, hb⟩; refine ⟨_, rfl, ?_⟩; replace HO353 := aM (Kd.R_below (by (with_reducible repeat apply pR); exact (Kd.R_mono (Kd.R_far (p := ⟨gb357, 1, none⟩) (Kd.R_far (p := ⟨gb357, 0, none⟩) (Kd.R_types HO353.out BK357.out (by decide)) (fun _ hk => hk.2) (.slice Ao13 t351.length co13)) (fun _ hk => hk.2) (.slice Ao18 t354.length co18)) (fun _ h_ => h_.1))) hb); replace HO356 := aM (Kd.N_below (by (with_reducible repeat apply pN); exact (Kd.N_mono (Kd.N_far (p := ⟨gb357, 1, none⟩) (Kd.N_far (p := ⟨gb357, 0, none⟩) (Kd.N_mono HO356.out (fun k_ hk => (⟨hk, hk.2⟩ : _ ∧ k_ ≠ gb357))) (fun _ hk => hk.2) (.slice Ao13 t351.length co13)) (fun _ hk => hk.2) (.slice Ao18 t354.length co18)) (fun _ h_ => h_.1))) hb); replace BK348 := aM (blk_below (g := gb348) (o := .cells #[.slice A0_0 l0_0.length c0_0, .slice A0_1 l0_1.length c0_1] 27 (0, 0)) (by (with_reducible repeat refine pB ?_); refine blk_far ?_ NB348_357.out _; (with_reducible repeat refine pB ?_); refine blk_far ?_ NB348_357.out _; (with_reducible repeat refine pB ?_); exact BK348.out) hb); replace BK349 := aM (blk_below (g := gb349) (o := .cells #[.int .i64 a1_0, .slice A1_1 l1_1.length c1_1] 35 (0, 0)) (by (with_reducible repeat refine pB ?_); refine blk_far ?_ NB349_357.out _; (with_reducible repeat refine pB ?_); refine blk_far ?_ NB349_357.out _; (with_reducible repeat refine pB ?_); exact BK349.out) hb); replace BK350 := aM (blk_below (g := gb350) (o := .cells #[.slice none 0 0, .slice none 0 0] 27 (0, 0)) (by (with_reducible repeat refine pB ?_); refine blk_far ?_ NB350_357.out _; (with_reducible repeat refine pB ?_); refine blk_far ?_ NB350_357.out _; (with_reducible repeat refine pB ?_); exact BK350.out) hb); replace BK357 := aM (blk_below (g := gb357) (o := .cells #[.slice Ao13 t351.length co13, .slice Ao18 t354.length co18] 27 (0, 0)) (by (with_reducible repeat refine pB ?_); refine blk_put (cs := #[.slice Ao13 t351.length co13, .slice none 0 0]) ?_ 1 _ rfl; (with_reducible repeat refine pB ?_); refine blk_put (cs := #[.slice none 0 0, .slice none 0 0]) ?_ 0 _ rfl; (with_reducible repeat refine pB ?_); exact BK357.out) hb); replace HB := aM (below_step aG hb); (try clear hb); (try clear hb2); (try clear hk); (try clear hi); have hcz43_0 : w42.cell? ⟨gb348, 0, none⟩ = some (.slice A0_0 l0_0.length c0_0) := (blk_cell BK348.out 0).trans rfl; have hcz43_1 : w42.cell? ⟨gb348, 1, none⟩ = some (.slice A0_1 l0_1.length c0_1) := (blk_cell BK348.out 1).trans rfl; have hfz43_0 := blk_frozen BK348.out 0; have hfz43_1 := blk_frozen BK348.out 1; have hnb44 := NB349_350.out; have hnc44 := NB350_349.out; have hnb45 := NB349_357.out; have hnc45 := NB357_349.out; have hcz46_0 : w42.cell? ⟨gb349, 0, none⟩ = some (.int .i64 a1_0) := (blk_cell BK349.out 0).trans rfl; have hcz46_1 : w42.cell? ⟨gb349, 1, none⟩ = some (.slice A1_1 l1_1.length c1_1) := (blk_cell BK349.out 1).trans rfl; have hfz46_0 := blk_frozen BK349.out 0; have hfz46_1 := blk_frozen BK349.out 1) | (go_at_call 45; (with_reducible refine (spec_IsValidFact.calls k _ _ l0_0 a1_0 _ _ l1_1 true _ ?side1 ?side2 ?side3 ?side4 A21.out).mono ?_); (case side1 => exact aC); (case side2 => exact HC0_0.out); (case side3 => exact aC); (case side4 => exact HC1_1.out); rintro e w47 ⟨rfl, hb⟩; have n0_ := aM (Kd.R_below (aR HO353) hb); have n1_ := aM (Kd.N_below (aN HO356) hb); have n2_ := aM (kB gb348 #[.slice A0_0 l0_0.length c0_0, .slice A0_1 l0_1.length c0_1] 27 hb); have n3_ := aM (kB gb349 #[.int .i64 a1_0, .slice A1_1 l1_1.length c1_1] 35 hb); have n4_ := aM (kB gb350 #[.slice none 0 0, .slice none 0 0] 27 hb); have n5_ := aM (kB gb357 #[.slice Ao13 t351.length co13, .slice Ao18 t354.length co18] 27 hb); have n6_ := aM (below_step aG hb); clear HO353; clear HO356; clear BK348; clear BK349; clear BK350; clear BK357; clear HB; have HO353 := n0_; have HO356 := n1_; have BK348 := n2_; have BK349 := n3_; have BK350 := n4_; have BK357 := n5_; have HB := n6_; clear n0_ n1_ n2_ n3_ n4_ n5_ n6_; (try clear hb); (try clear hb2); (try clear hk); (try clear hi); have hcz48_0 : w47.cell? ⟨gb348, 0, none⟩ = some (.slice A0_0 l0_0.length c0_0) := (blk_cell BK348.out 0).trans rfl; have hcz48_1 : w47.cell? ⟨gb348, 1, none⟩ = some (.slice A0_1 l0_1.length c0_1) := (blk_cell BK348.out 1).trans rfl; have hfz48_0 := blk_frozen BK348.out 0; have hfz48_1 := blk_frozen BK348.out 1; have hcz49_0 : w47.cell? ⟨gb349, 0, none⟩ = some (.int .i64 a1_0) := (blk_cell BK349.out 0).trans rfl; have hcz49_1 : w47.cell? ⟨gb349, 1, none⟩ = some (.slice A1_1 l1_1.length c1_1) := (blk_cell BK349.out 1).trans rfl; have hfz49_0 := blk_frozen BK349.out 0; have hfz49_1 := blk_frozen BK349.out 1) | (go_at_call 57; (with_reducible refine (spec_ContainsFact.calls k _ _ l0_0 _ _ l0_1 a1_0 _ _ l1_1 false _ ?side1 ?side2 ?side3 ?side4 ?side5 ?side6 A23.out).mono ?_); (case side1 => exact aC); (case side2 => exact HC0_0.out); (case side3 => exact aC); (case side4 => exact HC0_1.out); (case side5 => exact aC); (case side6 => exact HC1_1.out); rintro e w50 ⟨rfl, hb⟩; have n0_ := aM (Kd.R_below (aR HO353) hb); have n1_ := aM (Kd.N_below (aN HO356) hb); have n2_ := aM (kB gb348 #[.slice A0_0 l0_0.length c0_0, .slice A0_1 l0_1.length c0_1] 27 hb); have n3_ := aM (kB gb349 #[.int .i64 a1_0, .slice A1_1 l1_1.length c1_1] 35 hb); have n4_ := aM (kB gb350 #[.slice none 0 0, .slice none 0 0] 27 hb); have n5_ := aM (kB gb357 #[.slice Ao13 t351.length co13, .slice Ao18 t354.length co18] 27 hb); have n6_ := aM (below_step aG hb); clear HO353; clear HO356; clear BK348; clear BK349; clear BK350; clear BK357; clear HB; have HO353 := n0_; have HO356 := n1_; have BK348 := n2_; have BK349 := n3_; have BK350 := n4_; have BK357 := n5_; have HB := n6_; clear n0_ n1_ n2_ n3_ n4_ n5_ n6_; (try clear hb); (try clear hb2); (try clear hk); (try clear hi); have hcz51_0 : w50.cell? ⟨gb348, 0, none⟩ = some (.slice A0_0 l0_0.length c0_0) := (blk_cell BK348.out 0).trans rfl; have hcz51_1 : w50.cell? ⟨gb348, 1, none⟩ = some (.slice A0_1 l0_1.length c0_1) := (blk_cell BK348.out 1).trans rfl; have hfz51_0 := blk_frozen BK348.out 0; have hfz51_1 := blk_frozen BK348.out 1))
     go_meet
     case rel => exact ⟨_, (((l0_1.length : Int) == 14)), aX, H', ⟨by first | omega | exact Nat.le_refl _⟩, ⟨by (with_reducible repeat apply pR); exact Kd.R_mono HO353.out (fun _ hk => hk.1)⟩, ⟨by (with_reducible repeat apply pN); exact Kd.N_mono HO356.out (fun _ hk => ⟨hk.1.1, ⟨hk.1.2.1, ⟨hk.1.2.2.1, ⟨hk.1.2.2.2.1, ⟨hk.1.2.2.2.2, hk.2⟩⟩⟩⟩⟩)⟩, ⟨aK⟩, ⟨aK⟩, ⟨aK⟩, ⟨aK⟩, ⟨aG⟩⟩
   ·replace c22 := Bool.eq_false_iff.mpr c22
    subst c22
    have H1 : (spec_InsertFact.j0 k true a1_0 l1_1 t351 t354) = some (r1, r2, r3) := by rw [if_neg (show ¬ (false = true) by decide)] at H; exact H
    clear H
    have H := H1
    clear H1
    have H' := aM H
    clear H
    have hnb52 := NB348_349.out
    have hnc52 := NB349_348.out
    have hnb53 := NB348_350.out
    have hnc53 := NB350_348.out
    have hnb54 := NB348_357.out
    have hnc54 := NB357_348.out
    have hcz55_0 : w12.cell? ⟨gb348, 0, none⟩ = some (.slice A0_0 l0_0.length c0_0) := (blk_cell BK348.out 0).trans rfl
    have hcz55_1 : w12.cell? ⟨gb348, 1, none⟩ = some (.slice A0_1 l0_1.length c0_1) := (blk_cell BK348.out 1).trans rfl
    have hfz55_0 := blk_frozen BK348.out 0
    have hfz55_1 := blk_frozen BK348.out 1
    go_wp2_with (first | ((with_reducible refine gate_callee (f := 10) rfl ?_); refine goesL_ (some 12) rfl rfl Try.func10 (by kernel_rfl) rfl #[.agg #[.slice A0_0 l0_0.length c0_0, .slice A0_1 l0_1.length c0_1]] rfl aA ?_; (with_reducible refine (spec_IsValidDatabase.calls k _ _ l0_0 _ _ l0_1 true _ ?side1 ?side2 ?side3 ?side4 A19.out).mono ?_); (case side1 => exact Kd.C_below HR0_0.out aG); (case side2 => exact HC0_0.out); (case side3 => exact Kd.C_below HR0_1.out aG); (case side4 => exact HC0_1.out); rintro e w56 ⟨rfl, hb⟩; refine ⟨_, rfl, ?_⟩; replace HO353 := aM (Kd.R_below (by (with_reducible repeat apply pR); exact (Kd.R_mono (Kd.R_far (p := ⟨gb357, 1, none⟩) (Kd.R_far (p := ⟨gb357, 0, none⟩) (Kd.R_types HO353.out BK357.out (by decide)) (fun _ hk => hk.2) (.slice Ao13 t351.length co13)) (fun _ hk => hk.2) (.slice Ao18 t354.length co18)) (fun _ h_ => h_.1))) hb); replace HO356 := aM (Kd.N_below (by (with_reducible repeat apply pN); exact (Kd.N_mono (Kd.N_far (p := ⟨gb357, 1, none⟩) (Kd.N_far (p := ⟨gb357, 0, none⟩) (Kd.N_mono HO356.out (fun k_ hk => (⟨hk, hk.2⟩ : _ ∧ k_ ≠ gb357))) (fun _ hk => hk.2) (.slice Ao13 t351.length co13)) (fun _ hk => hk.2) (.slice Ao18 t354.length co18)) (fun _ h_ => h_.1))) hb); replace BK348 := aM (blk_below (g := gb348) (o := .cells #[.slice A0_0 l0_0.length c0_0, .slice A0_1 l0_1.length c0_1] 27 (0, 0)) (by (with_reducible repeat refine pB ?_); refine blk_far ?_ NB348_357.out _; (with_reducible repeat refine pB ?_); refine blk_far ?_ NB348_357.out _; (with_reducible repeat refine pB ?_); exact BK348.out) hb); replace BK349 := aM (blk_below (g := gb349) (o := .cells #[.int .i64 a1_0, .slice A1_1 l1_1.length c1_1] 35 (0, 0)) (by (with_reducible repeat refine pB ?_); refine blk_far ?_ NB349_357.out _; (with_reducible repeat refine pB ?_); refine blk_far ?_ NB349_357.out _; (with_reducible repeat refine pB ?_); exact BK349.out) hb); replace BK350 := aM (blk_below (g := gb350) (o := .cells #[.slice none 0 0, .slice none 0 0] 27 (0, 0)) (by (with_reducible repeat refine pB ?_); refine blk_far ?_ NB350_357.out _; (with_reducible repeat refine pB ?_); refine blk_far ?_ NB350_357.out _; (with_reducible repeat refine pB ?_); exact BK350.out) hb); replace BK357 := aM (blk_below (g := gb357) (o := .cells #[.slice Ao13 t351.length co13, .slice Ao18 t354.length co18] 27 (0, 0)) (by (with_reducible repeat refine pB ?_); refine blk_put (cs := #[.slice Ao13 t351.length co13, .slice none 0 0]) ?_ 1 _ rfl; (with_reducible repeat refine pB ?_); refine blk_put (cs := #[.slice none 0 0, .slice none 0 0]) ?_ 0 _ rfl; (with_reducible repeat refine pB ?_); exact BK357.out) hb); replace HB := aM (below_step aG hb); (try clear hb); (try clear hb2); (try clear hk); (try clear hi); have hcz57_0 : w56.cell? ⟨gb348, 0, none⟩ = some (.slice A0_0 l0_0.length c0_0) := (blk_cell BK348.out 0).trans rfl; have hcz57_1 : w56.cell? ⟨gb348, 1, none⟩ = some (.slice A0_1 l0_1.length c0_1) := (blk_cell BK348.out 1).trans rfl; have hfz57_0 := blk_frozen BK348.out 0; have hfz57_1 := blk_frozen BK348.out 1; have hnb58 := NB349_350.out; have hnc58 := NB350_349.out; have hnb59 := NB349_357.out; have hnc59 := NB357_349.out; have hcz60_0 : w56.cell? ⟨gb349, 0, none⟩ = some (.int .i64 a1_0) := (blk_cell BK349.out 0).trans rfl; have hcz60_1 : w56.cell? ⟨gb349, 1, none⟩ = some (.slice A1_1 l1_1.length c1_1) := (blk_cell BK349.out 1).trans rfl; have hfz60_0 := blk_frozen BK349.out 0; have hfz60_1 := blk_frozen BK349.out 1) | (go_at_call 45; (with_reducible refine (spec_IsValidFact.calls k _ _ l0_0 a1_0 _ _ l1_1 false _ ?side1 ?side2 ?side3 ?side4 A21.out).mono ?_); (case side1 => exact aC); (case side2 => exact HC0_0.out); (case side3 => exact aC); (case side4 => exact HC1_1.out); rintro e w61 ⟨rfl, hb⟩; have n0_ := aM (Kd.R_below (aR HO353) hb); have n1_ := aM (Kd.N_below (aN HO356) hb); have n2_ := aM (kB gb348 #[.slice A0_0 l0_0.length c0_0, .slice A0_1 l0_1.length c0_1] 27 hb); have n3_ := aM (kB gb349 #[.int .i64 a1_0, .slice A1_1 l1_1.length c1_1] 35 hb); have n4_ := aM (kB gb350 #[.slice none 0 0, .slice none 0 0] 27 hb); have n5_ := aM (kB gb357 #[.slice Ao13 t351.length co13, .slice Ao18 t354.length co18] 27 hb); have n6_ := aM (below_step aG hb); clear HO353; clear HO356; clear BK348; clear BK349; clear BK350; clear BK357; clear HB; have HO353 := n0_; have HO356 := n1_; have BK348 := n2_; have BK349 := n3_; have BK350 := n4_; have BK357 := n5_; have HB := n6_; clear n0_ n1_ n2_ n3_ n4_ n5_ n6_; (try clear hb); (try clear hb2); (try clear hk); (try clear hi)))
    go_meet
    case rel => exact ⟨_, (true), aX, H', ⟨by first | omega | exact Nat.le_refl _⟩, ⟨by (with_reducible repeat apply pR); exact Kd.R_mono HO353.out (fun _ hk => hk.1)⟩, ⟨by (with_reducible repeat apply pN); exact Kd.N_mono HO356.out (fun _ hk => ⟨hk.1.1, ⟨hk.1.2.1, ⟨hk.1.2.2.1, ⟨hk.1.2.2.2.1, ⟨hk.1.2.2.2.2, hk.2⟩⟩⟩⟩⟩)⟩, ⟨aK⟩, ⟨aK⟩, ⟨aK⟩, ⟨aK⟩, ⟨aG⟩⟩
  ·replace c20 := Bool.eq_false_iff.mpr c20
   subst c20
   have H1 : (spec_InsertFact.j0 k true a1_0 l1_1 t351 t354) = some (r1, r2, r3) := by rw [if_neg (show ¬ (false = true) by decide)] at H; exact H
   clear H
   have H := H1
   clear H1
   have H' := aM H
   clear H
   have hnb62 := NB348_349.out
   have hnc62 := NB349_348.out
   have hnb63 := NB348_350.out
   have hnc63 := NB350_348.out
   have hnb64 := NB348_357.out
   have hnc64 := NB357_348.out
   have hcz65_0 : w12.cell? ⟨gb348, 0, none⟩ = some (.slice A0_0 l0_0.length c0_0) := (blk_cell BK348.out 0).trans rfl
   have hcz65_1 : w12.cell? ⟨gb348, 1, none⟩ = some (.slice A0_1 l0_1.length c0_1) := (blk_cell BK348.out 1).trans rfl
   have hfz65_0 := blk_frozen BK348.out 0
   have hfz65_1 := blk_frozen BK348.out 1
   go_wp2_with (first | ((with_reducible refine gate_callee (f := 10) rfl ?_); refine goesL_ (some 12) rfl rfl Try.func10 (by kernel_rfl) rfl #[.agg #[.slice A0_0 l0_0.length c0_0, .slice A0_1 l0_1.length c0_1]] rfl aA ?_; (with_reducible refine (spec_IsValidDatabase.calls k _ _ l0_0 _ _ l0_1 false _ ?side1 ?side2 ?side3 ?side4 A19.out).mono ?_); (case side1 => exact Kd.C_below HR0_0.out aG); (case side2 => exact HC0_0.out); (case side3 => exact Kd.C_below HR0_1.out aG); (case side4 => exact HC0_1.out); rintro e w66 ⟨rfl, hb⟩; refine ⟨_, rfl, ?_⟩; replace HO353 := aM (Kd.R_below (by (with_reducible repeat apply pR); exact (Kd.R_mono (Kd.R_far (p := ⟨gb357, 1, none⟩) (Kd.R_far (p := ⟨gb357, 0, none⟩) (Kd.R_types HO353.out BK357.out (by decide)) (fun _ hk => hk.2) (.slice Ao13 t351.length co13)) (fun _ hk => hk.2) (.slice Ao18 t354.length co18)) (fun _ h_ => h_.1))) hb); replace HO356 := aM (Kd.N_below (by (with_reducible repeat apply pN); exact (Kd.N_mono (Kd.N_far (p := ⟨gb357, 1, none⟩) (Kd.N_far (p := ⟨gb357, 0, none⟩) (Kd.N_mono HO356.out (fun k_ hk => (⟨hk, hk.2⟩ : _ ∧ k_ ≠ gb357))) (fun _ hk => hk.2) (.slice Ao13 t351.length co13)) (fun _ hk => hk.2) (.slice Ao18 t354.length co18)) (fun _ h_ => h_.1))) hb); replace BK348 := aM (blk_below (g := gb348) (o := .cells #[.slice A0_0 l0_0.length c0_0, .slice A0_1 l0_1.length c0_1] 27 (0, 0)) (by (with_reducible repeat refine pB ?_); refine blk_far ?_ NB348_357.out _; (with_reducible repeat refine pB ?_); refine blk_far ?_ NB348_357.out _; (with_reducible repeat refine pB ?_); exact BK348.out) hb); replace BK349 := aM (blk_below (g := gb349) (o := .cells #[.int .i64 a1_0, .slice A1_1 l1_1.length c1_1] 35 (0, 0)) (by (with_reducible repeat refine pB ?_); refine blk_far ?_ NB349_357.out _; (with_reducible repeat refine pB ?_); refine blk_far ?_ NB349_357.out _; (with_reducible repeat refine pB ?_); exact BK349.out) hb); replace BK350 := aM (blk_below (g := gb350) (o := .cells #[.slice none 0 0, .slice none 0 0] 27 (0, 0)) (by (with_reducible repeat refine pB ?_); refine blk_far ?_ NB350_357.out _; (with_reducible repeat refine pB ?_); refine blk_far ?_ NB350_357.out _; (with_reducible repeat refine pB ?_); exact BK350.out) hb); replace BK357 := aM (blk_below (g := gb357) (o := .cells #[.slice Ao13 t351.length co13, .slice Ao18 t354.length co18] 27 (0, 0)) (by (with_reducible repeat refine pB ?_); refine blk_put (cs := #[.slice Ao13 t351.length co13, .slice none 0 0]) ?_ 1 _ rfl; (with_reducible repeat refine pB ?_); refine blk_put (cs := #[.slice none 0 0, .slice none 0 0]) ?_ 0 _ rfl; (with_reducible repeat refine pB ?_); exact BK357.out) hb); replace HB := aM (below_step aG hb); (try clear hb); (try clear hb2); (try clear hk); (try clear hi)))
   go_meet
   case rel => exact ⟨_, (true), aX, H', ⟨by first | omega | exact Nat.le_refl _⟩, ⟨by (with_reducible repeat apply pR); exact Kd.R_mono HO353.out (fun _ hk => hk.1)⟩, ⟨by (with_reducible repeat apply pN); exact Kd.N_mono HO356.out (fun _ hk => ⟨hk.1.1, ⟨hk.1.2.1, ⟨hk.1.2.2.1, ⟨hk.1.2.2.2.1, ⟨hk.1.2.2.2.2, hk.2⟩⟩⟩⟩⟩)⟩, ⟨aK⟩, ⟨aK⟩, ⟨aK⟩, ⟨aK⟩, ⟨aG⟩⟩
 case rest =>
  clear HC4
  try clear c1
  try clear c2
  try clear p2
  try clear c3
  try clear c4
  try clear c5
  try clear c6
  try clear c8
  try clear c9
  try clear c10
  try clear c14
  try clear c15
  try clear c16
  try clear c19
  try clear c20
  try clear c22
  try clear c24
  try clear c25
  try clear c26
  try clear c27
  try clear c31
  try clear c32
  try clear c38
  try clear c39
  try clear c40
  try clear c44
  try clear c45
  try clear c52
  try clear c53
  try clear c54
  try clear c56
  try clear c58
  try clear c59
  try clear c62
  try clear c63
  try clear c64
  try clear hcz10_0
  try clear hcz10_1
  try clear hcz17_0
  try clear hcz17_1
  try clear hcz28_0
  try clear hcz28_1
  try clear hcz30_0
  try clear hcz30_1
  try clear hcz33_0
  try clear hcz33_1
  try clear hcz35_0
  try clear hcz35_1
  try clear hcz36_0
  try clear hcz36_1
  try clear hcz41_0
  try clear hcz41_1
  try clear hcz43_0
  try clear hcz43_1
  try clear hcz46_0
  try clear hcz46_1
  try clear hcz48_0
  try clear hcz48_1
  try clear hcz49_0
  try clear hcz49_1
  try clear hcz51_0
  try clear hcz51_1
  try clear hcz55_0
  try clear hcz55_1
  try clear hcz57_0
  try clear hcz57_1
  try clear hcz60_0
  try clear hcz60_1
  try clear hcz65_0
  try clear hcz65_1
  try clear hfz10_0
  try clear hfz10_1
  try clear hfz17_0
  try clear hfz17_1
  try clear hfz28_0
  try clear hfz28_1
  try clear hfz30_0
  try clear hfz30_1
  try clear hfz33_0
  try clear hfz33_1
  try clear hfz35_0
  try clear hfz35_1
  try clear hfz36_0
  try clear hfz36_1
  try clear hfz41_0
  try clear hfz41_1
  try clear hfz43_0
  try clear hfz43_1
  try clear hfz46_0
  try clear hfz46_1
  try clear hfz48_0
  try clear hfz48_1
  try clear hfz49_0
  try clear hfz49_1
  try clear hfz51_0
  try clear hfz51_1
  try clear hfz55_0
  try clear hfz55_1
  try clear hfz57_0
  try clear hfz57_1
  try clear hfz60_0
  try clear hfz60_1
  try clear hfz65_0
  try clear hfz65_1
  obtain ⟨kq, x31_3, rfl, HA, HJ3, HO_358000, HO_358001, BK348, BK349, BK350, BK357, HB⟩ := hcut
  cases kq with
  | zero => exact absurd HA.out (by simp [spec_InsertFact.j0])
  | succ kj3 =>
   have H := HA.out
   clear HA
   simp only [spec_InsertFact.j0] at H
   by_cases c67 : x31_3 = true
   ·subst c67
    replace H := iT H
    simp only [Option.some.injEq, Prod.mk.injEq] at H
    obtain ⟨rfl, rfl, rfl⟩ := H
    have hnb68 := NB357_348.out
    have hnc68 := NB348_357.out
    have hnb69 := NB357_349.out
    have hnc69 := NB349_357.out
    have hnb70 := NB357_350.out
    have hnc70 := NB350_357.out
    have hcz71_0 : wc.cell? ⟨gb357, 0, none⟩ = some (.slice Ao13 t351.length co13) := (blk_cell BK357.out 0).trans rfl
    have hcz71_1 : wc.cell? ⟨gb357, 1, none⟩ = some (.slice Ao18 t354.length co18) := (blk_cell BK357.out 1).trans rfl
    have hfz71_0 := blk_frozen BK357.out 0
    have hfz71_1 := blk_frozen BK357.out 1
    have hnb72 := NB350_348.out
    have hnc72 := NB348_350.out
    have hnb73 := NB350_349.out
    have hnc73 := NB349_350.out
    have hcz74_0 : wc.cell? ⟨gb350, 0, none⟩ = some (.slice none 0 0) := (blk_cell BK350.out 0).trans rfl
    have hcz74_1 : wc.cell? ⟨gb350, 1, none⟩ = some (.slice none 0 0) := (blk_cell BK350.out 1).trans rfl
    have hfz74_0 := blk_frozen BK350.out 0
    have hfz74_1 := blk_frozen BK350.out 1
    go_wp2
    refine bodyPost_ret (results_ct rfl _ _ gb350 27 #[.slice Ao13 t351.length co13, .slice Ao18 t354.length co18] (0, 0) _ rfl (by (with_reducible repeat refine pB ?_); refine blk_put (cs := #[.slice Ao13 t351.length co13, .slice none 0 0]) ?_ 1 _ rfl; (with_reducible repeat refine pB ?_); refine blk_put (cs := #[.slice none 0 0, .slice none 0 0]) ?_ 0 _ rfl; (with_reducible repeat refine pB ?_); exact BK350.out) Try.underlying27 rfl (by kernel_rfl)) rfl ?_
    exact ⟨_, _, aE, by (with_reducible repeat apply pR); exact Kd.R_mono (Kd.R_far (p := ⟨gb350, 1, none⟩) (Kd.R_far (p := ⟨gb350, 0, none⟩) (Kd.R_types HO_358000.out BK350.out (by decide)) (fun _ hk => hk.2) (.slice Ao13 t351.length co13)) (fun _ hk => hk.2) (.slice Ao18 t354.length co18)) (fun _ hk => hk.1), by (with_reducible repeat apply pN); exact Kd.N_mono (Kd.N_far (p := ⟨gb350, 1, none⟩) (Kd.N_far (p := ⟨gb350, 0, none⟩) (Kd.N_mono HO_358001.out (fun k_ hk => (⟨hk, hk.2.2.2.2.1⟩ : _ ∧ k_ ≠ gb350))) (fun _ hk => hk.2) (.slice Ao13 t351.length co13)) (fun _ hk => hk.2) (.slice Ao18 t354.length co18)) (fun _ hk => ⟨hk.1.1, hk.1.2.1⟩), aG⟩
   ·replace c67 := Bool.eq_false_iff.mpr c67
    subst c67
    have H1 : (spec_InsertFact.l0 kj3 0 a1_0 l1_1 t351 t354) = some (r1, r2, r3) := by rw [if_neg (show ¬ (false = true) by decide)] at H; exact H
    clear H
    have H := H1
    clear H1
    have H' := aM H
    clear H
    go_wp2
    go_loopg [7] kj3 (fun kq v7 w' => ∃ (x7_2 : Int), v7 = .int .i64 x7_2 ∧ Aside0 (spec_InsertFact.l0 kq x7_2 a1_0 l1_1 t351 t354 = some (r1, r2, r3)) ∧ Aside0 (kq ≤ kj3) ∧ Aside0 (Kd.R k70 70 w' w.heap.size (fun k_ => (w.heap.size ≤ k_)) (.slice Ao13 t351.length co13) t351) ∧ Aside0 (Kd.N k35 35 w' w.heap.size (fun k_ => (w.heap.size ≤ k_) ∧ some k_ ≠ ((.slice Ao13 t351.length co13) : Value).ownBlock ∧ k_ ≠ gb348 ∧ k_ ≠ gb349 ∧ k_ ≠ gb350 ∧ k_ ≠ gb357) (.slice Ao18 t354.length co18) t354) ∧ Aside0 (w'.heap[gb348]? = some (.cells #[(.slice A0_0 l0_0.length c0_0), (.slice A0_1 l0_1.length c0_1)] 27 (0, 0))) ∧ Aside0 (w'.heap[gb349]? = some (.cells #[.int .i64 a1_0, (.slice A1_1 l1_1.length c1_1)] 35 (0, 0))) ∧ Aside0 (w'.heap[gb350]? = some (.cells #[(.slice none 0 0), (.slice none 0 0)] 27 (0, 0))) ∧ Aside0 (w'.heap[gb357]? = some (.cells #[(.slice Ao13 t351.length co13), (.slice Ao18 t354.length co18)] 27 (0, 0))) ∧ Aside0 (Below w.heap.size w w'))
    case atStart => exact ⟨(0), aX, H', ⟨Nat.le_refl _⟩, ⟨aR HO_358000⟩, ⟨aN HO_358001⟩, ⟨aK⟩, ⟨aK⟩, ⟨aK⟩, ⟨aK⟩, ⟨aG⟩⟩
    case round =>
     clear H'
     try clear c1
     try clear c2
     try clear p2
     try clear c3
     try clear c4
     try clear c5
     try clear c6
     try clear c7
     try clear c8
     try clear c9
     try clear c10
     try clear c14
     try clear c15
     try clear c16
     try clear c19
     try clear c20
     try clear c22
     try clear c24
     try clear c25
     try clear c26
     try clear c27
     try clear c31
     try clear c32
     try clear c38
     try clear c39
     try clear c40
     try clear c44
     try clear c45
     try clear c52
     try clear c53
     try clear c54
     try clear c56
     try clear c58
     try clear c59
     try clear c62
     try clear c63
     try clear c64
     try clear c67
     try clear c68
     try clear c69
     try clear c70
     try clear c72
     try clear c73
     try clear hcz10_0
     try clear hcz10_1
     try clear hcz17_0
     try clear hcz17_1
     try clear hcz28_0
     try clear hcz28_1
     try clear hcz30_0
     try clear hcz30_1
     try clear hcz33_0
     try clear hcz33_1
     try clear hcz35_0
     try clear hcz35_1
     try clear hcz36_0
     try clear hcz36_1
     try clear hcz41_0
     try clear hcz41_1
     try clear hcz43_0
     try clear hcz43_1
     try clear hcz46_0
     try clear hcz46_1
     try clear hcz48_0
     try clear hcz48_1
     try clear hcz49_0
     try clear hcz49_1
     try clear hcz51_0
     try clear hcz51_1
     try clear hcz55_0
     try clear hcz55_1
     try clear hcz57_0
     try clear hcz57_1
     try clear hcz60_0
     try clear hcz60_1
     try clear hcz65_0
     try clear hcz65_1
     try clear hcz71_0
     try clear hcz71_1
     try clear hcz74_0
     try clear hcz74_1
     try clear hfz10_0
     try clear hfz10_1
     try clear hfz17_0
     try clear hfz17_1
     try clear hfz28_0
     try clear hfz28_1
     try clear hfz30_0
     try clear hfz30_1
     try clear hfz33_0
     try clear hfz33_1
     try clear hfz35_0
     try clear hfz35_1
     try clear hfz36_0
     try clear hfz36_1
     try clear hfz41_0
     try clear hfz41_1
     try clear hfz43_0
     try clear hfz43_1
     try clear hfz46_0
     try clear hfz46_1
     try clear hfz48_0
     try clear hfz48_1
     try clear hfz49_0
     try clear hfz49_1
     try clear hfz51_0
     try clear hfz51_1
     try clear hfz55_0
     try clear hfz55_1
     try clear hfz57_0
     try clear hfz57_1
     try clear hfz60_0
     try clear hfz60_1
     try clear hfz65_0
     try clear hfz65_1
     try clear hfz71_0
     try clear hfz71_1
     try clear hfz74_0
     try clear hfz74_1
     try clear p2
     obtain ⟨x7_2, rfl, HA, HK2, HO_358000, HO_358001, BK348, BK349, BK350, BK357, HB⟩ := hrel
     cases gk with
     | zero => exact absurd HA.out (by simp [spec_InsertFact.l0])
     | succ k2 =>
      have H := HA.out
      clear HA
      simp only [spec_InsertFact.l0] at H
      by_cases c75 : x7_2 < (t354.length : Int)
      ·rw [if_pos c75] at H
       have c75b0 : decide (x7_2 < (t354.length : Int)) = true := decide_eq_true c75
       clear c75
       by_cases c76 : 0 ≤ x7_2
       ·rw [if_pos c76] at H
        have c76b0 : decide (0 ≤ x7_2) = true := decide_eq_true c76
        clear c76
        replace H := bM H
        obtain ⟨t362, A770, H⟩ := H
        have A77 := aM A770
        clear A770
        by_cases c78 : t362 < 0
        ·rw [if_pos c78] at H
         have c78b0 : decide (t362 < 0) = true := decide_eq_true c78
         clear c78
         have H' := aM H
         clear H
         try go_wp2
         replace HO_358000 := aM (Kd.R_drew HO_358000.out)
         replace HO_358001 := aM (Kd.N_drew HO_358001.out)
         replace BK348 := aM (blk_drew BK348.out)
         replace BK349 := aM (blk_drew BK349.out)
         replace BK350 := aM (blk_drew BK350.out)
         replace BK357 := aM (blk_drew BK357.out)
         replace HB := aM (below_drew1 HB.out)
         have p361 : 0 ≤ (x7_2 : Int) := aD
         have q361 : x7_2 < (t354.length : Int) := aD
         obtain ⟨ad361, A361_1, c361_1, e361, hx361_0, hx361_1, hl361_1, hi361_1⟩ := at_T35 (Kd.N_reads' HO_358001.out).2.2 x7_2 p361 q361
         cases e361
         obtain ⟨ce361, hce361, hMe361, hcc361⟩ := Kd.N_get HO_358001.out z35 x7_2 p361 (by first | exact q361 | exact aD | (have e_ := (Kd.N_reads' HO_358001.out).1; omega))
         obtain ⟨ua361_1, uc361_1, rfl, ul361_1, ge361_1⟩ := k35_openF hMe361
         have hv361_1 := hcc361 1 _ rfl
         rw [add_field _ _ 1 (by omega)] at hv361_1
         replace hv361_1 := Option.some.inj (hv361_1.symm.trans hx361_1)
         injection hv361_1 with hva_ hvn_ hvc_
         rw [hva_] at ge361_1
         rw [hvc_] at ul361_1
         have HL361_1 := aM (show Kd.V (Kd.int .i64) 3 _ w.heap.size _ _ ((rd_T35 t354 x7_2).f1) from Kd.V_mk ul361_1 ge361_1)
         clear hva_ hvn_ hvc_ ge361_1 ul361_1
         clear hcc361 hce361
         have HR361_1 := aM hi361_1
         have HC361_1 := aM hl361_1
         clear hi361_1 hl361_1
         replace p361 := eq_true p361
         replace q361 := eq_true q361
         refine start_ (n := 15) (S := fun w' => w'.cell? ⟨gb357, 0, none⟩ = some (.slice Ao13 t351.length co13) ∧ w'.cell? ⟨gb357, 1, none⟩ = some (.slice (some ad361) t354.length co18) ∧ w'.cell? ⟨gb349, 0, none⟩ = some (.int .i64 a1_0) ∧ w'.cell? ⟨gb349, 1, none⟩ = some (.slice A1_1 l1_1.length c1_1) ∧ w'.cell? (ad361.add ((x7_2).toNat * 2)) = some (.int .i64 ((rd_T35 t354 x7_2).f0)) ∧ w'.cell? ⟨(ad361.add ((x7_2).toNat * 2)).block, (ad361.add ((x7_2).toNat * 2)).off + 1, none⟩ = some (.slice A361_1 ((rd_T35 t354 x7_2).f1).length c361_1)) (ds := []) #[false, false, false, false, false, false, false, false, false, false, false, false, false, false, false] (by kernel_rfl) rfl rfl ⟨(blk_cell BK357.out 0).trans rfl, (blk_cell BK357.out 1).trans rfl, (blk_cell BK349.out 0).trans rfl, (blk_cell BK349.out 1).trans rfl, hx361_0, hx361_1⟩ (fun hHeld => ?_); refine with_tabW spec_InsertFact.tab5 spec_InsertFact.bits5 (fun HT_ HW_ => ?_)
         generalize wr.drew = w79 at HO_358000 HO_358001 BK348 BK349 BK350 BK357 HB HL361_1 HR361_1 hx361_0 hx361_1 hHeld ⊢
         refine pU 0 33 ?_
         refine pU 1 34 ?_
         refine tU6 2 35 hHeld ?_
         refine pU 3 36 ?_
         refine pU 4 37 ?_
         refine pU 5 38 ?_
         refine pU 6 39 ?_
         refine pU 8 41 ?_
         refine tU6 7 40 hHeld ?_
         refine pU 9 42 ?_
         refine tU6 10 43 hHeld ?_
         refine tU6 11 44 hHeld ?_
         refine oU 12 45 (fun K hK => ?_)
         refine goes_ Try.func46 (by kernel_rfl) rfl #[.agg #[.int .i64 ((rd_T35 t354 x7_2).f0), .slice A361_1 ((rd_T35 t354 x7_2).f1).length c361_1], .agg #[.int .i64 a1_0, .slice A1_1 l1_1.length c1_1]] (by rfl) rfl rfl aA ?_
         with_reducible refine (spec_CompareFacts.calls k2 ((rd_T35 t354 x7_2).f0) _ _ ((rd_T35 t354 x7_2).f1) a1_0 _ _ l1_1 t362 _ ?side1 ?side2 ?side3 ?side4 A77.out).mono ?_
         (case side1 => repeat (first | exact (by repeat (first | (with_reducible exact HR361_1.out) | (with_reducible refine pC ?_) | exact HR361_1.out)) | (with_reducible refine pC ?_)))
         (case side2 => exact HC361_1.out)
         (case side3 => exact aC)
         (case side4 => exact HC1_1.out)
         rintro e w80 ⟨rfl, hb⟩
         have HS4_ := (hb.cell (World.block_lt_of_cell? _ _ (hHeld.2.2.2.2.1))).trans (hHeld.2.2.2.2.1)
         have HS5_ := (hb.cell (World.block_lt_of_cell? _ _ (hHeld.2.2.2.2.2))).trans (hHeld.2.2.2.2.2)
         refine ⟨_, rfl, ?_⟩
         have n0_ := aM (Kd.R_below (aR HO_358000) hb)
         have n1_ := aM (Kd.N_below (aN HO_358001) hb)
         have n2_ := aM (Kd.V_below (aV HL361_1) hb)
         have n3_ := aM (kB gb348 #[.slice A0_0 l0_0.length c0_0, .slice A0_1 l0_1.length c0_1] 27 hb)
         have n4_ := aM (kB gb349 #[.int .i64 a1_0, .slice A1_1 l1_1.length c1_1] 35 hb)
         have n5_ := aM (kB gb350 #[.slice none 0 0, .slice none 0 0] 27 hb)
         have n6_ := aM (kB gb357 #[.slice Ao13 t351.length co13, .slice (some ad361) t354.length co18] 27 hb)
         have n7_ := aM (Kd.C_below (by repeat (first | (with_reducible exact HR361_1.out) | (with_reducible refine pC ?_) | exact HR361_1.out)) hb)
         have n8_ := aM (below_step aG hb)
         clear HO_358000
         clear HO_358001
         clear HL361_1
         clear BK348
         clear BK349
         clear BK350
         clear BK357
         clear HR361_1
         clear HB
         have HO_358000 := n0_
         have HO_358001 := n1_
         have HL361_1 := n2_
         have BK348 := n3_
         have BK349 := n4_
         have BK350 := n5_
         have BK357 := n6_
         have HR361_1 := n7_
         have HB := n8_
         clear n0_ n1_ n2_ n3_ n4_ n5_ n6_ n7_ n8_
         (try clear hb)
         (try clear hb2)
         (try clear hk)
         (try clear hi)
         refine hK.out _ _ ⟨(blk_cell BK357.out 0).trans rfl, (blk_cell BK357.out 1).trans rfl, (blk_cell BK349.out 0).trans rfl, (blk_cell BK349.out 1).trans rfl, HS4_, HS5_⟩ (fun hHeld => ?_)
         clear hK K
         refine nU 45 ?_
         refine pU 13 46 ?_
         refine pU 14 47 ?_
         refine done_ (done_of HT_.out (by kernel_rfl)) ?_
         try go_wp2
         go_roundg k2
         case measure => have := HJ3.out; have := HK2.out; omega
         case rel => exact ⟨(wrap64 (x7_2 + 1)), aX, H', ⟨by have := HJ3.out; have := HK2.out; omega⟩, ⟨aR HO_358000⟩, ⟨aN HO_358001⟩, ⟨aK⟩, ⟨aK⟩, ⟨aK⟩, ⟨aK⟩, ⟨aG⟩⟩
        ·rw [if_neg c78] at H
         have c78b0 : decide (t362 < 0) = false := decide_eq_false c78
         clear c78
         obtain ⟨y363, hy363⟩ : ∃ y_ : List Int, y_ = (([] : List Int)) := ⟨_, rfl⟩
         first | replace H := bY hy363 H | rw [← hy363] at H
         have Ny363 := aM hy363
         clear hy363
         by_cases c81 : y363.length + l1_1.length < 17592186044416
         ·rw [if_pos c81] at H
          have LMc81 := aM c81
          clear c81
          obtain ⟨y366, hy366⟩ : ∃ y_ : List Int, y_ = (y363 ++ l1_1) := ⟨_, rfl⟩
          first | replace H := bY hy366 H | rw [← hy366] at H
          have Ny366 := aM hy366
          clear hy366
          obtain ⟨y369, hy369⟩ : ∃ y_ : List (S35), y_ = (([(⟨a1_0, y366⟩ : S35)] : List (S35))) := ⟨_, rfl⟩
          first | replace H := bY hy369 H | rw [← hy369] at H
          have Ny369 := aM hy369
          clear hy369
          have c82b0 := eq_true (aD : 0 ≤ x7_2)
          by_cases c83 : x7_2 ≤ (t354.length : Int)
          ·rw [if_pos c83] at H
           have c83b0 := eq_true c83
           have c83b1 : decide (x7_2 ≤ (t354.length : Int)) = true := decide_eq_true c83
           clear c83
           obtain ⟨y372, hy372⟩ : ∃ y_ : List (S35), y_ = (t354.drop (x7_2 : Int).toNat) := ⟨_, rfl⟩
           first | replace H := bY hy372 H | rw [← hy372] at H
           have Ny372 := aM hy372
           clear hy372
           by_cases c84 : y369.length + y372.length < 4398046511104
           ·rw [if_pos c84] at H
            have LMc84 := aM c84
            clear c84
            obtain ⟨y377, hy377⟩ : ∃ y_ : List (S35), y_ = (y369 ++ y372) := ⟨_, rfl⟩
            first | replace H := bY hy377 H | rw [← hy377] at H
            have Ny377 := aM hy377
            clear hy377
            obtain ⟨y380, hy380⟩ : ∃ y_ : List (S35), y_ = (([] : List (S35))) := ⟨_, rfl⟩
            first | replace H := bY hy380 H | rw [← hy380] at H
            have Ny380 := aM hy380
            clear hy380
            have c85b0 := eq_true (aD : 0 ≤ x7_2)
            have c86b0 := eq_true (aD : x7_2 ≤ (t354.length : Int))
            obtain ⟨y383, hy383⟩ : ∃ y_ : List (S35), y_ = (t354.take (x7_2 : Int).toNat) := ⟨_, rfl⟩
            first | replace H := bY hy383 H | rw [← hy383] at H
            have Ny383 := aM hy383
            clear hy383
            by_cases c87 : y380.length + y383.length < 4398046511104
            ·rw [if_pos c87] at H
             have LMc87 := aM c87
             clear c87
             obtain ⟨y388, hy388⟩ : ∃ y_ : List (S35), y_ = (y380 ++ y383) := ⟨_, rfl⟩
             first | replace H := bY hy388 H | rw [← hy388] at H
             have Ny388 := aM hy388
             clear hy388
             by_cases c88 : y388.length + y377.length < 4398046511104
             ·rw [if_pos c88] at H
              have LMc88 := aM c88
              clear c88
              obtain ⟨y391, hy391⟩ : ∃ y_ : List (S35), y_ = (y388 ++ y377) := ⟨_, rfl⟩
              first | replace H := bY hy391 H | rw [← hy391] at H
              have Ny391 := aM hy391
              clear hy391
              simp only [Option.some.injEq, Prod.mk.injEq] at H
              obtain ⟨rfl, rfl, rfl⟩ := H
              try go_wp2
              replace HO_358000 := aM (Kd.R_drew HO_358000.out)
              replace HO_358001 := aM (Kd.N_drew HO_358001.out)
              replace BK348 := aM (blk_drew BK348.out)
              replace BK349 := aM (blk_drew BK349.out)
              replace BK350 := aM (blk_drew BK350.out)
              replace BK357 := aM (blk_drew BK357.out)
              replace HB := aM (below_drew1 HB.out)
              have p361 : 0 ≤ (x7_2 : Int) := aD
              have q361 : x7_2 < (t354.length : Int) := aD
              obtain ⟨ad361, A361_1, c361_1, e361, hx361_0, hx361_1, hl361_1, hi361_1⟩ := at_T35 (Kd.N_reads' HO_358001.out).2.2 x7_2 p361 q361
              cases e361
              obtain ⟨ce361, hce361, hMe361, hcc361⟩ := Kd.N_get HO_358001.out z35 x7_2 p361 (by first | exact q361 | exact aD | (have e_ := (Kd.N_reads' HO_358001.out).1; omega))
              obtain ⟨ua361_1, uc361_1, rfl, ul361_1, ge361_1⟩ := k35_openF hMe361
              have hv361_1 := hcc361 1 _ rfl
              rw [add_field _ _ 1 (by omega)] at hv361_1
              replace hv361_1 := Option.some.inj (hv361_1.symm.trans hx361_1)
              injection hv361_1 with hva_ hvn_ hvc_
              rw [hva_] at ge361_1
              rw [hvc_] at ul361_1
              have HL361_1 := aM (show Kd.V (Kd.int .i64) 3 _ w.heap.size _ _ ((rd_T35 t354 x7_2).f1) from Kd.V_mk ul361_1 ge361_1)
              clear hva_ hvn_ hvc_ ge361_1 ul361_1
              clear hcc361 hce361
              have HR361_1 := aM hi361_1
              have HC361_1 := aM hl361_1
              clear hi361_1 hl361_1
              replace p361 := eq_true p361
              replace q361 := eq_true q361
              refine start_ (n := 15) (S := fun w' => w'.cell? ⟨gb357, 0, none⟩ = some (.slice Ao13 t351.length co13) ∧ w'.cell? ⟨gb357, 1, none⟩ = some (.slice (some ad361) t354.length co18) ∧ w'.cell? ⟨gb349, 0, none⟩ = some (.int .i64 a1_0) ∧ w'.cell? ⟨gb349, 1, none⟩ = some (.slice A1_1 l1_1.length c1_1) ∧ w'.cell? (ad361.add ((x7_2).toNat * 2)) = some (.int .i64 ((rd_T35 t354 x7_2).f0)) ∧ w'.cell? ⟨(ad361.add ((x7_2).toNat * 2)).block, (ad361.add ((x7_2).toNat * 2)).off + 1, none⟩ = some (.slice A361_1 ((rd_T35 t354 x7_2).f1).length c361_1)) (ds := []) #[false, false, false, false, false, false, false, false, false, false, false, false, false, false, false] (by kernel_rfl) rfl rfl ⟨(blk_cell BK357.out 0).trans rfl, (blk_cell BK357.out 1).trans rfl, (blk_cell BK349.out 0).trans rfl, (blk_cell BK349.out 1).trans rfl, hx361_0, hx361_1⟩ (fun hHeld => ?_); refine with_tabW spec_InsertFact.tab5 spec_InsertFact.bits5 (fun HT_ HW_ => ?_)
              generalize wr.drew = w89 at HO_358000 HO_358001 BK348 BK349 BK350 BK357 HB HL361_1 HR361_1 hx361_0 hx361_1 hHeld ⊢
              refine pU 0 33 ?_
              refine pU 1 34 ?_
              refine tU6 2 35 hHeld ?_
              refine pU 3 36 ?_
              refine pU 4 37 ?_
              refine pU 5 38 ?_
              refine pU 6 39 ?_
              refine pU 8 41 ?_
              refine tU6 7 40 hHeld ?_
              refine pU 9 42 ?_
              refine tU6 10 43 hHeld ?_
              refine tU6 11 44 hHeld ?_
              refine oU 12 45 (fun K hK => ?_)
              refine goes_ Try.func46 (by kernel_rfl) rfl #[.agg #[.int .i64 ((rd_T35 t354 x7_2).f0), .slice A361_1 ((rd_T35 t354 x7_2).f1).length c361_1], .agg #[.int .i64 a1_0, .slice A1_1 l1_1.length c1_1]] (by rfl) rfl rfl aA ?_
              with_reducible refine (spec_CompareFacts.calls k2 ((rd_T35 t354 x7_2).f0) _ _ ((rd_T35 t354 x7_2).f1) a1_0 _ _ l1_1 t362 _ ?side1 ?side2 ?side3 ?side4 A77.out).mono ?_
              (case side1 => repeat (first | exact (by repeat (first | (with_reducible exact HR361_1.out) | (with_reducible refine pC ?_) | exact HR361_1.out)) | (with_reducible refine pC ?_)))
              (case side2 => exact HC361_1.out)
              (case side3 => exact aC)
              (case side4 => exact HC1_1.out)
              rintro e w90 ⟨rfl, hb⟩
              have HS4_ := (hb.cell (World.block_lt_of_cell? _ _ (hHeld.2.2.2.2.1))).trans (hHeld.2.2.2.2.1)
              have HS5_ := (hb.cell (World.block_lt_of_cell? _ _ (hHeld.2.2.2.2.2))).trans (hHeld.2.2.2.2.2)
              refine ⟨_, rfl, ?_⟩
              have n0_ := aM (Kd.R_below (aR HO_358000) hb)
              have n1_ := aM (Kd.N_below (aN HO_358001) hb)
              have n2_ := aM (Kd.V_below (aV HL361_1) hb)
              have n3_ := aM (kB gb348 #[.slice A0_0 l0_0.length c0_0, .slice A0_1 l0_1.length c0_1] 27 hb)
              have n4_ := aM (kB gb349 #[.int .i64 a1_0, .slice A1_1 l1_1.length c1_1] 35 hb)
              have n5_ := aM (kB gb350 #[.slice none 0 0, .slice none 0 0] 27 hb)
              have n6_ := aM (kB gb357 #[.slice Ao13 t351.length co13, .slice (some ad361) t354.length co18] 27 hb)
              have n7_ := aM (Kd.C_below (by repeat (first | (with_reducible exact HR361_1.out) | (with_reducible refine pC ?_) | exact HR361_1.out)) hb)
              have n8_ := aM (below_step aG hb)
              clear HO_358000
              clear HO_358001
              clear HL361_1
              clear BK348
              clear BK349
              clear BK350
              clear BK357
              clear HR361_1
              clear HB
              have HO_358000 := n0_
              have HO_358001 := n1_
              have HL361_1 := n2_
              have BK348 := n3_
              have BK349 := n4_
              have BK350 := n5_
              have BK357 := n6_
              have HR361_1 := n7_
              have HB := n8_
              clear n0_ n1_ n2_ n3_ n4_ n5_ n6_ n7_ n8_
              (try clear hb)
              (try clear hb2)
              (try clear hk)
              (try clear hi)
              refine hK.out _ _ ⟨(blk_cell BK357.out 0).trans rfl, (blk_cell BK357.out 1).trans rfl, (blk_cell BK349.out 0).trans rfl, (blk_cell BK349.out 1).trans rfl, HS4_, HS5_⟩ (fun hHeld => ?_)
              clear hK K
              refine nU 45 ?_
              refine pU 13 46 ?_
              refine pU 14 47 ?_
              refine done_ (done_of HT_.out (by kernel_rfl)) ?_
              try go_wp2
              replace HO_358000 := aM (Kd.R_drew HO_358000.out)
              replace HO_358001 := aM (Kd.N_drew HO_358001.out)
              replace HL361_1 := aM (Kd.V_drew HL361_1.out)
              replace BK348 := aM (blk_drew BK348.out)
              replace BK349 := aM (blk_drew BK349.out)
              replace BK350 := aM (blk_drew BK350.out)
              replace BK357 := aM (blk_drew BK357.out)
              replace HR361_1 := aM (Kd.C_drew HR361_1.out)
              replace HB := aM (below_drew1 HB.out)
              have q92 : (x7_2 : Int) ≤ ((t354.length : Int) : Int) := aD
              obtain ⟨i092, hi092, _, hsz92, _⟩ := info_parts info35
              have hroom92 : t354.length ≤ co18 := (Kd.N_reads' HO_358001.out).2.1
              have hC92 : Kd.F k35 _ _ (some ad361) t354.length t354 := (Kd.V_at (base := w.heap.size) (Kd.N_V HO_358001.out)).2.2
              have q092 : (0 : Int) ≤ (x7_2 : Int) := aD
              have hcut92 := cut_from (P := Try.prog) 25 35 .i64 Try.underlying25 hi092 2 hsz92 (some ad361) t354.length co18 x7_2 q092 q92
              have hr92 := Kd.F_cut (m := (x7_2 : Int).toNat) (c := co18) hC92 (by omega) hroom92
              obtain ⟨A92, hA92⟩ : ∃ A1, A1 = (if co18 = (x7_2 : Int).toNat then (some ad361) else ((some ad361) : Option Addr).map (·.add ((x7_2 : Int).toNat * 2))) := ⟨_, rfl⟩
              obtain ⟨c92, hc92⟩ : ∃ c1, c1 = co18 - (x7_2 : Int).toNat := ⟨_, rfl⟩
              have hy92 : y372.length = t354.length - (x7_2 : Int).toNat := (by rw [Ny372.out, List.length_drop] <;> omega)
              rw [show (t354).drop (x7_2 : Int).toNat = y372 from Ny372.out.symm] at hr92
              replace hr92 : Kd.F k35 _ _ A92 y372.length y372 := (by rw [hA92]; exact hr92)
              rw [← hy92, ← hA92, ← hc92] at hcut92
              have HO376 := aM (show Kd.V k35 35 _ w.heap.size _ (.slice A92 y372.length c92) y372 from Kd.V_mk (by rw [hy92, hc92]; exact Nat.sub_le_sub_right hroom92 _) hr92)
              have HC376 := aM (show y372.length ≤ c92 from by rw [hy92, hc92]; exact Nat.sub_le_sub_right hroom92 _)
              clear hr92 hC92 hroom92 hi092 hsz92 hc92
              have KY92 := aM hy92
              have KA92 := aM hA92
              clear hy92 hA92
              replace q92 := eq_true q92
              refine start_ (n := 14) (S := fun w' => w'.cell? ⟨gb349, 0, none⟩ = some (.int .i64 a1_0) ∧ w'.cell? ⟨gb349, 1, none⟩ = some (.slice A1_1 l1_1.length c1_1) ∧ w'.cell? ⟨gb357, 0, none⟩ = some (.slice Ao13 t351.length co13) ∧ w'.cell? ⟨gb357, 1, none⟩ = some (.slice (some ad361) t354.length co18)) (ds := []) #[false, false, false, false, false, false, false, false, false, false, false, false, false, false] (by kernel_rfl) rfl rfl ⟨(blk_cell BK349.out 0).trans rfl, (blk_cell BK349.out 1).trans rfl, (blk_cell BK357.out 0).trans rfl, (blk_cell BK357.out 1).trans rfl⟩ (fun hHeld => ?_); refine with_tabW spec_InsertFact.tab7 spec_InsertFact.bits7 (fun HT_ HW_ => ?_)
              generalize w90.drew = w91 at HO_358000 HO_358001 HL361_1 BK348 BK349 BK350 BK357 HR361_1 HB HO376 hHeld ⊢
              refine pU 0 50 ?_
              refine pU 3 53 ?_
              refine pU 8 58 ?_
              refine pU 10 60 ?_
              refine tU4 1 51 hHeld ?_
              refine tU4 4 54 hHeld ?_
              refine tU4 9 59 hHeld ?_
              refine pU 11 61 ?_
              refine oU 2 52 (fun K hK => ?_)
              refine Kd.R_lit_step (Kd.int .i64) _ 3 ?hg (N := 52) ?hd (xs := ([] : List Int)) (inner := []) (ok := fun _ => True) (okp := fun _ => True) ?hr ?hp (fun _ hk => hk) trivial (Below.refl _ _) (Nat.le_refl _) (by simp) ?_; (case hd => rfl); (case hg => rfl); (case hr => first | (go_simp; done) | (go_simp; rfl)); (case hp => exact (Reps.none _ _))
              intro v364 w93 ho94 hb hg_ hnew_
              clear hg_ hnew_
              (first | rw [← Ny363.out] at ho94 | (simp only [Int.reduceToNat] at ho94; rw [← Ny363.out] at ho94))
              have n0_ := aM (Kd.R_below (aR HO_358000) hb)
              have n1_ := aM (Kd.N_elder' (aN HO_358001) (Kd.R_base ho94) hb)
              have n2_ := aM (Kd.V_elder' (aV HL361_1) (Kd.R_base ho94) hb)
              have n3_ := aM (Kd.V_elder' (aV HO376) (Kd.R_base ho94) hb)
              have n4_ := aM (Kd.R_lower (Kd.R_newM (M := fun k_ => (w.heap.size ≤ k_)) ho94 (below_size aG) (fun k_ h_ => h_)) (below_size aG))
              have n5_ := aM (kB gb348 #[.slice A0_0 l0_0.length c0_0, .slice A0_1 l0_1.length c0_1] 27 hb)
              have n6_ := aM (kB gb349 #[.int .i64 a1_0, .slice A1_1 l1_1.length c1_1] 35 hb)
              have n7_ := aM (kB gb350 #[.slice none 0 0, .slice none 0 0] 27 hb)
              have n8_ := aM (kB gb357 #[.slice Ao13 t351.length co13, .slice (some ad361) t354.length co18] 27 hb)
              have n9_ := aM (Kd.C_below (by repeat (first | (with_reducible exact HR361_1.out) | (with_reducible refine pC ?_) | exact HR361_1.out)) hb)
              have n10_ := aM (below_step aG hb)
              clear HO_358000
              clear HO_358001
              clear HL361_1
              clear HO376
              clear BK348
              clear BK349
              clear BK350
              clear BK357
              clear HR361_1
              clear HB
              have HO_358000 := n0_
              have HO_358001 := n1_
              have HL361_1 := n2_
              have HO376 := n3_
              have HO365 := n4_
              have BK348 := n5_
              have BK349 := n6_
              have BK350 := n7_
              have BK357 := n8_
              have HR361_1 := n9_
              have HB := n10_
              clear n0_ n1_ n2_ n3_ n4_ n5_ n6_ n7_ n8_ n9_ n10_
              clear hb ho94
              refine hK.out _ _ ⟨(blk_cell BK349.out 0).trans rfl, (blk_cell BK349.out 1).trans rfl, (blk_cell BK357.out 0).trans rfl, (blk_cell BK357.out 1).trans rfl⟩ (fun hHeld => ?_)
              clear hK K
              refine nU 52 ?_
              refine oU 5 55 (fun K hK => ?_)
              refine Kd.R_append_rows_step (Kd.int .i64) (w0 := w) w.heap.size (by rfl) (.tmp 52) (.tmp 54) 32 3 (.int .i64 0) 8 rfl Try.underlying32 info3 rfl (by decide) (by omega) v364 y363 l1_1 _ _ _ (fun k_ => (w.heap.size ≤ k_)) (fun _ => False) rfl rfl ?aO ?aR (fun _ _ h => h) (fun _ h => h.elim) ?aF ?aB ?aS ?aL ?_
              (case aR => exact aC)
              (case aB => exact aG)
              (case aF => exact (fun k_ hk => (Nat.le_trans (below_size aG) hk)))
              (case aO => exact (by (with_reducible repeat apply pR); exact Kd.R_mono HO365.out (fun _ hk => hk.1)))
              (case aS => exact (below_size aG))
              (case aL => have := LMc81.out; omega)
              intro v367 w95 ho hb hg hat
              rw [← Ny366.out] at ho
              have n0_ := aM (Kd.R_over' (aR HO_358000) (Kd.R_typed (aR HO365)) (by decide) hg)
              have n1_ := aM (Kd.N_afterv (ok := (fun k_ => (w.heap.size ≤ k_) ∧ some k_ ≠ (.slice Ao13 t351.length co13 : Value).ownBlock ∧ k_ ≠ gb348 ∧ k_ ≠ gb349 ∧ k_ ≠ gb350 ∧ k_ ≠ gb357)) (aN HO_358001) hg hat)
              have n2_ := aM (blk_grown (g := gb348) (o := .cells #[.slice A0_0 l0_0.length c0_0, .slice A0_1 l0_1.length c0_1] 27 (0, 0)) aK hg (Kd.R_ne HO365.out BK348.out (by decide)))
              have n3_ := aM (blk_grown (g := gb349) (o := .cells #[.int .i64 a1_0, .slice A1_1 l1_1.length c1_1] 35 (0, 0)) aK hg (Kd.R_ne HO365.out BK349.out (by decide)))
              have n4_ := aM (blk_grown (g := gb350) (o := .cells #[.slice none 0 0, .slice none 0 0] 27 (0, 0)) aK hg (Kd.R_ne HO365.out BK350.out (by decide)))
              have n5_ := aM (blk_grown (g := gb357) (o := .cells #[.slice Ao13 t351.length co13, .slice (some ad361) t354.length co18] 27 (0, 0)) aK hg (Kd.R_ne HO365.out BK357.out (by decide)))
              have n6_ := aM (Kd.V_afterv (ok := (fun k_ => (w.heap.size ≤ k_) ∧ some k_ ≠ (.slice Ao13 t351.length co13 : Value).ownBlock ∧ some k_ ≠ (.slice (some ad361) t354.length co18 : Value).ownBlock ∧ k_ ≠ gb348 ∧ k_ ≠ gb349 ∧ k_ ≠ gb350 ∧ k_ ≠ gb357)) (by (with_reducible repeat apply pV); exact Kd.V_mono HL361_1.out (fun _ hk => ⟨⟨hk.1.1.1, ⟨hk.1.1.2.1, ⟨hk.1.2, ⟨hk.1.1.2.2.1, ⟨hk.1.1.2.2.2.1, ⟨hk.1.1.2.2.2.2.1, hk.1.1.2.2.2.2.2⟩⟩⟩⟩⟩⟩, hk.2⟩)) hg hat)
              have n7_ := aM (Kd.V_afterv (ok := (fun k_ => (w.heap.size ≤ k_) ∧ some k_ ≠ (.slice Ao13 t351.length co13 : Value).ownBlock ∧ k_ ≠ gb348 ∧ k_ ≠ gb349 ∧ k_ ≠ gb350 ∧ k_ ≠ gb357)) (aV HO376) hg hat)
              have n8_ := aM (hb)
              have n9_ := aM (ho)
              clear HO_358000
              clear HO_358001
              clear BK348
              clear BK349
              clear BK350
              clear BK357
              clear HL361_1
              clear HO376
              clear HB
              clear HO365
              have HO_358000 := n0_
              have HO_358001 := n1_
              have BK348 := n2_
              have BK349 := n3_
              have BK350 := n4_
              have BK357 := n5_
              have HL361_1 := n6_
              have HO376 := n7_
              have HB := n8_
              have HO368 := n9_
              clear n0_ n1_ n2_ n3_ n4_ n5_ n6_ n7_ n8_ n9_
              clear ho hb hg hat
              obtain ⟨Ao96, co96, eo96⟩ := Kd.R_slice HO368.out
              (first | subst eo96 | (injection eo96 with f1_ f2_ f3_; have f4_ := f1_.symm; have f5_ := f3_.symm; clear f1_ f2_ f3_; subst f4_; subst f5_))
              refine hK.out _ _ ⟨(blk_cell BK349.out 0).trans rfl, (blk_cell BK349.out 1).trans rfl, (blk_cell BK357.out 0).trans rfl, (blk_cell BK357.out 1).trans rfl⟩ (fun hHeld => ?_)
              clear hK K
              refine nU 55 ?_
              refine pU 6 56 ?_
              refine oU 7 57 (fun K hK => ?_)
              refine Kd.N_lit_step k35 _ 35 ?hg (N' := 57) ?hd (xs := ([(⟨a1_0, y366⟩ : S35)] : List (S35))) (inner := [.int .i64 a1_0, .slice Ao96 y366.length co96]) (ok := (fun k_ => (w.heap.size ≤ k_) ∧ some k_ ≠ (.slice Ao13 t351.length co13 : Value).ownBlock ∧ some k_ ≠ (.slice (some ad361) t354.length co18 : Value).ownBlock ∧ k_ ≠ gb348 ∧ k_ ≠ gb349 ∧ k_ ≠ gb350 ∧ k_ ≠ gb357)) (okp := (fun k_ => (w.heap.size ≤ k_) ∧ some k_ ≠ (.slice Ao13 t351.length co13 : Value).ownBlock ∧ some k_ ≠ (.slice (some ad361) t354.length co18 : Value).ownBlock ∧ k_ ≠ gb348 ∧ k_ ≠ gb349 ∧ k_ ≠ gb350 ∧ k_ ≠ gb357)) ?hr ?hp (fun _ hk => hk) ((show ∀ k_, w95.heap.size ≤ k_ → (fun k_ => (w.heap.size ≤ k_) ∧ some k_ ≠ (.slice Ao13 t351.length co13 : Value).ownBlock ∧ some k_ ≠ (.slice (some ad361) t354.length co18 : Value).ownBlock ∧ k_ ≠ gb348 ∧ k_ ≠ gb349 ∧ k_ ≠ gb350 ∧ k_ ≠ gb357) k_ from fun k_ hk => ⟨(Nat.le_trans (below_size aG) hk), Kd.fresh' (Kd.R_lt (aR HO_358000)) k_ hk, Kd.fresh' (Kd.N_lt (aN HO_358001)) k_ hk, Kd.freshB (g := gb348) (o := .cells #[.slice A0_0 l0_0.length c0_0, .slice A0_1 l0_1.length c0_1] 27 (0, 0)) aK k_ hk, Kd.freshB (g := gb349) (o := .cells #[.int .i64 a1_0, .slice A1_1 l1_1.length c1_1] 35 (0, 0)) aK k_ hk, Kd.freshB (g := gb350) (o := .cells #[.slice none 0 0, .slice none 0 0] 27 (0, 0)) aK k_ hk, Kd.freshB (g := gb357) (o := .cells #[.slice Ao13 t351.length co13, .slice (some ad361) t354.length co18] 27 (0, 0)) aK k_ hk⟩) _ (Nat.le_refl _)) (Below.refl _ _) (Nat.le_refl _) (by simp) ?_; (case hd => rfl); (case hg => rfl); (case hr => first | (go_simp; done) | (go_simp; rfl)); (case hp => exact (Reps.c2 (show Kd.FK k35 _ _ (⟨a1_0, y366⟩ : S35) [.int .i64 a1_0, .slice Ao96 y366.length co96] from (k35_mkF _ _ (⟨a1_0, y366⟩ : S35) (Kd.R_reads' (Kd.R_mono (ok' := (fun k_ => (w.heap.size ≤ k_) ∧ some k_ ≠ (.slice Ao13 t351.length co13 : Value).ownBlock ∧ some k_ ≠ (.slice (some ad361) t354.length co18 : Value).ownBlock ∧ k_ ≠ gb348 ∧ k_ ≠ gb349 ∧ k_ ≠ gb350 ∧ k_ ≠ gb357)) (Kd.R_types (Kd.R_types (Kd.R_types (Kd.R_types (Kd.R_apart' (Kd.R_apart' (HO368.out) (Kd.R_typed HO_358000.out) (by decide)) (Kd.N_typed HO_358001.out) (by decide)) BK348.out (by decide)) BK349.out (by decide)) BK350.out (by decide)) BK357.out (by decide)) (fun k_ hk => ⟨hk.1.1.1.1.1.1, ⟨hk.1.1.1.1.1.2, ⟨hk.1.1.1.1.2, ⟨hk.1.1.1.2, ⟨hk.1.1.2, ⟨hk.1.2, hk.2⟩⟩⟩⟩⟩⟩))).2.1 (Kd.R_F (Kd.R_mono (ok' := (fun k_ => (w.heap.size ≤ k_) ∧ some k_ ≠ (.slice Ao13 t351.length co13 : Value).ownBlock ∧ some k_ ≠ (.slice (some ad361) t354.length co18 : Value).ownBlock ∧ k_ ≠ gb348 ∧ k_ ≠ gb349 ∧ k_ ≠ gb350 ∧ k_ ≠ gb357)) (Kd.R_types (Kd.R_types (Kd.R_types (Kd.R_types (Kd.R_apart' (Kd.R_apart' (HO368.out) (Kd.R_typed HO_358000.out) (by decide)) (Kd.N_typed HO_358001.out) (by decide)) BK348.out (by decide)) BK349.out (by decide)) BK350.out (by decide)) BK357.out (by decide)) (fun k_ hk => ⟨hk.1.1.1.1.1.1, ⟨hk.1.1.1.1.1.2, ⟨hk.1.1.1.1.2, ⟨hk.1.1.1.2, ⟨hk.1.1.2, ⟨hk.1.2, hk.2⟩⟩⟩⟩⟩⟩))))) (Reps.none _ _)))
              intro v370 w97 ho98 hb hg_ hnew_
              clear hg_ hnew_
              (first | rw [← Ny369.out] at ho98 | (simp only [Int.reduceToNat] at ho98; rw [← Ny369.out] at ho98))
              have n0_ := aM (Kd.R_below (aR HO_358000) hb)
              have n1_ := aM (Kd.N_elder' (aN HO_358001) (Kd.N_base ho98) hb)
              have n2_ := aM (Kd.V_elder' (aV HL361_1) (Kd.N_base ho98) hb)
              have n3_ := aM (Kd.V_elder' (aV HO376) (Kd.N_base ho98) hb)
              have n4_ := aM (Kd.N_lower ho98 (below_size aG))
              have n5_ := aM (kB gb348 #[.slice A0_0 l0_0.length c0_0, .slice A0_1 l0_1.length c0_1] 27 hb)
              have n6_ := aM (kB gb349 #[.int .i64 a1_0, .slice A1_1 l1_1.length c1_1] 35 hb)
              have n7_ := aM (kB gb350 #[.slice none 0 0, .slice none 0 0] 27 hb)
              have n8_ := aM (kB gb357 #[.slice Ao13 t351.length co13, .slice (some ad361) t354.length co18] 27 hb)
              have n9_ := aM (below_step aG hb)
              clear HO_358000
              clear HO_358001
              clear HL361_1
              clear HO376
              clear BK348
              clear BK349
              clear BK350
              clear BK357
              clear HB
              clear HO368
              have HO_358000 := n0_
              have HO_358001 := n1_
              have HL361_1 := n2_
              have HO376 := n3_
              have HO371 := n4_
              have BK348 := n5_
              have BK349 := n6_
              have BK350 := n7_
              have BK357 := n8_
              have HB := n9_
              clear n0_ n1_ n2_ n3_ n4_ n5_ n6_ n7_ n8_ n9_
              clear hb ho98
              refine hK.out _ _ ⟨(blk_cell BK349.out 0).trans rfl, (blk_cell BK349.out 1).trans rfl, (blk_cell BK357.out 0).trans rfl, (blk_cell BK357.out 1).trans rfl⟩ (fun hHeld => ?_)
              clear hK K
              refine nU 57 ?_
              refine oU 12 62 (fun K hK => ?_)
              refine Kd.N_append_rows_step k35 (w0 := w) w.heap.size (by rfl) (.tmp 57) (.tmp 61) 25 35 (.agg #[(.int .i64 0), (.slice none 0 0)]) 32 rfl Try.underlying25 info35 rfl (by decide) (by omega) v370 y369 y372 _ _ _ (fun k_ => (w.heap.size ≤ k_) ∧ some k_ ≠ (.slice Ao13 t351.length co13 : Value).ownBlock ∧ k_ ≠ gb348 ∧ k_ ≠ gb349 ∧ k_ ≠ gb350 ∧ k_ ≠ gb357) (fun k_ => ((fun k_ => (w.heap.size ≤ k_) ∧ some k_ ≠ (.slice Ao13 t351.length co13 : Value).ownBlock ∧ k_ ≠ gb348 ∧ k_ ≠ gb349 ∧ k_ ≠ gb350 ∧ k_ ≠ gb357)) k_ ∧ some k_ ≠ (v370 : Value).ownBlock) rfl rfl ?aO ?aR (fun _ hk => hk) ?aF ?aB ?aS ?aL ?_
              (case aR => exact (by skip; exact Kd.V_F (Kd.V_mono (ok' := (fun k_ => ((fun k_ => (w.heap.size ≤ k_) ∧ some k_ ≠ (.slice Ao13 t351.length co13 : Value).ownBlock ∧ k_ ≠ gb348 ∧ k_ ≠ gb349 ∧ k_ ≠ gb350 ∧ k_ ≠ gb357)) k_ ∧ some k_ ≠ (v370 : Value).ownBlock)) (HO376.out) (fun k_ hk => ⟨⟨hk.1.1.1, ⟨hk.1.1.2.1, ⟨hk.1.1.2.2.1, ⟨hk.1.1.2.2.2.1, ⟨hk.1.1.2.2.2.2.1, hk.1.1.2.2.2.2.2⟩⟩⟩⟩⟩, hk.2⟩))))
              (case aB => exact aG)
              (case aF => exact (fun k_ hk => ⟨(Nat.le_trans (below_size aG) hk), Kd.fresh' (Kd.R_lt (aR HO_358000)) k_ hk, Kd.freshB (g := gb348) (o := .cells #[.slice A0_0 l0_0.length c0_0, .slice A0_1 l0_1.length c0_1] 27 (0, 0)) aK k_ hk, Kd.freshB (g := gb349) (o := .cells #[.int .i64 a1_0, .slice A1_1 l1_1.length c1_1] 35 (0, 0)) aK k_ hk, Kd.freshB (g := gb350) (o := .cells #[.slice none 0 0, .slice none 0 0] 27 (0, 0)) aK k_ hk, Kd.freshB (g := gb357) (o := .cells #[.slice Ao13 t351.length co13, .slice (some ad361) t354.length co18] 27 (0, 0)) aK k_ hk⟩))
              (case aO => exact (by (with_reducible repeat apply pN); exact Kd.N_mono HO371.out (fun _ hk => ⟨hk.1, ⟨hk.2.1, ⟨hk.2.2.2.1, ⟨hk.2.2.2.2.1, ⟨hk.2.2.2.2.2.1, hk.2.2.2.2.2.2⟩⟩⟩⟩⟩)))
              (case aS => exact (below_size aG))
              (case aL => have := LMc84.out; omega)
              intro v378 w99 ho hb hg hat
              rw [← Ny377.out] at ho
              have n0_ := aM (Kd.R_over' (aR HO_358000) (Kd.N_typed (aN HO371)) (by decide) hg)
              have n1_ := aM (Kd.N_afterv (ok := (fun k_ => (w.heap.size ≤ k_) ∧ some k_ ≠ (.slice Ao13 t351.length co13 : Value).ownBlock ∧ k_ ≠ gb348 ∧ k_ ≠ gb349 ∧ k_ ≠ gb350 ∧ k_ ≠ gb357)) (by (with_reducible repeat apply pN); exact Kd.N_mono HO_358001.out (fun _ hk => ⟨⟨hk.1.1.1, ⟨hk.1.1.2.1, ⟨hk.1.1.2.2.1, ⟨hk.1.1.2.2.2.1, ⟨hk.1.1.2.2.2.2.1, hk.1.1.2.2.2.2.2⟩⟩⟩⟩⟩, hk.2⟩)) hg hat)
              have n2_ := aM (blk_grown (g := gb348) (o := .cells #[.slice A0_0 l0_0.length c0_0, .slice A0_1 l0_1.length c0_1] 27 (0, 0)) aK hg (Kd.N_ne HO371.out BK348.out (by decide)))
              have n3_ := aM (blk_grown (g := gb349) (o := .cells #[.int .i64 a1_0, .slice A1_1 l1_1.length c1_1] 35 (0, 0)) aK hg (Kd.N_away HO371.out (fun _ hk => hk.2.2.2.2.1)))
              have n4_ := aM (blk_grown (g := gb350) (o := .cells #[.slice none 0 0, .slice none 0 0] 27 (0, 0)) aK hg (Kd.N_ne HO371.out BK350.out (by decide)))
              have n5_ := aM (blk_grown (g := gb357) (o := .cells #[.slice Ao13 t351.length co13, .slice (some ad361) t354.length co18] 27 (0, 0)) aK hg (Kd.N_ne HO371.out BK357.out (by decide)))
              have n6_ := aM (Kd.V_afterv (ok := (fun k_ => (w.heap.size ≤ k_) ∧ some k_ ≠ (.slice Ao13 t351.length co13 : Value).ownBlock ∧ some k_ ≠ (.slice (some ad361) t354.length co18 : Value).ownBlock ∧ k_ ≠ gb348 ∧ k_ ≠ gb349 ∧ k_ ≠ gb350 ∧ k_ ≠ gb357)) (by (with_reducible repeat apply pV); exact Kd.V_mono HL361_1.out (fun _ hk => ⟨⟨hk.1.1.1, ⟨hk.1.1.2.1, ⟨hk.1.1.2.2.1, ⟨hk.1.1.2.2.2.1, ⟨hk.1.1.2.2.2.2.1, ⟨hk.1.1.2.2.2.2.2.1, hk.1.1.2.2.2.2.2.2⟩⟩⟩⟩⟩⟩, hk.2⟩)) hg hat)
              have n7_ := aM (Kd.V_afterv (ok := (fun k_ => (w.heap.size ≤ k_) ∧ some k_ ≠ (.slice Ao13 t351.length co13 : Value).ownBlock ∧ k_ ≠ gb348 ∧ k_ ≠ gb349 ∧ k_ ≠ gb350 ∧ k_ ≠ gb357)) (by (with_reducible repeat apply pV); exact Kd.V_mono HO376.out (fun _ hk => ⟨⟨hk.1.1.1, ⟨hk.1.1.2.1, ⟨hk.1.1.2.2.1, ⟨hk.1.1.2.2.2.1, ⟨hk.1.1.2.2.2.2.1, hk.1.1.2.2.2.2.2⟩⟩⟩⟩⟩, hk.2⟩)) hg hat)
              have n8_ := aM (hb)
              have n9_ := aM (ho)
              clear HO_358000
              clear HO_358001
              clear BK348
              clear BK349
              clear BK350
              clear BK357
              clear HL361_1
              clear HO376
              clear HB
              clear HO371
              have HO_358000 := n0_
              have HO_358001 := n1_
              have BK348 := n2_
              have BK349 := n3_
              have BK350 := n4_
              have BK357 := n5_
              have HL361_1 := n6_
              have HO376 := n7_
              have HB := n8_
              have HO379 := n9_
              clear n0_ n1_ n2_ n3_ n4_ n5_ n6_ n7_ n8_ n9_
              clear ho hb hg hat
              refine hK.out _ _ ⟨(blk_cell BK349.out 0).trans rfl, (blk_cell BK349.out 1).trans rfl, (blk_cell BK357.out 0).trans rfl, (blk_cell BK357.out 1).trans rfl⟩ (fun hHeld => ?_)
              clear hK K
              refine nU 62 ?_
              refine pU 13 8 ?_
              refine done_ (done_of HT_.out (by kernel_rfl)) ?_
              try go_wp2_with (first | ((with_reducible refine gate_dst (N := 63) rfl ?_); (try (refine gate_guard (by rfl) ?_; dsimp only)); refine Kd.N_lit k35 _ 35 ?hg (N' := 63) ?hd (xs := ([] : List (S35))) (inner := []) (ok := (fun k_ => (w.heap.size ≤ k_) ∧ some k_ ≠ (.slice Ao13 t351.length co13 : Value).ownBlock ∧ some k_ ≠ (.slice (some ad361) t354.length co18 : Value).ownBlock ∧ some k_ ≠ (v378 : Value).ownBlock ∧ k_ ≠ gb348 ∧ k_ ≠ gb349 ∧ k_ ≠ gb350 ∧ k_ ≠ gb357)) (okp := (fun k_ => (w.heap.size ≤ k_) ∧ some k_ ≠ (.slice Ao13 t351.length co13 : Value).ownBlock ∧ some k_ ≠ (.slice (some ad361) t354.length co18 : Value).ownBlock ∧ some k_ ≠ (v378 : Value).ownBlock ∧ k_ ≠ gb348 ∧ k_ ≠ gb349 ∧ k_ ≠ gb350 ∧ k_ ≠ gb357)) ?hr ?hp (fun _ hk => hk) ((show ∀ k_, w99.heap.size ≤ k_ → (fun k_ => (w.heap.size ≤ k_) ∧ some k_ ≠ (.slice Ao13 t351.length co13 : Value).ownBlock ∧ some k_ ≠ (.slice (some ad361) t354.length co18 : Value).ownBlock ∧ some k_ ≠ (v378 : Value).ownBlock ∧ k_ ≠ gb348 ∧ k_ ≠ gb349 ∧ k_ ≠ gb350 ∧ k_ ≠ gb357) k_ from fun k_ hk => ⟨(Nat.le_trans (below_size aG) hk), Kd.fresh' (Kd.R_lt (aR HO_358000)) k_ hk, Kd.fresh' (Kd.N_lt (aN HO_358001)) k_ hk, Kd.fresh' (Kd.N_lt (aN HO379)) k_ hk, Kd.freshB (g := gb348) (o := .cells #[.slice A0_0 l0_0.length c0_0, .slice A0_1 l0_1.length c0_1] 27 (0, 0)) aK k_ hk, Kd.freshB (g := gb349) (o := .cells #[.int .i64 a1_0, .slice A1_1 l1_1.length c1_1] 35 (0, 0)) aK k_ hk, Kd.freshB (g := gb350) (o := .cells #[.slice none 0 0, .slice none 0 0] 27 (0, 0)) aK k_ hk, Kd.freshB (g := gb357) (o := .cells #[.slice Ao13 t351.length co13, .slice (some ad361) t354.length co18] 27 (0, 0)) aK k_ hk⟩) _ (Nat.le_refl _)) (Below.refl _ _) (Nat.le_refl _) (by simp) ?_; (case hd => rfl); (case hg => rfl); (case hr => first | (go_simp; done) | (go_simp; rfl)); (case hp => exact (Reps.none _ _)); intro v381 w100 ho101 hb hg_ hnew_; clear hg_ hnew_; (first | rw [← Ny380.out] at ho101 | (simp only [Int.reduceToNat] at ho101; rw [← Ny380.out] at ho101)); have n0_ := aM (Kd.R_below (aR HO_358000) hb); have n1_ := aM (Kd.N_elder' (aN HO_358001) (Kd.N_base ho101) hb); have n2_ := aM (Kd.V_elder' (aV HL361_1) (Kd.N_base ho101) hb); have n3_ := aM (Kd.V_elder' (aV HO376) (Kd.N_base ho101) hb); have n4_ := aM (Kd.N_elder' (aN HO379) (Kd.N_base ho101) hb); have n5_ := aM (Kd.N_lower ho101 (below_size aG)); have n6_ := aM (kB gb348 #[.slice A0_0 l0_0.length c0_0, .slice A0_1 l0_1.length c0_1] 27 hb); have n7_ := aM (kB gb349 #[.int .i64 a1_0, .slice A1_1 l1_1.length c1_1] 35 hb); have n8_ := aM (kB gb350 #[.slice none 0 0, .slice none 0 0] 27 hb); have n9_ := aM (kB gb357 #[.slice Ao13 t351.length co13, .slice (some ad361) t354.length co18] 27 hb); have n10_ := aM (below_step aG hb); clear HO_358000; clear HO_358001; clear HL361_1; clear HO376; clear HO379; clear BK348; clear BK349; clear BK350; clear BK357; clear HB; have HO_358000 := n0_; have HO_358001 := n1_; have HL361_1 := n2_; have HO376 := n3_; have HO379 := n4_; have HO382 := n5_; have BK348 := n6_; have BK349 := n7_; have BK350 := n8_; have BK357 := n9_; have HB := n10_; clear n0_ n1_ n2_ n3_ n4_ n5_ n6_ n7_ n8_ n9_ n10_; clear hb ho101; have hnb102 := NB357_348.out; have hnc102 := NB348_357.out; have hnb103 := NB357_349.out; have hnc103 := NB349_357.out; have hnb104 := NB357_350.out; have hnc104 := NB350_357.out; have hcz105_0 : w100.cell? ⟨gb357, 0, none⟩ = some (.slice Ao13 t351.length co13) := (blk_cell BK357.out 0).trans rfl; have hcz105_1 : w100.cell? ⟨gb357, 1, none⟩ = some (.slice (some ad361) t354.length co18) := (blk_cell BK357.out 1).trans rfl; have hfz105_0 := blk_frozen BK357.out 0; have hfz105_1 := blk_frozen BK357.out 1; have q106 : (x7_2 : Int) ≤ ((t354.length : Int) : Int) := aD; obtain ⟨i0106, hi0106, _, hsz106, _⟩ := info_parts info35; have hroom106 : t354.length ≤ co18 := (Kd.N_reads' HO_358001.out).2.1; have hC106 : Kd.F k35 _ _ (some ad361) t354.length t354 := (Kd.V_at (base := w.heap.size) (Kd.N_V HO_358001.out)).2.2; have hcut106 := cut_to (P := Try.prog) 25 35 .i64 Try.underlying25 hi0106 (some ad361) t354.length co18 x7_2 (aD) q106 hroom106; have hr106 := Kd.F_take (m := (x7_2 : Int).toNat) hC106 (by omega); have hy106 : y383.length = (x7_2 : Int).toNat := (by rw [Ny383.out, List.length_take]; omega); rw [← Ny383.out] at hr106; rw [← hy106] at hcut106; have HO387 := aM (show Kd.V k35 35 _ w.heap.size _ (.slice (some ad361) y383.length co18) y383 from Kd.V_mk (by omega) hr106); have HC387 := aM (show y383.length ≤ co18 from by omega); clear hr106 hC106 hroom106 hi0106 hsz106; have KY106 := aM hy106; clear hy106; replace q106 := eq_true q106) | ((with_reducible refine gate_builtin (b := .append) (xs := #[.tmp 63, .tmp 67]) rfl ?_); (try (refine gate_guard (by rfl) ?_; dsimp only)); at_builtin; refine Kd.N_append_rows k35 (w0 := w) w.heap.size rfl (.tmp 63) (.tmp 67) 25 35 (.agg #[(.int .i64 0), (.slice none 0 0)]) 32 rfl Try.underlying25 info35 rfl (by decide) (by omega) v381 y380 y383 _ _ _ (fun k_ => (w.heap.size ≤ k_) ∧ some k_ ≠ (.slice Ao13 t351.length co13 : Value).ownBlock ∧ some k_ ≠ (v378 : Value).ownBlock ∧ k_ ≠ gb348 ∧ k_ ≠ gb349 ∧ k_ ≠ gb350 ∧ k_ ≠ gb357) (fun k_ => ((fun k_ => (w.heap.size ≤ k_) ∧ some k_ ≠ (.slice Ao13 t351.length co13 : Value).ownBlock ∧ some k_ ≠ (v378 : Value).ownBlock ∧ k_ ≠ gb348 ∧ k_ ≠ gb349 ∧ k_ ≠ gb350 ∧ k_ ≠ gb357)) k_ ∧ some k_ ≠ (v381 : Value).ownBlock) rfl rfl ?aO ?aR (fun _ hk => hk) ?aF ?aB ?aS ?aL ?_; (case aR => exact (by skip; exact Kd.V_F (Kd.V_mono (ok' := (fun k_ => ((fun k_ => (w.heap.size ≤ k_) ∧ some k_ ≠ (.slice Ao13 t351.length co13 : Value).ownBlock ∧ some k_ ≠ (v378 : Value).ownBlock ∧ k_ ≠ gb348 ∧ k_ ≠ gb349 ∧ k_ ≠ gb350 ∧ k_ ≠ gb357)) k_ ∧ some k_ ≠ (v381 : Value).ownBlock)) (HO387.out) (fun k_ hk => ⟨⟨hk.1.1.1, ⟨hk.1.1.2.1, ⟨hk.1.2, ⟨hk.1.1.2.2.1, ⟨hk.1.1.2.2.2.1, ⟨hk.1.1.2.2.2.2.1, hk.1.1.2.2.2.2.2⟩⟩⟩⟩⟩⟩, hk.2⟩)))); (case aB => exact aG); (case aF => exact (fun k_ hk => ⟨(Nat.le_trans (below_size aG) hk), Kd.fresh' (Kd.R_lt (aR HO_358000)) k_ hk, Kd.fresh' (Kd.N_lt (aN HO379)) k_ hk, Kd.freshB (g := gb348) (o := .cells #[.slice A0_0 l0_0.length c0_0, .slice A0_1 l0_1.length c0_1] 27 (0, 0)) aK k_ hk, Kd.freshB (g := gb349) (o := .cells #[.int .i64 a1_0, .slice A1_1 l1_1.length c1_1] 35 (0, 0)) aK k_ hk, Kd.freshB (g := gb350) (o := .cells #[.slice none 0 0, .slice none 0 0] 27 (0, 0)) aK k_ hk, Kd.freshB (g := gb357) (o := .cells #[.slice Ao13 t351.length co13, .slice (some ad361) t354.length co18] 27 (0, 0)) aK k_ hk⟩)); (case aO => exact (by (with_reducible repeat apply pN); exact Kd.N_mono HO382.out (fun _ hk => ⟨hk.1, ⟨hk.2.1, ⟨hk.2.2.2.1, ⟨hk.2.2.2.2.1, ⟨hk.2.2.2.2.2.1, ⟨hk.2.2.2.2.2.2.1, hk.2.2.2.2.2.2.2⟩⟩⟩⟩⟩⟩))); (case aS => exact (below_size aG)); (case aL => have := LMc87.out; omega); intro v389 w107 ho hb hg hat; rw [← Ny388.out] at ho; have n0_ := aM (Kd.R_over' (aR HO_358000) (Kd.N_typed (aN HO382)) (by decide) hg); have n1_ := aM (Kd.N_afterv (ok := (fun k_ => (w.heap.size ≤ k_) ∧ some k_ ≠ (.slice Ao13 t351.length co13 : Value).ownBlock ∧ some k_ ≠ (v378 : Value).ownBlock ∧ k_ ≠ gb348 ∧ k_ ≠ gb349 ∧ k_ ≠ gb350 ∧ k_ ≠ gb357)) (by (with_reducible repeat apply pN); exact Kd.N_mono HO_358001.out (fun _ hk => ⟨⟨hk.1.1.1, ⟨hk.1.1.2.1, ⟨hk.1.2, ⟨hk.1.1.2.2.1, ⟨hk.1.1.2.2.2.1, ⟨hk.1.1.2.2.2.2.1, hk.1.1.2.2.2.2.2⟩⟩⟩⟩⟩⟩, hk.2⟩)) hg hat); have n2_ := aM (blk_grown (g := gb348) (o := .cells #[.slice A0_0 l0_0.length c0_0, .slice A0_1 l0_1.length c0_1] 27 (0, 0)) aK hg (Kd.N_ne HO382.out BK348.out (by decide))); have n3_ := aM (blk_grown (g := gb349) (o := .cells #[.int .i64 a1_0, .slice A1_1 l1_1.length c1_1] 35 (0, 0)) aK hg (Kd.N_away HO382.out (fun _ hk => hk.2.2.2.2.2.1))); have n4_ := aM (blk_grown (g := gb350) (o := .cells #[.slice none 0 0, .slice none 0 0] 27 (0, 0)) aK hg (Kd.N_ne HO382.out BK350.out (by decide))); have n5_ := aM (blk_grown (g := gb357) (o := .cells #[.slice Ao13 t351.length co13, .slice (some ad361) t354.length co18] 27 (0, 0)) aK hg (Kd.N_ne HO382.out BK357.out (by decide))); have n6_ := aM (Kd.V_afterv (ok := (fun k_ => (w.heap.size ≤ k_) ∧ some k_ ≠ (.slice Ao13 t351.length co13 : Value).ownBlock ∧ some k_ ≠ (.slice (some ad361) t354.length co18 : Value).ownBlock ∧ some k_ ≠ (v378 : Value).ownBlock ∧ k_ ≠ gb348 ∧ k_ ≠ gb349 ∧ k_ ≠ gb350 ∧ k_ ≠ gb357)) (by (with_reducible repeat apply pV); exact Kd.V_mono HL361_1.out (fun _ hk => ⟨⟨hk.1.1.1, ⟨hk.1.1.2.1, ⟨hk.1.1.2.2.1, ⟨hk.1.2, ⟨hk.1.1.2.2.2.1, ⟨hk.1.1.2.2.2.2.1, ⟨hk.1.1.2.2.2.2.2.1, hk.1.1.2.2.2.2.2.2⟩⟩⟩⟩⟩⟩⟩, hk.2⟩)) hg hat); have n7_ := aM (Kd.V_afterv (ok := (fun k_ => (w.heap.size ≤ k_) ∧ some k_ ≠ (.slice Ao13 t351.length co13 : Value).ownBlock ∧ some k_ ≠ (v378 : Value).ownBlock ∧ k_ ≠ gb348 ∧ k_ ≠ gb349 ∧ k_ ≠ gb350 ∧ k_ ≠ gb357)) (by (with_reducible repeat apply pV); exact Kd.V_mono HO376.out (fun _ hk => ⟨⟨hk.1.1.1, ⟨hk.1.1.2.1, ⟨hk.1.2, ⟨hk.1.1.2.2.1, ⟨hk.1.1.2.2.2.1, ⟨hk.1.1.2.2.2.2.1, hk.1.1.2.2.2.2.2⟩⟩⟩⟩⟩⟩, hk.2⟩)) hg hat); have n8_ := aM (Kd.N_afterv (ok := (fun k_ => (w.heap.size ≤ k_) ∧ some k_ ≠ (.slice Ao13 t351.length co13 : Value).ownBlock ∧ k_ ≠ gb348 ∧ k_ ≠ gb349 ∧ k_ ≠ gb350 ∧ k_ ≠ gb357)) (aN HO379) hg hat); have n9_ := aM (Kd.V_afterv (ok := (fun k_ => (w.heap.size ≤ k_) ∧ some k_ ≠ (.slice Ao13 t351.length co13 : Value).ownBlock ∧ some k_ ≠ (v378 : Value).ownBlock ∧ k_ ≠ gb348 ∧ k_ ≠ gb349 ∧ k_ ≠ gb350 ∧ k_ ≠ gb357)) (by (with_reducible repeat apply pV); exact Kd.V_mono HO387.out (fun _ hk => ⟨⟨hk.1.1.1, ⟨hk.1.1.2.1, ⟨hk.1.2, ⟨hk.1.1.2.2.1, ⟨hk.1.1.2.2.2.1, ⟨hk.1.1.2.2.2.2.1, hk.1.1.2.2.2.2.2⟩⟩⟩⟩⟩⟩, hk.2⟩)) hg hat); have n10_ := aM (hb); have n11_ := aM (ho); clear HO_358000; clear HO_358001; clear BK348; clear BK349; clear BK350; clear BK357; clear HL361_1; clear HO376; clear HO379; clear HO387; clear HB; clear HO382; have HO_358000 := n0_; have HO_358001 := n1_; have BK348 := n2_; have BK349 := n3_; have BK350 := n4_; have BK357 := n5_; have HL361_1 := n6_; have HO376 := n7_; have HO379 := n8_; have HO387 := n9_; have HB := n10_; have HO390 := n11_; clear n0_ n1_ n2_ n3_ n4_ n5_ n6_ n7_ n8_ n9_ n10_ n11_; clear ho hb hg hat; obtain ⟨Ao109, co109, eo109⟩ := Kd.N_slice HO379.out; subst eo109) | ((with_reducible refine gate_builtin (b := .append) (xs := #[.tmp 68, .tmp 69]) rfl ?_); (try (refine gate_guard (by rfl) ?_; dsimp only)); at_builtin; refine Kd.N_append_rows k35 (w0 := w) w.heap.size rfl (.tmp 68) (.tmp 69) 25 35 (.agg #[(.int .i64 0), (.slice none 0 0)]) 32 rfl Try.underlying25 info35 rfl (by decide) (by omega) v389 y388 y377 _ _ _ (fun k_ => (w.heap.size ≤ k_) ∧ some k_ ≠ (.slice Ao13 t351.length co13 : Value).ownBlock ∧ k_ ≠ gb348 ∧ k_ ≠ gb349 ∧ k_ ≠ gb350 ∧ k_ ≠ gb357) (fun k_ => ((fun k_ => (w.heap.size ≤ k_) ∧ some k_ ≠ (.slice Ao13 t351.length co13 : Value).ownBlock ∧ k_ ≠ gb348 ∧ k_ ≠ gb349 ∧ k_ ≠ gb350 ∧ k_ ≠ gb357)) k_ ∧ some k_ ≠ (v389 : Value).ownBlock) rfl rfl ?aO ?aR (fun _ hk => hk) ?aF ?aB ?aS ?aL ?_; (case aR => exact (by skip; exact Kd.N_F (Kd.N_mono (ok' := (fun k_ => ((fun k_ => (w.heap.size ≤ k_) ∧ some k_ ≠ (.slice Ao13 t351.length co13 : Value).ownBlock ∧ k_ ≠ gb348 ∧ k_ ≠ gb349 ∧ k_ ≠ gb350 ∧ k_ ≠ gb357)) k_ ∧ some k_ ≠ (v389 : Value).ownBlock)) (HO379.out) (fun k_ hk => ⟨⟨hk.1.1, ⟨hk.1.2.1, ⟨hk.1.2.2.1, ⟨hk.1.2.2.2.1, ⟨hk.1.2.2.2.2.1, hk.1.2.2.2.2.2⟩⟩⟩⟩⟩, hk.2⟩)))); (case aB => exact aG); (case aF => exact (fun k_ hk => ⟨(Nat.le_trans (below_size aG) hk), Kd.fresh' (Kd.R_lt (aR HO_358000)) k_ hk, Kd.freshB (g := gb348) (o := .cells #[.slice A0_0 l0_0.length c0_0, .slice A0_1 l0_1.length c0_1] 27 (0, 0)) aK k_ hk, Kd.freshB (g := gb349) (o := .cells #[.int .i64 a1_0, .slice A1_1 l1_1.length c1_1] 35 (0, 0)) aK k_ hk, Kd.freshB (g := gb350) (o := .cells #[.slice none 0 0, .slice none 0 0] 27 (0, 0)) aK k_ hk, Kd.freshB (g := gb357) (o := .cells #[.slice Ao13 t351.length co13, .slice (some ad361) t354.length co18] 27 (0, 0)) aK k_ hk⟩)); (case aO => exact (by (with_reducible repeat apply pN); exact Kd.N_mono HO390.out (fun _ hk => ⟨hk.1, ⟨hk.2.1, ⟨hk.2.2.2.1, ⟨hk.2.2.2.2.1, ⟨hk.2.2.2.2.2.1, hk.2.2.2.2.2.2⟩⟩⟩⟩⟩))); (case aS => exact (below_size aG)); (case aL => have := LMc88.out; omega); intro v392 w108 ho hb hg hat; rw [← Ny391.out] at ho; have n0_ := aM (Kd.R_over' (aR HO_358000) (Kd.N_typed (aN HO390)) (by decide) hg); have n1_ := aM (Kd.N_afterv (ok := (fun k_ => (w.heap.size ≤ k_) ∧ some k_ ≠ (.slice Ao13 t351.length co13 : Value).ownBlock ∧ some k_ ≠ (.slice Ao109 y377.length co109 : Value).ownBlock ∧ k_ ≠ gb348 ∧ k_ ≠ gb349 ∧ k_ ≠ gb350 ∧ k_ ≠ gb357)) (aN HO_358001) hg hat); have n2_ := aM (blk_grown (g := gb348) (o := .cells #[.slice A0_0 l0_0.length c0_0, .slice A0_1 l0_1.length c0_1] 27 (0, 0)) aK hg (Kd.N_ne HO390.out BK348.out (by decide))); have n3_ := aM (blk_grown (g := gb349) (o := .cells #[.int .i64 a1_0, .slice A1_1 l1_1.length c1_1] 35 (0, 0)) aK hg (Kd.N_away HO390.out (fun _ hk => hk.2.2.2.2.1))); have n4_ := aM (blk_grown (g := gb350) (o := .cells #[.slice none 0 0, .slice none 0 0] 27 (0, 0)) aK hg (Kd.N_ne HO390.out BK350.out (by decide))); have n5_ := aM (blk_grown (g := gb357) (o := .cells #[.slice Ao13 t351.length co13, .slice (some ad361) t354.length co18] 27 (0, 0)) aK hg (Kd.N_ne HO390.out BK357.out (by decide))); have n6_ := aM (Kd.V_afterv (ok := (fun k_ => (w.heap.size ≤ k_) ∧ some k_ ≠ (.slice Ao13 t351.length co13 : Value).ownBlock ∧ some k_ ≠ (.slice (some ad361) t354.length co18 : Value).ownBlock ∧ some k_ ≠ (.slice Ao109 y377.length co109 : Value).ownBlock ∧ k_ ≠ gb348 ∧ k_ ≠ gb349 ∧ k_ ≠ gb350 ∧ k_ ≠ gb357)) (aV HL361_1) hg hat); have n7_ := aM (Kd.V_afterv (ok := (fun k_ => (w.heap.size ≤ k_) ∧ some k_ ≠ (.slice Ao13 t351.length co13 : Value).ownBlock ∧ some k_ ≠ (.slice Ao109 y377.length co109 : Value).ownBlock ∧ k_ ≠ gb348 ∧ k_ ≠ gb349 ∧ k_ ≠ gb350 ∧ k_ ≠ gb357)) (aV HO376) hg hat); have n8_ := aM (Kd.N_afterv (ok := (fun k_ => (w.heap.size ≤ k_) ∧ some k_ ≠ (.slice Ao13 t351.length co13 : Value).ownBlock ∧ k_ ≠ gb348 ∧ k_ ≠ gb349 ∧ k_ ≠ gb350 ∧ k_ ≠ gb357)) (aN HO379) hg hat); have n9_ := aM (Kd.V_afterv (ok := (fun k_ => (w.heap.size ≤ k_) ∧ some k_ ≠ (.slice Ao13 t351.length co13 : Value).ownBlock ∧ some k_ ≠ (.slice Ao109 y377.length co109 : Value).ownBlock ∧ k_ ≠ gb348 ∧ k_ ≠ gb349 ∧ k_ ≠ gb350 ∧ k_ ≠ gb357)) (aV HO387) hg hat); have n10_ := aM (hb); have n11_ := aM (ho); clear HO_358000; clear HO_358001; clear BK348; clear BK349; clear BK350; clear BK357; clear HL361_1; clear HO376; clear HO379; clear HO387; clear HB; clear HO390; have HO_358000 := n0_; have HO_358001 := n1_; have BK348 := n2_; have BK349 := n3_; have BK350 := n4_; have BK357 := n5_; have HL361_1 := n6_; have HO376 := n7_; have HO379 := n8_; have HO387 := n9_; have HB := n10_; have HO393 := n11_; clear n0_ n1_ n2_ n3_ n4_ n5_ n6_ n7_ n8_ n9_ n10_ n11_; clear ho hb hg hat; obtain ⟨Ao110, co110, eo110⟩ := Kd.N_slice HO393.out; subst eo110; have hcz111_0 : w108.cell? ⟨gb357, 0, none⟩ = some (.slice Ao13 t351.length co13) := (blk_cell BK357.out 0).trans rfl; have hcz111_1 : w108.cell? ⟨gb357, 1, none⟩ = some (.slice (some ad361) t354.length co18) := (blk_cell BK357.out 1).trans rfl; have hfz111_0 := blk_frozen BK357.out 0; have hfz111_1 := blk_frozen BK357.out 1; have hnb112 := NB350_348.out; have hnc112 := NB348_350.out; have hnb113 := NB350_349.out; have hnc113 := NB349_350.out; have hcz114_0 : w108.cell? ⟨gb350, 0, none⟩ = some (.slice none 0 0) := (blk_cell BK350.out 0).trans rfl; have hcz114_1 : w108.cell? ⟨gb350, 1, none⟩ = some (.slice none 0 0) := (blk_cell BK350.out 1).trans rfl; have hfz114_0 := blk_frozen BK350.out 0; have hfz114_1 := blk_frozen BK350.out 1))
              refine bodyPost_ret (results_ct rfl _ _ gb350 27 #[.slice Ao13 t351.length co13, .slice Ao110 y391.length co110] (0, 0) _ rfl (by (with_reducible repeat refine pB ?_); refine blk_put (cs := #[.slice Ao13 t351.length co13, .slice none 0 0]) ?_ 1 _ rfl; (with_reducible repeat refine pB ?_); refine blk_put (cs := #[.slice none 0 0, .slice none 0 0]) ?_ 0 _ rfl; (with_reducible repeat refine pB ?_); refine blk_far ?_ NB350_357.out _; (with_reducible repeat refine pB ?_); exact BK350.out) Try.underlying27 rfl (by kernel_rfl)) rfl ?_
              exact ⟨_, _, aE, by (with_reducible repeat apply pR); exact Kd.R_mono (Kd.R_far (p := ⟨gb350, 1, none⟩) (Kd.R_far (p := ⟨gb350, 0, none⟩) (Kd.R_far (p := ⟨gb357, 1, none⟩) (Kd.R_types (Kd.R_types HO_358000.out BK357.out (by decide)) BK350.out (by decide)) (fun _ hk => hk.1.2) (.slice Ao110 y391.length co110)) (fun _ hk => hk.2) (.slice Ao13 t351.length co13)) (fun _ hk => hk.2) (.slice Ao110 y391.length co110)) (fun _ hk => hk.1.1), by (with_reducible repeat apply pN); exact Kd.N_mono (Kd.N_far (p := ⟨gb350, 1, none⟩) (Kd.N_far (p := ⟨gb350, 0, none⟩) (Kd.N_far (p := ⟨gb357, 1, none⟩) (Kd.N_mono (Kd.N_mono HO393.out (fun k_ hk => (⟨hk, hk.2.2.2.2.2⟩ : _ ∧ k_ ≠ gb357))) (fun k_ hk => (⟨hk, hk.1.2.2.2.2.1⟩ : _ ∧ k_ ≠ gb350))) (fun _ hk => hk.1.2) (.slice Ao110 y391.length co110)) (fun _ hk => hk.2) (.slice Ao13 t351.length co13)) (fun _ hk => hk.2) (.slice Ao110 y391.length co110)) (fun _ hk => ⟨hk.1.1.1, hk.1.1.2.1⟩), aG⟩
             ·rw [if_neg c88] at H
              exact absurd H (by simp)
            ·rw [if_neg c87] at H
             exact absurd H (by simp)
           ·rw [if_neg c84] at H
            exact absurd H (by simp)
          ·rw [if_neg c83] at H
           exact absurd H (by simp)
         ·rw [if_neg c81] at H
          exact absurd H (by simp)
       ·rw [if_neg c76] at H
        exact absurd H (by simp)
      ·rw [if_neg c75] at H
       have c75b0 : decide (x7_2 < (t354.length : Int)) = false := decide_eq_false c75
       clear c75
       obtain ⟨y394, hy394⟩ : ∃ y_ : List Int, y_ = (([] : List Int)) := ⟨_, rfl⟩
       first | replace H := bY hy394 H | rw [← hy394] at H
       have Ny394 := aM hy394
       clear hy394
       by_cases c115 : y394.length + l1_1.length < 17592186044416
       ·rw [if_pos c115] at H
        have LMc115 := aM c115
        clear c115
        obtain ⟨y397, hy397⟩ : ∃ y_ : List Int, y_ = (y394 ++ l1_1) := ⟨_, rfl⟩
        first | replace H := bY hy397 H | rw [← hy397] at H
        have Ny397 := aM hy397
        clear hy397
        obtain ⟨y400, hy400⟩ : ∃ y_ : List (S35), y_ = (([(⟨a1_0, y397⟩ : S35)] : List (S35))) := ⟨_, rfl⟩
        first | replace H := bY hy400 H | rw [← hy400] at H
        have Ny400 := aM hy400
        clear hy400
        by_cases c116 : 0 ≤ x7_2
        ·rw [if_pos c116] at H
         have c116b0 := eq_true c116
         have c116b1 : decide (0 ≤ x7_2) = true := decide_eq_true c116
         clear c116
         by_cases c117 : x7_2 ≤ (t354.length : Int)
         ·rw [if_pos c117] at H
          have c117b0 := eq_true c117
          have c117b1 : decide (x7_2 ≤ (t354.length : Int)) = true := decide_eq_true c117
          clear c117
          obtain ⟨y403, hy403⟩ : ∃ y_ : List (S35), y_ = (t354.drop (x7_2 : Int).toNat) := ⟨_, rfl⟩
          first | replace H := bY hy403 H | rw [← hy403] at H
          have Ny403 := aM hy403
          clear hy403
          by_cases c118 : y400.length + y403.length < 4398046511104
          ·rw [if_pos c118] at H
           have LMc118 := aM c118
           clear c118
           obtain ⟨y408, hy408⟩ : ∃ y_ : List (S35), y_ = (y400 ++ y403) := ⟨_, rfl⟩
           first | replace H := bY hy408 H | rw [← hy408] at H
           have Ny408 := aM hy408
           clear hy408
           obtain ⟨y411, hy411⟩ : ∃ y_ : List (S35), y_ = (([] : List (S35))) := ⟨_, rfl⟩
           first | replace H := bY hy411 H | rw [← hy411] at H
           have Ny411 := aM hy411
           clear hy411
           have c119b0 := eq_true (aD : 0 ≤ x7_2)
           have c120b0 := eq_true (aD : x7_2 ≤ (t354.length : Int))
           obtain ⟨y414, hy414⟩ : ∃ y_ : List (S35), y_ = (t354.take (x7_2 : Int).toNat) := ⟨_, rfl⟩
           first | replace H := bY hy414 H | rw [← hy414] at H
           have Ny414 := aM hy414
           clear hy414
           by_cases c121 : y411.length + y414.length < 4398046511104
           ·rw [if_pos c121] at H
            have LMc121 := aM c121
            clear c121
            obtain ⟨y419, hy419⟩ : ∃ y_ : List (S35), y_ = (y411 ++ y414) := ⟨_, rfl⟩
            first | replace H := bY hy419 H | rw [← hy419] at H
            have Ny419 := aM hy419
            clear hy419
            by_cases c122 : y419.length + y408.length < 4398046511104
            ·rw [if_pos c122] at H
             have LMc122 := aM c122
             clear c122
             obtain ⟨y422, hy422⟩ : ∃ y_ : List (S35), y_ = (y419 ++ y408) := ⟨_, rfl⟩
             first | replace H := bY hy422 H | rw [← hy422] at H
             have Ny422 := aM hy422
             clear hy422
             simp only [Option.some.injEq, Prod.mk.injEq] at H
             obtain ⟨rfl, rfl, rfl⟩ := H
             try go_wp2
             replace HO_358000 := aM (Kd.R_drew HO_358000.out)
             replace HO_358001 := aM (Kd.N_drew HO_358001.out)
             replace BK348 := aM (blk_drew BK348.out)
             replace BK349 := aM (blk_drew BK349.out)
             replace BK350 := aM (blk_drew BK350.out)
             replace BK357 := aM (blk_drew BK357.out)
             replace HB := aM (below_drew1 HB.out)
             refine start_ (n := 15) (S := fun w' => w'.cell? ⟨gb357, 0, none⟩ = some (.slice Ao13 t351.length co13) ∧ w'.cell? ⟨gb357, 1, none⟩ = some (.slice Ao18 t354.length co18)) (ds := []) #[false, false, false, false, false, false, false, false, false, false, false, false, false, false, false] (by kernel_rfl) rfl rfl ⟨(blk_cell BK357.out 0).trans rfl, (blk_cell BK357.out 1).trans rfl⟩ (fun hHeld => ?_); refine with_tabW spec_InsertFact.tab5 spec_InsertFact.bits5 (fun HT_ HW_ => ?_)
             generalize wr.drew = w123 at HO_358000 HO_358001 BK348 BK349 BK350 BK357 HB hHeld ⊢
             refine pU 0 33 ?_
             refine pU 1 34 ?_
             refine tU2 2 35 hHeld ?_
             refine pU 3 36 ?_
             refine pU 4 37 ?_
             refine pU 5 38 ?_
             refine pure_ (i := 6) (N := some 39) (v := undef) (a' := ?_) #[true, true, true, true, true, true, true, false, false, false, false, false, false, false, false] rfl rfl (any_of HT_.out (by kernel_rfl)) (fun _ _ _ h => h) (Or.inr ⟨by rfl, rfl⟩) ?_ ?_
             rotate_left
             ·exact aP
             refine pure_ (i := 7) (N := some 40) (v := undef) (a' := ?_) #[true, true, true, true, true, true, true, true, false, false, false, false, false, false, false] rfl rfl (any_of HT_.out (by kernel_rfl)) (fun _ _ _ h => h) (Or.inr ⟨by rfl, rfl⟩) ?_ ?_
             rotate_left
             ·exact aP
             refine pure_ (i := 8) (N := some 41) (v := undef) (a' := ?_) #[true, true, true, true, true, true, true, true, true, false, false, false, false, false, false] rfl rfl (any_of HT_.out (by kernel_rfl)) (fun _ _ _ h => h) (Or.inr ⟨by rfl, rfl⟩) ?_ ?_
             rotate_left
             ·exact aP
             refine pure_ (i := 9) (N := some 42) (v := undef) (a' := ?_) #[true, true, true, true, true, true, true, true, true, true, false, false, false, false, false] rfl rfl (any_of HT_.out (by kernel_rfl)) (fun _ _ _ h => h) (Or.inr ⟨by rfl, rfl⟩) ?_ ?_
             rotate_left
             ·exact aP
             refine pure_ (i := 10) (N := some 43) (v := undef) (a' := ?_) #[true, true, true, true, true, true, true, true, true, true, true, false, false, false, false] rfl rfl (any_of HT_.out (by kernel_rfl)) (fun _ _ _ h => h) (Or.inr ⟨by rfl, rfl⟩) ?_ ?_
             rotate_left
             ·exact aP
             refine pure_ (i := 11) (N := some 44) (v := undef) (a' := ?_) #[true, true, true, true, true, true, true, true, true, true, true, true, false, false, false] rfl rfl (any_of HT_.out (by kernel_rfl)) (fun _ _ _ h => h) (Or.inr ⟨by rfl, rfl⟩) ?_ ?_
             rotate_left
             ·exact aP
             refine pure_ (i := 12) (N := some 45) (v := undef) (a' := ?_) #[true, true, true, true, true, true, true, true, true, true, true, true, true, false, false] rfl rfl (any_of HT_.out (by kernel_rfl)) (fun _ _ _ h => h) (Or.inr ⟨by rfl, rfl⟩) ?_ ?_
             rotate_left
             ·exact aP
             refine pure_ (i := 13) (N := some 46) (v := undef) (a' := ?_) #[true, true, true, true, true, true, true, true, true, true, true, true, true, true, false] rfl rfl (any_of HT_.out (by kernel_rfl)) (fun _ _ _ h => h) (Or.inr ⟨by rfl, rfl⟩) ?_ ?_
             rotate_left
             ·exact aP
             refine pU 14 47 ?_
             refine done_ (done_of HT_.out (by kernel_rfl)) ?_
             try go_wp2
             replace HO_358000 := aM (Kd.R_drew HO_358000.out)
             replace HO_358001 := aM (Kd.N_drew HO_358001.out)
             replace BK348 := aM (blk_drew BK348.out)
             replace BK349 := aM (blk_drew BK349.out)
             replace BK350 := aM (blk_drew BK350.out)
             replace BK357 := aM (blk_drew BK357.out)
             replace HB := aM (below_drew1 HB.out)
             have q125 : (x7_2 : Int) ≤ ((t354.length : Int) : Int) := aD
             obtain ⟨i0125, hi0125, _, hsz125, _⟩ := info_parts info35
             have hroom125 : t354.length ≤ co18 := (Kd.N_reads' HO_358001.out).2.1
             have hC125 : Kd.F k35 _ _ Ao18 t354.length t354 := (Kd.V_at (base := w.heap.size) (Kd.N_V HO_358001.out)).2.2
             have q0125 : (0 : Int) ≤ (x7_2 : Int) := aD
             have hcut125 := cut_from (P := Try.prog) 25 35 .i64 Try.underlying25 hi0125 2 hsz125 Ao18 t354.length co18 x7_2 q0125 q125
             have hr125 := Kd.F_cut (m := (x7_2 : Int).toNat) (c := co18) hC125 (by omega) hroom125
             obtain ⟨A125, hA125⟩ : ∃ A1, A1 = (if co18 = (x7_2 : Int).toNat then Ao18 else (Ao18 : Option Addr).map (·.add ((x7_2 : Int).toNat * 2))) := ⟨_, rfl⟩
             obtain ⟨c125, hc125⟩ : ∃ c1, c1 = co18 - (x7_2 : Int).toNat := ⟨_, rfl⟩
             have hy125 : y403.length = t354.length - (x7_2 : Int).toNat := (by rw [Ny403.out, List.length_drop] <;> omega)
             rw [show (t354).drop (x7_2 : Int).toNat = y403 from Ny403.out.symm] at hr125
             replace hr125 : Kd.F k35 _ _ A125 y403.length y403 := (by rw [hA125]; exact hr125)
             rw [← hy125, ← hA125, ← hc125] at hcut125
             have HO407 := aM (show Kd.V k35 35 _ w.heap.size _ (.slice A125 y403.length c125) y403 from Kd.V_mk (by rw [hy125, hc125]; exact Nat.sub_le_sub_right hroom125 _) hr125)
             have HC407 := aM (show y403.length ≤ c125 from by rw [hy125, hc125]; exact Nat.sub_le_sub_right hroom125 _)
             clear hr125 hC125 hroom125 hi0125 hsz125 hc125
             have KY125 := aM hy125
             have KA125 := aM hA125
             clear hy125 hA125
             replace q125 := eq_true q125
             refine start_ (n := 14) (S := fun w' => w'.cell? ⟨gb349, 0, none⟩ = some (.int .i64 a1_0) ∧ w'.cell? ⟨gb349, 1, none⟩ = some (.slice A1_1 l1_1.length c1_1) ∧ w'.cell? ⟨gb357, 0, none⟩ = some (.slice Ao13 t351.length co13) ∧ w'.cell? ⟨gb357, 1, none⟩ = some (.slice Ao18 t354.length co18)) (ds := []) #[false, false, false, false, false, false, false, false, false, false, false, false, false, false] (by kernel_rfl) rfl rfl ⟨(blk_cell BK349.out 0).trans rfl, (blk_cell BK349.out 1).trans rfl, (blk_cell BK357.out 0).trans rfl, (blk_cell BK357.out 1).trans rfl⟩ (fun hHeld => ?_); refine with_tabW spec_InsertFact.tab7 spec_InsertFact.bits7 (fun HT_ HW_ => ?_)
             generalize w123.drew = w124 at HO_358000 HO_358001 BK348 BK349 BK350 BK357 HB HO407 hHeld ⊢
             refine pU 0 50 ?_
             refine pU 3 53 ?_
             refine pU 8 58 ?_
             refine pU 10 60 ?_
             refine tU4 1 51 hHeld ?_
             refine tU4 4 54 hHeld ?_
             refine tU4 9 59 hHeld ?_
             refine pU 11 61 ?_
             refine oU 2 52 (fun K hK => ?_)
             refine Kd.R_lit_step (Kd.int .i64) _ 3 ?hg (N := 52) ?hd (xs := ([] : List Int)) (inner := []) (ok := fun _ => True) (okp := fun _ => True) ?hr ?hp (fun _ hk => hk) trivial (Below.refl _ _) (Nat.le_refl _) (by simp) ?_; (case hd => rfl); (case hg => rfl); (case hr => first | (go_simp; done) | (go_simp; rfl)); (case hp => exact (Reps.none _ _))
             intro v395 w126 ho127 hb hg_ hnew_
             clear hg_ hnew_
             (first | rw [← Ny394.out] at ho127 | (simp only [Int.reduceToNat] at ho127; rw [← Ny394.out] at ho127))
             have n0_ := aM (Kd.R_below (aR HO_358000) hb)
             have n1_ := aM (Kd.N_elder' (aN HO_358001) (Kd.R_base ho127) hb)
             have n2_ := aM (Kd.V_elder' (aV HO407) (Kd.R_base ho127) hb)
             have n3_ := aM (Kd.R_lower (Kd.R_newM (M := fun k_ => (w.heap.size ≤ k_)) ho127 (below_size aG) (fun k_ h_ => h_)) (below_size aG))
             have n4_ := aM (kB gb348 #[.slice A0_0 l0_0.length c0_0, .slice A0_1 l0_1.length c0_1] 27 hb)
             have n5_ := aM (kB gb349 #[.int .i64 a1_0, .slice A1_1 l1_1.length c1_1] 35 hb)
             have n6_ := aM (kB gb350 #[.slice none 0 0, .slice none 0 0] 27 hb)
             have n7_ := aM (kB gb357 #[.slice Ao13 t351.length co13, .slice Ao18 t354.length co18] 27 hb)
             have n8_ := aM (below_step aG hb)
             clear HO_358000
             clear HO_358001
             clear HO407
             clear BK348
             clear BK349
             clear BK350
             clear BK357
             clear HB
             have HO_358000 := n0_
             have HO_358001 := n1_
             have HO407 := n2_
             have HO396 := n3_
             have BK348 := n4_
             have BK349 := n5_
             have BK350 := n6_
             have BK357 := n7_
             have HB := n8_
             clear n0_ n1_ n2_ n3_ n4_ n5_ n6_ n7_ n8_
             clear hb ho127
             refine hK.out _ _ ⟨(blk_cell BK349.out 0).trans rfl, (blk_cell BK349.out 1).trans rfl, (blk_cell BK357.out 0).trans rfl, (blk_cell BK357.out 1).trans rfl⟩ (fun hHeld => ?_)
             clear hK K
             refine nU 52 ?_
             refine oU 5 55 (fun K hK => ?_)
             refine Kd.R_append_rows_step (Kd.int .i64) (w0 := w) w.heap.size (by rfl) (.tmp 52) (.tmp 54) 32 3 (.int .i64 0) 8 rfl Try.underlying32 info3 rfl (by decide) (by omega) v395 y394 l1_1 _ _ _ (fun k_ => (w.heap.size ≤ k_)) (fun _ => False) rfl rfl ?aO ?aR (fun _ _ h => h) (fun _ h => h.elim) ?aF ?aB ?aS ?aL ?_
             (case aR => exact aC)
             (case aB => exact aG)
             (case aF => exact (fun k_ hk => (Nat.le_trans (below_size aG) hk)))
             (case aO => exact (by (with_reducible repeat apply pR); exact Kd.R_mono HO396.out (fun _ hk => hk.1)))
             (case aS => exact (below_size aG))
             (case aL => have := LMc115.out; omega)
             intro v398 w128 ho hb hg hat
             rw [← Ny397.out] at ho
             have n0_ := aM (Kd.R_over' (aR HO_358000) (Kd.R_typed (aR HO396)) (by decide) hg)
             have n1_ := aM (Kd.N_afterv (ok := (fun k_ => (w.heap.size ≤ k_) ∧ some k_ ≠ (.slice Ao13 t351.length co13 : Value).ownBlock ∧ k_ ≠ gb348 ∧ k_ ≠ gb349 ∧ k_ ≠ gb350 ∧ k_ ≠ gb357)) (aN HO_358001) hg hat)
             have n2_ := aM (blk_grown (g := gb348) (o := .cells #[.slice A0_0 l0_0.length c0_0, .slice A0_1 l0_1.length c0_1] 27 (0, 0)) aK hg (Kd.R_ne HO396.out BK348.out (by decide)))
             have n3_ := aM (blk_grown (g := gb349) (o := .cells #[.int .i64 a1_0, .slice A1_1 l1_1.length c1_1] 35 (0, 0)) aK hg (Kd.R_ne HO396.out BK349.out (by decide)))
             have n4_ := aM (blk_grown (g := gb350) (o := .cells #[.slice none 0 0, .slice none 0 0] 27 (0, 0)) aK hg (Kd.R_ne HO396.out BK350.out (by decide)))
             have n5_ := aM (blk_grown (g := gb357) (o := .cells #[.slice Ao13 t351.length co13, .slice Ao18 t354.length co18] 27 (0, 0)) aK hg (Kd.R_ne HO396.out BK357.out (by decide)))
             have n6_ := aM (Kd.V_afterv (ok := (fun k_ => (w.heap.size ≤ k_) ∧ some k_ ≠ (.slice Ao13 t351.length co13 : Value).ownBlock ∧ k_ ≠ gb348 ∧ k_ ≠ gb349 ∧ k_ ≠ gb350 ∧ k_ ≠ gb357)) (aV HO407) hg hat)
             have n7_ := aM (hb)
             have n8_ := aM (ho)
             clear HO_358000
             clear HO_358001
             clear BK348
             clear BK349
             clear BK350
             clear BK357
             clear HO407
             clear HB
             clear HO396
             have HO_358000 := n0_
             have HO_358001 := n1_
             have BK348 := n2_
             have BK349 := n3_
             have BK350 := n4_
             have BK357 := n5_
             have HO407 := n6_
             have HB := n7_
             have HO399 := n8_
             clear n0_ n1_ n2_ n3_ n4_ n5_ n6_ n7_ n8_
             clear ho hb hg hat
             obtain ⟨Ao129, co129, eo129⟩ := Kd.R_slice HO399.out
             (first | subst eo129 | (injection eo129 with f1_ f2_ f3_; have f4_ := f1_.symm; have f5_ := f3_.symm; clear f1_ f2_ f3_; subst f4_; subst f5_))
             refine hK.out _ _ ⟨(blk_cell BK349.out 0).trans rfl, (blk_cell BK349.out 1).trans rfl, (blk_cell BK357.out 0).trans rfl, (blk_cell BK357.out 1).trans rfl⟩ (fun hHeld => ?_)
             clear hK K
             refine nU 55 ?_
             refine pU 6 56 ?_
             refine oU 7 57 (fun K hK => ?_)
             refine Kd.N_lit_step k35 _ 35 ?hg (N' := 57) ?hd (xs := ([(⟨a1_0, y397⟩ : S35)] : List (S35))) (inner := [.int .i64 a1_0, .slice Ao129 y397.length co129]) (ok := (fun k_ => (w.heap.size ≤ k_) ∧ some k_ ≠ (.slice Ao13 t351.length co13 : Value).ownBlock ∧ some k_ ≠ (.slice Ao18 t354.length co18 : Value).ownBlock ∧ k_ ≠ gb348 ∧ k_ ≠ gb349 ∧ k_ ≠ gb350 ∧ k_ ≠ gb357)) (okp := (fun k_ => (w.heap.size ≤ k_) ∧ some k_ ≠ (.slice Ao13 t351.length co13 : Value).ownBlock ∧ some k_ ≠ (.slice Ao18 t354.length co18 : Value).ownBlock ∧ k_ ≠ gb348 ∧ k_ ≠ gb349 ∧ k_ ≠ gb350 ∧ k_ ≠ gb357)) ?hr ?hp (fun _ hk => hk) ((show ∀ k_, w128.heap.size ≤ k_ → (fun k_ => (w.heap.size ≤ k_) ∧ some k_ ≠ (.slice Ao13 t351.length co13 : Value).ownBlock ∧ some k_ ≠ (.slice Ao18 t354.length co18 : Value).ownBlock ∧ k_ ≠ gb348 ∧ k_ ≠ gb349 ∧ k_ ≠ gb350 ∧ k_ ≠ gb357) k_ from fun k_ hk => ⟨(Nat.le_trans (below_size aG) hk), Kd.fresh' (Kd.R_lt (aR HO_358000)) k_ hk, Kd.fresh' (Kd.N_lt (aN HO_358001)) k_ hk, Kd.freshB (g := gb348) (o := .cells #[.slice A0_0 l0_0.length c0_0, .slice A0_1 l0_1.length c0_1] 27 (0, 0)) aK k_ hk, Kd.freshB (g := gb349) (o := .cells #[.int .i64 a1_0, .slice A1_1 l1_1.length c1_1] 35 (0, 0)) aK k_ hk, Kd.freshB (g := gb350) (o := .cells #[.slice none 0 0, .slice none 0 0] 27 (0, 0)) aK k_ hk, Kd.freshB (g := gb357) (o := .cells #[.slice Ao13 t351.length co13, .slice Ao18 t354.length co18] 27 (0, 0)) aK k_ hk⟩) _ (Nat.le_refl _)) (Below.refl _ _) (Nat.le_refl _) (by simp) ?_; (case hd => rfl); (case hg => rfl); (case hr => first | (go_simp; done) | (go_simp; rfl)); (case hp => exact (Reps.c2 (show Kd.FK k35 _ _ (⟨a1_0, y397⟩ : S35) [.int .i64 a1_0, .slice Ao129 y397.length co129] from (k35_mkF _ _ (⟨a1_0, y397⟩ : S35) (Kd.R_reads' (Kd.R_mono (ok' := (fun k_ => (w.heap.size ≤ k_) ∧ some k_ ≠ (.slice Ao13 t351.length co13 : Value).ownBlock ∧ some k_ ≠ (.slice Ao18 t354.length co18 : Value).ownBlock ∧ k_ ≠ gb348 ∧ k_ ≠ gb349 ∧ k_ ≠ gb350 ∧ k_ ≠ gb357)) (Kd.R_types (Kd.R_types (Kd.R_types (Kd.R_types (Kd.R_apart' (Kd.R_apart' (HO399.out) (Kd.R_typed HO_358000.out) (by decide)) (Kd.N_typed HO_358001.out) (by decide)) BK348.out (by decide)) BK349.out (by decide)) BK350.out (by decide)) BK357.out (by decide)) (fun k_ hk => ⟨hk.1.1.1.1.1.1, ⟨hk.1.1.1.1.1.2, ⟨hk.1.1.1.1.2, ⟨hk.1.1.1.2, ⟨hk.1.1.2, ⟨hk.1.2, hk.2⟩⟩⟩⟩⟩⟩))).2.1 (Kd.R_F (Kd.R_mono (ok' := (fun k_ => (w.heap.size ≤ k_) ∧ some k_ ≠ (.slice Ao13 t351.length co13 : Value).ownBlock ∧ some k_ ≠ (.slice Ao18 t354.length co18 : Value).ownBlock ∧ k_ ≠ gb348 ∧ k_ ≠ gb349 ∧ k_ ≠ gb350 ∧ k_ ≠ gb357)) (Kd.R_types (Kd.R_types (Kd.R_types (Kd.R_types (Kd.R_apart' (Kd.R_apart' (HO399.out) (Kd.R_typed HO_358000.out) (by decide)) (Kd.N_typed HO_358001.out) (by decide)) BK348.out (by decide)) BK349.out (by decide)) BK350.out (by decide)) BK357.out (by decide)) (fun k_ hk => ⟨hk.1.1.1.1.1.1, ⟨hk.1.1.1.1.1.2, ⟨hk.1.1.1.1.2, ⟨hk.1.1.1.2, ⟨hk.1.1.2, ⟨hk.1.2, hk.2⟩⟩⟩⟩⟩⟩))))) (Reps.none _ _)))
             intro v401 w130 ho131 hb hg_ hnew_
             clear hg_ hnew_
             (first | rw [← Ny400.out] at ho131 | (simp only [Int.reduceToNat] at ho131; rw [← Ny400.out] at ho131))
             have n0_ := aM (Kd.R_below (aR HO_358000) hb)
             have n1_ := aM (Kd.N_elder' (aN HO_358001) (Kd.N_base ho131) hb)
             have n2_ := aM (Kd.V_elder' (aV HO407) (Kd.N_base ho131) hb)
             have n3_ := aM (Kd.N_lower ho131 (below_size aG))
             have n4_ := aM (kB gb348 #[.slice A0_0 l0_0.length c0_0, .slice A0_1 l0_1.length c0_1] 27 hb)
             have n5_ := aM (kB gb349 #[.int .i64 a1_0, .slice A1_1 l1_1.length c1_1] 35 hb)
             have n6_ := aM (kB gb350 #[.slice none 0 0, .slice none 0 0] 27 hb)
             have n7_ := aM (kB gb357 #[.slice Ao13 t351.length co13, .slice Ao18 t354.length co18] 27 hb)
             have n8_ := aM (below_step aG hb)
             clear HO_358000
             clear HO_358001
             clear HO407
             clear BK348
             clear BK349
             clear BK350
             clear BK357
             clear HB
             clear HO399
             have HO_358000 := n0_
             have HO_358001 := n1_
             have HO407 := n2_
             have HO402 := n3_
             have BK348 := n4_
             have BK349 := n5_
             have BK350 := n6_
             have BK357 := n7_
             have HB := n8_
             clear n0_ n1_ n2_ n3_ n4_ n5_ n6_ n7_ n8_
             clear hb ho131
             refine hK.out _ _ ⟨(blk_cell BK349.out 0).trans rfl, (blk_cell BK349.out 1).trans rfl, (blk_cell BK357.out 0).trans rfl, (blk_cell BK357.out 1).trans rfl⟩ (fun hHeld => ?_)
             clear hK K
             refine nU 57 ?_
             refine oU 12 62 (fun K hK => ?_)
             refine Kd.N_append_rows_step k35 (w0 := w) w.heap.size (by rfl) (.tmp 57) (.tmp 61) 25 35 (.agg #[(.int .i64 0), (.slice none 0 0)]) 32 rfl Try.underlying25 info35 rfl (by decide) (by omega) v401 y400 y403 _ _ _ (fun k_ => (w.heap.size ≤ k_) ∧ some k_ ≠ (.slice Ao13 t351.length co13 : Value).ownBlock ∧ k_ ≠ gb348 ∧ k_ ≠ gb349 ∧ k_ ≠ gb350 ∧ k_ ≠ gb357) (fun k_ => ((fun k_ => (w.heap.size ≤ k_) ∧ some k_ ≠ (.slice Ao13 t351.length co13 : Value).ownBlock ∧ k_ ≠ gb348 ∧ k_ ≠ gb349 ∧ k_ ≠ gb350 ∧ k_ ≠ gb357)) k_ ∧ some k_ ≠ (v401 : Value).ownBlock) rfl rfl ?aO ?aR (fun _ hk => hk) ?aF ?aB ?aS ?aL ?_
             (case aR => exact (by skip; exact Kd.V_F (Kd.V_mono (ok' := (fun k_ => ((fun k_ => (w.heap.size ≤ k_) ∧ some k_ ≠ (.slice Ao13 t351.length co13 : Value).ownBlock ∧ k_ ≠ gb348 ∧ k_ ≠ gb349 ∧ k_ ≠ gb350 ∧ k_ ≠ gb357)) k_ ∧ some k_ ≠ (v401 : Value).ownBlock)) (HO407.out) (fun k_ hk => ⟨⟨hk.1.1.1, ⟨hk.1.1.2.1, ⟨hk.1.1.2.2.1, ⟨hk.1.1.2.2.2.1, ⟨hk.1.1.2.2.2.2.1, hk.1.1.2.2.2.2.2⟩⟩⟩⟩⟩, hk.2⟩))))
             (case aB => exact aG)
             (case aF => exact (fun k_ hk => ⟨(Nat.le_trans (below_size aG) hk), Kd.fresh' (Kd.R_lt (aR HO_358000)) k_ hk, Kd.freshB (g := gb348) (o := .cells #[.slice A0_0 l0_0.length c0_0, .slice A0_1 l0_1.length c0_1] 27 (0, 0)) aK k_ hk, Kd.freshB (g := gb349) (o := .cells #[.int .i64 a1_0, .slice A1_1 l1_1.length c1_1] 35 (0, 0)) aK k_ hk, Kd.freshB (g := gb350) (o := .cells #[.slice none 0 0, .slice none 0 0] 27 (0, 0)) aK k_ hk, Kd.freshB (g := gb357) (o := .cells #[.slice Ao13 t351.length co13, .slice Ao18 t354.length co18] 27 (0, 0)) aK k_ hk⟩))
             (case aO => exact (by (with_reducible repeat apply pN); exact Kd.N_mono HO402.out (fun _ hk => ⟨hk.1, ⟨hk.2.1, ⟨hk.2.2.2.1, ⟨hk.2.2.2.2.1, ⟨hk.2.2.2.2.2.1, hk.2.2.2.2.2.2⟩⟩⟩⟩⟩)))
             (case aS => exact (below_size aG))
             (case aL => have := LMc118.out; omega)
             intro v409 w132 ho hb hg hat
             rw [← Ny408.out] at ho
             have n0_ := aM (Kd.R_over' (aR HO_358000) (Kd.N_typed (aN HO402)) (by decide) hg)
             have n1_ := aM (Kd.N_afterv (ok := (fun k_ => (w.heap.size ≤ k_) ∧ some k_ ≠ (.slice Ao13 t351.length co13 : Value).ownBlock ∧ k_ ≠ gb348 ∧ k_ ≠ gb349 ∧ k_ ≠ gb350 ∧ k_ ≠ gb357)) (by (with_reducible repeat apply pN); exact Kd.N_mono HO_358001.out (fun _ hk => ⟨⟨hk.1.1.1, ⟨hk.1.1.2.1, ⟨hk.1.1.2.2.1, ⟨hk.1.1.2.2.2.1, ⟨hk.1.1.2.2.2.2.1, hk.1.1.2.2.2.2.2⟩⟩⟩⟩⟩, hk.2⟩)) hg hat)
             have n2_ := aM (blk_grown (g := gb348) (o := .cells #[.slice A0_0 l0_0.length c0_0, .slice A0_1 l0_1.length c0_1] 27 (0, 0)) aK hg (Kd.N_ne HO402.out BK348.out (by decide)))
             have n3_ := aM (blk_grown (g := gb349) (o := .cells #[.int .i64 a1_0, .slice A1_1 l1_1.length c1_1] 35 (0, 0)) aK hg (Kd.N_away HO402.out (fun _ hk => hk.2.2.2.2.1)))
             have n4_ := aM (blk_grown (g := gb350) (o := .cells #[.slice none 0 0, .slice none 0 0] 27 (0, 0)) aK hg (Kd.N_ne HO402.out BK350.out (by decide)))
             have n5_ := aM (blk_grown (g := gb357) (o := .cells #[.slice Ao13 t351.length co13, .slice Ao18 t354.length co18] 27 (0, 0)) aK hg (Kd.N_ne HO402.out BK357.out (by decide)))
             have n6_ := aM (Kd.V_afterv (ok := (fun k_ => (w.heap.size ≤ k_) ∧ some k_ ≠ (.slice Ao13 t351.length co13 : Value).ownBlock ∧ k_ ≠ gb348 ∧ k_ ≠ gb349 ∧ k_ ≠ gb350 ∧ k_ ≠ gb357)) (by (with_reducible repeat apply pV); exact Kd.V_mono HO407.out (fun _ hk => ⟨⟨hk.1.1.1, ⟨hk.1.1.2.1, ⟨hk.1.1.2.2.1, ⟨hk.1.1.2.2.2.1, ⟨hk.1.1.2.2.2.2.1, hk.1.1.2.2.2.2.2⟩⟩⟩⟩⟩, hk.2⟩)) hg hat)
             have n7_ := aM (hb)
             have n8_ := aM (ho)
             clear HO_358000
             clear HO_358001
             clear BK348
             clear BK349
             clear BK350
             clear BK357
             clear HO407
             clear HB
             clear HO402
             have HO_358000 := n0_
             have HO_358001 := n1_
             have BK348 := n2_
             have BK349 := n3_
             have BK350 := n4_
             have BK357 := n5_
             have HO407 := n6_
             have HB := n7_
             have HO410 := n8_
             clear n0_ n1_ n2_ n3_ n4_ n5_ n6_ n7_ n8_
             clear ho hb hg hat
             refine hK.out _ _ ⟨(blk_cell BK349.out 0).trans rfl, (blk_cell BK349.out 1).trans rfl, (blk_cell BK357.out 0).trans rfl, (blk_cell BK357.out 1).trans rfl⟩ (fun hHeld => ?_)
             clear hK K
             refine nU 62 ?_
             refine pU 13 8 ?_
             refine done_ (done_of HT_.out (by kernel_rfl)) ?_
             try go_wp2_with (first | ((with_reducible refine gate_dst (N := 63) rfl ?_); (try (refine gate_guard (by rfl) ?_; dsimp only)); refine Kd.N_lit k35 _ 35 ?hg (N' := 63) ?hd (xs := ([] : List (S35))) (inner := []) (ok := (fun k_ => (w.heap.size ≤ k_) ∧ some k_ ≠ (.slice Ao13 t351.length co13 : Value).ownBlock ∧ some k_ ≠ (.slice Ao18 t354.length co18 : Value).ownBlock ∧ some k_ ≠ (v409 : Value).ownBlock ∧ k_ ≠ gb348 ∧ k_ ≠ gb349 ∧ k_ ≠ gb350 ∧ k_ ≠ gb357)) (okp := (fun k_ => (w.heap.size ≤ k_) ∧ some k_ ≠ (.slice Ao13 t351.length co13 : Value).ownBlock ∧ some k_ ≠ (.slice Ao18 t354.length co18 : Value).ownBlock ∧ some k_ ≠ (v409 : Value).ownBlock ∧ k_ ≠ gb348 ∧ k_ ≠ gb349 ∧ k_ ≠ gb350 ∧ k_ ≠ gb357)) ?hr ?hp (fun _ hk => hk) ((show ∀ k_, w132.heap.size ≤ k_ → (fun k_ => (w.heap.size ≤ k_) ∧ some k_ ≠ (.slice Ao13 t351.length co13 : Value).ownBlock ∧ some k_ ≠ (.slice Ao18 t354.length co18 : Value).ownBlock ∧ some k_ ≠ (v409 : Value).ownBlock ∧ k_ ≠ gb348 ∧ k_ ≠ gb349 ∧ k_ ≠ gb350 ∧ k_ ≠ gb357) k_ from fun k_ hk => ⟨(Nat.le_trans (below_size aG) hk), Kd.fresh' (Kd.R_lt (aR HO_358000)) k_ hk, Kd.fresh' (Kd.N_lt (aN HO_358001)) k_ hk, Kd.fresh' (Kd.N_lt (aN HO410)) k_ hk, Kd.freshB (g := gb348) (o := .cells #[.slice A0_0 l0_0.length c0_0, .slice A0_1 l0_1.length c0_1] 27 (0, 0)) aK k_ hk, Kd.freshB (g := gb349) (o := .cells #[.int .i64 a1_0, .slice A1_1 l1_1.length c1_1] 35 (0, 0)) aK k_ hk, Kd.freshB (g := gb350) (o := .cells #[.slice none 0 0, .slice none 0 0] 27 (0, 0)) aK k_ hk, Kd.freshB (g := gb357) (o := .cells #[.slice Ao13 t351.length co13, .slice Ao18 t354.length co18] 27 (0, 0)) aK k_ hk⟩) _ (Nat.le_refl _)) (Below.refl _ _) (Nat.le_refl _) (by simp) ?_; (case hd => rfl); (case hg => rfl); (case hr => first | (go_simp; done) | (go_simp; rfl)); (case hp => exact (Reps.none _ _)); intro v412 w133 ho134 hb hg_ hnew_; clear hg_ hnew_; (first | rw [← Ny411.out] at ho134 | (simp only [Int.reduceToNat] at ho134; rw [← Ny411.out] at ho134)); have n0_ := aM (Kd.R_below (aR HO_358000) hb); have n1_ := aM (Kd.N_elder' (aN HO_358001) (Kd.N_base ho134) hb); have n2_ := aM (Kd.V_elder' (aV HO407) (Kd.N_base ho134) hb); have n3_ := aM (Kd.N_elder' (aN HO410) (Kd.N_base ho134) hb); have n4_ := aM (Kd.N_lower ho134 (below_size aG)); have n5_ := aM (kB gb348 #[.slice A0_0 l0_0.length c0_0, .slice A0_1 l0_1.length c0_1] 27 hb); have n6_ := aM (kB gb349 #[.int .i64 a1_0, .slice A1_1 l1_1.length c1_1] 35 hb); have n7_ := aM (kB gb350 #[.slice none 0 0, .slice none 0 0] 27 hb); have n8_ := aM (kB gb357 #[.slice Ao13 t351.length co13, .slice Ao18 t354.length co18] 27 hb); have n9_ := aM (below_step aG hb); clear HO_358000; clear HO_358001; clear HO407; clear HO410; clear BK348; clear BK349; clear BK350; clear BK357; clear HB; have HO_358000 := n0_; have HO_358001 := n1_; have HO407 := n2_; have HO410 := n3_; have HO413 := n4_; have BK348 := n5_; have BK349 := n6_; have BK350 := n7_; have BK357 := n8_; have HB := n9_; clear n0_ n1_ n2_ n3_ n4_ n5_ n6_ n7_ n8_ n9_; clear hb ho134; have hnb135 := NB357_348.out; have hnc135 := NB348_357.out; have hnb136 := NB357_349.out; have hnc136 := NB349_357.out; have hnb137 := NB357_350.out; have hnc137 := NB350_357.out; have hcz138_0 : w133.cell? ⟨gb357, 0, none⟩ = some (.slice Ao13 t351.length co13) := (blk_cell BK357.out 0).trans rfl; have hcz138_1 : w133.cell? ⟨gb357, 1, none⟩ = some (.slice Ao18 t354.length co18) := (blk_cell BK357.out 1).trans rfl; have hfz138_0 := blk_frozen BK357.out 0; have hfz138_1 := blk_frozen BK357.out 1; have q139 : (x7_2 : Int) ≤ ((t354.length : Int) : Int) := aD; obtain ⟨i0139, hi0139, _, hsz139, _⟩ := info_parts info35; have hroom139 : t354.length ≤ co18 := (Kd.N_reads' HO_358001.out).2.1; have hC139 : Kd.F k35 _ _ Ao18 t354.length t354 := (Kd.V_at (base := w.heap.size) (Kd.N_V HO_358001.out)).2.2; have hcut139 := cut_to (P := Try.prog) 25 35 .i64 Try.underlying25 hi0139 Ao18 t354.length co18 x7_2 (aD) q139 hroom139; have hr139 := Kd.F_take (m := (x7_2 : Int).toNat) hC139 (by omega); have hy139 : y414.length = (x7_2 : Int).toNat := (by rw [Ny414.out, List.length_take]; omega); rw [← Ny414.out] at hr139; rw [← hy139] at hcut139; have HO418 := aM (show Kd.V k35 35 _ w.heap.size _ (.slice Ao18 y414.length co18) y414 from Kd.V_mk (by omega) hr139); have HC418 := aM (show y414.length ≤ co18 from by omega); clear hr139 hC139 hroom139 hi0139 hsz139; have KY139 := aM hy139; clear hy139; replace q139 := eq_true q139) | ((with_reducible refine gate_builtin (b := .append) (xs := #[.tmp 63, .tmp 67]) rfl ?_); (try (refine gate_guard (by rfl) ?_; dsimp only)); at_builtin; refine Kd.N_append_rows k35 (w0 := w) w.heap.size rfl (.tmp 63) (.tmp 67) 25 35 (.agg #[(.int .i64 0), (.slice none 0 0)]) 32 rfl Try.underlying25 info35 rfl (by decide) (by omega) v412 y411 y414 _ _ _ (fun k_ => (w.heap.size ≤ k_) ∧ some k_ ≠ (.slice Ao13 t351.length co13 : Value).ownBlock ∧ some k_ ≠ (v409 : Value).ownBlock ∧ k_ ≠ gb348 ∧ k_ ≠ gb349 ∧ k_ ≠ gb350 ∧ k_ ≠ gb357) (fun k_ => ((fun k_ => (w.heap.size ≤ k_) ∧ some k_ ≠ (.slice Ao13 t351.length co13 : Value).ownBlock ∧ some k_ ≠ (v409 : Value).ownBlock ∧ k_ ≠ gb348 ∧ k_ ≠ gb349 ∧ k_ ≠ gb350 ∧ k_ ≠ gb357)) k_ ∧ some k_ ≠ (v412 : Value).ownBlock) rfl rfl ?aO ?aR (fun _ hk => hk) ?aF ?aB ?aS ?aL ?_; (case aR => exact (by skip; exact Kd.V_F (Kd.V_mono (ok' := (fun k_ => ((fun k_ => (w.heap.size ≤ k_) ∧ some k_ ≠ (.slice Ao13 t351.length co13 : Value).ownBlock ∧ some k_ ≠ (v409 : Value).ownBlock ∧ k_ ≠ gb348 ∧ k_ ≠ gb349 ∧ k_ ≠ gb350 ∧ k_ ≠ gb357)) k_ ∧ some k_ ≠ (v412 : Value).ownBlock)) (HO418.out) (fun k_ hk => ⟨⟨hk.1.1.1, ⟨hk.1.1.2.1, ⟨hk.1.2, ⟨hk.1.1.2.2.1, ⟨hk.1.1.2.2.2.1, ⟨hk.1.1.2.2.2.2.1, hk.1.1.2.2.2.2.2⟩⟩⟩⟩⟩⟩, hk.2⟩)))); (case aB => exact aG); (case aF => exact (fun k_ hk => ⟨(Nat.le_trans (below_size aG) hk), Kd.fresh' (Kd.R_lt (aR HO_358000)) k_ hk, Kd.fresh' (Kd.N_lt (aN HO410)) k_ hk, Kd.freshB (g := gb348) (o := .cells #[.slice A0_0 l0_0.length c0_0, .slice A0_1 l0_1.length c0_1] 27 (0, 0)) aK k_ hk, Kd.freshB (g := gb349) (o := .cells #[.int .i64 a1_0, .slice A1_1 l1_1.length c1_1] 35 (0, 0)) aK k_ hk, Kd.freshB (g := gb350) (o := .cells #[.slice none 0 0, .slice none 0 0] 27 (0, 0)) aK k_ hk, Kd.freshB (g := gb357) (o := .cells #[.slice Ao13 t351.length co13, .slice Ao18 t354.length co18] 27 (0, 0)) aK k_ hk⟩)); (case aO => exact (by (with_reducible repeat apply pN); exact Kd.N_mono HO413.out (fun _ hk => ⟨hk.1, ⟨hk.2.1, ⟨hk.2.2.2.1, ⟨hk.2.2.2.2.1, ⟨hk.2.2.2.2.2.1, ⟨hk.2.2.2.2.2.2.1, hk.2.2.2.2.2.2.2⟩⟩⟩⟩⟩⟩))); (case aS => exact (below_size aG)); (case aL => have := LMc121.out; omega); intro v420 w140 ho hb hg hat; rw [← Ny419.out] at ho; have n0_ := aM (Kd.R_over' (aR HO_358000) (Kd.N_typed (aN HO413)) (by decide) hg); have n1_ := aM (Kd.N_afterv (ok := (fun k_ => (w.heap.size ≤ k_) ∧ some k_ ≠ (.slice Ao13 t351.length co13 : Value).ownBlock ∧ some k_ ≠ (v409 : Value).ownBlock ∧ k_ ≠ gb348 ∧ k_ ≠ gb349 ∧ k_ ≠ gb350 ∧ k_ ≠ gb357)) (by (with_reducible repeat apply pN); exact Kd.N_mono HO_358001.out (fun _ hk => ⟨⟨hk.1.1.1, ⟨hk.1.1.2.1, ⟨hk.1.2, ⟨hk.1.1.2.2.1, ⟨hk.1.1.2.2.2.1, ⟨hk.1.1.2.2.2.2.1, hk.1.1.2.2.2.2.2⟩⟩⟩⟩⟩⟩, hk.2⟩)) hg hat); have n2_ := aM (blk_grown (g := gb348) (o := .cells #[.slice A0_0 l0_0.length c0_0, .slice A0_1 l0_1.length c0_1] 27 (0, 0)) aK hg (Kd.N_ne HO413.out BK348.out (by decide))); have n3_ := aM (blk_grown (g := gb349) (o := .cells #[.int .i64 a1_0, .slice A1_1 l1_1.length c1_1] 35 (0, 0)) aK hg (Kd.N_away HO413.out (fun _ hk => hk.2.2.2.2.2.1))); have n4_ := aM (blk_grown (g := gb350) (o := .cells #[.slice none 0 0, .slice none 0 0] 27 (0, 0)) aK hg (Kd.N_ne HO413.out BK350.out (by decide))); have n5_ := aM (blk_grown (g := gb357) (o := .cells #[.slice Ao13 t351.length co13, .slice Ao18 t354.length co18] 27 (0, 0)) aK hg (Kd.N_ne HO413.out BK357.out (by decide))); have n6_ := aM (Kd.V_afterv (ok := (fun k_ => (w.heap.size ≤ k_) ∧ some k_ ≠ (.slice Ao13 t351.length co13 : Value).ownBlock ∧ some k_ ≠ (v409 : Value).ownBlock ∧ k_ ≠ gb348 ∧ k_ ≠ gb349 ∧ k_ ≠ gb350 ∧ k_ ≠ gb357)) (by (with_reducible repeat apply pV); exact Kd.V_mono HO407.out (fun _ hk => ⟨⟨hk.1.1.1, ⟨hk.1.1.2.1, ⟨hk.1.2, ⟨hk.1.1.2.2.1, ⟨hk.1.1.2.2.2.1, ⟨hk.1.1.2.2.2.2.1, hk.1.1.2.2.2.2.2⟩⟩⟩⟩⟩⟩, hk.2⟩)) hg hat); have n7_ := aM (Kd.N_afterv (ok := (fun k_ => (w.heap.size ≤ k_) ∧ some k_ ≠ (.slice Ao13 t351.length co13 : Value).ownBlock ∧ k_ ≠ gb348 ∧ k_ ≠ gb349 ∧ k_ ≠ gb350 ∧ k_ ≠ gb357)) (aN HO410) hg hat); have n8_ := aM (Kd.V_afterv (ok := (fun k_ => (w.heap.size ≤ k_) ∧ some k_ ≠ (.slice Ao13 t351.length co13 : Value).ownBlock ∧ some k_ ≠ (v409 : Value).ownBlock ∧ k_ ≠ gb348 ∧ k_ ≠ gb349 ∧ k_ ≠ gb350 ∧ k_ ≠ gb357)) (by (with_reducible repeat apply pV); exact Kd.V_mono HO418.out (fun _ hk => ⟨⟨hk.1.1.1, ⟨hk.1.1.2.1, ⟨hk.1.2, ⟨hk.1.1.2.2.1, ⟨hk.1.1.2.2.2.1, ⟨hk.1.1.2.2.2.2.1, hk.1.1.2.2.2.2.2⟩⟩⟩⟩⟩⟩, hk.2⟩)) hg hat); have n9_ := aM (hb); have n10_ := aM (ho); clear HO_358000; clear HO_358001; clear BK348; clear BK349; clear BK350; clear BK357; clear HO407; clear HO410; clear HO418; clear HB; clear HO413; have HO_358000 := n0_; have HO_358001 := n1_; have BK348 := n2_; have BK349 := n3_; have BK350 := n4_; have BK357 := n5_; have HO407 := n6_; have HO410 := n7_; have HO418 := n8_; have HB := n9_; have HO421 := n10_; clear n0_ n1_ n2_ n3_ n4_ n5_ n6_ n7_ n8_ n9_ n10_; clear ho hb hg hat; obtain ⟨Ao142, co142, eo142⟩ := Kd.N_slice HO410.out; subst eo142) | ((with_reducible refine gate_builtin (b := .append) (xs := #[.tmp 68, .tmp 69]) rfl ?_); (try (refine gate_guard (by rfl) ?_; dsimp only)); at_builtin; refine Kd.N_append_rows k35 (w0 := w) w.heap.size rfl (.tmp 68) (.tmp 69) 25 35 (.agg #[(.int .i64 0), (.slice none 0 0)]) 32 rfl Try.underlying25 info35 rfl (by decide) (by omega) v420 y419 y408 _ _ _ (fun k_ => (w.heap.size ≤ k_) ∧ some k_ ≠ (.slice Ao13 t351.length co13 : Value).ownBlock ∧ k_ ≠ gb348 ∧ k_ ≠ gb349 ∧ k_ ≠ gb350 ∧ k_ ≠ gb357) (fun k_ => ((fun k_ => (w.heap.size ≤ k_) ∧ some k_ ≠ (.slice Ao13 t351.length co13 : Value).ownBlock ∧ k_ ≠ gb348 ∧ k_ ≠ gb349 ∧ k_ ≠ gb350 ∧ k_ ≠ gb357)) k_ ∧ some k_ ≠ (v420 : Value).ownBlock) rfl rfl ?aO ?aR (fun _ hk => hk) ?aF ?aB ?aS ?aL ?_; (case aR => exact (by skip; exact Kd.N_F (Kd.N_mono (ok' := (fun k_ => ((fun k_ => (w.heap.size ≤ k_) ∧ some k_ ≠ (.slice Ao13 t351.length co13 : Value).ownBlock ∧ k_ ≠ gb348 ∧ k_ ≠ gb349 ∧ k_ ≠ gb350 ∧ k_ ≠ gb357)) k_ ∧ some k_ ≠ (v420 : Value).ownBlock)) (HO410.out) (fun k_ hk => ⟨⟨hk.1.1, ⟨hk.1.2.1, ⟨hk.1.2.2.1, ⟨hk.1.2.2.2.1, ⟨hk.1.2.2.2.2.1, hk.1.2.2.2.2.2⟩⟩⟩⟩⟩, hk.2⟩)))); (case aB => exact aG); (case aF => exact (fun k_ hk => ⟨(Nat.le_trans (below_size aG) hk), Kd.fresh' (Kd.R_lt (aR HO_358000)) k_ hk, Kd.freshB (g := gb348) (o := .cells #[.slice A0_0 l0_0.length c0_0, .slice A0_1 l0_1.length c0_1] 27 (0, 0)) aK k_ hk, Kd.freshB (g := gb349) (o := .cells #[.int .i64 a1_0, .slice A1_1 l1_1.length c1_1] 35 (0, 0)) aK k_ hk, Kd.freshB (g := gb350) (o := .cells #[.slice none 0 0, .slice none 0 0] 27 (0, 0)) aK k_ hk, Kd.freshB (g := gb357) (o := .cells #[.slice Ao13 t351.length co13, .slice Ao18 t354.length co18] 27 (0, 0)) aK k_ hk⟩)); (case aO => exact (by (with_reducible repeat apply pN); exact Kd.N_mono HO421.out (fun _ hk => ⟨hk.1, ⟨hk.2.1, ⟨hk.2.2.2.1, ⟨hk.2.2.2.2.1, ⟨hk.2.2.2.2.2.1, hk.2.2.2.2.2.2⟩⟩⟩⟩⟩))); (case aS => exact (below_size aG)); (case aL => have := LMc122.out; omega); intro v423 w141 ho hb hg hat; rw [← Ny422.out] at ho; have n0_ := aM (Kd.R_over' (aR HO_358000) (Kd.N_typed (aN HO421)) (by decide) hg); have n1_ := aM (Kd.N_afterv (ok := (fun k_ => (w.heap.size ≤ k_) ∧ some k_ ≠ (.slice Ao13 t351.length co13 : Value).ownBlock ∧ some k_ ≠ (.slice Ao142 y408.length co142 : Value).ownBlock ∧ k_ ≠ gb348 ∧ k_ ≠ gb349 ∧ k_ ≠ gb350 ∧ k_ ≠ gb357)) (aN HO_358001) hg hat); have n2_ := aM (blk_grown (g := gb348) (o := .cells #[.slice A0_0 l0_0.length c0_0, .slice A0_1 l0_1.length c0_1] 27 (0, 0)) aK hg (Kd.N_ne HO421.out BK348.out (by decide))); have n3_ := aM (blk_grown (g := gb349) (o := .cells #[.int .i64 a1_0, .slice A1_1 l1_1.length c1_1] 35 (0, 0)) aK hg (Kd.N_away HO421.out (fun _ hk => hk.2.2.2.2.1))); have n4_ := aM (blk_grown (g := gb350) (o := .cells #[.slice none 0 0, .slice none 0 0] 27 (0, 0)) aK hg (Kd.N_ne HO421.out BK350.out (by decide))); have n5_ := aM (blk_grown (g := gb357) (o := .cells #[.slice Ao13 t351.length co13, .slice Ao18 t354.length co18] 27 (0, 0)) aK hg (Kd.N_ne HO421.out BK357.out (by decide))); have n6_ := aM (Kd.V_afterv (ok := (fun k_ => (w.heap.size ≤ k_) ∧ some k_ ≠ (.slice Ao13 t351.length co13 : Value).ownBlock ∧ some k_ ≠ (.slice Ao142 y408.length co142 : Value).ownBlock ∧ k_ ≠ gb348 ∧ k_ ≠ gb349 ∧ k_ ≠ gb350 ∧ k_ ≠ gb357)) (aV HO407) hg hat); have n7_ := aM (Kd.N_afterv (ok := (fun k_ => (w.heap.size ≤ k_) ∧ some k_ ≠ (.slice Ao13 t351.length co13 : Value).ownBlock ∧ k_ ≠ gb348 ∧ k_ ≠ gb349 ∧ k_ ≠ gb350 ∧ k_ ≠ gb357)) (aN HO410) hg hat); have n8_ := aM (Kd.V_afterv (ok := (fun k_ => (w.heap.size ≤ k_) ∧ some k_ ≠ (.slice Ao13 t351.length co13 : Value).ownBlock ∧ some k_ ≠ (.slice Ao142 y408.length co142 : Value).ownBlock ∧ k_ ≠ gb348 ∧ k_ ≠ gb349 ∧ k_ ≠ gb350 ∧ k_ ≠ gb357)) (aV HO418) hg hat); have n9_ := aM (hb); have n10_ := aM (ho); clear HO_358000; clear HO_358001; clear BK348; clear BK349; clear BK350; clear BK357; clear HO407; clear HO410; clear HO418; clear HB; clear HO421; have HO_358000 := n0_; have HO_358001 := n1_; have BK348 := n2_; have BK349 := n3_; have BK350 := n4_; have BK357 := n5_; have HO407 := n6_; have HO410 := n7_; have HO418 := n8_; have HB := n9_; have HO424 := n10_; clear n0_ n1_ n2_ n3_ n4_ n5_ n6_ n7_ n8_ n9_ n10_; clear ho hb hg hat; obtain ⟨Ao143, co143, eo143⟩ := Kd.N_slice HO424.out; subst eo143; have hcz144_0 : w141.cell? ⟨gb357, 0, none⟩ = some (.slice Ao13 t351.length co13) := (blk_cell BK357.out 0).trans rfl; have hcz144_1 : w141.cell? ⟨gb357, 1, none⟩ = some (.slice Ao18 t354.length co18) := (blk_cell BK357.out 1).trans rfl; have hfz144_0 := blk_frozen BK357.out 0; have hfz144_1 := blk_frozen BK357.out 1; have hnb145 := NB350_348.out; have hnc145 := NB348_350.out; have hnb146 := NB350_349.out; have hnc146 := NB349_350.out; have hcz147_0 : w141.cell? ⟨gb350, 0, none⟩ = some (.slice none 0 0) := (blk_cell BK350.out 0).trans rfl; have hcz147_1 : w141.cell? ⟨gb350, 1, none⟩ = some (.slice none 0 0) := (blk_cell BK350.out 1).trans rfl; have hfz147_0 := blk_frozen BK350.out 0; have hfz147_1 := blk_frozen BK350.out 1))
             refine bodyPost_ret (results_ct rfl _ _ gb350 27 #[.slice Ao13 t351.length co13, .slice Ao143 y422.length co143] (0, 0) _ rfl (by (with_reducible repeat refine pB ?_); refine blk_put (cs := #[.slice Ao13 t351.length co13, .slice none 0 0]) ?_ 1 _ rfl; (with_reducible repeat refine pB ?_); refine blk_put (cs := #[.slice none 0 0, .slice none 0 0]) ?_ 0 _ rfl; (with_reducible repeat refine pB ?_); refine blk_far ?_ NB350_357.out _; (with_reducible repeat refine pB ?_); exact BK350.out) Try.underlying27 rfl (by kernel_rfl)) rfl ?_
             exact ⟨_, _, aE, by (with_reducible repeat apply pR); exact Kd.R_mono (Kd.R_far (p := ⟨gb350, 1, none⟩) (Kd.R_far (p := ⟨gb350, 0, none⟩) (Kd.R_far (p := ⟨gb357, 1, none⟩) (Kd.R_types (Kd.R_types HO_358000.out BK357.out (by decide)) BK350.out (by decide)) (fun _ hk => hk.1.2) (.slice Ao143 y422.length co143)) (fun _ hk => hk.2) (.slice Ao13 t351.length co13)) (fun _ hk => hk.2) (.slice Ao143 y422.length co143)) (fun _ hk => hk.1.1), by (with_reducible repeat apply pN); exact Kd.N_mono (Kd.N_far (p := ⟨gb350, 1, none⟩) (Kd.N_far (p := ⟨gb350, 0, none⟩) (Kd.N_far (p := ⟨gb357, 1, none⟩) (Kd.N_mono (Kd.N_mono HO424.out (fun k_ hk => (⟨hk, hk.2.2.2.2.2⟩ : _ ∧ k_ ≠ gb357))) (fun k_ hk => (⟨hk, hk.1.2.2.2.2.1⟩ : _ ∧ k_ ≠ gb350))) (fun _ hk => hk.1.2) (.slice Ao143 y422.length co143)) (fun _ hk => hk.2) (.slice Ao13 t351.length co13)) (fun _ hk => hk.2) (.slice Ao143 y422.length co143)) (fun _ hk => ⟨hk.1.1.1, hk.1.1.2.1⟩), aG⟩
            ·rw [if_neg c122] at H
             exact absurd H (by simp)
           ·rw [if_neg c121] at H
            exact absurd H (by simp)
          ·rw [if_neg c118] at H
           exact absurd H (by simp)
         ·rw [if_neg c117] at H
          exact absurd H (by simp)
        ·rw [if_neg c116] at H
         exact absurd H (by simp)
       ·rw [if_neg c115] at H
        exact absurd H (by simp)

end Go.Proofs.Ytbdeimhlohhhiaa.PFnRepairEnumeration
