-- Laid by a program of this claim: what the functions come to, some of them proved by hand.
import Derived.Test.YteddnlklfjpgoaaPFnExactInsertFactx0
import Derived.Test.YteddnlklfjpgoaaPFnExactInsertFactx4
import Derived.Test.YteddnlklfjpgoaaPFnExactInsertFactx5
namespace Go.Proofs.Yteddnlklfjpgoaa.PFnExactInsertFact
open Go.RowKit Go.Proofs.YteddnlklfjpgoaaW.PrintWords Go.Proofs.YteddnlklfjpgoaaW.PrintLast Go.Proofs.YteddnlklfjpgoaaW.PrintMore
attribute [local go_sem] max2_int min2_int max_two min_two max_three min_three max_four min_four   -- for this text's walks alone
set_option linter.unusedVariables false
set_option linter.unusedSimpArgs false

/-! ### spec_InsertFact: function 18 -/
mutual
def spec_InsertFact.j0 : Nat → Bool → Int → List Int → List (S74) → List (S45) → Option ((List (S74)) × (List (S45)) × Bool)
 | 0, _, _, _, _, _ => none
 | k + 1, x31, x243000, x243001, x251000, x251001 => if x31 = true then (some (x251000, x251001, false)) else (spec_InsertFact.l0 k 0 x243000 x243001 x251000 x251001)
def spec_InsertFact.l0 : Nat → Int → Int → List Int → List (S74) → List (S45) → Option ((List (S74)) × (List (S45)) × Bool)
 | 0, _, _, _, _, _ => none
 | k + 1, x7, x243000, x243001, x251000, x251001 => if x7 < (x251001.length : Int) then (if 0 ≤ x7 then ((spec_CompareFacts.f k ((rd_T45 x251001 x7).f0) ((rd_T45 x251001 x7).f1) x243000 x243001).bind fun t255 => (if t255 < 0 then (spec_InsertFact.l0 k (wrap64 (x7 + 1)) x243000 x243001 x251000 x251001) else ((some (([] : List Int) : List Int)).bind fun y256 => (if y256.length + x243001.length < 17592186044416 then ((some (([(⟨x243000, (y256 ++ x243001)⟩ : S45)] : List (S45)) : List (S45))).bind fun y262 => (if x7 ≤ (x251001.length : Int) then ((some (x251001.drop (x7 : Int).toNat : List (S45))).bind fun y265 => (if y262.length + y265.length < 4398046511104 then ((some (y262 ++ y265 : List (S45))).bind fun y270 => ((some (([] : List (S45)) : List (S45))).bind fun y273 => ((some (x251001.take (x7 : Int).toNat : List (S45))).bind fun y276 => (if y273.length + y276.length < 4398046511104 then ((some (y273 ++ y276 : List (S45))).bind fun y281 => (if y281.length + y270.length < 4398046511104 then (some (x251000, (y281 ++ y270), true)) else (none))) else (none))))) else (none))) else (none))) else (none))))) else (none)) else ((some (([] : List Int) : List Int)).bind fun y287 => (if y287.length + x243001.length < 17592186044416 then ((some (([(⟨x243000, (y287 ++ x243001)⟩ : S45)] : List (S45)) : List (S45))).bind fun y293 => (if 0 ≤ x7 then (if x7 ≤ (x251001.length : Int) then ((some (x251001.drop (x7 : Int).toNat : List (S45))).bind fun y296 => (if y293.length + y296.length < 4398046511104 then ((some (y293 ++ y296 : List (S45))).bind fun y301 => ((some (([] : List (S45)) : List (S45))).bind fun y304 => ((some (x251001.take (x7 : Int).toNat : List (S45))).bind fun y307 => (if y304.length + y307.length < 4398046511104 then ((some (y304 ++ y307 : List (S45))).bind fun y312 => (if y312.length + y301.length < 4398046511104 then (some (x251000, (y312 ++ y301), true)) else (none))) else (none))))) else (none))) else (none)) else (none))) else (none)))
end
def spec_InsertFact.f (k : Nat) (l0_0 : List (S74)) (l0_1 : List (S45)) (a1_0 : Int) (l1_1 : List Int) : Option ((List (S74)) × (List (S45)) × Bool) := (spec_l4Copy.f k l0_0 l0_1).bind fun bt244 => ((spec_IsValidDatabase.f k l0_0 l0_1).bind fun t251 => (if t251 = true then ((spec_IsValidFact.f k l0_0 a1_0 l1_1).bind fun t252 => (if t252 = true then ((spec_ContainsFact.f k l0_0 l0_1 a1_0 l1_1).bind fun t253 => (if t253 = true then (spec_InsertFact.j0 k true a1_0 l1_1 bt244.1 bt244.2) else (spec_InsertFact.j0 k ((l0_1.length : Int) == 14) a1_0 l1_1 bt244.1 bt244.2))) else (spec_InsertFact.j0 k true a1_0 l1_1 bt244.1 bt244.2))) else (spec_InsertFact.j0 k true a1_0 l1_1 bt244.1 bt244.2)))
def spec_InsertFact.T5 : Bool × List (List Nat × List Nat) := (true, [([], []), ([], []), ([1], [1]), ([2], [2]), ([0, 3], [0, 3]), ([4], [4]), ([5], [5]), ([6, 5], [5, 6]), ([5], [5]), ([7, 8, 5], [5, 7, 8]), ([9, 5], [5, 9]), ([5], [5]), ([10, 11, 5, 5], [5, 10, 11]), ([12, 5], [5, 12]), ([5, 13], [5, 13])])
def spec_InsertFact.B5 : List Nat := [0, 0, 2, 6, 15, 31, 63, 127, 63, 511, 1023, 63, 4095, 8191, 16383]
theorem spec_InsertFact.tab5 : rtab .any (opsOf Try.f18 5) = spec_InsertFact.T5 := by kernel_rfl
theorem spec_InsertFact.bits5 : waitsOk spec_InsertFact.T5.2 spec_InsertFact.B5 = true := by kernel_rfl
def spec_InsertFact.T7 : Bool × List (List Nat × List Nat) := (true, [([], []), ([0], [0]), ([], []), ([], []), ([3], [3]), ([2, 4], [2, 4]), ([1, 5], [1, 5]), ([6], [6]), ([], []), ([8], [8]), ([], []), ([9, 10], [9, 10]), ([7, 11, 5], [7, 11]), ([12, 12, 0, 1, 2, 3, 4, 5, 6, 7, 8, 9, 10, 11, 12], [12])])
def spec_InsertFact.B7 : List Nat := [0, 1, 0, 0, 8, 28, 63, 127, 0, 256, 0, 1792, 4095, 8191]
theorem spec_InsertFact.tab7 : rtab .any (opsOf Try.f18 7) = spec_InsertFact.T7 := by kernel_rfl
theorem spec_InsertFact.bits7 : waitsOk spec_InsertFact.T7.2 spec_InsertFact.B7 = true := by kernel_rfl
set_option maxHeartbeats 8000000 in
set_option maxRecDepth 100000 in
theorem spec_InsertFact.calls (k : Nat) (A0_0 : Option Addr) (c0_0 : Nat) (l0_0 : List (S74)) (A0_1 : Option Addr) (c0_1 : Nat) (l0_1 : List (S45)) (a1_0 : Int) (A1_1 : Option Addr) (c1_1 : Nat) (l1_1 : List Int) (r1 : List (S74)) (r2 : List (S45)) (r3 : Bool) (w : World) (hr0_0 : Kd.C k74 w A0_0 l0_0.length l0_0) (hc0_0 : l0_0.length ≤ c0_0) (hr0_1 : Kd.C k45 w A0_1 l0_1.length l0_1) (hc0_1 : l0_1.length ≤ c0_1) (hr1_1 : Kd.C (Kd.int .i64) w A1_1 l1_1.length l1_1) (hc1_1 : l1_1.length ≤ c1_1) (h : spec_InsertFact.f k l0_0 l0_1 a1_0 l1_1 = some (r1, r2, r3)) :
  Calls Try.prog 18 #[.agg #[.slice A0_0 l0_0.length c0_0, .slice A0_1 l0_1.length c0_1], .agg #[.int .i64 a1_0, .slice A1_1 l1_1.length c1_1]] w fun e w' => ∃ v0_ v1_ : Value, e = .returned (.tuple #[.agg #[v0_, v1_], .bool r3]) ∧ Kd.R k74 74 w' w.heap.size (fun k_ => (w.heap.size ≤ k_)) v0_ r1 ∧ Kd.N k45 45 w' w.heap.size (fun k_ => (w.heap.size ≤ k_) ∧ some k_ ≠ (v0_ : Value).ownBlock) v1_ r2 ∧ Below w.heap.size w w' := by
 have hu31 := Try.underlying31
 have hu45 := Try.underlying45
 have HR0_0 := aM hr0_0
 have HC0_0 := aM hc0_0
 clear hr0_0 hc0_0
 have HR0_1 := aM hr0_1
 have HC0_1 := aM hc0_1
 clear hr0_1 hc0_1
 have HR1_1 := aM hr1_1
 have HC1_1 := aM hc1_1
 clear hr1_1 hc1_1
 have HB := aM (Below.refl w.heap.size w)
 have H : ((spec_l4Copy.f k l0_0 l0_1).bind fun bt244 => ((spec_IsValidDatabase.f k l0_0 l0_1).bind fun t251 => (if t251 = true then ((spec_IsValidFact.f k l0_0 a1_0 l1_1).bind fun t252 => (if t252 = true then ((spec_ContainsFact.f k l0_0 l0_1 a1_0 l1_1).bind fun t253 => (if t253 = true then (spec_InsertFact.j0 k true a1_0 l1_1 bt244.1 bt244.2) else (spec_InsertFact.j0 k ((l0_1.length : Int) == 14) a1_0 l1_1 bt244.1 bt244.2))) else (spec_InsertFact.j0 k true a1_0 l1_1 bt244.1 bt244.2))) else (spec_InsertFact.j0 k true a1_0 l1_1 bt244.1 bt244.2)))) = some (r1, r2, r3) := h
 clear h
 replace H := Option.bind_eq_some_iff.mp H
 obtain ⟨⟨t244, t247⟩, A30, H⟩ := H
 replace H : ((spec_IsValidDatabase.f k l0_0 l0_1).bind fun t251 => (if t251 = true then ((spec_IsValidFact.f k l0_0 a1_0 l1_1).bind fun t252 => (if t252 = true then ((spec_ContainsFact.f k l0_0 l0_1 a1_0 l1_1).bind fun t253 => (if t253 = true then (spec_InsertFact.j0 k true a1_0 l1_1 t244 t247) else (spec_InsertFact.j0 k ((l0_1.length : Int) == 14) a1_0 l1_1 t244 t247))) else (spec_InsertFact.j0 k true a1_0 l1_1 t244 t247))) else (spec_InsertFact.j0 k true a1_0 l1_1 t244 t247))) = some (r1, r2, r3) := H
 have A3 := aM A30
 clear A30
 have HC4 := aM H
 clear H
 go_enter Try.func18, Try.ntmps18
 go_upto_region 2 with (first | ((with_reducible refine gate_dst (N := 2) rfl ?_); (try (refine gate_guard (by rfl) ?_; dsimp only)); refine box_event ?hg (N := 2) ?hd (cs := #[.slice A0_0 l0_0.length c0_0, .slice A0_1 l0_1.length c0_1]) (t := 31) ?hr ?_; (case hd => rfl); (case hg => rfl); (case hr => first | (go_simp; done) | (go_simp; rfl)); intro gb241 hg w5 hbox hb; have n0_ := aM (below_step aB hb); have n1_ := aM (hbox); have n2_ := aM ((by rw [hg]; exact (below_size aB) : w.heap.size ≤ gb241)); have n3_ := aM ((by rw [hg]; exact (below_size aB) : w.heap.size ≤ gb241)); clear HB; have HB := n0_; have BK241 := n1_; have GW241 := n2_; have GE241 := n3_; clear n0_ n1_ n2_ n3_; clear hb hbox hg) | ((with_reducible refine gate_dst (N := 3) rfl ?_); (try (refine gate_guard (by rfl) ?_; dsimp only)); refine box_event ?hg (N := 3) ?hd (cs := #[.int .i64 a1_0, .slice A1_1 l1_1.length c1_1]) (t := 45) ?hr ?_; (case hd => rfl); (case hg => rfl); (case hr => first | (go_simp; done) | (go_simp; rfl)); intro gb242 hg w6 hbox hb; have n0_ := aM (blk_below (g := gb241) (o := .cells #[.slice A0_0 l0_0.length c0_0, .slice A0_1 l0_1.length c0_1] 31 (0, 0)) aK hb); have n1_ := aM (below_step aG hb); have n2_ := aM (hbox); have n3_ := aM ((by rw [hg]; exact (below_size aG) : w.heap.size ≤ gb242)); have n4_ := aM ((by rw [hg]; exact (below_size aG) : w.heap.size ≤ gb242)); have n5_ := aM ((by rw [hg]; exact Nat.ne_of_lt (blk_lt (g := gb241) (o := .cells #[.slice A0_0 l0_0.length c0_0, .slice A0_1 l0_1.length c0_1] 31 (0, 0)) aK) : gb241 ≠ gb242)); have n6_ := aM ((by rw [hg]; exact Nat.ne_of_gt (blk_lt (g := gb241) (o := .cells #[.slice A0_0 l0_0.length c0_0, .slice A0_1 l0_1.length c0_1] 31 (0, 0)) aK) : gb242 ≠ gb241)); clear BK241; clear HB; have BK241 := n0_; have HB := n1_; have BK242 := n2_; have GW242 := n3_; have GE242 := n4_; have NB241_242 := n5_; have NB242_241 := n6_; clear n0_ n1_ n2_ n3_ n4_ n5_ n6_; clear hb hbox hg) | ((with_reducible refine gate_dst (N := 4) rfl ?_); (try (refine gate_guard (by rfl) ?_; dsimp only)); refine box_event ?hg (N := 4) ?hd (cs := #[.slice none 0 0, .slice none 0 0]) (t := 31) ?hr ?_; (case hd => rfl); (case hg => rfl); (case hr => first | (go_simp; done) | (go_simp; rfl)); intro gb243 hg w7 hbox hb; have n0_ := aM (blk_below (g := gb241) (o := .cells #[.slice A0_0 l0_0.length c0_0, .slice A0_1 l0_1.length c0_1] 31 (0, 0)) aK hb); have n1_ := aM (blk_below (g := gb242) (o := .cells #[.int .i64 a1_0, .slice A1_1 l1_1.length c1_1] 45 (0, 0)) aK hb); have n2_ := aM (below_step aG hb); have n3_ := aM (hbox); have n4_ := aM ((by rw [hg]; exact (below_size aG) : w.heap.size ≤ gb243)); have n5_ := aM ((by rw [hg]; exact (below_size aG) : w.heap.size ≤ gb243)); have n6_ := aM ((by rw [hg]; exact Nat.ne_of_lt (blk_lt (g := gb241) (o := .cells #[.slice A0_0 l0_0.length c0_0, .slice A0_1 l0_1.length c0_1] 31 (0, 0)) aK) : gb241 ≠ gb243)); have n7_ := aM ((by rw [hg]; exact Nat.ne_of_gt (blk_lt (g := gb241) (o := .cells #[.slice A0_0 l0_0.length c0_0, .slice A0_1 l0_1.length c0_1] 31 (0, 0)) aK) : gb243 ≠ gb241)); have n8_ := aM ((by rw [hg]; exact Nat.ne_of_lt (blk_lt (g := gb242) (o := .cells #[.int .i64 a1_0, .slice A1_1 l1_1.length c1_1] 45 (0, 0)) aK) : gb242 ≠ gb243)); have n9_ := aM ((by rw [hg]; exact Nat.ne_of_gt (blk_lt (g := gb242) (o := .cells #[.int .i64 a1_0, .slice A1_1 l1_1.length c1_1] 45 (0, 0)) aK) : gb243 ≠ gb242)); clear BK241; clear BK242; clear HB; have BK241 := n0_; have BK242 := n1_; have HB := n2_; have BK243 := n3_; have GW243 := n4_; have GE243 := n5_; have NB241_243 := n6_; have NB243_241 := n7_; have NB242_243 := n8_; have NB243_242 := n9_; clear n0_ n1_ n2_ n3_ n4_ n5_ n6_ n7_ n8_ n9_; clear hb hbox hg; have hnb8 := NB241_242.out; have hnc8 := NB242_241.out; have hnb9 := NB241_243.out; have hnc9 := NB243_241.out; have hcz10_0 : w7.cell? ⟨gb241, 0, none⟩ = some (.slice A0_0 l0_0.length c0_0) := (blk_cell BK241.out 0).trans rfl; have hcz10_1 : w7.cell? ⟨gb241, 1, none⟩ = some (.slice A0_1 l0_1.length c0_1) := (blk_cell BK241.out 1).trans rfl; have hfz10_0 := blk_frozen BK241.out 0; have hfz10_1 := blk_frozen BK241.out 1) | ((with_reducible refine gate_callee (f := 46) rfl ?_); refine goesL_ (some 10) rfl rfl Try.func46 (by kernel_rfl) rfl #[.agg #[.slice A0_0 l0_0.length c0_0, .slice A0_1 l0_1.length c0_1]] rfl (by (try simp only [List.map_toArray, List.map_cons, List.map_nil]); first | done | rfl | (simp only [List.length_drop, List.length_take]; rfl)) ?_; (with_reducible refine (spec_l4Copy.calls k _ _ l0_0 _ _ l0_1 t244 t247 _ ?side1 ?side2 ?side3 ?side4 A3.out).mono ?_); (case side1 => exact aC); (case side2 => exact HC0_0.out); (case side3 => exact aC); (case side4 => exact HC0_1.out); rintro e w11 ⟨v245, v248, rfl, ho0, ho1, hb⟩; refine ⟨_, rfl, ?_⟩; have n0_ := aM (Kd.R_lower (Kd.R_newM (M := fun k_ => (w.heap.size ≤ k_)) ho0 (below_size aG) (fun k_ h_ => h_)) (below_size aG)); have n1_ := aM (Kd.N_lower (Kd.N_mono (ok' := fun k_ => (w.heap.size ≤ k_) ∧ some k_ ≠ (v245 : Value).ownBlock ∧ k_ ≠ gb241 ∧ k_ ≠ gb242 ∧ k_ ≠ gb243) (Kd.S_N (Kd.S_bound (Kd.S_apart' ho1 (Kd.R_typed ho0) (by decide)))) (fun k_ hk_ => ⟨(Nat.le_trans (below_size aG) hk_.2.1), hk_.1.2, (Kd.freshB (g := gb241) (o := .cells #[.slice A0_0 l0_0.length c0_0, .slice A0_1 l0_1.length c0_1] 31 (0, 0)) aK k_ hk_.2.1), (Kd.freshB (g := gb242) (o := .cells #[.int .i64 a1_0, .slice A1_1 l1_1.length c1_1] 45 (0, 0)) aK k_ hk_.2.1), (Kd.freshB (g := gb243) (o := .cells #[.slice none 0 0, .slice none 0 0] 31 (0, 0)) aK k_ hk_.2.1)⟩)) (below_size aG)); have n2_ := aM (blk_below (g := gb241) (o := .cells #[.slice A0_0 l0_0.length c0_0, .slice A0_1 l0_1.length c0_1] 31 (0, 0)) aK hb); have n3_ := aM (blk_below (g := gb242) (o := .cells #[.int .i64 a1_0, .slice A1_1 l1_1.length c1_1] 45 (0, 0)) aK hb); have n4_ := aM (blk_below (g := gb243) (o := .cells #[.slice none 0 0, .slice none 0 0] 31 (0, 0)) aK hb); have n5_ := aM (below_step aG hb); clear BK241; clear BK242; clear BK243; clear HB; have HO246 := n0_; have HO249 := n1_; have BK241 := n2_; have BK242 := n3_; have BK243 := n4_; have HB := n5_; clear n0_ n1_ n2_ n3_ n4_ n5_; (try clear hb); (try clear hb2); (try clear hk); (try clear hi); (try clear ho0); (try clear ho1)) | ((with_reducible refine gate_dst (N := 6) rfl ?_); (try (refine gate_guard (by rfl) ?_; dsimp only)); refine box_event ?hg (N := 6) ?hd (cs := #[.slice none 0 0, .slice none 0 0]) (t := 31) ?hr ?_; (case hd => rfl); (case hg => rfl); (case hr => first | (go_simp; done) | (go_simp; rfl)); intro gb250 hg w12 hbox hb; have n0_ := aM (Kd.R_below (aR HO246) hb); have n1_ := aM (Kd.N_below (Kd.N_elderB (by (with_reducible repeat (first | apply Kd.N_alloc | apply Kd.N_drewN | apply Kd.N_drew)); exact HO249.out) gb250 (Nat.le_of_eq hg.symm)) hb); have n2_ := aM (blk_below (g := gb241) (o := .cells #[.slice A0_0 l0_0.length c0_0, .slice A0_1 l0_1.length c0_1] 31 (0, 0)) aK hb); have n3_ := aM (blk_below (g := gb242) (o := .cells #[.int .i64 a1_0, .slice A1_1 l1_1.length c1_1] 45 (0, 0)) aK hb); have n4_ := aM (blk_below (g := gb243) (o := .cells #[.slice none 0 0, .slice none 0 0] 31 (0, 0)) aK hb); have n5_ := aM (below_step aG hb); have n6_ := aM (hbox); have n7_ := aM ((by rw [hg]; exact (below_size aG) : w.heap.size ≤ gb250)); have n8_ := aM ((by rw [hg]; exact (below_size aG) : w.heap.size ≤ gb250)); have n9_ := aM ((by rw [hg]; exact Nat.ne_of_lt (blk_lt (g := gb241) (o := .cells #[.slice A0_0 l0_0.length c0_0, .slice A0_1 l0_1.length c0_1] 31 (0, 0)) aK) : gb241 ≠ gb250)); have n10_ := aM ((by rw [hg]; exact Nat.ne_of_gt (blk_lt (g := gb241) (o := .cells #[.slice A0_0 l0_0.length c0_0, .slice A0_1 l0_1.length c0_1] 31 (0, 0)) aK) : gb250 ≠ gb241)); have n11_ := aM ((by rw [hg]; exact Nat.ne_of_lt (blk_lt (g := gb242) (o := .cells #[.int .i64 a1_0, .slice A1_1 l1_1.length c1_1] 45 (0, 0)) aK) : gb242 ≠ gb250)); have n12_ := aM ((by rw [hg]; exact Nat.ne_of_gt (blk_lt (g := gb242) (o := .cells #[.int .i64 a1_0, .slice A1_1 l1_1.length c1_1] 45 (0, 0)) aK) : gb250 ≠ gb242)); have n13_ := aM ((by rw [hg]; exact Nat.ne_of_lt (blk_lt (g := gb243) (o := .cells #[.slice none 0 0, .slice none 0 0] 31 (0, 0)) aK) : gb243 ≠ gb250)); have n14_ := aM ((by rw [hg]; exact Nat.ne_of_gt (blk_lt (g := gb243) (o := .cells #[.slice none 0 0, .slice none 0 0] 31 (0, 0)) aK) : gb250 ≠ gb243)); clear HO246; clear HO249; clear BK241; clear BK242; clear BK243; clear HB; have HO246 := n0_; have HO249 := n1_; have BK241 := n2_; have BK242 := n3_; have BK243 := n4_; have HB := n5_; have BK250 := n6_; have GW250 := n7_; have GE250 := n8_; have NB241_250 := n9_; have NB250_241 := n10_; have NB242_250 := n11_; have NB250_242 := n12_; have NB243_250 := n13_; have NB250_243 := n14_; clear n0_ n1_ n2_ n3_ n4_ n5_ n6_ n7_ n8_ n9_ n10_ n11_ n12_ n13_ n14_; clear hb hbox hg; obtain ⟨Ao13, co13, eo13⟩ := Kd.R_slice HO246.out; subst eo13; have hnb14 := NB250_241.out; have hnc14 := NB241_250.out; have hnb15 := NB250_242.out; have hnc15 := NB242_250.out; have hnb16 := NB250_243.out; have hnc16 := NB243_250.out; have hcz17_0 : w12.cell? ⟨gb250, 0, none⟩ = some (.slice none 0 0) := (blk_cell BK250.out 0).trans rfl; have hcz17_1 : w12.cell? ⟨gb250, 1, none⟩ = some (.slice none 0 0) := (blk_cell BK250.out 1).trans rfl; have hfz17_0 := blk_frozen BK250.out 0; have hfz17_1 := blk_frozen BK250.out 1; obtain ⟨Ao18, co18, eo18⟩ := Kd.N_slice HO249.out; subst eo18))
 (try simp only [Act.put, List.setIfInBounds_toArray, List.set_cons_zero, List.set_cons_succ])
 go_cut [31] (fun v31 wc => ∃ (kq : Nat) (x31_3 : Bool), v31 = .bool x31_3 ∧ Aside0 (spec_InsertFact.j0 kq x31_3 a1_0 l1_1 t244 t247 = some (r1, r2, r3)) ∧ Aside0 (kq ≤ k) ∧ Aside0 (Kd.R k74 74 wc w.heap.size (fun k_ => (w.heap.size ≤ k_)) (.slice Ao13 t244.length co13) t244) ∧ Aside0 (Kd.N k45 45 wc w.heap.size (fun k_ => (w.heap.size ≤ k_) ∧ some k_ ≠ ((.slice Ao13 t244.length co13) : Value).ownBlock ∧ k_ ≠ gb241 ∧ k_ ≠ gb242 ∧ k_ ≠ gb243 ∧ k_ ≠ gb250) (.slice Ao18 t247.length co18) t247) ∧ Aside0 (wc.heap[gb241]? = some (.cells #[(.slice A0_0 l0_0.length c0_0), (.slice A0_1 l0_1.length c0_1)] 31 (0, 0))) ∧ Aside0 (wc.heap[gb242]? = some (.cells #[.int .i64 a1_0, (.slice A1_1 l1_1.length c1_1)] 45 (0, 0))) ∧ Aside0 (wc.heap[gb243]? = some (.cells #[(.slice none 0 0), (.slice none 0 0)] 31 (0, 0))) ∧ Aside0 (wc.heap[gb250]? = some (.cells #[(.slice Ao13 t244.length co13), (.slice Ao18 t247.length co18)] 31 (0, 0))) ∧ Aside0 (Below w.heap.size w wc))
 case first =>
  have H := HC4.out
  clear HC4
  replace H := Option.bind_eq_some_iff.mp H
  obtain ⟨t251, A190, H⟩ := H
  replace H : (if t251 = true then ((spec_IsValidFact.f k l0_0 a1_0 l1_1).bind fun t252 => (if t252 = true then ((spec_ContainsFact.f k l0_0 l0_1 a1_0 l1_1).bind fun t253 => (if t253 = true then (spec_InsertFact.j0 k true a1_0 l1_1 t244 t247) else (spec_InsertFact.j0 k ((l0_1.length : Int) == 14) a1_0 l1_1 t244 t247))) else (spec_InsertFact.j0 k true a1_0 l1_1 t244 t247))) else (spec_InsertFact.j0 k true a1_0 l1_1 t244 t247)) = some (r1, r2, r3) := H
  have A19 := aM A190
  clear A190
  by_cases c20 : t251 = true
  ·subst c20
   have H1 : ((spec_IsValidFact.f k l0_0 a1_0 l1_1).bind fun t252 => (if t252 = true then ((spec_ContainsFact.f k l0_0 l0_1 a1_0 l1_1).bind fun t253 => (if t253 = true then (spec_InsertFact.j0 k true a1_0 l1_1 t244 t247) else (spec_InsertFact.j0 k ((l0_1.length : Int) == 14) a1_0 l1_1 t244 t247))) else (spec_InsertFact.j0 k true a1_0 l1_1 t244 t247))) = some (r1, r2, r3) := by rw [if_pos rfl] at H; exact H
   clear H
   have H := H1
   clear H1
   replace H := Option.bind_eq_some_iff.mp H
   obtain ⟨t252, A210, H⟩ := H
   replace H : (if t252 = true then ((spec_ContainsFact.f k l0_0 l0_1 a1_0 l1_1).bind fun t253 => (if t253 = true then (spec_InsertFact.j0 k true a1_0 l1_1 t244 t247) else (spec_InsertFact.j0 k ((l0_1.length : Int) == 14) a1_0 l1_1 t244 t247))) else (spec_InsertFact.j0 k true a1_0 l1_1 t244 t247)) = some (r1, r2, r3) := H
   have A21 := aM A210
   clear A210
   by_cases c22 : t252 = true
   ·subst c22
    have H1 : ((spec_ContainsFact.f k l0_0 l0_1 a1_0 l1_1).bind fun t253 => (if t253 = true then (spec_InsertFact.j0 k true a1_0 l1_1 t244 t247) else (spec_InsertFact.j0 k ((l0_1.length : Int) == 14) a1_0 l1_1 t244 t247))) = some (r1, r2, r3) := by rw [if_pos rfl] at H; exact H
    clear H
    have H := H1
    clear H1
    replace H := Option.bind_eq_some_iff.mp H
    obtain ⟨t253, A230, H⟩ := H
    replace H : (if t253 = true then (spec_InsertFact.j0 k true a1_0 l1_1 t244 t247) else (spec_InsertFact.j0 k ((l0_1.length : Int) == 14) a1_0 l1_1 t244 t247)) = some (r1, r2, r3) := H
    have A23 := aM A230
    clear A230
    by_cases c24 : t253 = true
    ·subst c24
     have H1 : (spec_InsertFact.j0 k true a1_0 l1_1 t244 t247) = some (r1, r2, r3) := by rw [if_pos rfl] at H; exact H
     clear H
     have H := H1
     clear H1
     have H' := aM H
     clear H
     have hnb25 := NB241_242.out
     have hnc25 := NB242_241.out
     have hnb26 := NB241_243.out
     have hnc26 := NB243_241.out
     have hnb27 := NB241_250.out
     have hnc27 := NB250_241.out
     have hcz28_0 : w12.cell? ⟨gb241, 0, none⟩ = some (.slice A0_0 l0_0.length c0_0) := (blk_cell BK241.out 0).trans rfl
     have hcz28_1 : w12.cell? ⟨gb241, 1, none⟩ = some (.slice A0_1 l0_1.length c0_1) := (blk_cell BK241.out 1).trans rfl
     have hfz28_0 := blk_frozen BK241.out 0
     have hfz28_1 := blk_frozen BK241.out 1
     go_wp2_with (first | ((with_reducible refine gate_callee (f := 28) rfl ?_); refine goesL_ (some 12) rfl rfl Try.func28 (by kernel_rfl) rfl #[.agg #[.slice A0_0 l0_0.length c0_0, .slice A0_1 l0_1.length c0_1]] rfl (by (try simp only [List.map_toArray, List.map_cons, List.map_nil]); first | done | rfl | (simp only [List.length_drop, List.length_take]; rfl)) ?_; (with_reducible refine (spec_IsValidDatabase.calls k _ _ l0_0 _ _ l0_1 true _ ?side1 ?side2 ?side3 ?side4 A19.out).mono ?_); (case side1 => exact Kd.C_below HR0_0.out aG); (case side2 => exact HC0_0.out); (case side3 => exact Kd.C_below HR0_1.out aG); (case side4 => exact HC0_1.out); rintro e w29 ⟨rfl, hb⟩; refine ⟨_, rfl, ?_⟩; have n0_ := aM (Kd.R_below (by (with_reducible repeat (first | apply Kd.R_alloc | apply Kd.R_drewN | apply Kd.R_drew)); exact (Kd.R_mono (Kd.R_far (p := ⟨gb250, 1, none⟩) (Kd.R_far (p := ⟨gb250, 0, none⟩) (Kd.R_types HO246.out BK250.out (by decide)) (fun _ hk => hk.2) (.slice Ao13 t244.length co13)) (fun _ hk => hk.2) (.slice Ao18 t247.length co18)) (fun _ h_ => h_.1))) hb); have n1_ := aM (Kd.N_below (by (with_reducible repeat (first | apply Kd.N_alloc | apply Kd.N_drewN | apply Kd.N_drew)); exact (Kd.N_mono (Kd.N_far (p := ⟨gb250, 1, none⟩) (Kd.N_far (p := ⟨gb250, 0, none⟩) (Kd.N_mono HO249.out (fun k_ hk => (⟨hk, hk.2⟩ : _ ∧ k_ ≠ gb250))) (fun _ hk => hk.2) (.slice Ao13 t244.length co13)) (fun _ hk => hk.2) (.slice Ao18 t247.length co18)) (fun _ h_ => h_.1))) hb); have n2_ := aM (blk_below (g := gb241) (o := .cells #[.slice A0_0 l0_0.length c0_0, .slice A0_1 l0_1.length c0_1] 31 (0, 0)) (by (with_reducible repeat (first | refine blk_drewN ?_ _ | refine blk_drew ?_ | refine blk_alloc ?_ _)); refine blk_far ?_ NB241_250.out _; (with_reducible repeat (first | refine blk_drewN ?_ _ | refine blk_drew ?_ | refine blk_alloc ?_ _)); refine blk_far ?_ NB241_250.out _; (with_reducible repeat (first | refine blk_drewN ?_ _ | refine blk_drew ?_ | refine blk_alloc ?_ _)); exact BK241.out) hb); have n3_ := aM (blk_below (g := gb242) (o := .cells #[.int .i64 a1_0, .slice A1_1 l1_1.length c1_1] 45 (0, 0)) (by (with_reducible repeat (first | refine blk_drewN ?_ _ | refine blk_drew ?_ | refine blk_alloc ?_ _)); refine blk_far ?_ NB242_250.out _; (with_reducible repeat (first | refine blk_drewN ?_ _ | refine blk_drew ?_ | refine blk_alloc ?_ _)); refine blk_far ?_ NB242_250.out _; (with_reducible repeat (first | refine blk_drewN ?_ _ | refine blk_drew ?_ | refine blk_alloc ?_ _)); exact BK242.out) hb); have n4_ := aM (blk_below (g := gb243) (o := .cells #[.slice none 0 0, .slice none 0 0] 31 (0, 0)) (by (with_reducible repeat (first | refine blk_drewN ?_ _ | refine blk_drew ?_ | refine blk_alloc ?_ _)); refine blk_far ?_ NB243_250.out _; (with_reducible repeat (first | refine blk_drewN ?_ _ | refine blk_drew ?_ | refine blk_alloc ?_ _)); refine blk_far ?_ NB243_250.out _; (with_reducible repeat (first | refine blk_drewN ?_ _ | refine blk_drew ?_ | refine blk_alloc ?_ _)); exact BK243.out) hb); have n5_ := aM (blk_below (g := gb250) (o := .cells #[.slice Ao13 t244.length co13, .slice Ao18 t247.length co18] 31 (0, 0)) (by (with_reducible repeat (first | refine blk_drewN ?_ _ | refine blk_drew ?_ | refine blk_alloc ?_ _)); refine blk_put (cs := #[.slice Ao13 t244.length co13, .slice none 0 0]) ?_ 1 _ rfl; (with_reducible repeat (first | refine blk_drewN ?_ _ | refine blk_drew ?_ | refine blk_alloc ?_ _)); refine blk_put (cs := #[.slice none 0 0, .slice none 0 0]) ?_ 0 _ rfl; (with_reducible repeat (first | refine blk_drewN ?_ _ | refine blk_drew ?_ | refine blk_alloc ?_ _)); exact BK250.out) hb); have n6_ := aM (below_step aG hb); clear HO246; clear HO249; clear BK241; clear BK242; clear BK243; clear BK250; clear HB; have HO246 := n0_; have HO249 := n1_; have BK241 := n2_; have BK242 := n3_; have BK243 := n4_; have BK250 := n5_; have HB := n6_; clear n0_ n1_ n2_ n3_ n4_ n5_ n6_; (try clear hb); (try clear hb2); (try clear hk); (try clear hi); have hcz30_0 : w29.cell? ⟨gb241, 0, none⟩ = some (.slice A0_0 l0_0.length c0_0) := (blk_cell BK241.out 0).trans rfl; have hcz30_1 : w29.cell? ⟨gb241, 1, none⟩ = some (.slice A0_1 l0_1.length c0_1) := (blk_cell BK241.out 1).trans rfl; have hfz30_0 := blk_frozen BK241.out 0; have hfz30_1 := blk_frozen BK241.out 1; have hnb31 := NB242_243.out; have hnc31 := NB243_242.out; have hnb32 := NB242_250.out; have hnc32 := NB250_242.out; have hcz33_0 : w29.cell? ⟨gb242, 0, none⟩ = some (.int .i64 a1_0) := (blk_cell BK242.out 0).trans rfl; have hcz33_1 : w29.cell? ⟨gb242, 1, none⟩ = some (.slice A1_1 l1_1.length c1_1) := (blk_cell BK242.out 1).trans rfl; have hfz33_0 := blk_frozen BK242.out 0; have hfz33_1 := blk_frozen BK242.out 1) | (go_at_call 47; (with_reducible refine (spec_IsValidFact.calls k _ _ l0_0 a1_0 _ _ l1_1 true _ ?side1 ?side2 ?side3 ?side4 A21.out).mono ?_); (case side1 => exact aC); (case side2 => exact HC0_0.out); (case side3 => exact aC); (case side4 => exact HC1_1.out); rintro e w34 ⟨rfl, hb⟩; have n0_ := aM (Kd.R_below (aR HO246) hb); have n1_ := aM (Kd.N_below (by (with_reducible repeat (first | apply Kd.N_alloc | apply Kd.N_drewN | apply Kd.N_drew)); exact HO249.out) hb); have n2_ := aM (blk_below (g := gb241) (o := .cells #[.slice A0_0 l0_0.length c0_0, .slice A0_1 l0_1.length c0_1] 31 (0, 0)) aK hb); have n3_ := aM (blk_below (g := gb242) (o := .cells #[.int .i64 a1_0, .slice A1_1 l1_1.length c1_1] 45 (0, 0)) aK hb); have n4_ := aM (blk_below (g := gb243) (o := .cells #[.slice none 0 0, .slice none 0 0] 31 (0, 0)) aK hb); have n5_ := aM (blk_below (g := gb250) (o := .cells #[.slice Ao13 t244.length co13, .slice Ao18 t247.length co18] 31 (0, 0)) aK hb); have n6_ := aM (below_step aG hb); clear HO246; clear HO249; clear BK241; clear BK242; clear BK243; clear BK250; clear HB; have HO246 := n0_; have HO249 := n1_; have BK241 := n2_; have BK242 := n3_; have BK243 := n4_; have BK250 := n5_; have HB := n6_; clear n0_ n1_ n2_ n3_ n4_ n5_ n6_; (try clear hb); (try clear hb2); (try clear hk); (try clear hi); have hcz35_0 : w34.cell? ⟨gb241, 0, none⟩ = some (.slice A0_0 l0_0.length c0_0) := (blk_cell BK241.out 0).trans rfl; have hcz35_1 : w34.cell? ⟨gb241, 1, none⟩ = some (.slice A0_1 l0_1.length c0_1) := (blk_cell BK241.out 1).trans rfl; have hfz35_0 := blk_frozen BK241.out 0; have hfz35_1 := blk_frozen BK241.out 1; have hcz36_0 : w34.cell? ⟨gb242, 0, none⟩ = some (.int .i64 a1_0) := (blk_cell BK242.out 0).trans rfl; have hcz36_1 : w34.cell? ⟨gb242, 1, none⟩ = some (.slice A1_1 l1_1.length c1_1) := (blk_cell BK242.out 1).trans rfl; have hfz36_0 := blk_frozen BK242.out 0; have hfz36_1 := blk_frozen BK242.out 1) | (go_at_call 48; (with_reducible refine (spec_ContainsFact.calls k _ _ l0_0 _ _ l0_1 a1_0 _ _ l1_1 true _ ?side1 ?side2 ?side3 ?side4 ?side5 ?side6 A23.out).mono ?_); (case side1 => exact aC); (case side2 => exact HC0_0.out); (case side3 => exact aC); (case side4 => exact HC0_1.out); (case side5 => exact aC); (case side6 => exact HC1_1.out); rintro e w37 ⟨rfl, hb⟩; have n0_ := aM (Kd.R_below (aR HO246) hb); have n1_ := aM (Kd.N_below (by (with_reducible repeat (first | apply Kd.N_alloc | apply Kd.N_drewN | apply Kd.N_drew)); exact HO249.out) hb); have n2_ := aM (blk_below (g := gb241) (o := .cells #[.slice A0_0 l0_0.length c0_0, .slice A0_1 l0_1.length c0_1] 31 (0, 0)) aK hb); have n3_ := aM (blk_below (g := gb242) (o := .cells #[.int .i64 a1_0, .slice A1_1 l1_1.length c1_1] 45 (0, 0)) aK hb); have n4_ := aM (blk_below (g := gb243) (o := .cells #[.slice none 0 0, .slice none 0 0] 31 (0, 0)) aK hb); have n5_ := aM (blk_below (g := gb250) (o := .cells #[.slice Ao13 t244.length co13, .slice Ao18 t247.length co18] 31 (0, 0)) aK hb); have n6_ := aM (below_step aG hb); clear HO246; clear HO249; clear BK241; clear BK242; clear BK243; clear BK250; clear HB; have HO246 := n0_; have HO249 := n1_; have BK241 := n2_; have BK242 := n3_; have BK243 := n4_; have BK250 := n5_; have HB := n6_; clear n0_ n1_ n2_ n3_ n4_ n5_ n6_; (try clear hb); (try clear hb2); (try clear hk); (try clear hi)))
     go_meet
     case rel => exact ⟨_, (true), (by first | rfl | (simp; done) | (simp [*]; done)), H', ⟨by first | omega | exact Nat.le_refl _⟩, ⟨by (with_reducible repeat (first | apply Kd.R_alloc | apply Kd.R_drewN | apply Kd.R_drew)); exact Kd.R_mono HO246.out (fun _ hk => hk.1)⟩, ⟨by (with_reducible repeat (first | apply Kd.N_alloc | apply Kd.N_drewN | apply Kd.N_drew)); exact Kd.N_mono HO249.out (fun _ hk => ⟨hk.1.1, ⟨hk.1.2.1, ⟨hk.1.2.2.1, ⟨hk.1.2.2.2.1, ⟨hk.1.2.2.2.2, hk.2⟩⟩⟩⟩⟩)⟩, ⟨by (with_reducible repeat (first | refine blk_drewN ?_ _ | refine blk_drew ?_ | refine blk_alloc ?_ _)); exact BK241.out⟩, ⟨by (with_reducible repeat (first | refine blk_drewN ?_ _ | refine blk_drew ?_ | refine blk_alloc ?_ _)); exact BK242.out⟩, ⟨by (with_reducible repeat (first | refine blk_drewN ?_ _ | refine blk_drew ?_ | refine blk_alloc ?_ _)); exact BK243.out⟩, ⟨by (with_reducible repeat (first | refine blk_drewN ?_ _ | refine blk_drew ?_ | refine blk_alloc ?_ _)); exact BK250.out⟩, ⟨by repeat (first | (with_reducible first | exact HB.out | apply below_alloc | apply pw_below_drewN | apply below_drew1 | refine below_set ?_ GE241.out | refine below_set ?_ GE242.out | refine below_set ?_ GE243.out | refine below_set ?_ GE250.out) | exact HB.out)⟩⟩
    ·replace c24 := Bool.eq_false_iff.mpr c24
     subst c24
     have H1 : (spec_InsertFact.j0 k ((l0_1.length : Int) == 14) a1_0 l1_1 t244 t247) = some (r1, r2, r3) := by rw [if_neg (show ¬ (false = true) by decide)] at H; exact H
     clear H
     have H := H1
     clear H1
     have H' := aM H
     clear H
     have hnb38 := NB241_242.out
     have hnc38 := NB242_241.out
     have hnb39 := NB241_243.out
     have hnc39 := NB243_241.out
     have hnb40 := NB241_250.out
     have hnc40 := NB250_241.out
     have hcz41_0 : w12.cell? ⟨gb241, 0, none⟩ = some (.slice A0_0 l0_0.length c0_0) := (blk_cell BK241.out 0).trans rfl
     have hcz41_1 : w12.cell? ⟨gb241, 1, none⟩ = some (.slice A0_1 l0_1.length c0_1) := (blk_cell BK241.out 1).trans rfl
     have hfz41_0 := blk_frozen BK241.out 0
     have hfz41_1 := blk_frozen BK241.out 1
     go_wp2_with (first | ((with_reducible refine gate_callee (f := 28) rfl ?_); refine goesL_ (some 12) rfl rfl Try.func28 (by kernel_rfl) rfl #[.agg #[.slice A0_0 l0_0.length c0_0, .slice A0_1 l0_1.length c0_1]] rfl (by (try simp only [List.map_toArray, List.map_cons, List.map_nil]); first | done | rfl | (simp only [List.length_drop, List.length_take]; rfl)) ?_; (with_reducible refine (spec_IsValidDatabase.calls k _ _ l0_0 _ _ l0_1 true _ ?side1 ?side2 ?side3 ?side4 A19.out).mono ?_); (case side1 => exact Kd.C_below HR0_0.out aG); (case side2 => exact HC0_0.out); (case side3 => exact Kd.C_below HR0_1.out aG); (case side4 => exact HC0_1.out); rintro e w42 ⟨rfl, hb⟩; refine ⟨_, rfl, ?_⟩; have n0_ := aM (Kd.R_below (by (with_reducible repeat (first | apply Kd.R_alloc | apply Kd.R_drewN | apply Kd.R_drew)); exact (Kd.R_mono (Kd.R_far (p := ⟨gb250, 1, none⟩) (Kd.R_far (p := ⟨gb250, 0, none⟩) (Kd.R_types HO246.out BK250.out (by decide)) (fun _ hk => hk.2) (.slice Ao13 t244.length co13)) (fun _ hk => hk.2) (.slice Ao18 t247.length co18)) (fun _ h_ => h_.1))) hb); have n1_ := aM (Kd.N_below (by (with_reducible repeat (first | apply Kd.N_alloc | apply Kd.N_drewN | apply Kd.N_drew)); exact (Kd.N_mono (Kd.N_far (p := ⟨gb250, 1, none⟩) (Kd.N_far (p := ⟨gb250, 0, none⟩) (Kd.N_mono HO249.out (fun k_ hk => (⟨hk, hk.2⟩ : _ ∧ k_ ≠ gb250))) (fun _ hk => hk.2) (.slice Ao13 t244.length co13)) (fun _ hk => hk.2) (.slice Ao18 t247.length co18)) (fun _ h_ => h_.1))) hb); have n2_ := aM (blk_below (g := gb241) (o := .cells #[.slice A0_0 l0_0.length c0_0, .slice A0_1 l0_1.length c0_1] 31 (0, 0)) (by (with_reducible repeat (first | refine blk_drewN ?_ _ | refine blk_drew ?_ | refine blk_alloc ?_ _)); refine blk_far ?_ NB241_250.out _; (with_reducible repeat (first | refine blk_drewN ?_ _ | refine blk_drew ?_ | refine blk_alloc ?_ _)); refine blk_far ?_ NB241_250.out _; (with_reducible repeat (first | refine blk_drewN ?_ _ | refine blk_drew ?_ | refine blk_alloc ?_ _)); exact BK241.out) hb); have n3_ := aM (blk_below (g := gb242) (o := .cells #[.int .i64 a1_0, .slice A1_1 l1_1.length c1_1] 45 (0, 0)) (by (with_reducible repeat (first | refine blk_drewN ?_ _ | refine blk_drew ?_ | refine blk_alloc ?_ _)); refine blk_far ?_ NB242_250.out _; (with_reducible repeat (first | refine blk_drewN ?_ _ | refine blk_drew ?_ | refine blk_alloc ?_ _)); refine blk_far ?_ NB242_250.out _; (with_reducible repeat (first | refine blk_drewN ?_ _ | refine blk_drew ?_ | refine blk_alloc ?_ _)); exact BK242.out) hb); have n4_ := aM (blk_below (g := gb243) (o := .cells #[.slice none 0 0, .slice none 0 0] 31 (0, 0)) (by (with_reducible repeat (first | refine blk_drewN ?_ _ | refine blk_drew ?_ | refine blk_alloc ?_ _)); refine blk_far ?_ NB243_250.out _; (with_reducible repeat (first | refine blk_drewN ?_ _ | refine blk_drew ?_ | refine blk_alloc ?_ _)); refine blk_far ?_ NB243_250.out _; (with_reducible repeat (first | refine blk_drewN ?_ _ | refine blk_drew ?_ | refine blk_alloc ?_ _)); exact BK243.out) hb); have n5_ := aM (blk_below (g := gb250) (o := .cells #[.slice Ao13 t244.length co13, .slice Ao18 t247.length co18] 31 (0, 0)) (by (with_reducible repeat (first | refine blk_drewN ?_ _ | refine blk_drew ?_ | refine blk_alloc ?_ _)); refine blk_put (cs := #[.slice Ao13 t244.length co13, .slice none 0 0]) ?_ 1 _ rfl; (with_reducible repeat (first | refine blk_drewN ?_ _ | refine blk_drew ?_ | refine blk_alloc ?_ _)); refine blk_put (cs := #[.slice none 0 0, .slice none 0 0]) ?_ 0 _ rfl; (with_reducible repeat (first | refine blk_drewN ?_ _ | refine blk_drew ?_ | refine blk_alloc ?_ _)); exact BK250.out) hb); have n6_ := aM (below_step aG hb); clear HO246; clear HO249; clear BK241; clear BK242; clear BK243; clear BK250; clear HB; have HO246 := n0_; have HO249 := n1_; have BK241 := n2_; have BK242 := n3_; have BK243 := n4_; have BK250 := n5_; have HB := n6_; clear n0_ n1_ n2_ n3_ n4_ n5_ n6_; (try clear hb); (try clear hb2); (try clear hk); (try clear hi); have hcz43_0 : w42.cell? ⟨gb241, 0, none⟩ = some (.slice A0_0 l0_0.length c0_0) := (blk_cell BK241.out 0).trans rfl; have hcz43_1 : w42.cell? ⟨gb241, 1, none⟩ = some (.slice A0_1 l0_1.length c0_1) := (blk_cell BK241.out 1).trans rfl; have hfz43_0 := blk_frozen BK241.out 0; have hfz43_1 := blk_frozen BK241.out 1; have hnb44 := NB242_243.out; have hnc44 := NB243_242.out; have hnb45 := NB242_250.out; have hnc45 := NB250_242.out; have hcz46_0 : w42.cell? ⟨gb242, 0, none⟩ = some (.int .i64 a1_0) := (blk_cell BK242.out 0).trans rfl; have hcz46_1 : w42.cell? ⟨gb242, 1, none⟩ = some (.slice A1_1 l1_1.length c1_1) := (blk_cell BK242.out 1).trans rfl; have hfz46_0 := blk_frozen BK242.out 0; have hfz46_1 := blk_frozen BK242.out 1) | (go_at_call 47; (with_reducible refine (spec_IsValidFact.calls k _ _ l0_0 a1_0 _ _ l1_1 true _ ?side1 ?side2 ?side3 ?side4 A21.out).mono ?_); (case side1 => exact aC); (case side2 => exact HC0_0.out); (case side3 => exact aC); (case side4 => exact HC1_1.out); rintro e w47 ⟨rfl, hb⟩; have n0_ := aM (Kd.R_below (aR HO246) hb); have n1_ := aM (Kd.N_below (by (with_reducible repeat (first | apply Kd.N_alloc | apply Kd.N_drewN | apply Kd.N_drew)); exact HO249.out) hb); have n2_ := aM (blk_below (g := gb241) (o := .cells #[.slice A0_0 l0_0.length c0_0, .slice A0_1 l0_1.length c0_1] 31 (0, 0)) aK hb); have n3_ := aM (blk_below (g := gb242) (o := .cells #[.int .i64 a1_0, .slice A1_1 l1_1.length c1_1] 45 (0, 0)) aK hb); have n4_ := aM (blk_below (g := gb243) (o := .cells #[.slice none 0 0, .slice none 0 0] 31 (0, 0)) aK hb); have n5_ := aM (blk_below (g := gb250) (o := .cells #[.slice Ao13 t244.length co13, .slice Ao18 t247.length co18] 31 (0, 0)) aK hb); have n6_ := aM (below_step aG hb); clear HO246; clear HO249; clear BK241; clear BK242; clear BK243; clear BK250; clear HB; have HO246 := n0_; have HO249 := n1_; have BK241 := n2_; have BK242 := n3_; have BK243 := n4_; have BK250 := n5_; have HB := n6_; clear n0_ n1_ n2_ n3_ n4_ n5_ n6_; (try clear hb); (try clear hb2); (try clear hk); (try clear hi); have hcz48_0 : w47.cell? ⟨gb241, 0, none⟩ = some (.slice A0_0 l0_0.length c0_0) := (blk_cell BK241.out 0).trans rfl; have hcz48_1 : w47.cell? ⟨gb241, 1, none⟩ = some (.slice A0_1 l0_1.length c0_1) := (blk_cell BK241.out 1).trans rfl; have hfz48_0 := blk_frozen BK241.out 0; have hfz48_1 := blk_frozen BK241.out 1; have hcz49_0 : w47.cell? ⟨gb242, 0, none⟩ = some (.int .i64 a1_0) := (blk_cell BK242.out 0).trans rfl; have hcz49_1 : w47.cell? ⟨gb242, 1, none⟩ = some (.slice A1_1 l1_1.length c1_1) := (blk_cell BK242.out 1).trans rfl; have hfz49_0 := blk_frozen BK242.out 0; have hfz49_1 := blk_frozen BK242.out 1) | (go_at_call 48; (with_reducible refine (spec_ContainsFact.calls k _ _ l0_0 _ _ l0_1 a1_0 _ _ l1_1 false _ ?side1 ?side2 ?side3 ?side4 ?side5 ?side6 A23.out).mono ?_); (case side1 => exact aC); (case side2 => exact HC0_0.out); (case side3 => exact aC); (case side4 => exact HC0_1.out); (case side5 => exact aC); (case side6 => exact HC1_1.out); rintro e w50 ⟨rfl, hb⟩; have n0_ := aM (Kd.R_below (aR HO246) hb); have n1_ := aM (Kd.N_below (by (with_reducible repeat (first | apply Kd.N_alloc | apply Kd.N_drewN | apply Kd.N_drew)); exact HO249.out) hb); have n2_ := aM (blk_below (g := gb241) (o := .cells #[.slice A0_0 l0_0.length c0_0, .slice A0_1 l0_1.length c0_1] 31 (0, 0)) aK hb); have n3_ := aM (blk_below (g := gb242) (o := .cells #[.int .i64 a1_0, .slice A1_1 l1_1.length c1_1] 45 (0, 0)) aK hb); have n4_ := aM (blk_below (g := gb243) (o := .cells #[.slice none 0 0, .slice none 0 0] 31 (0, 0)) aK hb); have n5_ := aM (blk_below (g := gb250) (o := .cells #[.slice Ao13 t244.length co13, .slice Ao18 t247.length co18] 31 (0, 0)) aK hb); have n6_ := aM (below_step aG hb); clear HO246; clear HO249; clear BK241; clear BK242; clear BK243; clear BK250; clear HB; have HO246 := n0_; have HO249 := n1_; have BK241 := n2_; have BK242 := n3_; have BK243 := n4_; have BK250 := n5_; have HB := n6_; clear n0_ n1_ n2_ n3_ n4_ n5_ n6_; (try clear hb); (try clear hb2); (try clear hk); (try clear hi); have hcz51_0 : w50.cell? ⟨gb241, 0, none⟩ = some (.slice A0_0 l0_0.length c0_0) := (blk_cell BK241.out 0).trans rfl; have hcz51_1 : w50.cell? ⟨gb241, 1, none⟩ = some (.slice A0_1 l0_1.length c0_1) := (blk_cell BK241.out 1).trans rfl; have hfz51_0 := blk_frozen BK241.out 0; have hfz51_1 := blk_frozen BK241.out 1))
     go_meet
     case rel => exact ⟨_, (((l0_1.length : Int) == 14)), (by first | rfl | (simp; done) | (simp [*]; done)), H', ⟨by first | omega | exact Nat.le_refl _⟩, ⟨by (with_reducible repeat (first | apply Kd.R_alloc | apply Kd.R_drewN | apply Kd.R_drew)); exact Kd.R_mono HO246.out (fun _ hk => hk.1)⟩, ⟨by (with_reducible repeat (first | apply Kd.N_alloc | apply Kd.N_drewN | apply Kd.N_drew)); exact Kd.N_mono HO249.out (fun _ hk => ⟨hk.1.1, ⟨hk.1.2.1, ⟨hk.1.2.2.1, ⟨hk.1.2.2.2.1, ⟨hk.1.2.2.2.2, hk.2⟩⟩⟩⟩⟩)⟩, ⟨by (with_reducible repeat (first | refine blk_drewN ?_ _ | refine blk_drew ?_ | refine blk_alloc ?_ _)); exact BK241.out⟩, ⟨by (with_reducible repeat (first | refine blk_drewN ?_ _ | refine blk_drew ?_ | refine blk_alloc ?_ _)); exact BK242.out⟩, ⟨by (with_reducible repeat (first | refine blk_drewN ?_ _ | refine blk_drew ?_ | refine blk_alloc ?_ _)); exact BK243.out⟩, ⟨by (with_reducible repeat (first | refine blk_drewN ?_ _ | refine blk_drew ?_ | refine blk_alloc ?_ _)); exact BK250.out⟩, ⟨by repeat (first | (with_reducible first | exact HB.out | apply below_alloc | apply pw_below_drewN | apply below_drew1 | refine below_set ?_ GE241.out | refine below_set ?_ GE242.out | refine below_set ?_ GE243.out | refine below_set ?_ GE250.out) | exact HB.out)⟩⟩
   ·replace c22 := Bool.eq_false_iff.mpr c22
    subst c22
    have H1 : (spec_InsertFact.j0 k true a1_0 l1_1 t244 t247) = some (r1, r2, r3) := by rw [if_neg (show ¬ (false = true) by decide)] at H; exact H
    clear H
    have H := H1
    clear H1
    have H' := aM H
    clear H
    have hnb52 := NB241_242.out
    have hnc52 := NB242_241.out
    have hnb53 := NB241_243.out
    have hnc53 := NB243_241.out
    have hnb54 := NB241_250.out
    have hnc54 := NB250_241.out
    have hcz55_0 : w12.cell? ⟨gb241, 0, none⟩ = some (.slice A0_0 l0_0.length c0_0) := (blk_cell BK241.out 0).trans rfl
    have hcz55_1 : w12.cell? ⟨gb241, 1, none⟩ = some (.slice A0_1 l0_1.length c0_1) := (blk_cell BK241.out 1).trans rfl
    have hfz55_0 := blk_frozen BK241.out 0
    have hfz55_1 := blk_frozen BK241.out 1
    go_wp2_with (first | ((with_reducible refine gate_callee (f := 28) rfl ?_); refine goesL_ (some 12) rfl rfl Try.func28 (by kernel_rfl) rfl #[.agg #[.slice A0_0 l0_0.length c0_0, .slice A0_1 l0_1.length c0_1]] rfl (by (try simp only [List.map_toArray, List.map_cons, List.map_nil]); first | done | rfl | (simp only [List.length_drop, List.length_take]; rfl)) ?_; (with_reducible refine (spec_IsValidDatabase.calls k _ _ l0_0 _ _ l0_1 true _ ?side1 ?side2 ?side3 ?side4 A19.out).mono ?_); (case side1 => exact Kd.C_below HR0_0.out aG); (case side2 => exact HC0_0.out); (case side3 => exact Kd.C_below HR0_1.out aG); (case side4 => exact HC0_1.out); rintro e w56 ⟨rfl, hb⟩; refine ⟨_, rfl, ?_⟩; have n0_ := aM (Kd.R_below (by (with_reducible repeat (first | apply Kd.R_alloc | apply Kd.R_drewN | apply Kd.R_drew)); exact (Kd.R_mono (Kd.R_far (p := ⟨gb250, 1, none⟩) (Kd.R_far (p := ⟨gb250, 0, none⟩) (Kd.R_types HO246.out BK250.out (by decide)) (fun _ hk => hk.2) (.slice Ao13 t244.length co13)) (fun _ hk => hk.2) (.slice Ao18 t247.length co18)) (fun _ h_ => h_.1))) hb); have n1_ := aM (Kd.N_below (by (with_reducible repeat (first | apply Kd.N_alloc | apply Kd.N_drewN | apply Kd.N_drew)); exact (Kd.N_mono (Kd.N_far (p := ⟨gb250, 1, none⟩) (Kd.N_far (p := ⟨gb250, 0, none⟩) (Kd.N_mono HO249.out (fun k_ hk => (⟨hk, hk.2⟩ : _ ∧ k_ ≠ gb250))) (fun _ hk => hk.2) (.slice Ao13 t244.length co13)) (fun _ hk => hk.2) (.slice Ao18 t247.length co18)) (fun _ h_ => h_.1))) hb); have n2_ := aM (blk_below (g := gb241) (o := .cells #[.slice A0_0 l0_0.length c0_0, .slice A0_1 l0_1.length c0_1] 31 (0, 0)) (by (with_reducible repeat (first | refine blk_drewN ?_ _ | refine blk_drew ?_ | refine blk_alloc ?_ _)); refine blk_far ?_ NB241_250.out _; (with_reducible repeat (first | refine blk_drewN ?_ _ | refine blk_drew ?_ | refine blk_alloc ?_ _)); refine blk_far ?_ NB241_250.out _; (with_reducible repeat (first | refine blk_drewN ?_ _ | refine blk_drew ?_ | refine blk_alloc ?_ _)); exact BK241.out) hb); have n3_ := aM (blk_below (g := gb242) (o := .cells #[.int .i64 a1_0, .slice A1_1 l1_1.length c1_1] 45 (0, 0)) (by (with_reducible repeat (first | refine blk_drewN ?_ _ | refine blk_drew ?_ | refine blk_alloc ?_ _)); refine blk_far ?_ NB242_250.out _; (with_reducible repeat (first | refine blk_drewN ?_ _ | refine blk_drew ?_ | refine blk_alloc ?_ _)); refine blk_far ?_ NB242_250.out _; (with_reducible repeat (first | refine blk_drewN ?_ _ | refine blk_drew ?_ | refine blk_alloc ?_ _)); exact BK242.out) hb); have n4_ := aM (blk_below (g := gb243) (o := .cells #[.slice none 0 0, .slice none 0 0] 31 (0, 0)) (by (with_reducible repeat (first | refine blk_drewN ?_ _ | refine blk_drew ?_ | refine blk_alloc ?_ _)); refine blk_far ?_ NB243_250.out _; (with_reducible repeat (first | refine blk_drewN ?_ _ | refine blk_drew ?_ | refine blk_alloc ?_ _)); refine blk_far ?_ NB243_250.out _; (with_reducible repeat (first | refine blk_drewN ?_ _ | refine blk_drew ?_ | refine blk_alloc ?_ _)); exact BK243.out) hb); have n5_ := aM (blk_below (g := gb250) (o := .cells #[.slice Ao13 t244.length co13, .slice Ao18 t247.length co18] 31 (0, 0)) (by (with_reducible repeat (first | refine blk_drewN ?_ _ | refine blk_drew ?_ | refine blk_alloc ?_ _)); refine blk_put (cs := #[.slice Ao13 t244.length co13, .slice none 0 0]) ?_ 1 _ rfl; (with_reducible repeat (first | refine blk_drewN ?_ _ | refine blk_drew ?_ | refine blk_alloc ?_ _)); refine blk_put (cs := #[.slice none 0 0, .slice none 0 0]) ?_ 0 _ rfl; (with_reducible repeat (first | refine blk_drewN ?_ _ | refine blk_drew ?_ | refine blk_alloc ?_ _)); exact BK250.out) hb); have n6_ := aM (below_step aG hb); clear HO246; clear HO249; clear BK241; clear BK242; clear BK243; clear BK250; clear HB; have HO246 := n0_; have HO249 := n1_; have BK241 := n2_; have BK242 := n3_; have BK243 := n4_; have BK250 := n5_; have HB := n6_; clear n0_ n1_ n2_ n3_ n4_ n5_ n6_; (try clear hb); (try clear hb2); (try clear hk); (try clear hi); have hcz57_0 : w56.cell? ⟨gb241, 0, none⟩ = some (.slice A0_0 l0_0.length c0_0) := (blk_cell BK241.out 0).trans rfl; have hcz57_1 : w56.cell? ⟨gb241, 1, none⟩ = some (.slice A0_1 l0_1.length c0_1) := (blk_cell BK241.out 1).trans rfl; have hfz57_0 := blk_frozen BK241.out 0; have hfz57_1 := blk_frozen BK241.out 1; have hnb58 := NB242_243.out; have hnc58 := NB243_242.out; have hnb59 := NB242_250.out; have hnc59 := NB250_242.out; have hcz60_0 : w56.cell? ⟨gb242, 0, none⟩ = some (.int .i64 a1_0) := (blk_cell BK242.out 0).trans rfl; have hcz60_1 : w56.cell? ⟨gb242, 1, none⟩ = some (.slice A1_1 l1_1.length c1_1) := (blk_cell BK242.out 1).trans rfl; have hfz60_0 := blk_frozen BK242.out 0; have hfz60_1 := blk_frozen BK242.out 1) | (go_at_call 47; (with_reducible refine (spec_IsValidFact.calls k _ _ l0_0 a1_0 _ _ l1_1 false _ ?side1 ?side2 ?side3 ?side4 A21.out).mono ?_); (case side1 => exact aC); (case side2 => exact HC0_0.out); (case side3 => exact aC); (case side4 => exact HC1_1.out); rintro e w61 ⟨rfl, hb⟩; have n0_ := aM (Kd.R_below (aR HO246) hb); have n1_ := aM (Kd.N_below (by (with_reducible repeat (first | apply Kd.N_alloc | apply Kd.N_drewN | apply Kd.N_drew)); exact HO249.out) hb); have n2_ := aM (blk_below (g := gb241) (o := .cells #[.slice A0_0 l0_0.length c0_0, .slice A0_1 l0_1.length c0_1] 31 (0, 0)) aK hb); have n3_ := aM (blk_below (g := gb242) (o := .cells #[.int .i64 a1_0, .slice A1_1 l1_1.length c1_1] 45 (0, 0)) aK hb); have n4_ := aM (blk_below (g := gb243) (o := .cells #[.slice none 0 0, .slice none 0 0] 31 (0, 0)) aK hb); have n5_ := aM (blk_below (g := gb250) (o := .cells #[.slice Ao13 t244.length co13, .slice Ao18 t247.length co18] 31 (0, 0)) aK hb); have n6_ := aM (below_step aG hb); clear HO246; clear HO249; clear BK241; clear BK242; clear BK243; clear BK250; clear HB; have HO246 := n0_; have HO249 := n1_; have BK241 := n2_; have BK242 := n3_; have BK243 := n4_; have BK250 := n5_; have HB := n6_; clear n0_ n1_ n2_ n3_ n4_ n5_ n6_; (try clear hb); (try clear hb2); (try clear hk); (try clear hi)))
    go_meet
    case rel => exact ⟨_, (true), (by first | rfl | (simp; done) | (simp [*]; done)), H', ⟨by first | omega | exact Nat.le_refl _⟩, ⟨by (with_reducible repeat (first | apply Kd.R_alloc | apply Kd.R_drewN | apply Kd.R_drew)); exact Kd.R_mono HO246.out (fun _ hk => hk.1)⟩, ⟨by (with_reducible repeat (first | apply Kd.N_alloc | apply Kd.N_drewN | apply Kd.N_drew)); exact Kd.N_mono HO249.out (fun _ hk => ⟨hk.1.1, ⟨hk.1.2.1, ⟨hk.1.2.2.1, ⟨hk.1.2.2.2.1, ⟨hk.1.2.2.2.2, hk.2⟩⟩⟩⟩⟩)⟩, ⟨by (with_reducible repeat (first | refine blk_drewN ?_ _ | refine blk_drew ?_ | refine blk_alloc ?_ _)); exact BK241.out⟩, ⟨by (with_reducible repeat (first | refine blk_drewN ?_ _ | refine blk_drew ?_ | refine blk_alloc ?_ _)); exact BK242.out⟩, ⟨by (with_reducible repeat (first | refine blk_drewN ?_ _ | refine blk_drew ?_ | refine blk_alloc ?_ _)); exact BK243.out⟩, ⟨by (with_reducible repeat (first | refine blk_drewN ?_ _ | refine blk_drew ?_ | refine blk_alloc ?_ _)); exact BK250.out⟩, ⟨by repeat (first | (with_reducible first | exact HB.out | apply below_alloc | apply pw_below_drewN | apply below_drew1 | refine below_set ?_ GE241.out | refine below_set ?_ GE242.out | refine below_set ?_ GE243.out | refine below_set ?_ GE250.out) | exact HB.out)⟩⟩
  ·replace c20 := Bool.eq_false_iff.mpr c20
   subst c20
   have H1 : (spec_InsertFact.j0 k true a1_0 l1_1 t244 t247) = some (r1, r2, r3) := by rw [if_neg (show ¬ (false = true) by decide)] at H; exact H
   clear H
   have H := H1
   clear H1
   have H' := aM H
   clear H
   have hnb62 := NB241_242.out
   have hnc62 := NB242_241.out
   have hnb63 := NB241_243.out
   have hnc63 := NB243_241.out
   have hnb64 := NB241_250.out
   have hnc64 := NB250_241.out
   have hcz65_0 : w12.cell? ⟨gb241, 0, none⟩ = some (.slice A0_0 l0_0.length c0_0) := (blk_cell BK241.out 0).trans rfl
   have hcz65_1 : w12.cell? ⟨gb241, 1, none⟩ = some (.slice A0_1 l0_1.length c0_1) := (blk_cell BK241.out 1).trans rfl
   have hfz65_0 := blk_frozen BK241.out 0
   have hfz65_1 := blk_frozen BK241.out 1
   go_wp2_with (first | ((with_reducible refine gate_callee (f := 28) rfl ?_); refine goesL_ (some 12) rfl rfl Try.func28 (by kernel_rfl) rfl #[.agg #[.slice A0_0 l0_0.length c0_0, .slice A0_1 l0_1.length c0_1]] rfl (by (try simp only [List.map_toArray, List.map_cons, List.map_nil]); first | done | rfl | (simp only [List.length_drop, List.length_take]; rfl)) ?_; (with_reducible refine (spec_IsValidDatabase.calls k _ _ l0_0 _ _ l0_1 false _ ?side1 ?side2 ?side3 ?side4 A19.out).mono ?_); (case side1 => exact Kd.C_below HR0_0.out aG); (case side2 => exact HC0_0.out); (case side3 => exact Kd.C_below HR0_1.out aG); (case side4 => exact HC0_1.out); rintro e w66 ⟨rfl, hb⟩; refine ⟨_, rfl, ?_⟩; have n0_ := aM (Kd.R_below (by (with_reducible repeat (first | apply Kd.R_alloc | apply Kd.R_drewN | apply Kd.R_drew)); exact (Kd.R_mono (Kd.R_far (p := ⟨gb250, 1, none⟩) (Kd.R_far (p := ⟨gb250, 0, none⟩) (Kd.R_types HO246.out BK250.out (by decide)) (fun _ hk => hk.2) (.slice Ao13 t244.length co13)) (fun _ hk => hk.2) (.slice Ao18 t247.length co18)) (fun _ h_ => h_.1))) hb); have n1_ := aM (Kd.N_below (by (with_reducible repeat (first | apply Kd.N_alloc | apply Kd.N_drewN | apply Kd.N_drew)); exact (Kd.N_mono (Kd.N_far (p := ⟨gb250, 1, none⟩) (Kd.N_far (p := ⟨gb250, 0, none⟩) (Kd.N_mono HO249.out (fun k_ hk => (⟨hk, hk.2⟩ : _ ∧ k_ ≠ gb250))) (fun _ hk => hk.2) (.slice Ao13 t244.length co13)) (fun _ hk => hk.2) (.slice Ao18 t247.length co18)) (fun _ h_ => h_.1))) hb); have n2_ := aM (blk_below (g := gb241) (o := .cells #[.slice A0_0 l0_0.length c0_0, .slice A0_1 l0_1.length c0_1] 31 (0, 0)) (by (with_reducible repeat (first | refine blk_drewN ?_ _ | refine blk_drew ?_ | refine blk_alloc ?_ _)); refine blk_far ?_ NB241_250.out _; (with_reducible repeat (first | refine blk_drewN ?_ _ | refine blk_drew ?_ | refine blk_alloc ?_ _)); refine blk_far ?_ NB241_250.out _; (with_reducible repeat (first | refine blk_drewN ?_ _ | refine blk_drew ?_ | refine blk_alloc ?_ _)); exact BK241.out) hb); have n3_ := aM (blk_below (g := gb242) (o := .cells #[.int .i64 a1_0, .slice A1_1 l1_1.length c1_1] 45 (0, 0)) (by (with_reducible repeat (first | refine blk_drewN ?_ _ | refine blk_drew ?_ | refine blk_alloc ?_ _)); refine blk_far ?_ NB242_250.out _; (with_reducible repeat (first | refine blk_drewN ?_ _ | refine blk_drew ?_ | refine blk_alloc ?_ _)); refine blk_far ?_ NB242_250.out _; (with_reducible repeat (first | refine blk_drewN ?_ _ | refine blk_drew ?_ | refine blk_alloc ?_ _)); exact BK242.out) hb); have n4_ := aM (blk_below (g := gb243) (o := .cells #[.slice none 0 0, .slice none 0 0] 31 (0, 0)) (by (with_reducible repeat (first | refine blk_drewN ?_ _ | refine blk_drew ?_ | refine blk_alloc ?_ _)); refine blk_far ?_ NB243_250.out _; (with_reducible repeat (first | refine blk_drewN ?_ _ | refine blk_drew ?_ | refine blk_alloc ?_ _)); refine blk_far ?_ NB243_250.out _; (with_reducible repeat (first | refine blk_drewN ?_ _ | refine blk_drew ?_ | refine blk_alloc ?_ _)); exact BK243.out) hb); have n5_ := aM (blk_below (g := gb250) (o := .cells #[.slice Ao13 t244.length co13, .slice Ao18 t247.length co18] 31 (0, 0)) (by (with_reducible repeat (first | refine blk_drewN ?_ _ | refine blk_drew ?_ | refine blk_alloc ?_ _)); refine blk_put (cs := #[.slice Ao13 t244.length co13, .slice none 0 0]) ?_ 1 _ rfl; (with_reducible repeat (first | refine blk_drewN ?_ _ | refine blk_drew ?_ | refine blk_alloc ?_ _)); refine blk_put (cs := #[.slice none 0 0, .slice none 0 0]) ?_ 0 _ rfl; (with_reducible repeat (first | refine blk_drewN ?_ _ | refine blk_drew ?_ | refine blk_alloc ?_ _)); exact BK250.out) hb); have n6_ := aM (below_step aG hb); clear HO246; clear HO249; clear BK241; clear BK242; clear BK243; clear BK250; clear HB; have HO246 := n0_; have HO249 := n1_; have BK241 := n2_; have BK242 := n3_; have BK243 := n4_; have BK250 := n5_; have HB := n6_; clear n0_ n1_ n2_ n3_ n4_ n5_ n6_; (try clear hb); (try clear hb2); (try clear hk); (try clear hi)))
   go_meet
   case rel => exact ⟨_, (true), (by first | rfl | (simp; done) | (simp [*]; done)), H', ⟨by first | omega | exact Nat.le_refl _⟩, ⟨by (with_reducible repeat (first | apply Kd.R_alloc | apply Kd.R_drewN | apply Kd.R_drew)); exact Kd.R_mono HO246.out (fun _ hk => hk.1)⟩, ⟨by (with_reducible repeat (first | apply Kd.N_alloc | apply Kd.N_drewN | apply Kd.N_drew)); exact Kd.N_mono HO249.out (fun _ hk => ⟨hk.1.1, ⟨hk.1.2.1, ⟨hk.1.2.2.1, ⟨hk.1.2.2.2.1, ⟨hk.1.2.2.2.2, hk.2⟩⟩⟩⟩⟩)⟩, ⟨by (with_reducible repeat (first | refine blk_drewN ?_ _ | refine blk_drew ?_ | refine blk_alloc ?_ _)); exact BK241.out⟩, ⟨by (with_reducible repeat (first | refine blk_drewN ?_ _ | refine blk_drew ?_ | refine blk_alloc ?_ _)); exact BK242.out⟩, ⟨by (with_reducible repeat (first | refine blk_drewN ?_ _ | refine blk_drew ?_ | refine blk_alloc ?_ _)); exact BK243.out⟩, ⟨by (with_reducible repeat (first | refine blk_drewN ?_ _ | refine blk_drew ?_ | refine blk_alloc ?_ _)); exact BK250.out⟩, ⟨by repeat (first | (with_reducible first | exact HB.out | apply below_alloc | apply pw_below_drewN | apply below_drew1 | refine below_set ?_ GE241.out | refine below_set ?_ GE242.out | refine below_set ?_ GE243.out | refine below_set ?_ GE250.out) | exact HB.out)⟩⟩
 case rest =>
  clear HC4
  try clear c1
  try clear c2
  try clear p2
  try clear c3
  try clear c4
  try clear c5
  try clear c6
  try clear c8
  try clear c9
  try clear c14
  try clear c15
  try clear c16
  try clear c18
  try clear c20
  try clear c22
  try clear c24
  try clear c25
  try clear c26
  try clear c27
  try clear c28
  try clear c31
  try clear c32
  try clear c38
  try clear c39
  try clear c40
  try clear c44
  try clear c45
  try clear c46
  try clear c52
  try clear c53
  try clear c54
  try clear c58
  try clear c59
  try clear c62
  try clear c63
  try clear c64
  try clear hcz10_0
  try clear hcz10_1
  try clear hcz17_0
  try clear hcz17_1
  try clear hcz28_0
  try clear hcz28_1
  try clear hcz30_0
  try clear hcz30_1
  try clear hcz33_0
  try clear hcz33_1
  try clear hcz35_0
  try clear hcz35_1
  try clear hcz36_0
  try clear hcz36_1
  try clear hcz41_0
  try clear hcz41_1
  try clear hcz43_0
  try clear hcz43_1
  try clear hcz46_0
  try clear hcz46_1
  try clear hcz48_0
  try clear hcz48_1
  try clear hcz49_0
  try clear hcz49_1
  try clear hcz51_0
  try clear hcz51_1
  try clear hcz55_0
  try clear hcz55_1
  try clear hcz57_0
  try clear hcz57_1
  try clear hcz60_0
  try clear hcz60_1
  try clear hcz65_0
  try clear hcz65_1
  try clear hfz10_0
  try clear hfz10_1
  try clear hfz17_0
  try clear hfz17_1
  try clear hfz28_0
  try clear hfz28_1
  try clear hfz30_0
  try clear hfz30_1
  try clear hfz33_0
  try clear hfz33_1
  try clear hfz35_0
  try clear hfz35_1
  try clear hfz36_0
  try clear hfz36_1
  try clear hfz41_0
  try clear hfz41_1
  try clear hfz43_0
  try clear hfz43_1
  try clear hfz46_0
  try clear hfz46_1
  try clear hfz48_0
  try clear hfz48_1
  try clear hfz49_0
  try clear hfz49_1
  try clear hfz51_0
  try clear hfz51_1
  try clear hfz55_0
  try clear hfz55_1
  try clear hfz57_0
  try clear hfz57_1
  try clear hfz60_0
  try clear hfz60_1
  try clear hfz65_0
  try clear hfz65_1
  obtain ⟨kq, x31_3, rfl, HA, HJ3, HO_251000, HO_251001, BK241, BK242, BK243, BK250, HB⟩ := hcut
  cases kq with
  | zero => exact absurd HA.out (by simp [spec_InsertFact.j0])
  | succ kj3 =>
   have H := HA.out
   clear HA
   simp only [spec_InsertFact.j0] at H
   by_cases c67 : x31_3 = true
   ·subst c67
    have H1 : (some (t244, t247, false)) = some (r1, r2, r3) := by rw [if_pos rfl] at H; exact H
    clear H
    have H := H1
    clear H1
    simp only [Option.some.injEq, Prod.mk.injEq] at H
    obtain ⟨rfl, rfl, rfl⟩ := H
    have hnb68 := NB250_241.out
    have hnc68 := NB241_250.out
    have hnb69 := NB250_242.out
    have hnc69 := NB242_250.out
    have hnb70 := NB250_243.out
    have hnc70 := NB243_250.out
    have hcz71_0 : wc.cell? ⟨gb250, 0, none⟩ = some (.slice Ao13 t244.length co13) := (blk_cell BK250.out 0).trans rfl
    have hcz71_1 : wc.cell? ⟨gb250, 1, none⟩ = some (.slice Ao18 t247.length co18) := (blk_cell BK250.out 1).trans rfl
    have hfz71_0 := blk_frozen BK250.out 0
    have hfz71_1 := blk_frozen BK250.out 1
    have hnb72 := NB243_241.out
    have hnc72 := NB241_243.out
    have hnb73 := NB243_242.out
    have hnc73 := NB242_243.out
    have hcz74_0 : wc.cell? ⟨gb243, 0, none⟩ = some (.slice none 0 0) := (blk_cell BK243.out 0).trans rfl
    have hcz74_1 : wc.cell? ⟨gb243, 1, none⟩ = some (.slice none 0 0) := (blk_cell BK243.out 1).trans rfl
    have hfz74_0 := blk_frozen BK243.out 0
    have hfz74_1 := blk_frozen BK243.out 1
    go_wp2
    refine bodyPost_ret (results_ct rfl _ _ gb243 31 #[.slice Ao13 t244.length co13, .slice Ao18 t247.length co18] (0, 0) _ rfl (by (with_reducible repeat (first | refine blk_drewN ?_ _ | refine blk_drew ?_ | refine blk_alloc ?_ _)); refine blk_put (cs := #[.slice Ao13 t244.length co13, .slice none 0 0]) ?_ 1 _ rfl; (with_reducible repeat (first | refine blk_drewN ?_ _ | refine blk_drew ?_ | refine blk_alloc ?_ _)); refine blk_put (cs := #[.slice none 0 0, .slice none 0 0]) ?_ 0 _ rfl; (with_reducible repeat (first | refine blk_drewN ?_ _ | refine blk_drew ?_ | refine blk_alloc ?_ _)); exact BK243.out) Try.underlying31 rfl (by kernel_rfl)) rfl ?_
    exact ⟨_, _, by first | rfl | (simp [errW_none, errW_some] <;> rfl) | (simp [*, errW_none, errW_some] <;> rfl), by (with_reducible repeat (first | apply Kd.R_alloc | apply Kd.R_drewN | apply Kd.R_drew)); exact Kd.R_mono (Kd.R_far (p := ⟨gb243, 1, none⟩) (Kd.R_far (p := ⟨gb243, 0, none⟩) (Kd.R_types HO_251000.out BK243.out (by decide)) (fun _ hk => hk.2) (.slice Ao13 t244.length co13)) (fun _ hk => hk.2) (.slice Ao18 t247.length co18)) (fun _ hk => hk.1), by (with_reducible repeat (first | apply Kd.N_alloc | apply Kd.N_drewN | apply Kd.N_drew)); exact Kd.N_mono (Kd.N_far (p := ⟨gb243, 1, none⟩) (Kd.N_far (p := ⟨gb243, 0, none⟩) (Kd.N_mono HO_251001.out (fun k_ hk => (⟨hk, hk.2.2.2.2.1⟩ : _ ∧ k_ ≠ gb243))) (fun _ hk => hk.2) (.slice Ao13 t244.length co13)) (fun _ hk => hk.2) (.slice Ao18 t247.length co18)) (fun _ hk => ⟨hk.1.1, hk.1.2.1⟩), by repeat (first | (with_reducible first | exact HB.out | apply below_alloc | apply pw_below_drewN | apply below_drew1 | refine below_set ?_ GE241.out | refine below_set ?_ GE242.out | refine below_set ?_ GE243.out | refine below_set ?_ GE250.out) | exact HB.out)⟩
   ·replace c67 := Bool.eq_false_iff.mpr c67
    subst c67
    have H1 : (spec_InsertFact.l0 kj3 0 a1_0 l1_1 t244 t247) = some (r1, r2, r3) := by rw [if_neg (show ¬ (false = true) by decide)] at H; exact H
    clear H
    have H := H1
    clear H1
    have H' := aM H
    clear H
    go_wp2
    go_loopg [7] kj3 (fun kq v7 w' => ∃ (x7_2 : Int), v7 = .int .i64 x7_2 ∧ Aside0 (spec_InsertFact.l0 kq x7_2 a1_0 l1_1 t244 t247 = some (r1, r2, r3)) ∧ Aside0 (kq ≤ kj3) ∧ Aside0 (Kd.R k74 74 w' w.heap.size (fun k_ => (w.heap.size ≤ k_)) (.slice Ao13 t244.length co13) t244) ∧ Aside0 (Kd.N k45 45 w' w.heap.size (fun k_ => (w.heap.size ≤ k_) ∧ some k_ ≠ ((.slice Ao13 t244.length co13) : Value).ownBlock ∧ k_ ≠ gb241 ∧ k_ ≠ gb242 ∧ k_ ≠ gb243 ∧ k_ ≠ gb250) (.slice Ao18 t247.length co18) t247) ∧ Aside0 (w'.heap[gb241]? = some (.cells #[(.slice A0_0 l0_0.length c0_0), (.slice A0_1 l0_1.length c0_1)] 31 (0, 0))) ∧ Aside0 (w'.heap[gb242]? = some (.cells #[.int .i64 a1_0, (.slice A1_1 l1_1.length c1_1)] 45 (0, 0))) ∧ Aside0 (w'.heap[gb243]? = some (.cells #[(.slice none 0 0), (.slice none 0 0)] 31 (0, 0))) ∧ Aside0 (w'.heap[gb250]? = some (.cells #[(.slice Ao13 t244.length co13), (.slice Ao18 t247.length co18)] 31 (0, 0))) ∧ Aside0 (Below w.heap.size w w'))
    case atStart => exact ⟨(0), (by first | rfl | (simp; done) | (simp [*]; done)), H', ⟨Nat.le_refl _⟩, ⟨aR HO_251000⟩, ⟨by (with_reducible repeat (first | apply Kd.N_alloc | apply Kd.N_drewN | apply Kd.N_drew)); exact HO_251001.out⟩, ⟨by (with_reducible repeat (first | refine blk_drewN ?_ _ | refine blk_drew ?_ | refine blk_alloc ?_ _)); exact BK241.out⟩, ⟨by (with_reducible repeat (first | refine blk_drewN ?_ _ | refine blk_drew ?_ | refine blk_alloc ?_ _)); exact BK242.out⟩, ⟨by (with_reducible repeat (first | refine blk_drewN ?_ _ | refine blk_drew ?_ | refine blk_alloc ?_ _)); exact BK243.out⟩, ⟨by (with_reducible repeat (first | refine blk_drewN ?_ _ | refine blk_drew ?_ | refine blk_alloc ?_ _)); exact BK250.out⟩, ⟨by repeat (first | (with_reducible first | exact HB.out | apply below_alloc | apply pw_below_drewN | apply below_drew1 | refine below_set ?_ GE241.out | refine below_set ?_ GE242.out | refine below_set ?_ GE243.out | refine below_set ?_ GE250.out) | exact HB.out)⟩⟩
    case round =>
     clear H'
     try clear c1
     try clear c2
     try clear p2
     try clear c3
     try clear c4
     try clear c5
     try clear c6
     try clear c7
     try clear c8
     try clear c9
     try clear c14
     try clear c15
     try clear c16
     try clear c18
     try clear c20
     try clear c22
     try clear c24
     try clear c25
     try clear c26
     try clear c27
     try clear c28
     try clear c31
     try clear c32
     try clear c38
     try clear c39
     try clear c40
     try clear c44
     try clear c45
     try clear c46
     try clear c52
     try clear c53
     try clear c54
     try clear c58
     try clear c59
     try clear c62
     try clear c63
     try clear c64
     try clear c67
     try clear c68
     try clear c69
     try clear c70
     try clear c72
     try clear c73
     try clear hcz10_0
     try clear hcz10_1
     try clear hcz17_0
     try clear hcz17_1
     try clear hcz28_0
     try clear hcz28_1
     try clear hcz30_0
     try clear hcz30_1
     try clear hcz33_0
     try clear hcz33_1
     try clear hcz35_0
     try clear hcz35_1
     try clear hcz36_0
     try clear hcz36_1
     try clear hcz41_0
     try clear hcz41_1
     try clear hcz43_0
     try clear hcz43_1
     try clear hcz46_0
     try clear hcz46_1
     try clear hcz48_0
     try clear hcz48_1
     try clear hcz49_0
     try clear hcz49_1
     try clear hcz51_0
     try clear hcz51_1
     try clear hcz55_0
     try clear hcz55_1
     try clear hcz57_0
     try clear hcz57_1
     try clear hcz60_0
     try clear hcz60_1
     try clear hcz65_0
     try clear hcz65_1
     try clear hcz71_0
     try clear hcz71_1
     try clear hcz74_0
     try clear hcz74_1
     try clear hfz10_0
     try clear hfz10_1
     try clear hfz17_0
     try clear hfz17_1
     try clear hfz28_0
     try clear hfz28_1
     try clear hfz30_0
     try clear hfz30_1
     try clear hfz33_0
     try clear hfz33_1
     try clear hfz35_0
     try clear hfz35_1
     try clear hfz36_0
     try clear hfz36_1
     try clear hfz41_0
     try clear hfz41_1
     try clear hfz43_0
     try clear hfz43_1
     try clear hfz46_0
     try clear hfz46_1
     try clear hfz48_0
     try clear hfz48_1
     try clear hfz49_0
     try clear hfz49_1
     try clear hfz51_0
     try clear hfz51_1
     try clear hfz55_0
     try clear hfz55_1
     try clear hfz57_0
     try clear hfz57_1
     try clear hfz60_0
     try clear hfz60_1
     try clear hfz65_0
     try clear hfz65_1
     try clear hfz71_0
     try clear hfz71_1
     try clear hfz74_0
     try clear hfz74_1
     try clear p2
     obtain ⟨x7_2, rfl, HA, HK2, HO_251000, HO_251001, BK241, BK242, BK243, BK250, HB⟩ := hrel
     cases gk with
     | zero => exact absurd HA.out (by simp [spec_InsertFact.l0])
     | succ k2 =>
      have H := HA.out
      clear HA
      simp only [spec_InsertFact.l0] at H
      by_cases c75 : x7_2 < (t247.length : Int)
      ·rw [if_pos c75] at H
       have c75b0 : decide (x7_2 < (t247.length : Int)) = true := decide_eq_true c75
       clear c75
       by_cases c76 : 0 ≤ x7_2
       ·rw [if_pos c76] at H
        have c76b0 : decide (0 ≤ x7_2) = true := decide_eq_true c76
        clear c76
        replace H := Option.bind_eq_some_iff.mp H
        obtain ⟨t255, A770, H⟩ := H
        replace H : (if t255 < 0 then (spec_InsertFact.l0 k2 (wrap64 (x7_2 + 1)) a1_0 l1_1 t244 t247) else ((some (([] : List Int) : List Int)).bind fun y256 => (if y256.length + l1_1.length < 17592186044416 then ((some (([(⟨a1_0, (y256 ++ l1_1)⟩ : S45)] : List (S45)) : List (S45))).bind fun y262 => (if x7_2 ≤ (t247.length : Int) then ((some (t247.drop (x7_2 : Int).toNat : List (S45))).bind fun y265 => (if y262.length + y265.length < 4398046511104 then ((some (y262 ++ y265 : List (S45))).bind fun y270 => ((some (([] : List (S45)) : List (S45))).bind fun y273 => ((some (t247.take (x7_2 : Int).toNat : List (S45))).bind fun y276 => (if y273.length + y276.length < 4398046511104 then ((some (y273 ++ y276 : List (S45))).bind fun y281 => (if y281.length + y270.length < 4398046511104 then (some (t244, (y281 ++ y270), true)) else (none))) else (none))))) else (none))) else (none))) else (none)))) = some (r1, r2, r3) := H
        have A77 := aM A770
        clear A770
        by_cases c78 : t255 < 0
        ·rw [if_pos c78] at H
         have c78b0 : decide (t255 < 0) = true := decide_eq_true c78
         clear c78
         have H' := aM H
         clear H
         try go_wp2
         have n0_ := aM (Kd.R_drew HO_251000.out)
         have n1_ := aM (Kd.N_drew HO_251001.out)
         have n2_ := aM (blk_drew BK241.out)
         have n3_ := aM (blk_drew BK242.out)
         have n4_ := aM (blk_drew BK243.out)
         have n5_ := aM (blk_drew BK250.out)
         have n6_ := aM (below_drew1 HB.out)
         clear HO_251000
         clear HO_251001
         clear BK241
         clear BK242
         clear BK243
         clear BK250
         clear HB
         have HO_251000 := n0_
         have HO_251001 := n1_
         have BK241 := n2_
         have BK242 := n3_
         have BK243 := n4_
         have BK250 := n5_
         have HB := n6_
         clear n0_ n1_ n2_ n3_ n4_ n5_ n6_
         have p254 : 0 ≤ (x7_2 : Int) := aD
         have q254 : x7_2 < (t247.length : Int) := aD
         obtain ⟨ad254, A254_1, c254_1, e254, hx254_0, hx254_1, hl254_1, hi254_1⟩ := at_T45 (Kd.N_reads' HO_251001.out).2.2 x7_2 p254 q254
         cases e254
         obtain ⟨ce254, hce254, hMe254, hcc254⟩ := Kd.N_get HO_251001.out z45 x7_2 p254 (by first | exact q254 | exact aD | (have e_ := (Kd.N_reads' HO_251001.out).1; omega))
         obtain ⟨ua254_1, uc254_1, rfl, ul254_1, ge254_1⟩ := k45_openF hMe254
         have hv254_1 := hcc254 1 _ rfl
         rw [add_field _ _ 1 (by omega)] at hv254_1
         replace hv254_1 := Option.some.inj (hv254_1.symm.trans hx254_1)
         injection hv254_1 with hva_ hvn_ hvc_
         rw [hva_] at ge254_1
         rw [hvc_] at ul254_1
         have HL254_1 := aM (show Kd.V (Kd.int .i64) 3 _ w.heap.size _ _ ((rd_T45 t247 x7_2).f1) from Kd.V_mk ul254_1 ge254_1)
         clear hva_ hvn_ hvc_ ge254_1 ul254_1
         clear hcc254 hce254
         have HR254_1 := aM hi254_1
         have HC254_1 := aM hl254_1
         clear hi254_1 hl254_1
         replace p254 := eq_true p254
         replace q254 := eq_true q254
         refine start_ (n := 15) (S := fun w' => w'.cell? ⟨gb250, 0, none⟩ = some (.slice Ao13 t244.length co13) ∧ w'.cell? ⟨gb250, 1, none⟩ = some (.slice (some ad254) t247.length co18) ∧ w'.cell? ⟨gb242, 0, none⟩ = some (.int .i64 a1_0) ∧ w'.cell? ⟨gb242, 1, none⟩ = some (.slice A1_1 l1_1.length c1_1) ∧ w'.cell? (ad254.add ((x7_2).toNat * 2)) = some (.int .i64 ((rd_T45 t247 x7_2).f0)) ∧ w'.cell? ⟨(ad254.add ((x7_2).toNat * 2)).block, (ad254.add ((x7_2).toNat * 2)).off + 1, none⟩ = some (.slice A254_1 ((rd_T45 t247 x7_2).f1).length c254_1)) (ds := []) #[false, false, false, false, false, false, false, false, false, false, false, false, false, false, false] (by kernel_rfl) rfl rfl ⟨(blk_cell BK250.out 0).trans rfl, (blk_cell BK250.out 1).trans rfl, (blk_cell BK242.out 0).trans rfl, (blk_cell BK242.out 1).trans rfl, hx254_0, hx254_1⟩ (fun hHeld => ?_); refine with_tabW spec_InsertFact.tab5 spec_InsertFact.bits5 (fun HT_ HW_ => ?_)
         generalize wr.drew = w79 at HO_251000 HO_251001 BK241 BK242 BK243 BK250 HB HL254_1 HR254_1 hx254_0 hx254_1 hHeld ⊢
         refine pure_ (i := 0) (N := some 33) (v := ?_) (a' := ?_) #[true, false, false, false, false, false, false, false, false, false, false, false, false, false, false] rfl rfl (any_of HT_.out (by kernel_rfl)) (fun _ _ _ h => h) (Or.inl ⟨by rfl, ?_⟩) ?_ ?_
         rotate_left
         ·exact aI
         rotate_left
         ·exact aP
         refine pure_ (i := 1) (N := some 34) (v := ?_) (a' := ?_) #[true, true, false, false, false, false, false, false, false, false, false, false, false, false, false] rfl rfl (any_of HT_.out (by kernel_rfl)) (fun _ _ _ h => h) (Or.inl ⟨by rfl, ?_⟩) ?_ ?_
         rotate_left
         ·exact aI
         rotate_left
         ·exact aP
         refine take_ (i := 2) (N := some 35) (v := ?_) (a' := ?_) #[true, true, true, false, false, false, false, false, false, false, false, false, false, false, false] rfl rfl (take_ofW HT_.out HW_.out (by kernel_rfl)) (fun _ _ _ h => h) (Or.inl ⟨by rfl, ?_⟩) hHeld ?_ ?_
         rotate_left
         ·rintro w' ⟨s0, s1, s2, s3, s4, s5⟩
          go_simp
          with_reducible rfl
         rotate_left
         ·exact aP
         refine pure_ (i := 3) (N := some 36) (v := ?_) (a' := ?_) #[true, true, true, true, false, false, false, false, false, false, false, false, false, false, false] rfl rfl (any_of HT_.out (by kernel_rfl)) (fun _ _ _ h => h) (Or.inl ⟨by rfl, ?_⟩) ?_ ?_
         rotate_left
         ·exact aI
         rotate_left
         ·exact aP
         refine pure_ (i := 4) (N := some 37) (v := ?_) (a' := ?_) #[true, true, true, true, true, false, false, false, false, false, false, false, false, false, false] rfl rfl (any_of HT_.out (by kernel_rfl)) (fun _ _ _ h => h) (Or.inl ⟨by rfl, ?_⟩) ?_ ?_
         rotate_left
         ·exact aI
         rotate_left
         ·exact aP
         refine pure_ (i := 5) (N := some 38) (v := ?_) (a' := ?_) #[true, true, true, true, true, true, false, false, false, false, false, false, false, false, false] rfl rfl (any_of HT_.out (by kernel_rfl)) (fun _ _ _ h => h) (Or.inl ⟨by rfl, ?_⟩) ?_ ?_
         rotate_left
         ·exact aI
         rotate_left
         ·exact aP
         refine pure_ (i := 6) (N := some 39) (v := ?_) (a' := ?_) #[true, true, true, true, true, true, true, false, false, false, false, false, false, false, false] rfl rfl (any_of HT_.out (by kernel_rfl)) (fun _ _ _ h => h) (Or.inl ⟨by rfl, ?_⟩) ?_ ?_
         rotate_left
         ·exact aI
         rotate_left
         ·exact aP
         refine pure_ (i := 8) (N := some 41) (v := ?_) (a' := ?_) #[true, true, true, true, true, true, true, false, true, false, false, false, false, false, false] rfl rfl (any_of HT_.out (by kernel_rfl)) (fun _ _ _ h => h) (Or.inl ⟨by rfl, ?_⟩) ?_ ?_
         rotate_left
         ·exact aI
         rotate_left
         ·exact aP
         refine take_ (i := 7) (N := some 40) (v := ?_) (a' := ?_) #[true, true, true, true, true, true, true, true, true, false, false, false, false, false, false] rfl rfl (take_ofW HT_.out HW_.out (by kernel_rfl)) (fun _ _ _ h => h) (Or.inl ⟨by rfl, ?_⟩) hHeld ?_ ?_
         rotate_left
         ·rintro w' ⟨s0, s1, s2, s3, s4, s5⟩
          go_simp
          with_reducible rfl
         rotate_left
         ·exact aP
         refine pure_ (i := 9) (N := some 42) (v := ?_) (a' := ?_) #[true, true, true, true, true, true, true, true, true, true, false, false, false, false, false] rfl rfl (any_of HT_.out (by kernel_rfl)) (fun _ _ _ h => h) (Or.inl ⟨by rfl, ?_⟩) ?_ ?_
         rotate_left
         ·exact aI
         rotate_left
         ·exact aP
         refine take_ (i := 10) (N := some 43) (v := ?_) (a' := ?_) #[true, true, true, true, true, true, true, true, true, true, true, false, false, false, false] rfl rfl (take_ofW HT_.out HW_.out (by kernel_rfl)) (fun _ _ _ h => h) (Or.inl ⟨by rfl, ?_⟩) hHeld ?_ ?_
         rotate_left
         ·rintro w' ⟨s0, s1, s2, s3, s4, s5⟩
          go_simp
          with_reducible rfl
         rotate_left
         ·exact aP
         refine take_ (i := 11) (N := some 44) (v := ?_) (a' := ?_) #[true, true, true, true, true, true, true, true, true, true, true, true, false, false, false] rfl rfl (take_ofW HT_.out HW_.out (by kernel_rfl)) (fun _ _ _ h => h) (Or.inl ⟨by rfl, ?_⟩) hHeld ?_ ?_
         rotate_left
         ·rintro w' ⟨s0, s1, s2, s3, s4, s5⟩
          go_simp
          with_reducible rfl
         rotate_left
         ·exact aP
         refine one_ (i := 12) (N := some 45) #[true, true, true, true, true, true, true, true, true, true, true, true, true, false, false] rfl rfl (one_of HT_.out (by kernel_rfl)) (by decide) (fun K hK => ?_)
         refine goes_ Try.func49 (by kernel_rfl) rfl #[.agg #[.int .i64 ((rd_T45 t247 x7_2).f0), .slice A254_1 ((rd_T45 t247 x7_2).f1).length c254_1], .agg #[.int .i64 a1_0, .slice A1_1 l1_1.length c1_1]] (by rfl) rfl rfl (by (try simp only [List.map_toArray, List.map_cons, List.map_nil]); first | done | rfl | (simp only [List.length_drop, List.length_take]; rfl)) ?_
         with_reducible refine (spec_CompareFacts.calls k2 ((rd_T45 t247 x7_2).f0) _ _ ((rd_T45 t247 x7_2).f1) a1_0 _ _ l1_1 t255 _ ?side1 ?side2 ?side3 ?side4 A77.out).mono ?_
         (case side1 => repeat (first | exact (by repeat (first | (with_reducible exact HR254_1.out) | (with_reducible refine Kd.C_alloc ?_ _) | (with_reducible refine Kd.C_drewN ?_ _) | (with_reducible refine Kd.C_drew ?_) | exact HR254_1.out)) | (with_reducible refine Kd.C_alloc ?_ _) | (with_reducible refine Kd.C_drewN ?_ _) | (with_reducible refine Kd.C_drew ?_)))
         (case side2 => exact HC254_1.out)
         (case side3 => exact aC)
         (case side4 => exact HC1_1.out)
         rintro e w80 ⟨rfl, hb⟩
         have HS4_ := (hb.cell (World.block_lt_of_cell? _ _ (hHeld.2.2.2.2.1))).trans (hHeld.2.2.2.2.1)
         have HS5_ := (hb.cell (World.block_lt_of_cell? _ _ (hHeld.2.2.2.2.2))).trans (hHeld.2.2.2.2.2)
         refine ⟨_, rfl, ?_⟩
         have n0_ := aM (Kd.R_below (aR HO_251000) hb)
         have n1_ := aM (Kd.N_below (by (with_reducible repeat (first | apply Kd.N_alloc | apply Kd.N_drewN | apply Kd.N_drew)); exact HO_251001.out) hb)
         have n2_ := aM (Kd.V_below (by (with_reducible repeat (first | apply Kd.V_alloc | apply Kd.V_drewN | apply Kd.V_drew)); exact HL254_1.out) hb)
         have n3_ := aM (blk_below (g := gb241) (o := .cells #[.slice A0_0 l0_0.length c0_0, .slice A0_1 l0_1.length c0_1] 31 (0, 0)) aK hb)
         have n4_ := aM (blk_below (g := gb242) (o := .cells #[.int .i64 a1_0, .slice A1_1 l1_1.length c1_1] 45 (0, 0)) aK hb)
         have n5_ := aM (blk_below (g := gb243) (o := .cells #[.slice none 0 0, .slice none 0 0] 31 (0, 0)) aK hb)
         have n6_ := aM (blk_below (g := gb250) (o := .cells #[.slice Ao13 t244.length co13, .slice (some ad254) t247.length co18] 31 (0, 0)) aK hb)
         have n7_ := aM (Kd.C_below (by repeat (first | (with_reducible exact HR254_1.out) | (with_reducible refine Kd.C_alloc ?_ _) | (with_reducible refine Kd.C_drewN ?_ _) | (with_reducible refine Kd.C_drew ?_) | exact HR254_1.out)) hb)
         have n8_ := aM (below_step aG hb)
         clear HO_251000
         clear HO_251001
         clear HL254_1
         clear BK241
         clear BK242
         clear BK243
         clear BK250
         clear HR254_1
         clear HB
         have HO_251000 := n0_
         have HO_251001 := n1_
         have HL254_1 := n2_
         have BK241 := n3_
         have BK242 := n4_
         have BK243 := n5_
         have BK250 := n6_
         have HR254_1 := n7_
         have HB := n8_
         clear n0_ n1_ n2_ n3_ n4_ n5_ n6_ n7_ n8_
         (try clear hb)
         (try clear hb2)
         (try clear hk)
         (try clear hi)
         refine hK.out _ _ ⟨(blk_cell BK250.out 0).trans rfl, (blk_cell BK250.out 1).trans rfl, (blk_cell BK242.out 0).trans rfl, (blk_cell BK242.out 1).trans rfl, HS4_, HS5_⟩ (fun hHeld => ?_)
         clear hK K
         refine norm_ (a' := ?_) ?_ ?_
         rotate_left
         ·show Act.put _ (some 45) _ = _
          simp only [Act.put, List.setIfInBounds_toArray, List.set_cons_zero, List.set_cons_succ, i64_w, i32_w]
          rfl
         refine pure_ (i := 13) (N := some 46) (v := ?_) (a' := ?_) #[true, true, true, true, true, true, true, true, true, true, true, true, true, true, false] rfl rfl (any_of HT_.out (by kernel_rfl)) (fun _ _ _ h => h) (Or.inl ⟨by rfl, ?_⟩) ?_ ?_
         rotate_left
         ·exact aI
         rotate_left
         ·exact aP
         refine pure_ (i := 14) (N := some 47) (v := ?_) (a' := ?_) #[true, true, true, true, true, true, true, true, true, true, true, true, true, true, true] rfl rfl (any_of HT_.out (by kernel_rfl)) (fun _ _ _ h => h) (Or.inl ⟨by rfl, ?_⟩) ?_ ?_
         rotate_left
         ·exact aI
         rotate_left
         ·exact aP
         refine done_ (done_of HT_.out (by kernel_rfl)) ?_
         try go_wp2
         go_roundg k2
         case measure => have := HJ3.out; have := HK2.out; omega
         case rel => exact ⟨(wrap64 (x7_2 + 1)), (by first | rfl | (simp; done) | (simp [*]; done)), H', ⟨by have := HJ3.out; have := HK2.out; omega⟩, ⟨aR HO_251000⟩, ⟨by (with_reducible repeat (first | apply Kd.N_alloc | apply Kd.N_drewN | apply Kd.N_drew)); exact HO_251001.out⟩, ⟨by (with_reducible repeat (first | refine blk_drewN ?_ _ | refine blk_drew ?_ | refine blk_alloc ?_ _)); exact BK241.out⟩, ⟨by (with_reducible repeat (first | refine blk_drewN ?_ _ | refine blk_drew ?_ | refine blk_alloc ?_ _)); exact BK242.out⟩, ⟨by (with_reducible repeat (first | refine blk_drewN ?_ _ | refine blk_drew ?_ | refine blk_alloc ?_ _)); exact BK243.out⟩, ⟨by (with_reducible repeat (first | refine blk_drewN ?_ _ | refine blk_drew ?_ | refine blk_alloc ?_ _)); exact BK250.out⟩, ⟨by repeat (first | (with_reducible first | exact HB.out | apply below_alloc | apply pw_below_drewN | apply below_drew1 | refine below_set ?_ GE241.out | refine below_set ?_ GE242.out | refine below_set ?_ GE243.out | refine below_set ?_ GE250.out) | exact HB.out)⟩⟩
        ·rw [if_neg c78] at H
         have c78b0 : decide (t255 < 0) = false := decide_eq_false c78
         clear c78
         obtain ⟨y256, hy256⟩ : ∃ y_ : List Int, y_ = (([] : List Int)) := ⟨_, rfl⟩
         replace H : (if y256.length + l1_1.length < 17592186044416 then ((some (([(⟨a1_0, (y256 ++ l1_1)⟩ : S45)] : List (S45)) : List (S45))).bind fun y262 => (if x7_2 ≤ (t247.length : Int) then ((some (t247.drop (x7_2 : Int).toNat : List (S45))).bind fun y265 => (if y262.length + y265.length < 4398046511104 then ((some (y262 ++ y265 : List (S45))).bind fun y270 => ((some (([] : List (S45)) : List (S45))).bind fun y273 => ((some (t247.take (x7_2 : Int).toNat : List (S45))).bind fun y276 => (if y273.length + y276.length < 4398046511104 then ((some (y273 ++ y276 : List (S45))).bind fun y281 => (if y281.length + y270.length < 4398046511104 then (some (t244, (y281 ++ y270), true)) else (none))) else (none))))) else (none))) else (none))) else (none)) = some (r1, r2, r3) := by first | (rw [hy256]; with_reducible exact H) | (have H2_ := (Option.bind_some _ _).symm.trans H; rw [hy256]; with_reducible exact H2_) | (have H2_ := (Option.bind_some _ _).symm.trans H; with_reducible exact H2_) | with_reducible exact H | (rw [hy256]; exact H) | exact H
         have Ny256 := aM hy256
         clear hy256
         by_cases c81 : y256.length + l1_1.length < 17592186044416
         ·rw [if_pos c81] at H
          have LMc81 := aM c81
          clear c81
          obtain ⟨y259, hy259⟩ : ∃ y_ : List Int, y_ = (y256 ++ l1_1) := ⟨_, rfl⟩
          replace H : ((some (([(⟨a1_0, y259⟩ : S45)] : List (S45)) : List (S45))).bind fun y262 => (if x7_2 ≤ (t247.length : Int) then ((some (t247.drop (x7_2 : Int).toNat : List (S45))).bind fun y265 => (if y262.length + y265.length < 4398046511104 then ((some (y262 ++ y265 : List (S45))).bind fun y270 => ((some (([] : List (S45)) : List (S45))).bind fun y273 => ((some (t247.take (x7_2 : Int).toNat : List (S45))).bind fun y276 => (if y273.length + y276.length < 4398046511104 then ((some (y273 ++ y276 : List (S45))).bind fun y281 => (if y281.length + y270.length < 4398046511104 then (some (t244, (y281 ++ y270), true)) else (none))) else (none))))) else (none))) else (none))) = some (r1, r2, r3) := by first | (rw [hy259]; with_reducible exact H) | (have H2_ := (Option.bind_some _ _).symm.trans H; rw [hy259]; with_reducible exact H2_) | (have H2_ := (Option.bind_some _ _).symm.trans H; with_reducible exact H2_) | with_reducible exact H | (rw [hy259]; exact H) | exact H
          have Ny259 := aM hy259
          clear hy259
          obtain ⟨y262, hy262⟩ : ∃ y_ : List (S45), y_ = (([(⟨a1_0, y259⟩ : S45)] : List (S45))) := ⟨_, rfl⟩
          replace H : (if x7_2 ≤ (t247.length : Int) then ((some (t247.drop (x7_2 : Int).toNat : List (S45))).bind fun y265 => (if y262.length + y265.length < 4398046511104 then ((some (y262 ++ y265 : List (S45))).bind fun y270 => ((some (([] : List (S45)) : List (S45))).bind fun y273 => ((some (t247.take (x7_2 : Int).toNat : List (S45))).bind fun y276 => (if y273.length + y276.length < 4398046511104 then ((some (y273 ++ y276 : List (S45))).bind fun y281 => (if y281.length + y270.length < 4398046511104 then (some (t244, (y281 ++ y270), true)) else (none))) else (none))))) else (none))) else (none)) = some (r1, r2, r3) := by first | (rw [hy262]; with_reducible exact H) | (have H2_ := (Option.bind_some _ _).symm.trans H; rw [hy262]; with_reducible exact H2_) | (have H2_ := (Option.bind_some _ _).symm.trans H; with_reducible exact H2_) | with_reducible exact H | (rw [hy262]; exact H) | exact H
          have Ny262 := aM hy262
          clear hy262
          have c82b0 := eq_true (aD : 0 ≤ x7_2)
          by_cases c83 : x7_2 ≤ (t247.length : Int)
          ·rw [if_pos c83] at H
           have c83b0 := eq_true c83
           have c83b1 : decide (x7_2 ≤ (t247.length : Int)) = true := decide_eq_true c83
           clear c83
           obtain ⟨y265, hy265⟩ : ∃ y_ : List (S45), y_ = (t247.drop (x7_2 : Int).toNat) := ⟨_, rfl⟩
           replace H : (if y262.length + y265.length < 4398046511104 then ((some (y262 ++ y265 : List (S45))).bind fun y270 => ((some (([] : List (S45)) : List (S45))).bind fun y273 => ((some (t247.take (x7_2 : Int).toNat : List (S45))).bind fun y276 => (if y273.length + y276.length < 4398046511104 then ((some (y273 ++ y276 : List (S45))).bind fun y281 => (if y281.length + y270.length < 4398046511104 then (some (t244, (y281 ++ y270), true)) else (none))) else (none))))) else (none)) = some (r1, r2, r3) := by first | (rw [hy265]; with_reducible exact H) | (have H2_ := (Option.bind_some _ _).symm.trans H; rw [hy265]; with_reducible exact H2_) | (have H2_ := (Option.bind_some _ _).symm.trans H; with_reducible exact H2_) | with_reducible exact H | (rw [hy265]; exact H) | exact H
           have Ny265 := aM hy265
           clear hy265
           by_cases c84 : y262.length + y265.length < 4398046511104
           ·rw [if_pos c84] at H
            have LMc84 := aM c84
            clear c84
            obtain ⟨y270, hy270⟩ : ∃ y_ : List (S45), y_ = (y262 ++ y265) := ⟨_, rfl⟩
            replace H : ((some (([] : List (S45)) : List (S45))).bind fun y273 => ((some (t247.take (x7_2 : Int).toNat : List (S45))).bind fun y276 => (if y273.length + y276.length < 4398046511104 then ((some (y273 ++ y276 : List (S45))).bind fun y281 => (if y281.length + y270.length < 4398046511104 then (some (t244, (y281 ++ y270), true)) else (none))) else (none)))) = some (r1, r2, r3) := by first | (rw [hy270]; with_reducible exact H) | (have H2_ := (Option.bind_some _ _).symm.trans H; rw [hy270]; with_reducible exact H2_) | (have H2_ := (Option.bind_some _ _).symm.trans H; with_reducible exact H2_) | with_reducible exact H | (rw [hy270]; exact H) | exact H
            have Ny270 := aM hy270
            clear hy270
            obtain ⟨y273, hy273⟩ : ∃ y_ : List (S45), y_ = (([] : List (S45))) := ⟨_, rfl⟩
            replace H : ((some (t247.take (x7_2 : Int).toNat : List (S45))).bind fun y276 => (if y273.length + y276.length < 4398046511104 then ((some (y273 ++ y276 : List (S45))).bind fun y281 => (if y281.length + y270.length < 4398046511104 then (some (t244, (y281 ++ y270), true)) else (none))) else (none))) = some (r1, r2, r3) := by first | (rw [hy273]; with_reducible exact H) | (have H2_ := (Option.bind_some _ _).symm.trans H; rw [hy273]; with_reducible exact H2_) | (have H2_ := (Option.bind_some _ _).symm.trans H; with_reducible exact H2_) | with_reducible exact H | (rw [hy273]; exact H) | exact H
            have Ny273 := aM hy273
            clear hy273
            have c85b0 := eq_true (aD : 0 ≤ x7_2)
            have c86b0 := eq_true (aD : x7_2 ≤ (t247.length : Int))
            obtain ⟨y276, hy276⟩ : ∃ y_ : List (S45), y_ = (t247.take (x7_2 : Int).toNat) := ⟨_, rfl⟩
            replace H : (if y273.length + y276.length < 4398046511104 then ((some (y273 ++ y276 : List (S45))).bind fun y281 => (if y281.length + y270.length < 4398046511104 then (some (t244, (y281 ++ y270), true)) else (none))) else (none)) = some (r1, r2, r3) := by first | (rw [hy276]; with_reducible exact H) | (have H2_ := (Option.bind_some _ _).symm.trans H; rw [hy276]; with_reducible exact H2_) | (have H2_ := (Option.bind_some _ _).symm.trans H; with_reducible exact H2_) | with_reducible exact H | (rw [hy276]; exact H) | exact H
            have Ny276 := aM hy276
            clear hy276
            by_cases c87 : y273.length + y276.length < 4398046511104
            ·rw [if_pos c87] at H
             have LMc87 := aM c87
             clear c87
             obtain ⟨y281, hy281⟩ : ∃ y_ : List (S45), y_ = (y273 ++ y276) := ⟨_, rfl⟩
             replace H : (if y281.length + y270.length < 4398046511104 then (some (t244, (y281 ++ y270), true)) else (none)) = some (r1, r2, r3) := by first | (rw [hy281]; with_reducible exact H) | (have H2_ := (Option.bind_some _ _).symm.trans H; rw [hy281]; with_reducible exact H2_) | (have H2_ := (Option.bind_some _ _).symm.trans H; with_reducible exact H2_) | with_reducible exact H | (rw [hy281]; exact H) | exact H
             have Ny281 := aM hy281
             clear hy281
             by_cases c88 : y281.length + y270.length < 4398046511104
             ·rw [if_pos c88] at H
              have LMc88 := aM c88
              clear c88
              obtain ⟨y284, hy284⟩ : ∃ y_ : List (S45), y_ = (y281 ++ y270) := ⟨_, rfl⟩
              replace H : (some (t244, y284, true)) = some (r1, r2, r3) := by first | (rw [hy284]; with_reducible exact H) | (have H2_ := (Option.bind_some _ _).symm.trans H; rw [hy284]; with_reducible exact H2_) | (have H2_ := (Option.bind_some _ _).symm.trans H; with_reducible exact H2_) | with_reducible exact H | (rw [hy284]; exact H) | exact H
              have Ny284 := aM hy284
              clear hy284
              simp only [Option.some.injEq, Prod.mk.injEq] at H
              obtain ⟨rfl, rfl, rfl⟩ := H
              try go_wp2
              have n0_ := aM (Kd.R_drew HO_251000.out)
              have n1_ := aM (Kd.N_drew HO_251001.out)
              have n2_ := aM (blk_drew BK241.out)
              have n3_ := aM (blk_drew BK242.out)
              have n4_ := aM (blk_drew BK243.out)
              have n5_ := aM (blk_drew BK250.out)
              have n6_ := aM (below_drew1 HB.out)
              clear HO_251000
              clear HO_251001
              clear BK241
              clear BK242
              clear BK243
              clear BK250
              clear HB
              have HO_251000 := n0_
              have HO_251001 := n1_
              have BK241 := n2_
              have BK242 := n3_
              have BK243 := n4_
              have BK250 := n5_
              have HB := n6_
              clear n0_ n1_ n2_ n3_ n4_ n5_ n6_
              have p254 : 0 ≤ (x7_2 : Int) := aD
              have q254 : x7_2 < (t247.length : Int) := aD
              obtain ⟨ad254, A254_1, c254_1, e254, hx254_0, hx254_1, hl254_1, hi254_1⟩ := at_T45 (Kd.N_reads' HO_251001.out).2.2 x7_2 p254 q254
              cases e254
              obtain ⟨ce254, hce254, hMe254, hcc254⟩ := Kd.N_get HO_251001.out z45 x7_2 p254 (by first | exact q254 | exact aD | (have e_ := (Kd.N_reads' HO_251001.out).1; omega))
              obtain ⟨ua254_1, uc254_1, rfl, ul254_1, ge254_1⟩ := k45_openF hMe254
              have hv254_1 := hcc254 1 _ rfl
              rw [add_field _ _ 1 (by omega)] at hv254_1
              replace hv254_1 := Option.some.inj (hv254_1.symm.trans hx254_1)
              injection hv254_1 with hva_ hvn_ hvc_
              rw [hva_] at ge254_1
              rw [hvc_] at ul254_1
              have HL254_1 := aM (show Kd.V (Kd.int .i64) 3 _ w.heap.size _ _ ((rd_T45 t247 x7_2).f1) from Kd.V_mk ul254_1 ge254_1)
              clear hva_ hvn_ hvc_ ge254_1 ul254_1
              clear hcc254 hce254
              have HR254_1 := aM hi254_1
              have HC254_1 := aM hl254_1
              clear hi254_1 hl254_1
              replace p254 := eq_true p254
              replace q254 := eq_true q254
              refine start_ (n := 15) (S := fun w' => w'.cell? ⟨gb250, 0, none⟩ = some (.slice Ao13 t244.length co13) ∧ w'.cell? ⟨gb250, 1, none⟩ = some (.slice (some ad254) t247.length co18) ∧ w'.cell? ⟨gb242, 0, none⟩ = some (.int .i64 a1_0) ∧ w'.cell? ⟨gb242, 1, none⟩ = some (.slice A1_1 l1_1.length c1_1) ∧ w'.cell? (ad254.add ((x7_2).toNat * 2)) = some (.int .i64 ((rd_T45 t247 x7_2).f0)) ∧ w'.cell? ⟨(ad254.add ((x7_2).toNat * 2)).block, (ad254.add ((x7_2).toNat * 2)).off + 1, none⟩ = some (.slice A254_1 ((rd_T45 t247 x7_2).f1).length c254_1)) (ds := []) #[false, false, false, false, false, false, false, false, false, false, false, false, false, false, false] (by kernel_rfl) rfl rfl ⟨(blk_cell BK250.out 0).trans rfl, (blk_cell BK250.out 1).trans rfl, (blk_cell BK242.out 0).trans rfl, (blk_cell BK242.out 1).trans rfl, hx254_0, hx254_1⟩ (fun hHeld => ?_); refine with_tabW spec_InsertFact.tab5 spec_InsertFact.bits5 (fun HT_ HW_ => ?_)
              generalize wr.drew = w89 at HO_251000 HO_251001 BK241 BK242 BK243 BK250 HB HL254_1 HR254_1 hx254_0 hx254_1 hHeld ⊢
              refine pure_ (i := 0) (N := some 33) (v := ?_) (a' := ?_) #[true, false, false, false, false, false, false, false, false, false, false, false, false, false, false] rfl rfl (any_of HT_.out (by kernel_rfl)) (fun _ _ _ h => h) (Or.inl ⟨by rfl, ?_⟩) ?_ ?_
              rotate_left
              ·exact aI
              rotate_left
              ·exact aP
              refine pure_ (i := 1) (N := some 34) (v := ?_) (a' := ?_) #[true, true, false, false, false, false, false, false, false, false, false, false, false, false, false] rfl rfl (any_of HT_.out (by kernel_rfl)) (fun _ _ _ h => h) (Or.inl ⟨by rfl, ?_⟩) ?_ ?_
              rotate_left
              ·exact aI
              rotate_left
              ·exact aP
              refine take_ (i := 2) (N := some 35) (v := ?_) (a' := ?_) #[true, true, true, false, false, false, false, false, false, false, false, false, false, false, false] rfl rfl (take_ofW HT_.out HW_.out (by kernel_rfl)) (fun _ _ _ h => h) (Or.inl ⟨by rfl, ?_⟩) hHeld ?_ ?_
              rotate_left
              ·rintro w' ⟨s0, s1, s2, s3, s4, s5⟩
               go_simp
               with_reducible rfl
              rotate_left
              ·exact aP
              refine pure_ (i := 3) (N := some 36) (v := ?_) (a' := ?_) #[true, true, true, true, false, false, false, false, false, false, false, false, false, false, false] rfl rfl (any_of HT_.out (by kernel_rfl)) (fun _ _ _ h => h) (Or.inl ⟨by rfl, ?_⟩) ?_ ?_
              rotate_left
              ·exact aI
              rotate_left
              ·exact aP
              refine pure_ (i := 4) (N := some 37) (v := ?_) (a' := ?_) #[true, true, true, true, true, false, false, false, false, false, false, false, false, false, false] rfl rfl (any_of HT_.out (by kernel_rfl)) (fun _ _ _ h => h) (Or.inl ⟨by rfl, ?_⟩) ?_ ?_
              rotate_left
              ·exact aI
              rotate_left
              ·exact aP
              refine pure_ (i := 5) (N := some 38) (v := ?_) (a' := ?_) #[true, true, true, true, true, true, false, false, false, false, false, false, false, false, false] rfl rfl (any_of HT_.out (by kernel_rfl)) (fun _ _ _ h => h) (Or.inl ⟨by rfl, ?_⟩) ?_ ?_
              rotate_left
              ·exact aI
              rotate_left
              ·exact aP
              refine pure_ (i := 6) (N := some 39) (v := ?_) (a' := ?_) #[true, true, true, true, true, true, true, false, false, false, false, false, false, false, false] rfl rfl (any_of HT_.out (by kernel_rfl)) (fun _ _ _ h => h) (Or.inl ⟨by rfl, ?_⟩) ?_ ?_
              rotate_left
              ·exact aI
              rotate_left
              ·exact aP
              refine pure_ (i := 8) (N := some 41) (v := ?_) (a' := ?_) #[true, true, true, true, true, true, true, false, true, false, false, false, false, false, false] rfl rfl (any_of HT_.out (by kernel_rfl)) (fun _ _ _ h => h) (Or.inl ⟨by rfl, ?_⟩) ?_ ?_
              rotate_left
              ·exact aI
              rotate_left
              ·exact aP
              refine take_ (i := 7) (N := some 40) (v := ?_) (a' := ?_) #[true, true, true, true, true, true, true, true, true, false, false, false, false, false, false] rfl rfl (take_ofW HT_.out HW_.out (by kernel_rfl)) (fun _ _ _ h => h) (Or.inl ⟨by rfl, ?_⟩) hHeld ?_ ?_
              rotate_left
              ·rintro w' ⟨s0, s1, s2, s3, s4, s5⟩
               go_simp
               with_reducible rfl
              rotate_left
              ·exact aP
              refine pure_ (i := 9) (N := some 42) (v := ?_) (a' := ?_) #[true, true, true, true, true, true, true, true, true, true, false, false, false, false, false] rfl rfl (any_of HT_.out (by kernel_rfl)) (fun _ _ _ h => h) (Or.inl ⟨by rfl, ?_⟩) ?_ ?_
              rotate_left
              ·exact aI
              rotate_left
              ·exact aP
              refine take_ (i := 10) (N := some 43) (v := ?_) (a' := ?_) #[true, true, true, true, true, true, true, true, true, true, true, false, false, false, false] rfl rfl (take_ofW HT_.out HW_.out (by kernel_rfl)) (fun _ _ _ h => h) (Or.inl ⟨by rfl, ?_⟩) hHeld ?_ ?_
              rotate_left
              ·rintro w' ⟨s0, s1, s2, s3, s4, s5⟩
               go_simp
               with_reducible rfl
              rotate_left
              ·exact aP
              refine take_ (i := 11) (N := some 44) (v := ?_) (a' := ?_) #[true, true, true, true, true, true, true, true, true, true, true, true, false, false, false] rfl rfl (take_ofW HT_.out HW_.out (by kernel_rfl)) (fun _ _ _ h => h) (Or.inl ⟨by rfl, ?_⟩) hHeld ?_ ?_
              rotate_left
              ·rintro w' ⟨s0, s1, s2, s3, s4, s5⟩
               go_simp
               with_reducible rfl
              rotate_left
              ·exact aP
              refine one_ (i := 12) (N := some 45) #[true, true, true, true, true, true, true, true, true, true, true, true, true, false, false] rfl rfl (one_of HT_.out (by kernel_rfl)) (by decide) (fun K hK => ?_)
              refine goes_ Try.func49 (by kernel_rfl) rfl #[.agg #[.int .i64 ((rd_T45 t247 x7_2).f0), .slice A254_1 ((rd_T45 t247 x7_2).f1).length c254_1], .agg #[.int .i64 a1_0, .slice A1_1 l1_1.length c1_1]] (by rfl) rfl rfl (by (try simp only [List.map_toArray, List.map_cons, List.map_nil]); first | done | rfl | (simp only [List.length_drop, List.length_take]; rfl)) ?_
              with_reducible refine (spec_CompareFacts.calls k2 ((rd_T45 t247 x7_2).f0) _ _ ((rd_T45 t247 x7_2).f1) a1_0 _ _ l1_1 t255 _ ?side1 ?side2 ?side3 ?side4 A77.out).mono ?_
              (case side1 => repeat (first | exact (by repeat (first | (with_reducible exact HR254_1.out) | (with_reducible refine Kd.C_alloc ?_ _) | (with_reducible refine Kd.C_drewN ?_ _) | (with_reducible refine Kd.C_drew ?_) | exact HR254_1.out)) | (with_reducible refine Kd.C_alloc ?_ _) | (with_reducible refine Kd.C_drewN ?_ _) | (with_reducible refine Kd.C_drew ?_)))
              (case side2 => exact HC254_1.out)
              (case side3 => exact aC)
              (case side4 => exact HC1_1.out)
              rintro e w90 ⟨rfl, hb⟩
              have HS4_ := (hb.cell (World.block_lt_of_cell? _ _ (hHeld.2.2.2.2.1))).trans (hHeld.2.2.2.2.1)
              have HS5_ := (hb.cell (World.block_lt_of_cell? _ _ (hHeld.2.2.2.2.2))).trans (hHeld.2.2.2.2.2)
              refine ⟨_, rfl, ?_⟩
              have n0_ := aM (Kd.R_below (aR HO_251000) hb)
              have n1_ := aM (Kd.N_below (by (with_reducible repeat (first | apply Kd.N_alloc | apply Kd.N_drewN | apply Kd.N_drew)); exact HO_251001.out) hb)
              have n2_ := aM (Kd.V_below (by (with_reducible repeat (first | apply Kd.V_alloc | apply Kd.V_drewN | apply Kd.V_drew)); exact HL254_1.out) hb)
              have n3_ := aM (blk_below (g := gb241) (o := .cells #[.slice A0_0 l0_0.length c0_0, .slice A0_1 l0_1.length c0_1] 31 (0, 0)) aK hb)
              have n4_ := aM (blk_below (g := gb242) (o := .cells #[.int .i64 a1_0, .slice A1_1 l1_1.length c1_1] 45 (0, 0)) aK hb)
              have n5_ := aM (blk_below (g := gb243) (o := .cells #[.slice none 0 0, .slice none 0 0] 31 (0, 0)) aK hb)
              have n6_ := aM (blk_below (g := gb250) (o := .cells #[.slice Ao13 t244.length co13, .slice (some ad254) t247.length co18] 31 (0, 0)) aK hb)
              have n7_ := aM (Kd.C_below (by repeat (first | (with_reducible exact HR254_1.out) | (with_reducible refine Kd.C_alloc ?_ _) | (with_reducible refine Kd.C_drewN ?_ _) | (with_reducible refine Kd.C_drew ?_) | exact HR254_1.out)) hb)
              have n8_ := aM (below_step aG hb)
              clear HO_251000
              clear HO_251001
              clear HL254_1
              clear BK241
              clear BK242
              clear BK243
              clear BK250
              clear HR254_1
              clear HB
              have HO_251000 := n0_
              have HO_251001 := n1_
              have HL254_1 := n2_
              have BK241 := n3_
              have BK242 := n4_
              have BK243 := n5_
              have BK250 := n6_
              have HR254_1 := n7_
              have HB := n8_
              clear n0_ n1_ n2_ n3_ n4_ n5_ n6_ n7_ n8_
              (try clear hb)
              (try clear hb2)
              (try clear hk)
              (try clear hi)
              refine hK.out _ _ ⟨(blk_cell BK250.out 0).trans rfl, (blk_cell BK250.out 1).trans rfl, (blk_cell BK242.out 0).trans rfl, (blk_cell BK242.out 1).trans rfl, HS4_, HS5_⟩ (fun hHeld => ?_)
              clear hK K
              refine norm_ (a' := ?_) ?_ ?_
              rotate_left
              ·show Act.put _ (some 45) _ = _
               simp only [Act.put, List.setIfInBounds_toArray, List.set_cons_zero, List.set_cons_succ, i64_w, i32_w]
               rfl
              refine pure_ (i := 13) (N := some 46) (v := ?_) (a' := ?_) #[true, true, true, true, true, true, true, true, true, true, true, true, true, true, false] rfl rfl (any_of HT_.out (by kernel_rfl)) (fun _ _ _ h => h) (Or.inl ⟨by rfl, ?_⟩) ?_ ?_
              rotate_left
              ·exact aI
              rotate_left
              ·exact aP
              refine pure_ (i := 14) (N := some 47) (v := ?_) (a' := ?_) #[true, true, true, true, true, true, true, true, true, true, true, true, true, true, true] rfl rfl (any_of HT_.out (by kernel_rfl)) (fun _ _ _ h => h) (Or.inl ⟨by rfl, ?_⟩) ?_ ?_
              rotate_left
              ·exact aI
              rotate_left
              ·exact aP
              refine done_ (done_of HT_.out (by kernel_rfl)) ?_
              try go_wp2
              have n0_ := aM (Kd.R_drew HO_251000.out)
              have n1_ := aM (Kd.N_drew HO_251001.out)
              have n2_ := aM (Kd.V_drew HL254_1.out)
              have n3_ := aM (blk_drew BK241.out)
              have n4_ := aM (blk_drew BK242.out)
              have n5_ := aM (blk_drew BK243.out)
              have n6_ := aM (blk_drew BK250.out)
              have n7_ := aM (Kd.C_drew HR254_1.out)
              have n8_ := aM (below_drew1 HB.out)
              clear HO_251000
              clear HO_251001
              clear HL254_1
              clear BK241
              clear BK242
              clear BK243
              clear BK250
              clear HR254_1
              clear HB
              have HO_251000 := n0_
              have HO_251001 := n1_
              have HL254_1 := n2_
              have BK241 := n3_
              have BK242 := n4_
              have BK243 := n5_
              have BK250 := n6_
              have HR254_1 := n7_
              have HB := n8_
              clear n0_ n1_ n2_ n3_ n4_ n5_ n6_ n7_ n8_
              have q92 : (x7_2 : Int) ≤ ((t247.length : Int) : Int) := aD
              obtain ⟨i092, hi092, _, hsz92, _⟩ := info_parts info45
              have hroom92 : t247.length ≤ co18 := (Kd.N_reads' HO_251001.out).2.1
              have hC92 : Kd.F k45 _ _ (some ad254) t247.length t247 := (Kd.V_at (base := w.heap.size) (Kd.N_V HO_251001.out)).2.2
              have q092 : (0 : Int) ≤ (x7_2 : Int) := aD
              have hcut92 := cut_from (P := Try.prog) 29 45 .i64 Try.underlying29 hi092 2 hsz92 (some ad254) t247.length co18 x7_2 q092 q92
              have hr92 := Kd.F_cut (m := (x7_2 : Int).toNat) (c := co18) hC92 (by omega) hroom92
              obtain ⟨A92, hA92⟩ : ∃ A1, A1 = (if co18 = (x7_2 : Int).toNat then (some ad254) else ((some ad254) : Option Addr).map (·.add ((x7_2 : Int).toNat * 2))) := ⟨_, rfl⟩
              obtain ⟨c92, hc92⟩ : ∃ c1, c1 = co18 - (x7_2 : Int).toNat := ⟨_, rfl⟩
              have hy92 : y265.length = t247.length - (x7_2 : Int).toNat := (by rw [Ny265.out, List.length_drop] <;> omega)
              rw [show (t247).drop (x7_2 : Int).toNat = y265 from Ny265.out.symm] at hr92
              replace hr92 : Kd.F k45 _ _ A92 y265.length y265 := (by rw [hA92]; exact hr92)
              rw [← hy92, ← hA92, ← hc92] at hcut92
              have HO269 := aM (show Kd.V k45 45 _ w.heap.size _ (.slice A92 y265.length c92) y265 from Kd.V_mk (by rw [hy92, hc92]; exact Nat.sub_le_sub_right hroom92 _) hr92)
              have HC269 := aM (show y265.length ≤ c92 from by rw [hy92, hc92]; exact Nat.sub_le_sub_right hroom92 _)
              clear hr92 hC92 hroom92 hi092 hsz92 hc92
              have KY92 := aM hy92
              have KA92 := aM hA92
              clear hy92 hA92
              replace q92 := eq_true q92
              refine start_ (n := 14) (S := fun w' => w'.cell? ⟨gb242, 0, none⟩ = some (.int .i64 a1_0) ∧ w'.cell? ⟨gb242, 1, none⟩ = some (.slice A1_1 l1_1.length c1_1) ∧ w'.cell? ⟨gb250, 0, none⟩ = some (.slice Ao13 t244.length co13) ∧ w'.cell? ⟨gb250, 1, none⟩ = some (.slice (some ad254) t247.length co18)) (ds := []) #[false, false, false, false, false, false, false, false, false, false, false, false, false, false] (by kernel_rfl) rfl rfl ⟨(blk_cell BK242.out 0).trans rfl, (blk_cell BK242.out 1).trans rfl, (blk_cell BK250.out 0).trans rfl, (blk_cell BK250.out 1).trans rfl⟩ (fun hHeld => ?_); refine with_tabW spec_InsertFact.tab7 spec_InsertFact.bits7 (fun HT_ HW_ => ?_)
              generalize w90.drew = w91 at HO_251000 HO_251001 HL254_1 BK241 BK242 BK243 BK250 HR254_1 HB HO269 hHeld ⊢
              refine pure_ (i := 0) (N := some 50) (v := ?_) (a' := ?_) #[true, false, false, false, false, false, false, false, false, false, false, false, false, false] rfl rfl (any_of HT_.out (by kernel_rfl)) (fun _ _ _ h => h) (Or.inl ⟨by rfl, ?_⟩) ?_ ?_
              rotate_left
              ·exact aI
              rotate_left
              ·exact aP
              refine pure_ (i := 3) (N := some 53) (v := ?_) (a' := ?_) #[true, false, false, true, false, false, false, false, false, false, false, false, false, false] rfl rfl (any_of HT_.out (by kernel_rfl)) (fun _ _ _ h => h) (Or.inl ⟨by rfl, ?_⟩) ?_ ?_
              rotate_left
              ·exact aI
              rotate_left
              ·exact aP
              refine pure_ (i := 8) (N := some 58) (v := ?_) (a' := ?_) #[true, false, false, true, false, false, false, false, true, false, false, false, false, false] rfl rfl (any_of HT_.out (by kernel_rfl)) (fun _ _ _ h => h) (Or.inl ⟨by rfl, ?_⟩) ?_ ?_
              rotate_left
              ·exact aI
              rotate_left
              ·exact aP
              refine pure_ (i := 10) (N := some 60) (v := ?_) (a' := ?_) #[true, false, false, true, false, false, false, false, true, false, true, false, false, false] rfl rfl (any_of HT_.out (by kernel_rfl)) (fun _ _ _ h => h) (Or.inl ⟨by rfl, ?_⟩) ?_ ?_
              rotate_left
              ·exact aI
              rotate_left
              ·exact aP
              refine take_ (i := 1) (N := some 51) (v := ?_) (a' := ?_) #[true, true, false, true, false, false, false, false, true, false, true, false, false, false] rfl rfl (take_ofW HT_.out HW_.out (by kernel_rfl)) (fun _ _ _ h => h) (Or.inl ⟨by rfl, ?_⟩) hHeld ?_ ?_
              rotate_left
              ·rintro w' ⟨s0, s1, s2, s3⟩
               go_simp
               with_reducible rfl
              rotate_left
              ·exact aP
              refine take_ (i := 4) (N := some 54) (v := ?_) (a' := ?_) #[true, true, false, true, true, false, false, false, true, false, true, false, false, false] rfl rfl (take_ofW HT_.out HW_.out (by kernel_rfl)) (fun _ _ _ h => h) (Or.inl ⟨by rfl, ?_⟩) hHeld ?_ ?_
              rotate_left
              ·rintro w' ⟨s0, s1, s2, s3⟩
               go_simp
               with_reducible rfl
              rotate_left
              ·exact aP
              refine take_ (i := 9) (N := some 59) (v := ?_) (a' := ?_) #[true, true, false, true, true, false, false, false, true, true, true, false, false, false] rfl rfl (take_ofW HT_.out HW_.out (by kernel_rfl)) (fun _ _ _ h => h) (Or.inl ⟨by rfl, ?_⟩) hHeld ?_ ?_
              rotate_left
              ·rintro w' ⟨s0, s1, s2, s3⟩
               go_simp
               with_reducible rfl
              rotate_left
              ·exact aP
              refine pure_ (i := 11) (N := some 61) (v := ?_) (a' := ?_) #[true, true, false, true, true, false, false, false, true, true, true, true, false, false] rfl rfl (any_of HT_.out (by kernel_rfl)) (fun _ _ _ h => h) (Or.inl ⟨by rfl, ?_⟩) ?_ ?_
              rotate_left
              ·exact aI
              rotate_left
              ·exact aP
              refine one_ (i := 2) (N := some 52) #[true, true, true, true, true, false, false, false, true, true, true, true, false, false] rfl rfl (one_of HT_.out (by kernel_rfl)) (by decide) (fun K hK => ?_)
              refine Kd.R_lit_step (Kd.int .i64) _ 3 ?hg (N := 52) ?hd (xs := ([] : List Int)) (inner := []) (ok := fun _ => True) (okp := fun _ => True) ?hr ?hp (fun _ hk => hk) trivial (Below.refl _ _) (Nat.le_refl _) (by simp) ?_; (case hd => rfl); (case hg => rfl); (case hr => first | (go_simp; done) | (go_simp; rfl)); (case hp => exact (Reps.none _ _))
              intro v257 w93 ho94 hb hg_ hnew_
              clear hg_ hnew_
              (first | rw [← Ny256.out] at ho94 | (simp only [Int.reduceToNat] at ho94; rw [← Ny256.out] at ho94))
              have n0_ := aM (Kd.R_below (aR HO_251000) hb)
              have n1_ := aM (Kd.N_elder' (by (with_reducible repeat (first | apply Kd.N_alloc | apply Kd.N_drewN | apply Kd.N_drew)); exact HO_251001.out) (Kd.R_base ho94) hb)
              have n2_ := aM (Kd.V_elder' (by (with_reducible repeat (first | apply Kd.V_alloc | apply Kd.V_drewN | apply Kd.V_drew)); exact HL254_1.out) (Kd.R_base ho94) hb)
              have n3_ := aM (Kd.V_elder' (by (with_reducible repeat (first | apply Kd.V_alloc | apply Kd.V_drewN | apply Kd.V_drew)); exact HO269.out) (Kd.R_base ho94) hb)
              have n4_ := aM (Kd.R_lower (Kd.R_newM (M := fun k_ => (w.heap.size ≤ k_)) ho94 (below_size aG) (fun k_ h_ => h_)) (below_size aG))
              have n5_ := aM (blk_below (g := gb241) (o := .cells #[.slice A0_0 l0_0.length c0_0, .slice A0_1 l0_1.length c0_1] 31 (0, 0)) aK hb)
              have n6_ := aM (blk_below (g := gb242) (o := .cells #[.int .i64 a1_0, .slice A1_1 l1_1.length c1_1] 45 (0, 0)) aK hb)
              have n7_ := aM (blk_below (g := gb243) (o := .cells #[.slice none 0 0, .slice none 0 0] 31 (0, 0)) aK hb)
              have n8_ := aM (blk_below (g := gb250) (o := .cells #[.slice Ao13 t244.length co13, .slice (some ad254) t247.length co18] 31 (0, 0)) aK hb)
              have n9_ := aM (Kd.C_below (by repeat (first | (with_reducible exact HR254_1.out) | (with_reducible refine Kd.C_alloc ?_ _) | (with_reducible refine Kd.C_drewN ?_ _) | (with_reducible refine Kd.C_drew ?_) | exact HR254_1.out)) hb)
              have n10_ := aM (below_step aG hb)
              clear HO_251000
              clear HO_251001
              clear HL254_1
              clear HO269
              clear BK241
              clear BK242
              clear BK243
              clear BK250
              clear HR254_1
              clear HB
              have HO_251000 := n0_
              have HO_251001 := n1_
              have HL254_1 := n2_
              have HO269 := n3_
              have HO258 := n4_
              have BK241 := n5_
              have BK242 := n6_
              have BK243 := n7_
              have BK250 := n8_
              have HR254_1 := n9_
              have HB := n10_
              clear n0_ n1_ n2_ n3_ n4_ n5_ n6_ n7_ n8_ n9_ n10_
              clear hb ho94
              refine hK.out _ _ ⟨(blk_cell BK242.out 0).trans rfl, (blk_cell BK242.out 1).trans rfl, (blk_cell BK250.out 0).trans rfl, (blk_cell BK250.out 1).trans rfl⟩ (fun hHeld => ?_)
              clear hK K
              refine norm_ (a' := ?_) ?_ ?_
              rotate_left
              ·show Act.put _ (some 52) _ = _
               simp only [Act.put, List.setIfInBounds_toArray, List.set_cons_zero, List.set_cons_succ, i64_w, i32_w]
               rfl
              refine one_ (i := 5) (N := some 55) #[true, true, true, true, true, true, false, false, true, true, true, true, false, false] rfl rfl (one_of HT_.out (by kernel_rfl)) (by decide) (fun K hK => ?_)
              refine Kd.R_append_rows_step (Kd.int .i64) (w0 := w) w.heap.size (by rfl) (.tmp 52) (.tmp 54) 26 3 (.int .i64 0) 8 rfl Try.underlying26 info3 rfl (by decide) (by omega) v257 y256 l1_1 _ _ _ (fun k_ => (w.heap.size ≤ k_)) (fun _ => False) rfl rfl ?aO ?aR (fun _ _ h => h) (fun _ h => h.elim) ?aF ?aB ?aS ?aL ?_
              (case aR => exact aC)
              (case aB => exact aG)
              (case aF => exact (fun k_ hk => (Nat.le_trans (below_size aG) hk)))
              (case aO => exact (by (with_reducible repeat (first | apply Kd.R_alloc | apply Kd.R_drewN | apply Kd.R_drew)); exact Kd.R_mono HO258.out (fun _ hk => hk.1)))
              (case aS => exact (below_size aG))
              (case aL => have := LMc81.out; omega)
              intro v260 w95 ho hb hg hat
              rw [← Ny259.out] at ho
              have n0_ := aM (Kd.R_over' (aR HO_251000) (Kd.R_typed (aR HO258)) (by decide) hg)
              have n1_ := aM (Kd.N_afterv (ok := (fun k_ => (w.heap.size ≤ k_) ∧ some k_ ≠ (.slice Ao13 t244.length co13 : Value).ownBlock ∧ k_ ≠ gb241 ∧ k_ ≠ gb242 ∧ k_ ≠ gb243 ∧ k_ ≠ gb250)) (by (with_reducible repeat (first | apply Kd.N_alloc | apply Kd.N_drewN | apply Kd.N_drew)); exact HO_251001.out) hg hat)
              have n2_ := aM (blk_grown (g := gb241) (o := .cells #[.slice A0_0 l0_0.length c0_0, .slice A0_1 l0_1.length c0_1] 31 (0, 0)) aK hg (Kd.R_ne HO258.out BK241.out (by decide)))
              have n3_ := aM (blk_grown (g := gb242) (o := .cells #[.int .i64 a1_0, .slice A1_1 l1_1.length c1_1] 45 (0, 0)) aK hg (Kd.R_ne HO258.out BK242.out (by decide)))
              have n4_ := aM (blk_grown (g := gb243) (o := .cells #[.slice none 0 0, .slice none 0 0] 31 (0, 0)) aK hg (Kd.R_ne HO258.out BK243.out (by decide)))
              have n5_ := aM (blk_grown (g := gb250) (o := .cells #[.slice Ao13 t244.length co13, .slice (some ad254) t247.length co18] 31 (0, 0)) aK hg (Kd.R_ne HO258.out BK250.out (by decide)))
              have n6_ := aM (Kd.V_afterv (ok := (fun k_ => (w.heap.size ≤ k_) ∧ some k_ ≠ (.slice Ao13 t244.length co13 : Value).ownBlock ∧ some k_ ≠ (.slice (some ad254) t247.length co18 : Value).ownBlock ∧ k_ ≠ gb241 ∧ k_ ≠ gb242 ∧ k_ ≠ gb243 ∧ k_ ≠ gb250)) (by (with_reducible repeat (first | apply Kd.V_alloc | apply Kd.V_drewN | apply Kd.V_drew)); exact Kd.V_mono HL254_1.out (fun _ hk => ⟨⟨hk.1.1.1, ⟨hk.1.1.2.1, ⟨hk.1.2, ⟨hk.1.1.2.2.1, ⟨hk.1.1.2.2.2.1, ⟨hk.1.1.2.2.2.2.1, hk.1.1.2.2.2.2.2⟩⟩⟩⟩⟩⟩, hk.2⟩)) hg hat)
              have n7_ := aM (Kd.V_afterv (ok := (fun k_ => (w.heap.size ≤ k_) ∧ some k_ ≠ (.slice Ao13 t244.length co13 : Value).ownBlock ∧ k_ ≠ gb241 ∧ k_ ≠ gb242 ∧ k_ ≠ gb243 ∧ k_ ≠ gb250)) (by (with_reducible repeat (first | apply Kd.V_alloc | apply Kd.V_drewN | apply Kd.V_drew)); exact HO269.out) hg hat)
              have n8_ := aM (hb)
              have n9_ := aM (ho)
              clear HO_251000
              clear HO_251001
              clear BK241
              clear BK242
              clear BK243
              clear BK250
              clear HL254_1
              clear HO269
              clear HB
              clear HO258
              have HO_251000 := n0_
              have HO_251001 := n1_
              have BK241 := n2_
              have BK242 := n3_
              have BK243 := n4_
              have BK250 := n5_
              have HL254_1 := n6_
              have HO269 := n7_
              have HB := n8_
              have HO261 := n9_
              clear n0_ n1_ n2_ n3_ n4_ n5_ n6_ n7_ n8_ n9_
              clear ho hb hg hat
              obtain ⟨Ao96, co96, eo96⟩ := Kd.R_slice HO261.out
              (first | subst eo96 | (injection eo96 with f1_ f2_ f3_; have f4_ := f1_.symm; have f5_ := f3_.symm; clear f1_ f2_ f3_; subst f4_; subst f5_))
              refine hK.out _ _ ⟨(blk_cell BK242.out 0).trans rfl, (blk_cell BK242.out 1).trans rfl, (blk_cell BK250.out 0).trans rfl, (blk_cell BK250.out 1).trans rfl⟩ (fun hHeld => ?_)
              clear hK K
              refine norm_ (a' := ?_) ?_ ?_
              rotate_left
              ·show Act.put _ (some 55) _ = _
               simp only [Act.put, List.setIfInBounds_toArray, List.set_cons_zero, List.set_cons_succ, i64_w, i32_w]
               rfl
              refine pure_ (i := 6) (N := some 56) (v := ?_) (a' := ?_) #[true, true, true, true, true, true, true, false, true, true, true, true, false, false] rfl rfl (any_of HT_.out (by kernel_rfl)) (fun _ _ _ h => h) (Or.inl ⟨by rfl, ?_⟩) ?_ ?_
              rotate_left
              ·exact aI
              rotate_left
              ·exact aP
              refine one_ (i := 7) (N := some 57) #[true, true, true, true, true, true, true, true, true, true, true, true, false, false] rfl rfl (one_of HT_.out (by kernel_rfl)) (by decide) (fun K hK => ?_)
              refine Kd.N_lit_step k45 _ 45 ?hg (N' := 57) ?hd (xs := ([(⟨a1_0, y259⟩ : S45)] : List (S45))) (inner := [.int .i64 a1_0, .slice Ao96 y259.length co96]) (ok := (fun k_ => (w.heap.size ≤ k_) ∧ some k_ ≠ (.slice Ao13 t244.length co13 : Value).ownBlock ∧ some k_ ≠ (.slice (some ad254) t247.length co18 : Value).ownBlock ∧ k_ ≠ gb241 ∧ k_ ≠ gb242 ∧ k_ ≠ gb243 ∧ k_ ≠ gb250)) (okp := (fun k_ => (w.heap.size ≤ k_) ∧ some k_ ≠ (.slice Ao13 t244.length co13 : Value).ownBlock ∧ some k_ ≠ (.slice (some ad254) t247.length co18 : Value).ownBlock ∧ k_ ≠ gb241 ∧ k_ ≠ gb242 ∧ k_ ≠ gb243 ∧ k_ ≠ gb250)) ?hr ?hp (fun _ hk => hk) ((show ∀ k_, w95.heap.size ≤ k_ → (fun k_ => (w.heap.size ≤ k_) ∧ some k_ ≠ (.slice Ao13 t244.length co13 : Value).ownBlock ∧ some k_ ≠ (.slice (some ad254) t247.length co18 : Value).ownBlock ∧ k_ ≠ gb241 ∧ k_ ≠ gb242 ∧ k_ ≠ gb243 ∧ k_ ≠ gb250) k_ from fun k_ hk => ⟨(Nat.le_trans (below_size aG) hk), Kd.fresh' (Kd.R_lt (aR HO_251000)) k_ hk, Kd.fresh' (Kd.N_lt (by (with_reducible repeat (first | apply Kd.N_alloc | apply Kd.N_drewN | apply Kd.N_drew)); exact HO_251001.out)) k_ hk, Kd.freshB (g := gb241) (o := .cells #[.slice A0_0 l0_0.length c0_0, .slice A0_1 l0_1.length c0_1] 31 (0, 0)) aK k_ hk, Kd.freshB (g := gb242) (o := .cells #[.int .i64 a1_0, .slice A1_1 l1_1.length c1_1] 45 (0, 0)) aK k_ hk, Kd.freshB (g := gb243) (o := .cells #[.slice none 0 0, .slice none 0 0] 31 (0, 0)) aK k_ hk, Kd.freshB (g := gb250) (o := .cells #[.slice Ao13 t244.length co13, .slice (some ad254) t247.length co18] 31 (0, 0)) aK k_ hk⟩) _ (Nat.le_refl _)) (Below.refl _ _) (Nat.le_refl _) (by simp) ?_; (case hd => rfl); (case hg => rfl); (case hr => first | (go_simp; done) | (go_simp; rfl)); (case hp => exact (Reps.c2 (show Kd.FK k45 _ _ (⟨a1_0, y259⟩ : S45) [.int .i64 a1_0, .slice Ao96 y259.length co96] from (k45_mkF _ _ (⟨a1_0, y259⟩ : S45) (Kd.R_reads' (Kd.R_mono (ok' := (fun k_ => (w.heap.size ≤ k_) ∧ some k_ ≠ (.slice Ao13 t244.length co13 : Value).ownBlock ∧ some k_ ≠ (.slice (some ad254) t247.length co18 : Value).ownBlock ∧ k_ ≠ gb241 ∧ k_ ≠ gb242 ∧ k_ ≠ gb243 ∧ k_ ≠ gb250)) (Kd.R_types (Kd.R_types (Kd.R_types (Kd.R_types (Kd.R_apart' (Kd.R_apart' (HO261.out) (Kd.R_typed HO_251000.out) (by decide)) (Kd.N_typed HO_251001.out) (by decide)) BK241.out (by decide)) BK242.out (by decide)) BK243.out (by decide)) BK250.out (by decide)) (fun k_ hk => ⟨hk.1.1.1.1.1.1, ⟨hk.1.1.1.1.1.2, ⟨hk.1.1.1.1.2, ⟨hk.1.1.1.2, ⟨hk.1.1.2, ⟨hk.1.2, hk.2⟩⟩⟩⟩⟩⟩))).2.1 (Kd.R_F (Kd.R_mono (ok' := (fun k_ => (w.heap.size ≤ k_) ∧ some k_ ≠ (.slice Ao13 t244.length co13 : Value).ownBlock ∧ some k_ ≠ (.slice (some ad254) t247.length co18 : Value).ownBlock ∧ k_ ≠ gb241 ∧ k_ ≠ gb242 ∧ k_ ≠ gb243 ∧ k_ ≠ gb250)) (Kd.R_types (Kd.R_types (Kd.R_types (Kd.R_types (Kd.R_apart' (Kd.R_apart' (HO261.out) (Kd.R_typed HO_251000.out) (by decide)) (Kd.N_typed HO_251001.out) (by decide)) BK241.out (by decide)) BK242.out (by decide)) BK243.out (by decide)) BK250.out (by decide)) (fun k_ hk => ⟨hk.1.1.1.1.1.1, ⟨hk.1.1.1.1.1.2, ⟨hk.1.1.1.1.2, ⟨hk.1.1.1.2, ⟨hk.1.1.2, ⟨hk.1.2, hk.2⟩⟩⟩⟩⟩⟩))))) (Reps.none _ _)))
              intro v263 w97 ho98 hb hg_ hnew_
              clear hg_ hnew_
              (first | rw [← Ny262.out] at ho98 | (simp only [Int.reduceToNat] at ho98; rw [← Ny262.out] at ho98))
              have n0_ := aM (Kd.R_below (aR HO_251000) hb)
              have n1_ := aM (Kd.N_elder' (by (with_reducible repeat (first | apply Kd.N_alloc | apply Kd.N_drewN | apply Kd.N_drew)); exact HO_251001.out) (Kd.N_base ho98) hb)
              have n2_ := aM (Kd.V_elder' (by (with_reducible repeat (first | apply Kd.V_alloc | apply Kd.V_drewN | apply Kd.V_drew)); exact HL254_1.out) (Kd.N_base ho98) hb)
              have n3_ := aM (Kd.V_elder' (by (with_reducible repeat (first | apply Kd.V_alloc | apply Kd.V_drewN | apply Kd.V_drew)); exact HO269.out) (Kd.N_base ho98) hb)
              have n4_ := aM (Kd.N_lower ho98 (below_size aG))
              have n5_ := aM (blk_below (g := gb241) (o := .cells #[.slice A0_0 l0_0.length c0_0, .slice A0_1 l0_1.length c0_1] 31 (0, 0)) aK hb)
              have n6_ := aM (blk_below (g := gb242) (o := .cells #[.int .i64 a1_0, .slice A1_1 l1_1.length c1_1] 45 (0, 0)) aK hb)
              have n7_ := aM (blk_below (g := gb243) (o := .cells #[.slice none 0 0, .slice none 0 0] 31 (0, 0)) aK hb)
              have n8_ := aM (blk_below (g := gb250) (o := .cells #[.slice Ao13 t244.length co13, .slice (some ad254) t247.length co18] 31 (0, 0)) aK hb)
              have n9_ := aM (below_step aG hb)
              clear HO_251000
              clear HO_251001
              clear HL254_1
              clear HO269
              clear BK241
              clear BK242
              clear BK243
              clear BK250
              clear HB
              clear HO261
              have HO_251000 := n0_
              have HO_251001 := n1_
              have HL254_1 := n2_
              have HO269 := n3_
              have HO264 := n4_
              have BK241 := n5_
              have BK242 := n6_
              have BK243 := n7_
              have BK250 := n8_
              have HB := n9_
              clear n0_ n1_ n2_ n3_ n4_ n5_ n6_ n7_ n8_ n9_
              clear hb ho98
              refine hK.out _ _ ⟨(blk_cell BK242.out 0).trans rfl, (blk_cell BK242.out 1).trans rfl, (blk_cell BK250.out 0).trans rfl, (blk_cell BK250.out 1).trans rfl⟩ (fun hHeld => ?_)
              clear hK K
              refine norm_ (a' := ?_) ?_ ?_
              rotate_left
              ·show Act.put _ (some 57) _ = _
               simp only [Act.put, List.setIfInBounds_toArray, List.set_cons_zero, List.set_cons_succ, i64_w, i32_w]
               rfl
              refine one_ (i := 12) (N := some 62) #[true, true, true, true, true, true, true, true, true, true, true, true, true, false] rfl rfl (one_of HT_.out (by kernel_rfl)) (by decide) (fun K hK => ?_)
              refine Kd.N_append_rows_step k45 (w0 := w) w.heap.size (by rfl) (.tmp 57) (.tmp 61) 29 45 (.agg #[(.int .i64 0), (.slice none 0 0)]) 32 rfl Try.underlying29 info45 rfl (by decide) (by omega) v263 y262 y265 _ _ _ (fun k_ => (w.heap.size ≤ k_) ∧ some k_ ≠ (.slice Ao13 t244.length co13 : Value).ownBlock ∧ k_ ≠ gb241 ∧ k_ ≠ gb242 ∧ k_ ≠ gb243 ∧ k_ ≠ gb250) (fun k_ => ((fun k_ => (w.heap.size ≤ k_) ∧ some k_ ≠ (.slice Ao13 t244.length co13 : Value).ownBlock ∧ k_ ≠ gb241 ∧ k_ ≠ gb242 ∧ k_ ≠ gb243 ∧ k_ ≠ gb250)) k_ ∧ some k_ ≠ (v263 : Value).ownBlock) rfl rfl ?aO ?aR (fun _ hk => hk) ?aF ?aB ?aS ?aL ?_
              (case aR => exact (by skip; exact Kd.V_F (Kd.V_mono (ok' := (fun k_ => ((fun k_ => (w.heap.size ≤ k_) ∧ some k_ ≠ (.slice Ao13 t244.length co13 : Value).ownBlock ∧ k_ ≠ gb241 ∧ k_ ≠ gb242 ∧ k_ ≠ gb243 ∧ k_ ≠ gb250)) k_ ∧ some k_ ≠ (v263 : Value).ownBlock)) (HO269.out) (fun k_ hk => ⟨⟨hk.1.1.1, ⟨hk.1.1.2.1, ⟨hk.1.1.2.2.1, ⟨hk.1.1.2.2.2.1, ⟨hk.1.1.2.2.2.2.1, hk.1.1.2.2.2.2.2⟩⟩⟩⟩⟩, hk.2⟩))))
              (case aB => exact aG)
              (case aF => exact (fun k_ hk => ⟨(Nat.le_trans (below_size aG) hk), Kd.fresh' (Kd.R_lt (aR HO_251000)) k_ hk, Kd.freshB (g := gb241) (o := .cells #[.slice A0_0 l0_0.length c0_0, .slice A0_1 l0_1.length c0_1] 31 (0, 0)) aK k_ hk, Kd.freshB (g := gb242) (o := .cells #[.int .i64 a1_0, .slice A1_1 l1_1.length c1_1] 45 (0, 0)) aK k_ hk, Kd.freshB (g := gb243) (o := .cells #[.slice none 0 0, .slice none 0 0] 31 (0, 0)) aK k_ hk, Kd.freshB (g := gb250) (o := .cells #[.slice Ao13 t244.length co13, .slice (some ad254) t247.length co18] 31 (0, 0)) aK k_ hk⟩))
              (case aO => exact (by (with_reducible repeat (first | apply Kd.N_alloc | apply Kd.N_drewN | apply Kd.N_drew)); exact Kd.N_mono HO264.out (fun _ hk => ⟨hk.1, ⟨hk.2.1, ⟨hk.2.2.2.1, ⟨hk.2.2.2.2.1, ⟨hk.2.2.2.2.2.1, hk.2.2.2.2.2.2⟩⟩⟩⟩⟩)))
              (case aS => exact (below_size aG))
              (case aL => have := LMc84.out; omega)
              intro v271 w99 ho hb hg hat
              rw [← Ny270.out] at ho
              have n0_ := aM (Kd.R_over' (aR HO_251000) (Kd.N_typed (by (with_reducible repeat (first | apply Kd.N_alloc | apply Kd.N_drewN | apply Kd.N_drew)); exact HO264.out)) (by decide) hg)
              have n1_ := aM (Kd.N_afterv (ok := (fun k_ => (w.heap.size ≤ k_) ∧ some k_ ≠ (.slice Ao13 t244.length co13 : Value).ownBlock ∧ k_ ≠ gb241 ∧ k_ ≠ gb242 ∧ k_ ≠ gb243 ∧ k_ ≠ gb250)) (by (with_reducible repeat (first | apply Kd.N_alloc | apply Kd.N_drewN | apply Kd.N_drew)); exact Kd.N_mono HO_251001.out (fun _ hk => ⟨⟨hk.1.1.1, ⟨hk.1.1.2.1, ⟨hk.1.1.2.2.1, ⟨hk.1.1.2.2.2.1, ⟨hk.1.1.2.2.2.2.1, hk.1.1.2.2.2.2.2⟩⟩⟩⟩⟩, hk.2⟩)) hg hat)
              have n2_ := aM (blk_grown (g := gb241) (o := .cells #[.slice A0_0 l0_0.length c0_0, .slice A0_1 l0_1.length c0_1] 31 (0, 0)) aK hg (Kd.N_ne HO264.out BK241.out (by decide)))
              have n3_ := aM (blk_grown (g := gb242) (o := .cells #[.int .i64 a1_0, .slice A1_1 l1_1.length c1_1] 45 (0, 0)) aK hg (Kd.N_away HO264.out (fun _ hk => hk.2.2.2.2.1)))
              have n4_ := aM (blk_grown (g := gb243) (o := .cells #[.slice none 0 0, .slice none 0 0] 31 (0, 0)) aK hg (Kd.N_ne HO264.out BK243.out (by decide)))
              have n5_ := aM (blk_grown (g := gb250) (o := .cells #[.slice Ao13 t244.length co13, .slice (some ad254) t247.length co18] 31 (0, 0)) aK hg (Kd.N_ne HO264.out BK250.out (by decide)))
              have n6_ := aM (Kd.V_afterv (ok := (fun k_ => (w.heap.size ≤ k_) ∧ some k_ ≠ (.slice Ao13 t244.length co13 : Value).ownBlock ∧ some k_ ≠ (.slice (some ad254) t247.length co18 : Value).ownBlock ∧ k_ ≠ gb241 ∧ k_ ≠ gb242 ∧ k_ ≠ gb243 ∧ k_ ≠ gb250)) (by (with_reducible repeat (first | apply Kd.V_alloc | apply Kd.V_drewN | apply Kd.V_drew)); exact Kd.V_mono HL254_1.out (fun _ hk => ⟨⟨hk.1.1.1, ⟨hk.1.1.2.1, ⟨hk.1.1.2.2.1, ⟨hk.1.1.2.2.2.1, ⟨hk.1.1.2.2.2.2.1, ⟨hk.1.1.2.2.2.2.2.1, hk.1.1.2.2.2.2.2.2⟩⟩⟩⟩⟩⟩, hk.2⟩)) hg hat)
              have n7_ := aM (Kd.V_afterv (ok := (fun k_ => (w.heap.size ≤ k_) ∧ some k_ ≠ (.slice Ao13 t244.length co13 : Value).ownBlock ∧ k_ ≠ gb241 ∧ k_ ≠ gb242 ∧ k_ ≠ gb243 ∧ k_ ≠ gb250)) (by (with_reducible repeat (first | apply Kd.V_alloc | apply Kd.V_drewN | apply Kd.V_drew)); exact Kd.V_mono HO269.out (fun _ hk => ⟨⟨hk.1.1.1, ⟨hk.1.1.2.1, ⟨hk.1.1.2.2.1, ⟨hk.1.1.2.2.2.1, ⟨hk.1.1.2.2.2.2.1, hk.1.1.2.2.2.2.2⟩⟩⟩⟩⟩, hk.2⟩)) hg hat)
              have n8_ := aM (hb)
              have n9_ := aM (ho)
              clear HO_251000
              clear HO_251001
              clear BK241
              clear BK242
              clear BK243
              clear BK250
              clear HL254_1
              clear HO269
              clear HB
              clear HO264
              have HO_251000 := n0_
              have HO_251001 := n1_
              have BK241 := n2_
              have BK242 := n3_
              have BK243 := n4_
              have BK250 := n5_
              have HL254_1 := n6_
              have HO269 := n7_
              have HB := n8_
              have HO272 := n9_
              clear n0_ n1_ n2_ n3_ n4_ n5_ n6_ n7_ n8_ n9_
              clear ho hb hg hat
              refine hK.out _ _ ⟨(blk_cell BK242.out 0).trans rfl, (blk_cell BK242.out 1).trans rfl, (blk_cell BK250.out 0).trans rfl, (blk_cell BK250.out 1).trans rfl⟩ (fun hHeld => ?_)
              clear hK K
              refine norm_ (a' := ?_) ?_ ?_
              rotate_left
              ·show Act.put _ (some 62) _ = _
               simp only [Act.put, List.setIfInBounds_toArray, List.set_cons_zero, List.set_cons_succ, i64_w, i32_w]
               rfl
              refine pure_ (i := 13) (N := some 8) (v := ?_) (a' := ?_) #[true, true, true, true, true, true, true, true, true, true, true, true, true, true] rfl rfl (any_of HT_.out (by kernel_rfl)) (fun _ _ _ h => h) (Or.inl ⟨by rfl, ?_⟩) ?_ ?_
              rotate_left
              ·exact aI
              rotate_left
              ·exact aP
              refine done_ (done_of HT_.out (by kernel_rfl)) ?_
              try go_wp2_with (first | ((with_reducible refine gate_dst (N := 63) rfl ?_); (try (refine gate_guard (by rfl) ?_; dsimp only)); refine Kd.N_lit k45 _ 45 ?hg (N' := 63) ?hd (xs := ([] : List (S45))) (inner := []) (ok := (fun k_ => (w.heap.size ≤ k_) ∧ some k_ ≠ (.slice Ao13 t244.length co13 : Value).ownBlock ∧ some k_ ≠ (.slice (some ad254) t247.length co18 : Value).ownBlock ∧ some k_ ≠ (v271 : Value).ownBlock ∧ k_ ≠ gb241 ∧ k_ ≠ gb242 ∧ k_ ≠ gb243 ∧ k_ ≠ gb250)) (okp := (fun k_ => (w.heap.size ≤ k_) ∧ some k_ ≠ (.slice Ao13 t244.length co13 : Value).ownBlock ∧ some k_ ≠ (.slice (some ad254) t247.length co18 : Value).ownBlock ∧ some k_ ≠ (v271 : Value).ownBlock ∧ k_ ≠ gb241 ∧ k_ ≠ gb242 ∧ k_ ≠ gb243 ∧ k_ ≠ gb250)) ?hr ?hp (fun _ hk => hk) ((show ∀ k_, w99.heap.size ≤ k_ → (fun k_ => (w.heap.size ≤ k_) ∧ some k_ ≠ (.slice Ao13 t244.length co13 : Value).ownBlock ∧ some k_ ≠ (.slice (some ad254) t247.length co18 : Value).ownBlock ∧ some k_ ≠ (v271 : Value).ownBlock ∧ k_ ≠ gb241 ∧ k_ ≠ gb242 ∧ k_ ≠ gb243 ∧ k_ ≠ gb250) k_ from fun k_ hk => ⟨(Nat.le_trans (below_size aG) hk), Kd.fresh' (Kd.R_lt (aR HO_251000)) k_ hk, Kd.fresh' (Kd.N_lt (by (with_reducible repeat (first | apply Kd.N_alloc | apply Kd.N_drewN | apply Kd.N_drew)); exact HO_251001.out)) k_ hk, Kd.fresh' (Kd.N_lt (by (with_reducible repeat (first | apply Kd.N_alloc | apply Kd.N_drewN | apply Kd.N_drew)); exact HO272.out)) k_ hk, Kd.freshB (g := gb241) (o := .cells #[.slice A0_0 l0_0.length c0_0, .slice A0_1 l0_1.length c0_1] 31 (0, 0)) aK k_ hk, Kd.freshB (g := gb242) (o := .cells #[.int .i64 a1_0, .slice A1_1 l1_1.length c1_1] 45 (0, 0)) aK k_ hk, Kd.freshB (g := gb243) (o := .cells #[.slice none 0 0, .slice none 0 0] 31 (0, 0)) aK k_ hk, Kd.freshB (g := gb250) (o := .cells #[.slice Ao13 t244.length co13, .slice (some ad254) t247.length co18] 31 (0, 0)) aK k_ hk⟩) _ (Nat.le_refl _)) (Below.refl _ _) (Nat.le_refl _) (by simp) ?_; (case hd => rfl); (case hg => rfl); (case hr => first | (go_simp; done) | (go_simp; rfl)); (case hp => exact (Reps.none _ _)); intro v274 w100 ho101 hb hg_ hnew_; clear hg_ hnew_; (first | rw [← Ny273.out] at ho101 | (simp only [Int.reduceToNat] at ho101; rw [← Ny273.out] at ho101)); have n0_ := aM (Kd.R_below (aR HO_251000) hb); have n1_ := aM (Kd.N_elder' (by (with_reducible repeat (first | apply Kd.N_alloc | apply Kd.N_drewN | apply Kd.N_drew)); exact HO_251001.out) (Kd.N_base ho101) hb); have n2_ := aM (Kd.V_elder' (by (with_reducible repeat (first | apply Kd.V_alloc | apply Kd.V_drewN | apply Kd.V_drew)); exact HL254_1.out) (Kd.N_base ho101) hb); have n3_ := aM (Kd.V_elder' (by (with_reducible repeat (first | apply Kd.V_alloc | apply Kd.V_drewN | apply Kd.V_drew)); exact HO269.out) (Kd.N_base ho101) hb); have n4_ := aM (Kd.N_elder' (by (with_reducible repeat (first | apply Kd.N_alloc | apply Kd.N_drewN | apply Kd.N_drew)); exact HO272.out) (Kd.N_base ho101) hb); have n5_ := aM (Kd.N_lower ho101 (below_size aG)); have n6_ := aM (blk_below (g := gb241) (o := .cells #[.slice A0_0 l0_0.length c0_0, .slice A0_1 l0_1.length c0_1] 31 (0, 0)) aK hb); have n7_ := aM (blk_below (g := gb242) (o := .cells #[.int .i64 a1_0, .slice A1_1 l1_1.length c1_1] 45 (0, 0)) aK hb); have n8_ := aM (blk_below (g := gb243) (o := .cells #[.slice none 0 0, .slice none 0 0] 31 (0, 0)) aK hb); have n9_ := aM (blk_below (g := gb250) (o := .cells #[.slice Ao13 t244.length co13, .slice (some ad254) t247.length co18] 31 (0, 0)) aK hb); have n10_ := aM (below_step aG hb); clear HO_251000; clear HO_251001; clear HL254_1; clear HO269; clear HO272; clear BK241; clear BK242; clear BK243; clear BK250; clear HB; have HO_251000 := n0_; have HO_251001 := n1_; have HL254_1 := n2_; have HO269 := n3_; have HO272 := n4_; have HO275 := n5_; have BK241 := n6_; have BK242 := n7_; have BK243 := n8_; have BK250 := n9_; have HB := n10_; clear n0_ n1_ n2_ n3_ n4_ n5_ n6_ n7_ n8_ n9_ n10_; clear hb ho101; have hnb102 := NB250_241.out; have hnc102 := NB241_250.out; have hnb103 := NB250_242.out; have hnc103 := NB242_250.out; have hnb104 := NB250_243.out; have hnc104 := NB243_250.out; have hcz105_0 : w100.cell? ⟨gb250, 0, none⟩ = some (.slice Ao13 t244.length co13) := (blk_cell BK250.out 0).trans rfl; have hcz105_1 : w100.cell? ⟨gb250, 1, none⟩ = some (.slice (some ad254) t247.length co18) := (blk_cell BK250.out 1).trans rfl; have hfz105_0 := blk_frozen BK250.out 0; have hfz105_1 := blk_frozen BK250.out 1; have q106 : (x7_2 : Int) ≤ ((t247.length : Int) : Int) := aD; obtain ⟨i0106, hi0106, _, hsz106, _⟩ := info_parts info45; have hroom106 : t247.length ≤ co18 := (Kd.N_reads' HO_251001.out).2.1; have hC106 : Kd.F k45 _ _ (some ad254) t247.length t247 := (Kd.V_at (base := w.heap.size) (Kd.N_V HO_251001.out)).2.2; have hcut106 := cut_to (P := Try.prog) 29 45 .i64 Try.underlying29 hi0106 (some ad254) t247.length co18 x7_2 (aD) q106 hroom106; have hr106 := Kd.F_take (m := (x7_2 : Int).toNat) hC106 (by omega); have hy106 : y276.length = (x7_2 : Int).toNat := (by rw [Ny276.out, List.length_take]; omega); rw [← Ny276.out] at hr106; rw [← hy106] at hcut106; have HO280 := aM (show Kd.V k45 45 _ w.heap.size _ (.slice (some ad254) y276.length co18) y276 from Kd.V_mk (by omega) hr106); have HC280 := aM (show y276.length ≤ co18 from by omega); clear hr106 hC106 hroom106 hi0106 hsz106; have KY106 := aM hy106; clear hy106; replace q106 := eq_true q106) | ((with_reducible refine gate_builtin (b := .append) (xs := #[.tmp 63, .tmp 67]) rfl ?_); (try (refine gate_guard (by rfl) ?_; dsimp only)); at_builtin; refine Kd.N_append_rows k45 (w0 := w) w.heap.size rfl (.tmp 63) (.tmp 67) 29 45 (.agg #[(.int .i64 0), (.slice none 0 0)]) 32 rfl Try.underlying29 info45 rfl (by decide) (by omega) v274 y273 y276 _ _ _ (fun k_ => (w.heap.size ≤ k_) ∧ some k_ ≠ (.slice Ao13 t244.length co13 : Value).ownBlock ∧ some k_ ≠ (v271 : Value).ownBlock ∧ k_ ≠ gb241 ∧ k_ ≠ gb242 ∧ k_ ≠ gb243 ∧ k_ ≠ gb250) (fun k_ => ((fun k_ => (w.heap.size ≤ k_) ∧ some k_ ≠ (.slice Ao13 t244.length co13 : Value).ownBlock ∧ some k_ ≠ (v271 : Value).ownBlock ∧ k_ ≠ gb241 ∧ k_ ≠ gb242 ∧ k_ ≠ gb243 ∧ k_ ≠ gb250)) k_ ∧ some k_ ≠ (v274 : Value).ownBlock) rfl rfl ?aO ?aR (fun _ hk => hk) ?aF ?aB ?aS ?aL ?_; (case aR => exact (by skip; exact Kd.V_F (Kd.V_mono (ok' := (fun k_ => ((fun k_ => (w.heap.size ≤ k_) ∧ some k_ ≠ (.slice Ao13 t244.length co13 : Value).ownBlock ∧ some k_ ≠ (v271 : Value).ownBlock ∧ k_ ≠ gb241 ∧ k_ ≠ gb242 ∧ k_ ≠ gb243 ∧ k_ ≠ gb250)) k_ ∧ some k_ ≠ (v274 : Value).ownBlock)) (HO280.out) (fun k_ hk => ⟨⟨hk.1.1.1, ⟨hk.1.1.2.1, ⟨hk.1.2, ⟨hk.1.1.2.2.1, ⟨hk.1.1.2.2.2.1, ⟨hk.1.1.2.2.2.2.1, hk.1.1.2.2.2.2.2⟩⟩⟩⟩⟩⟩, hk.2⟩)))); (case aB => exact aG); (case aF => exact (fun k_ hk => ⟨(Nat.le_trans (below_size aG) hk), Kd.fresh' (Kd.R_lt (aR HO_251000)) k_ hk, Kd.fresh' (Kd.N_lt (by (with_reducible repeat (first | apply Kd.N_alloc | apply Kd.N_drewN | apply Kd.N_drew)); exact HO272.out)) k_ hk, Kd.freshB (g := gb241) (o := .cells #[.slice A0_0 l0_0.length c0_0, .slice A0_1 l0_1.length c0_1] 31 (0, 0)) aK k_ hk, Kd.freshB (g := gb242) (o := .cells #[.int .i64 a1_0, .slice A1_1 l1_1.length c1_1] 45 (0, 0)) aK k_ hk, Kd.freshB (g := gb243) (o := .cells #[.slice none 0 0, .slice none 0 0] 31 (0, 0)) aK k_ hk, Kd.freshB (g := gb250) (o := .cells #[.slice Ao13 t244.length co13, .slice (some ad254) t247.length co18] 31 (0, 0)) aK k_ hk⟩)); (case aO => exact (by (with_reducible repeat (first | apply Kd.N_alloc | apply Kd.N_drewN | apply Kd.N_drew)); exact Kd.N_mono HO275.out (fun _ hk => ⟨hk.1, ⟨hk.2.1, ⟨hk.2.2.2.1, ⟨hk.2.2.2.2.1, ⟨hk.2.2.2.2.2.1, ⟨hk.2.2.2.2.2.2.1, hk.2.2.2.2.2.2.2⟩⟩⟩⟩⟩⟩))); (case aS => exact (below_size aG)); (case aL => have := LMc87.out; omega); intro v282 w107 ho hb hg hat; rw [← Ny281.out] at ho; have n0_ := aM (Kd.R_over' (aR HO_251000) (Kd.N_typed (by (with_reducible repeat (first | apply Kd.N_alloc | apply Kd.N_drewN | apply Kd.N_drew)); exact HO275.out)) (by decide) hg); have n1_ := aM (Kd.N_afterv (ok := (fun k_ => (w.heap.size ≤ k_) ∧ some k_ ≠ (.slice Ao13 t244.length co13 : Value).ownBlock ∧ some k_ ≠ (v271 : Value).ownBlock ∧ k_ ≠ gb241 ∧ k_ ≠ gb242 ∧ k_ ≠ gb243 ∧ k_ ≠ gb250)) (by (with_reducible repeat (first | apply Kd.N_alloc | apply Kd.N_drewN | apply Kd.N_drew)); exact Kd.N_mono HO_251001.out (fun _ hk => ⟨⟨hk.1.1.1, ⟨hk.1.1.2.1, ⟨hk.1.2, ⟨hk.1.1.2.2.1, ⟨hk.1.1.2.2.2.1, ⟨hk.1.1.2.2.2.2.1, hk.1.1.2.2.2.2.2⟩⟩⟩⟩⟩⟩, hk.2⟩)) hg hat); have n2_ := aM (blk_grown (g := gb241) (o := .cells #[.slice A0_0 l0_0.length c0_0, .slice A0_1 l0_1.length c0_1] 31 (0, 0)) aK hg (Kd.N_ne HO275.out BK241.out (by decide))); have n3_ := aM (blk_grown (g := gb242) (o := .cells #[.int .i64 a1_0, .slice A1_1 l1_1.length c1_1] 45 (0, 0)) aK hg (Kd.N_away HO275.out (fun _ hk => hk.2.2.2.2.2.1))); have n4_ := aM (blk_grown (g := gb243) (o := .cells #[.slice none 0 0, .slice none 0 0] 31 (0, 0)) aK hg (Kd.N_ne HO275.out BK243.out (by decide))); have n5_ := aM (blk_grown (g := gb250) (o := .cells #[.slice Ao13 t244.length co13, .slice (some ad254) t247.length co18] 31 (0, 0)) aK hg (Kd.N_ne HO275.out BK250.out (by decide))); have n6_ := aM (Kd.V_afterv (ok := (fun k_ => (w.heap.size ≤ k_) ∧ some k_ ≠ (.slice Ao13 t244.length co13 : Value).ownBlock ∧ some k_ ≠ (.slice (some ad254) t247.length co18 : Value).ownBlock ∧ some k_ ≠ (v271 : Value).ownBlock ∧ k_ ≠ gb241 ∧ k_ ≠ gb242 ∧ k_ ≠ gb243 ∧ k_ ≠ gb250)) (by (with_reducible repeat (first | apply Kd.V_alloc | apply Kd.V_drewN | apply Kd.V_drew)); exact Kd.V_mono HL254_1.out (fun _ hk => ⟨⟨hk.1.1.1, ⟨hk.1.1.2.1, ⟨hk.1.1.2.2.1, ⟨hk.1.2, ⟨hk.1.1.2.2.2.1, ⟨hk.1.1.2.2.2.2.1, ⟨hk.1.1.2.2.2.2.2.1, hk.1.1.2.2.2.2.2.2⟩⟩⟩⟩⟩⟩⟩, hk.2⟩)) hg hat); have n7_ := aM (Kd.V_afterv (ok := (fun k_ => (w.heap.size ≤ k_) ∧ some k_ ≠ (.slice Ao13 t244.length co13 : Value).ownBlock ∧ some k_ ≠ (v271 : Value).ownBlock ∧ k_ ≠ gb241 ∧ k_ ≠ gb242 ∧ k_ ≠ gb243 ∧ k_ ≠ gb250)) (by (with_reducible repeat (first | apply Kd.V_alloc | apply Kd.V_drewN | apply Kd.V_drew)); exact Kd.V_mono HO269.out (fun _ hk => ⟨⟨hk.1.1.1, ⟨hk.1.1.2.1, ⟨hk.1.2, ⟨hk.1.1.2.2.1, ⟨hk.1.1.2.2.2.1, ⟨hk.1.1.2.2.2.2.1, hk.1.1.2.2.2.2.2⟩⟩⟩⟩⟩⟩, hk.2⟩)) hg hat); have n8_ := aM (Kd.N_afterv (ok := (fun k_ => (w.heap.size ≤ k_) ∧ some k_ ≠ (.slice Ao13 t244.length co13 : Value).ownBlock ∧ k_ ≠ gb241 ∧ k_ ≠ gb242 ∧ k_ ≠ gb243 ∧ k_ ≠ gb250)) (by (with_reducible repeat (first | apply Kd.N_alloc | apply Kd.N_drewN | apply Kd.N_drew)); exact HO272.out) hg hat); have n9_ := aM (Kd.V_afterv (ok := (fun k_ => (w.heap.size ≤ k_) ∧ some k_ ≠ (.slice Ao13 t244.length co13 : Value).ownBlock ∧ some k_ ≠ (v271 : Value).ownBlock ∧ k_ ≠ gb241 ∧ k_ ≠ gb242 ∧ k_ ≠ gb243 ∧ k_ ≠ gb250)) (by (with_reducible repeat (first | apply Kd.V_alloc | apply Kd.V_drewN | apply Kd.V_drew)); exact Kd.V_mono HO280.out (fun _ hk => ⟨⟨hk.1.1.1, ⟨hk.1.1.2.1, ⟨hk.1.2, ⟨hk.1.1.2.2.1, ⟨hk.1.1.2.2.2.1, ⟨hk.1.1.2.2.2.2.1, hk.1.1.2.2.2.2.2⟩⟩⟩⟩⟩⟩, hk.2⟩)) hg hat); have n10_ := aM (hb); have n11_ := aM (ho); clear HO_251000; clear HO_251001; clear BK241; clear BK242; clear BK243; clear BK250; clear HL254_1; clear HO269; clear HO272; clear HO280; clear HB; clear HO275; have HO_251000 := n0_; have HO_251001 := n1_; have BK241 := n2_; have BK242 := n3_; have BK243 := n4_; have BK250 := n5_; have HL254_1 := n6_; have HO269 := n7_; have HO272 := n8_; have HO280 := n9_; have HB := n10_; have HO283 := n11_; clear n0_ n1_ n2_ n3_ n4_ n5_ n6_ n7_ n8_ n9_ n10_ n11_; clear ho hb hg hat; obtain ⟨Ao109, co109, eo109⟩ := Kd.N_slice HO272.out; subst eo109) | ((with_reducible refine gate_builtin (b := .append) (xs := #[.tmp 68, .tmp 69]) rfl ?_); (try (refine gate_guard (by rfl) ?_; dsimp only)); at_builtin; refine Kd.N_append_rows k45 (w0 := w) w.heap.size rfl (.tmp 68) (.tmp 69) 29 45 (.agg #[(.int .i64 0), (.slice none 0 0)]) 32 rfl Try.underlying29 info45 rfl (by decide) (by omega) v282 y281 y270 _ _ _ (fun k_ => (w.heap.size ≤ k_) ∧ some k_ ≠ (.slice Ao13 t244.length co13 : Value).ownBlock ∧ k_ ≠ gb241 ∧ k_ ≠ gb242 ∧ k_ ≠ gb243 ∧ k_ ≠ gb250) (fun k_ => ((fun k_ => (w.heap.size ≤ k_) ∧ some k_ ≠ (.slice Ao13 t244.length co13 : Value).ownBlock ∧ k_ ≠ gb241 ∧ k_ ≠ gb242 ∧ k_ ≠ gb243 ∧ k_ ≠ gb250)) k_ ∧ some k_ ≠ (v282 : Value).ownBlock) rfl rfl ?aO ?aR (fun _ hk => hk) ?aF ?aB ?aS ?aL ?_; (case aR => exact (by skip; exact Kd.N_F (Kd.N_mono (ok' := (fun k_ => ((fun k_ => (w.heap.size ≤ k_) ∧ some k_ ≠ (.slice Ao13 t244.length co13 : Value).ownBlock ∧ k_ ≠ gb241 ∧ k_ ≠ gb242 ∧ k_ ≠ gb243 ∧ k_ ≠ gb250)) k_ ∧ some k_ ≠ (v282 : Value).ownBlock)) (HO272.out) (fun k_ hk => ⟨⟨hk.1.1, ⟨hk.1.2.1, ⟨hk.1.2.2.1, ⟨hk.1.2.2.2.1, ⟨hk.1.2.2.2.2.1, hk.1.2.2.2.2.2⟩⟩⟩⟩⟩, hk.2⟩)))); (case aB => exact aG); (case aF => exact (fun k_ hk => ⟨(Nat.le_trans (below_size aG) hk), Kd.fresh' (Kd.R_lt (aR HO_251000)) k_ hk, Kd.freshB (g := gb241) (o := .cells #[.slice A0_0 l0_0.length c0_0, .slice A0_1 l0_1.length c0_1] 31 (0, 0)) aK k_ hk, Kd.freshB (g := gb242) (o := .cells #[.int .i64 a1_0, .slice A1_1 l1_1.length c1_1] 45 (0, 0)) aK k_ hk, Kd.freshB (g := gb243) (o := .cells #[.slice none 0 0, .slice none 0 0] 31 (0, 0)) aK k_ hk, Kd.freshB (g := gb250) (o := .cells #[.slice Ao13 t244.length co13, .slice (some ad254) t247.length co18] 31 (0, 0)) aK k_ hk⟩)); (case aO => exact (by (with_reducible repeat (first | apply Kd.N_alloc | apply Kd.N_drewN | apply Kd.N_drew)); exact Kd.N_mono HO283.out (fun _ hk => ⟨hk.1, ⟨hk.2.1, ⟨hk.2.2.2.1, ⟨hk.2.2.2.2.1, ⟨hk.2.2.2.2.2.1, hk.2.2.2.2.2.2⟩⟩⟩⟩⟩))); (case aS => exact (below_size aG)); (case aL => have := LMc88.out; omega); intro v285 w108 ho hb hg hat; rw [← Ny284.out] at ho; have n0_ := aM (Kd.R_over' (aR HO_251000) (Kd.N_typed (by (with_reducible repeat (first | apply Kd.N_alloc | apply Kd.N_drewN | apply Kd.N_drew)); exact HO283.out)) (by decide) hg); have n1_ := aM (Kd.N_afterv (ok := (fun k_ => (w.heap.size ≤ k_) ∧ some k_ ≠ (.slice Ao13 t244.length co13 : Value).ownBlock ∧ some k_ ≠ (.slice Ao109 y270.length co109 : Value).ownBlock ∧ k_ ≠ gb241 ∧ k_ ≠ gb242 ∧ k_ ≠ gb243 ∧ k_ ≠ gb250)) (by (with_reducible repeat (first | apply Kd.N_alloc | apply Kd.N_drewN | apply Kd.N_drew)); exact HO_251001.out) hg hat); have n2_ := aM (blk_grown (g := gb241) (o := .cells #[.slice A0_0 l0_0.length c0_0, .slice A0_1 l0_1.length c0_1] 31 (0, 0)) aK hg (Kd.N_ne HO283.out BK241.out (by decide))); have n3_ := aM (blk_grown (g := gb242) (o := .cells #[.int .i64 a1_0, .slice A1_1 l1_1.length c1_1] 45 (0, 0)) aK hg (Kd.N_away HO283.out (fun _ hk => hk.2.2.2.2.1))); have n4_ := aM (blk_grown (g := gb243) (o := .cells #[.slice none 0 0, .slice none 0 0] 31 (0, 0)) aK hg (Kd.N_ne HO283.out BK243.out (by decide))); have n5_ := aM (blk_grown (g := gb250) (o := .cells #[.slice Ao13 t244.length co13, .slice (some ad254) t247.length co18] 31 (0, 0)) aK hg (Kd.N_ne HO283.out BK250.out (by decide))); have n6_ := aM (Kd.V_afterv (ok := (fun k_ => (w.heap.size ≤ k_) ∧ some k_ ≠ (.slice Ao13 t244.length co13 : Value).ownBlock ∧ some k_ ≠ (.slice (some ad254) t247.length co18 : Value).ownBlock ∧ some k_ ≠ (.slice Ao109 y270.length co109 : Value).ownBlock ∧ k_ ≠ gb241 ∧ k_ ≠ gb242 ∧ k_ ≠ gb243 ∧ k_ ≠ gb250)) (by (with_reducible repeat (first | apply Kd.V_alloc | apply Kd.V_drewN | apply Kd.V_drew)); exact HL254_1.out) hg hat); have n7_ := aM (Kd.V_afterv (ok := (fun k_ => (w.heap.size ≤ k_) ∧ some k_ ≠ (.slice Ao13 t244.length co13 : Value).ownBlock ∧ some k_ ≠ (.slice Ao109 y270.length co109 : Value).ownBlock ∧ k_ ≠ gb241 ∧ k_ ≠ gb242 ∧ k_ ≠ gb243 ∧ k_ ≠ gb250)) (by (with_reducible repeat (first | apply Kd.V_alloc | apply Kd.V_drewN | apply Kd.V_drew)); exact HO269.out) hg hat); have n8_ := aM (Kd.N_afterv (ok := (fun k_ => (w.heap.size ≤ k_) ∧ some k_ ≠ (.slice Ao13 t244.length co13 : Value).ownBlock ∧ k_ ≠ gb241 ∧ k_ ≠ gb242 ∧ k_ ≠ gb243 ∧ k_ ≠ gb250)) (by (with_reducible repeat (first | apply Kd.N_alloc | apply Kd.N_drewN | apply Kd.N_drew)); exact HO272.out) hg hat); have n9_ := aM (Kd.V_afterv (ok := (fun k_ => (w.heap.size ≤ k_) ∧ some k_ ≠ (.slice Ao13 t244.length co13 : Value).ownBlock ∧ some k_ ≠ (.slice Ao109 y270.length co109 : Value).ownBlock ∧ k_ ≠ gb241 ∧ k_ ≠ gb242 ∧ k_ ≠ gb243 ∧ k_ ≠ gb250)) (by (with_reducible repeat (first | apply Kd.V_alloc | apply Kd.V_drewN | apply Kd.V_drew)); exact HO280.out) hg hat); have n10_ := aM (hb); have n11_ := aM (ho); clear HO_251000; clear HO_251001; clear BK241; clear BK242; clear BK243; clear BK250; clear HL254_1; clear HO269; clear HO272; clear HO280; clear HB; clear HO283; have HO_251000 := n0_; have HO_251001 := n1_; have BK241 := n2_; have BK242 := n3_; have BK243 := n4_; have BK250 := n5_; have HL254_1 := n6_; have HO269 := n7_; have HO272 := n8_; have HO280 := n9_; have HB := n10_; have HO286 := n11_; clear n0_ n1_ n2_ n3_ n4_ n5_ n6_ n7_ n8_ n9_ n10_ n11_; clear ho hb hg hat; obtain ⟨Ao110, co110, eo110⟩ := Kd.N_slice HO286.out; subst eo110; have hcz111_0 : w108.cell? ⟨gb250, 0, none⟩ = some (.slice Ao13 t244.length co13) := (blk_cell BK250.out 0).trans rfl; have hcz111_1 : w108.cell? ⟨gb250, 1, none⟩ = some (.slice (some ad254) t247.length co18) := (blk_cell BK250.out 1).trans rfl; have hfz111_0 := blk_frozen BK250.out 0; have hfz111_1 := blk_frozen BK250.out 1; have hnb112 := NB243_241.out; have hnc112 := NB241_243.out; have hnb113 := NB243_242.out; have hnc113 := NB242_243.out; have hcz114_0 : w108.cell? ⟨gb243, 0, none⟩ = some (.slice none 0 0) := (blk_cell BK243.out 0).trans rfl; have hcz114_1 : w108.cell? ⟨gb243, 1, none⟩ = some (.slice none 0 0) := (blk_cell BK243.out 1).trans rfl; have hfz114_0 := blk_frozen BK243.out 0; have hfz114_1 := blk_frozen BK243.out 1))
              refine bodyPost_ret (results_ct rfl _ _ gb243 31 #[.slice Ao13 t244.length co13, .slice Ao110 y284.length co110] (0, 0) _ rfl (by (with_reducible repeat (first | refine blk_drewN ?_ _ | refine blk_drew ?_ | refine blk_alloc ?_ _)); refine blk_put (cs := #[.slice Ao13 t244.length co13, .slice none 0 0]) ?_ 1 _ rfl; (with_reducible repeat (first | refine blk_drewN ?_ _ | refine blk_drew ?_ | refine blk_alloc ?_ _)); refine blk_put (cs := #[.slice none 0 0, .slice none 0 0]) ?_ 0 _ rfl; (with_reducible repeat (first | refine blk_drewN ?_ _ | refine blk_drew ?_ | refine blk_alloc ?_ _)); refine blk_far ?_ NB243_250.out _; (with_reducible repeat (first | refine blk_drewN ?_ _ | refine blk_drew ?_ | refine blk_alloc ?_ _)); exact BK243.out) Try.underlying31 rfl (by kernel_rfl)) rfl ?_
              exact ⟨_, _, by first | rfl | (simp [errW_none, errW_some] <;> rfl) | (simp [*, errW_none, errW_some] <;> rfl), by (with_reducible repeat (first | apply Kd.R_alloc | apply Kd.R_drewN | apply Kd.R_drew)); exact Kd.R_mono (Kd.R_far (p := ⟨gb243, 1, none⟩) (Kd.R_far (p := ⟨gb243, 0, none⟩) (Kd.R_far (p := ⟨gb250, 1, none⟩) (Kd.R_types (Kd.R_types HO_251000.out BK250.out (by decide)) BK243.out (by decide)) (fun _ hk => hk.1.2) (.slice Ao110 y284.length co110)) (fun _ hk => hk.2) (.slice Ao13 t244.length co13)) (fun _ hk => hk.2) (.slice Ao110 y284.length co110)) (fun _ hk => hk.1.1), by (with_reducible repeat (first | apply Kd.N_alloc | apply Kd.N_drewN | apply Kd.N_drew)); exact Kd.N_mono (Kd.N_far (p := ⟨gb243, 1, none⟩) (Kd.N_far (p := ⟨gb243, 0, none⟩) (Kd.N_far (p := ⟨gb250, 1, none⟩) (Kd.N_mono (Kd.N_mono HO286.out (fun k_ hk => (⟨hk, hk.2.2.2.2.2⟩ : _ ∧ k_ ≠ gb250))) (fun k_ hk => (⟨hk, hk.1.2.2.2.2.1⟩ : _ ∧ k_ ≠ gb243))) (fun _ hk => hk.1.2) (.slice Ao110 y284.length co110)) (fun _ hk => hk.2) (.slice Ao13 t244.length co13)) (fun _ hk => hk.2) (.slice Ao110 y284.length co110)) (fun _ hk => ⟨hk.1.1.1, hk.1.1.2.1⟩), by repeat (first | (with_reducible first | exact HB.out | apply below_alloc | apply pw_below_drewN | apply below_drew1 | refine below_set ?_ GE241.out | refine below_set ?_ GE242.out | refine below_set ?_ GE243.out | refine below_set ?_ GE250.out) | exact HB.out)⟩
             ·rw [if_neg c88] at H
              exact absurd H (by simp)
            ·rw [if_neg c87] at H
             exact absurd H (by simp)
           ·rw [if_neg c84] at H
            exact absurd H (by simp)
          ·rw [if_neg c83] at H
           exact absurd H (by simp)
         ·rw [if_neg c81] at H
          exact absurd H (by simp)
       ·rw [if_neg c76] at H
        exact absurd H (by simp)
      ·rw [if_neg c75] at H
       have c75b0 : decide (x7_2 < (t247.length : Int)) = false := decide_eq_false c75
       clear c75
       obtain ⟨y287, hy287⟩ : ∃ y_ : List Int, y_ = (([] : List Int)) := ⟨_, rfl⟩
       replace H : (if y287.length + l1_1.length < 17592186044416 then ((some (([(⟨a1_0, (y287 ++ l1_1)⟩ : S45)] : List (S45)) : List (S45))).bind fun y293 => (if 0 ≤ x7_2 then (if x7_2 ≤ (t247.length : Int) then ((some (t247.drop (x7_2 : Int).toNat : List (S45))).bind fun y296 => (if y293.length + y296.length < 4398046511104 then ((some (y293 ++ y296 : List (S45))).bind fun y301 => ((some (([] : List (S45)) : List (S45))).bind fun y304 => ((some (t247.take (x7_2 : Int).toNat : List (S45))).bind fun y307 => (if y304.length + y307.length < 4398046511104 then ((some (y304 ++ y307 : List (S45))).bind fun y312 => (if y312.length + y301.length < 4398046511104 then (some (t244, (y312 ++ y301), true)) else (none))) else (none))))) else (none))) else (none)) else (none))) else (none)) = some (r1, r2, r3) := by first | (rw [hy287]; with_reducible exact H) | (have H2_ := (Option.bind_some _ _).symm.trans H; rw [hy287]; with_reducible exact H2_) | (have H2_ := (Option.bind_some _ _).symm.trans H; with_reducible exact H2_) | with_reducible exact H | (rw [hy287]; exact H) | exact H
       have Ny287 := aM hy287
       clear hy287
       by_cases c115 : y287.length + l1_1.length < 17592186044416
       ·rw [if_pos c115] at H
        have LMc115 := aM c115
        clear c115
        obtain ⟨y290, hy290⟩ : ∃ y_ : List Int, y_ = (y287 ++ l1_1) := ⟨_, rfl⟩
        replace H : ((some (([(⟨a1_0, y290⟩ : S45)] : List (S45)) : List (S45))).bind fun y293 => (if 0 ≤ x7_2 then (if x7_2 ≤ (t247.length : Int) then ((some (t247.drop (x7_2 : Int).toNat : List (S45))).bind fun y296 => (if y293.length + y296.length < 4398046511104 then ((some (y293 ++ y296 : List (S45))).bind fun y301 => ((some (([] : List (S45)) : List (S45))).bind fun y304 => ((some (t247.take (x7_2 : Int).toNat : List (S45))).bind fun y307 => (if y304.length + y307.length < 4398046511104 then ((some (y304 ++ y307 : List (S45))).bind fun y312 => (if y312.length + y301.length < 4398046511104 then (some (t244, (y312 ++ y301), true)) else (none))) else (none))))) else (none))) else (none)) else (none))) = some (r1, r2, r3) := by first | (rw [hy290]; with_reducible exact H) | (have H2_ := (Option.bind_some _ _).symm.trans H; rw [hy290]; with_reducible exact H2_) | (have H2_ := (Option.bind_some _ _).symm.trans H; with_reducible exact H2_) | with_reducible exact H | (rw [hy290]; exact H) | exact H
        have Ny290 := aM hy290
        clear hy290
        obtain ⟨y293, hy293⟩ : ∃ y_ : List (S45), y_ = (([(⟨a1_0, y290⟩ : S45)] : List (S45))) := ⟨_, rfl⟩
        replace H : (if 0 ≤ x7_2 then (if x7_2 ≤ (t247.length : Int) then ((some (t247.drop (x7_2 : Int).toNat : List (S45))).bind fun y296 => (if y293.length + y296.length < 4398046511104 then ((some (y293 ++ y296 : List (S45))).bind fun y301 => ((some (([] : List (S45)) : List (S45))).bind fun y304 => ((some (t247.take (x7_2 : Int).toNat : List (S45))).bind fun y307 => (if y304.length + y307.length < 4398046511104 then ((some (y304 ++ y307 : List (S45))).bind fun y312 => (if y312.length + y301.length < 4398046511104 then (some (t244, (y312 ++ y301), true)) else (none))) else (none))))) else (none))) else (none)) else (none)) = some (r1, r2, r3) := by first | (rw [hy293]; with_reducible exact H) | (have H2_ := (Option.bind_some _ _).symm.trans H; rw [hy293]; with_reducible exact H2_) | (have H2_ := (Option.bind_some _ _).symm.trans H; with_reducible exact H2_) | with_reducible exact H | (rw [hy293]; exact H) | exact H
        have Ny293 := aM hy293
        clear hy293
        by_cases c116 : 0 ≤ x7_2
        ·rw [if_pos c116] at H
         have c116b0 := eq_true c116
         have c116b1 : decide (0 ≤ x7_2) = true := decide_eq_true c116
         clear c116
         by_cases c117 : x7_2 ≤ (t247.length : Int)
         ·rw [if_pos c117] at H
          have c117b0 := eq_true c117
          have c117b1 : decide (x7_2 ≤ (t247.length : Int)) = true := decide_eq_true c117
          clear c117
          obtain ⟨y296, hy296⟩ : ∃ y_ : List (S45), y_ = (t247.drop (x7_2 : Int).toNat) := ⟨_, rfl⟩
          replace H : (if y293.length + y296.length < 4398046511104 then ((some (y293 ++ y296 : List (S45))).bind fun y301 => ((some (([] : List (S45)) : List (S45))).bind fun y304 => ((some (t247.take (x7_2 : Int).toNat : List (S45))).bind fun y307 => (if y304.length + y307.length < 4398046511104 then ((some (y304 ++ y307 : List (S45))).bind fun y312 => (if y312.length + y301.length < 4398046511104 then (some (t244, (y312 ++ y301), true)) else (none))) else (none))))) else (none)) = some (r1, r2, r3) := by first | (rw [hy296]; with_reducible exact H) | (have H2_ := (Option.bind_some _ _).symm.trans H; rw [hy296]; with_reducible exact H2_) | (have H2_ := (Option.bind_some _ _).symm.trans H; with_reducible exact H2_) | with_reducible exact H | (rw [hy296]; exact H) | exact H
          have Ny296 := aM hy296
          clear hy296
          by_cases c118 : y293.length + y296.length < 4398046511104
          ·rw [if_pos c118] at H
           have LMc118 := aM c118
           clear c118
           obtain ⟨y301, hy301⟩ : ∃ y_ : List (S45), y_ = (y293 ++ y296) := ⟨_, rfl⟩
           replace H : ((some (([] : List (S45)) : List (S45))).bind fun y304 => ((some (t247.take (x7_2 : Int).toNat : List (S45))).bind fun y307 => (if y304.length + y307.length < 4398046511104 then ((some (y304 ++ y307 : List (S45))).bind fun y312 => (if y312.length + y301.length < 4398046511104 then (some (t244, (y312 ++ y301), true)) else (none))) else (none)))) = some (r1, r2, r3) := by first | (rw [hy301]; with_reducible exact H) | (have H2_ := (Option.bind_some _ _).symm.trans H; rw [hy301]; with_reducible exact H2_) | (have H2_ := (Option.bind_some _ _).symm.trans H; with_reducible exact H2_) | with_reducible exact H | (rw [hy301]; exact H) | exact H
           have Ny301 := aM hy301
           clear hy301
           obtain ⟨y304, hy304⟩ : ∃ y_ : List (S45), y_ = (([] : List (S45))) := ⟨_, rfl⟩
           replace H : ((some (t247.take (x7_2 : Int).toNat : List (S45))).bind fun y307 => (if y304.length + y307.length < 4398046511104 then ((some (y304 ++ y307 : List (S45))).bind fun y312 => (if y312.length + y301.length < 4398046511104 then (some (t244, (y312 ++ y301), true)) else (none))) else (none))) = some (r1, r2, r3) := by first | (rw [hy304]; with_reducible exact H) | (have H2_ := (Option.bind_some _ _).symm.trans H; rw [hy304]; with_reducible exact H2_) | (have H2_ := (Option.bind_some _ _).symm.trans H; with_reducible exact H2_) | with_reducible exact H | (rw [hy304]; exact H) | exact H
           have Ny304 := aM hy304
           clear hy304
           have c119b0 := eq_true (aD : 0 ≤ x7_2)
           have c120b0 := eq_true (aD : x7_2 ≤ (t247.length : Int))
           obtain ⟨y307, hy307⟩ : ∃ y_ : List (S45), y_ = (t247.take (x7_2 : Int).toNat) := ⟨_, rfl⟩
           replace H : (if y304.length + y307.length < 4398046511104 then ((some (y304 ++ y307 : List (S45))).bind fun y312 => (if y312.length + y301.length < 4398046511104 then (some (t244, (y312 ++ y301), true)) else (none))) else (none)) = some (r1, r2, r3) := by first | (rw [hy307]; with_reducible exact H) | (have H2_ := (Option.bind_some _ _).symm.trans H; rw [hy307]; with_reducible exact H2_) | (have H2_ := (Option.bind_some _ _).symm.trans H; with_reducible exact H2_) | with_reducible exact H | (rw [hy307]; exact H) | exact H
           have Ny307 := aM hy307
           clear hy307
           by_cases c121 : y304.length + y307.length < 4398046511104
           ·rw [if_pos c121] at H
            have LMc121 := aM c121
            clear c121
            obtain ⟨y312, hy312⟩ : ∃ y_ : List (S45), y_ = (y304 ++ y307) := ⟨_, rfl⟩
            replace H : (if y312.length + y301.length < 4398046511104 then (some (t244, (y312 ++ y301), true)) else (none)) = some (r1, r2, r3) := by first | (rw [hy312]; with_reducible exact H) | (have H2_ := (Option.bind_some _ _).symm.trans H; rw [hy312]; with_reducible exact H2_) | (have H2_ := (Option.bind_some _ _).symm.trans H; with_reducible exact H2_) | with_reducible exact H | (rw [hy312]; exact H) | exact H
            have Ny312 := aM hy312
            clear hy312
            by_cases c122 : y312.length + y301.length < 4398046511104
            ·rw [if_pos c122] at H
             have LMc122 := aM c122
             clear c122
             obtain ⟨y315, hy315⟩ : ∃ y_ : List (S45), y_ = (y312 ++ y301) := ⟨_, rfl⟩
             replace H : (some (t244, y315, true)) = some (r1, r2, r3) := by first | (rw [hy315]; with_reducible exact H) | (have H2_ := (Option.bind_some _ _).symm.trans H; rw [hy315]; with_reducible exact H2_) | (have H2_ := (Option.bind_some _ _).symm.trans H; with_reducible exact H2_) | with_reducible exact H | (rw [hy315]; exact H) | exact H
             have Ny315 := aM hy315
             clear hy315
             simp only [Option.some.injEq, Prod.mk.injEq] at H
             obtain ⟨rfl, rfl, rfl⟩ := H
             try go_wp2
             have n0_ := aM (Kd.R_drew HO_251000.out)
             have n1_ := aM (Kd.N_drew HO_251001.out)
             have n2_ := aM (blk_drew BK241.out)
             have n3_ := aM (blk_drew BK242.out)
             have n4_ := aM (blk_drew BK243.out)
             have n5_ := aM (blk_drew BK250.out)
             have n6_ := aM (below_drew1 HB.out)
             clear HO_251000
             clear HO_251001
             clear BK241
             clear BK242
             clear BK243
             clear BK250
             clear HB
             have HO_251000 := n0_
             have HO_251001 := n1_
             have BK241 := n2_
             have BK242 := n3_
             have BK243 := n4_
             have BK250 := n5_
             have HB := n6_
             clear n0_ n1_ n2_ n3_ n4_ n5_ n6_
             refine start_ (n := 15) (S := fun w' => w'.cell? ⟨gb250, 0, none⟩ = some (.slice Ao13 t244.length co13) ∧ w'.cell? ⟨gb250, 1, none⟩ = some (.slice Ao18 t247.length co18)) (ds := []) #[false, false, false, false, false, false, false, false, false, false, false, false, false, false, false] (by kernel_rfl) rfl rfl ⟨(blk_cell BK250.out 0).trans rfl, (blk_cell BK250.out 1).trans rfl⟩ (fun hHeld => ?_); refine with_tabW spec_InsertFact.tab5 spec_InsertFact.bits5 (fun HT_ HW_ => ?_)
             generalize wr.drew = w123 at HO_251000 HO_251001 BK241 BK242 BK243 BK250 HB hHeld ⊢
             refine pure_ (i := 0) (N := some 33) (v := ?_) (a' := ?_) #[true, false, false, false, false, false, false, false, false, false, false, false, false, false, false] rfl rfl (any_of HT_.out (by kernel_rfl)) (fun _ _ _ h => h) (Or.inl ⟨by rfl, ?_⟩) ?_ ?_
             rotate_left
             ·exact aI
             rotate_left
             ·exact aP
             refine pure_ (i := 1) (N := some 34) (v := ?_) (a' := ?_) #[true, true, false, false, false, false, false, false, false, false, false, false, false, false, false] rfl rfl (any_of HT_.out (by kernel_rfl)) (fun _ _ _ h => h) (Or.inl ⟨by rfl, ?_⟩) ?_ ?_
             rotate_left
             ·exact aI
             rotate_left
             ·exact aP
             refine take_ (i := 2) (N := some 35) (v := ?_) (a' := ?_) #[true, true, true, false, false, false, false, false, false, false, false, false, false, false, false] rfl rfl (take_ofW HT_.out HW_.out (by kernel_rfl)) (fun _ _ _ h => h) (Or.inl ⟨by rfl, ?_⟩) hHeld ?_ ?_
             rotate_left
             ·rintro w' ⟨s0, s1⟩
              go_simp
              with_reducible rfl
             rotate_left
             ·exact aP
             refine pure_ (i := 3) (N := some 36) (v := ?_) (a' := ?_) #[true, true, true, true, false, false, false, false, false, false, false, false, false, false, false] rfl rfl (any_of HT_.out (by kernel_rfl)) (fun _ _ _ h => h) (Or.inl ⟨by rfl, ?_⟩) ?_ ?_
             rotate_left
             ·exact aI
             rotate_left
             ·exact aP
             refine pure_ (i := 4) (N := some 37) (v := ?_) (a' := ?_) #[true, true, true, true, true, false, false, false, false, false, false, false, false, false, false] rfl rfl (any_of HT_.out (by kernel_rfl)) (fun _ _ _ h => h) (Or.inl ⟨by rfl, ?_⟩) ?_ ?_
             rotate_left
             ·exact aI
             rotate_left
             ·exact aP
             refine pure_ (i := 5) (N := some 38) (v := ?_) (a' := ?_) #[true, true, true, true, true, true, false, false, false, false, false, false, false, false, false] rfl rfl (any_of HT_.out (by kernel_rfl)) (fun _ _ _ h => h) (Or.inl ⟨by rfl, ?_⟩) ?_ ?_
             rotate_left
             ·exact aI
             rotate_left
             ·exact aP
             refine pure_ (i := 6) (N := some 39) (v := undef) (a' := ?_) #[true, true, true, true, true, true, true, false, false, false, false, false, false, false, false] rfl rfl (any_of HT_.out (by kernel_rfl)) (fun _ _ _ h => h) (Or.inr ⟨by rfl, rfl⟩) ?_ ?_
             rotate_left
             ·exact aP
             refine pure_ (i := 7) (N := some 40) (v := undef) (a' := ?_) #[true, true, true, true, true, true, true, true, false, false, false, false, false, false, false] rfl rfl (any_of HT_.out (by kernel_rfl)) (fun _ _ _ h => h) (Or.inr ⟨by rfl, rfl⟩) ?_ ?_
             rotate_left
             ·exact aP
             refine pure_ (i := 8) (N := some 41) (v := undef) (a' := ?_) #[true, true, true, true, true, true, true, true, true, false, false, false, false, false, false] rfl rfl (any_of HT_.out (by kernel_rfl)) (fun _ _ _ h => h) (Or.inr ⟨by rfl, rfl⟩) ?_ ?_
             rotate_left
             ·exact aP
             refine pure_ (i := 9) (N := some 42) (v := undef) (a' := ?_) #[true, true, true, true, true, true, true, true, true, true, false, false, false, false, false] rfl rfl (any_of HT_.out (by kernel_rfl)) (fun _ _ _ h => h) (Or.inr ⟨by rfl, rfl⟩) ?_ ?_
             rotate_left
             ·exact aP
             refine pure_ (i := 10) (N := some 43) (v := undef) (a' := ?_) #[true, true, true, true, true, true, true, true, true, true, true, false, false, false, false] rfl rfl (any_of HT_.out (by kernel_rfl)) (fun _ _ _ h => h) (Or.inr ⟨by rfl, rfl⟩) ?_ ?_
             rotate_left
             ·exact aP
             refine pure_ (i := 11) (N := some 44) (v := undef) (a' := ?_) #[true, true, true, true, true, true, true, true, true, true, true, true, false, false, false] rfl rfl (any_of HT_.out (by kernel_rfl)) (fun _ _ _ h => h) (Or.inr ⟨by rfl, rfl⟩) ?_ ?_
             rotate_left
             ·exact aP
             refine pure_ (i := 12) (N := some 45) (v := undef) (a' := ?_) #[true, true, true, true, true, true, true, true, true, true, true, true, true, false, false] rfl rfl (any_of HT_.out (by kernel_rfl)) (fun _ _ _ h => h) (Or.inr ⟨by rfl, rfl⟩) ?_ ?_
             rotate_left
             ·exact aP
             refine pure_ (i := 13) (N := some 46) (v := undef) (a' := ?_) #[true, true, true, true, true, true, true, true, true, true, true, true, true, true, false] rfl rfl (any_of HT_.out (by kernel_rfl)) (fun _ _ _ h => h) (Or.inr ⟨by rfl, rfl⟩) ?_ ?_
             rotate_left
             ·exact aP
             refine pure_ (i := 14) (N := some 47) (v := ?_) (a' := ?_) #[true, true, true, true, true, true, true, true, true, true, true, true, true, true, true] rfl rfl (any_of HT_.out (by kernel_rfl)) (fun _ _ _ h => h) (Or.inl ⟨by rfl, ?_⟩) ?_ ?_
             rotate_left
             ·exact aI
             rotate_left
             ·exact aP
             refine done_ (done_of HT_.out (by kernel_rfl)) ?_
             try go_wp2
             have n0_ := aM (Kd.R_drew HO_251000.out)
             have n1_ := aM (Kd.N_drew HO_251001.out)
             have n2_ := aM (blk_drew BK241.out)
             have n3_ := aM (blk_drew BK242.out)
             have n4_ := aM (blk_drew BK243.out)
             have n5_ := aM (blk_drew BK250.out)
             have n6_ := aM (below_drew1 HB.out)
             clear HO_251000
             clear HO_251001
             clear BK241
             clear BK242
             clear BK243
             clear BK250
             clear HB
             have HO_251000 := n0_
             have HO_251001 := n1_
             have BK241 := n2_
             have BK242 := n3_
             have BK243 := n4_
             have BK250 := n5_
             have HB := n6_
             clear n0_ n1_ n2_ n3_ n4_ n5_ n6_
             have q125 : (x7_2 : Int) ≤ ((t247.length : Int) : Int) := aD
             obtain ⟨i0125, hi0125, _, hsz125, _⟩ := info_parts info45
             have hroom125 : t247.length ≤ co18 := (Kd.N_reads' HO_251001.out).2.1
             have hC125 : Kd.F k45 _ _ Ao18 t247.length t247 := (Kd.V_at (base := w.heap.size) (Kd.N_V HO_251001.out)).2.2
             have q0125 : (0 : Int) ≤ (x7_2 : Int) := aD
             have hcut125 := cut_from (P := Try.prog) 29 45 .i64 Try.underlying29 hi0125 2 hsz125 Ao18 t247.length co18 x7_2 q0125 q125
             have hr125 := Kd.F_cut (m := (x7_2 : Int).toNat) (c := co18) hC125 (by omega) hroom125
             obtain ⟨A125, hA125⟩ : ∃ A1, A1 = (if co18 = (x7_2 : Int).toNat then Ao18 else (Ao18 : Option Addr).map (·.add ((x7_2 : Int).toNat * 2))) := ⟨_, rfl⟩
             obtain ⟨c125, hc125⟩ : ∃ c1, c1 = co18 - (x7_2 : Int).toNat := ⟨_, rfl⟩
             have hy125 : y296.length = t247.length - (x7_2 : Int).toNat := (by rw [Ny296.out, List.length_drop] <;> omega)
             rw [show (t247).drop (x7_2 : Int).toNat = y296 from Ny296.out.symm] at hr125
             replace hr125 : Kd.F k45 _ _ A125 y296.length y296 := (by rw [hA125]; exact hr125)
             rw [← hy125, ← hA125, ← hc125] at hcut125
             have HO300 := aM (show Kd.V k45 45 _ w.heap.size _ (.slice A125 y296.length c125) y296 from Kd.V_mk (by rw [hy125, hc125]; exact Nat.sub_le_sub_right hroom125 _) hr125)
             have HC300 := aM (show y296.length ≤ c125 from by rw [hy125, hc125]; exact Nat.sub_le_sub_right hroom125 _)
             clear hr125 hC125 hroom125 hi0125 hsz125 hc125
             have KY125 := aM hy125
             have KA125 := aM hA125
             clear hy125 hA125
             replace q125 := eq_true q125
             refine start_ (n := 14) (S := fun w' => w'.cell? ⟨gb242, 0, none⟩ = some (.int .i64 a1_0) ∧ w'.cell? ⟨gb242, 1, none⟩ = some (.slice A1_1 l1_1.length c1_1) ∧ w'.cell? ⟨gb250, 0, none⟩ = some (.slice Ao13 t244.length co13) ∧ w'.cell? ⟨gb250, 1, none⟩ = some (.slice Ao18 t247.length co18)) (ds := []) #[false, false, false, false, false, false, false, false, false, false, false, false, false, false] (by kernel_rfl) rfl rfl ⟨(blk_cell BK242.out 0).trans rfl, (blk_cell BK242.out 1).trans rfl, (blk_cell BK250.out 0).trans rfl, (blk_cell BK250.out 1).trans rfl⟩ (fun hHeld => ?_); refine with_tabW spec_InsertFact.tab7 spec_InsertFact.bits7 (fun HT_ HW_ => ?_)
             generalize w123.drew = w124 at HO_251000 HO_251001 BK241 BK242 BK243 BK250 HB HO300 hHeld ⊢
             refine pure_ (i := 0) (N := some 50) (v := ?_) (a' := ?_) #[true, false, false, false, false, false, false, false, false, false, false, false, false, false] rfl rfl (any_of HT_.out (by kernel_rfl)) (fun _ _ _ h => h) (Or.inl ⟨by rfl, ?_⟩) ?_ ?_
             rotate_left
             ·exact aI
             rotate_left
             ·exact aP
             refine pure_ (i := 3) (N := some 53) (v := ?_) (a' := ?_) #[true, false, false, true, false, false, false, false, false, false, false, false, false, false] rfl rfl (any_of HT_.out (by kernel_rfl)) (fun _ _ _ h => h) (Or.inl ⟨by rfl, ?_⟩) ?_ ?_
             rotate_left
             ·exact aI
             rotate_left
             ·exact aP
             refine pure_ (i := 8) (N := some 58) (v := ?_) (a' := ?_) #[true, false, false, true, false, false, false, false, true, false, false, false, false, false] rfl rfl (any_of HT_.out (by kernel_rfl)) (fun _ _ _ h => h) (Or.inl ⟨by rfl, ?_⟩) ?_ ?_
             rotate_left
             ·exact aI
             rotate_left
             ·exact aP
             refine pure_ (i := 10) (N := some 60) (v := ?_) (a' := ?_) #[true, false, false, true, false, false, false, false, true, false, true, false, false, false] rfl rfl (any_of HT_.out (by kernel_rfl)) (fun _ _ _ h => h) (Or.inl ⟨by rfl, ?_⟩) ?_ ?_
             rotate_left
             ·exact aI
             rotate_left
             ·exact aP
             refine take_ (i := 1) (N := some 51) (v := ?_) (a' := ?_) #[true, true, false, true, false, false, false, false, true, false, true, false, false, false] rfl rfl (take_ofW HT_.out HW_.out (by kernel_rfl)) (fun _ _ _ h => h) (Or.inl ⟨by rfl, ?_⟩) hHeld ?_ ?_
             rotate_left
             ·rintro w' ⟨s0, s1, s2, s3⟩
              go_simp
              with_reducible rfl
             rotate_left
             ·exact aP
             refine take_ (i := 4) (N := some 54) (v := ?_) (a' := ?_) #[true, true, false, true, true, false, false, false, true, false, true, false, false, false] rfl rfl (take_ofW HT_.out HW_.out (by kernel_rfl)) (fun _ _ _ h => h) (Or.inl ⟨by rfl, ?_⟩) hHeld ?_ ?_
             rotate_left
             ·rintro w' ⟨s0, s1, s2, s3⟩
              go_simp
              with_reducible rfl
             rotate_left
             ·exact aP
             refine take_ (i := 9) (N := some 59) (v := ?_) (a' := ?_) #[true, true, false, true, true, false, false, false, true, true, true, false, false, false] rfl rfl (take_ofW HT_.out HW_.out (by kernel_rfl)) (fun _ _ _ h => h) (Or.inl ⟨by rfl, ?_⟩) hHeld ?_ ?_
             rotate_left
             ·rintro w' ⟨s0, s1, s2, s3⟩
              go_simp
              with_reducible rfl
             rotate_left
             ·exact aP
             refine pure_ (i := 11) (N := some 61) (v := ?_) (a' := ?_) #[true, true, false, true, true, false, false, false, true, true, true, true, false, false] rfl rfl (any_of HT_.out (by kernel_rfl)) (fun _ _ _ h => h) (Or.inl ⟨by rfl, ?_⟩) ?_ ?_
             rotate_left
             ·exact aI
             rotate_left
             ·exact aP
             refine one_ (i := 2) (N := some 52) #[true, true, true, true, true, false, false, false, true, true, true, true, false, false] rfl rfl (one_of HT_.out (by kernel_rfl)) (by decide) (fun K hK => ?_)
             refine Kd.R_lit_step (Kd.int .i64) _ 3 ?hg (N := 52) ?hd (xs := ([] : List Int)) (inner := []) (ok := fun _ => True) (okp := fun _ => True) ?hr ?hp (fun _ hk => hk) trivial (Below.refl _ _) (Nat.le_refl _) (by simp) ?_; (case hd => rfl); (case hg => rfl); (case hr => first | (go_simp; done) | (go_simp; rfl)); (case hp => exact (Reps.none _ _))
             intro v288 w126 ho127 hb hg_ hnew_
             clear hg_ hnew_
             (first | rw [← Ny287.out] at ho127 | (simp only [Int.reduceToNat] at ho127; rw [← Ny287.out] at ho127))
             have n0_ := aM (Kd.R_below (aR HO_251000) hb)
             have n1_ := aM (Kd.N_elder' (by (with_reducible repeat (first | apply Kd.N_alloc | apply Kd.N_drewN | apply Kd.N_drew)); exact HO_251001.out) (Kd.R_base ho127) hb)
             have n2_ := aM (Kd.V_elder' (by (with_reducible repeat (first | apply Kd.V_alloc | apply Kd.V_drewN | apply Kd.V_drew)); exact HO300.out) (Kd.R_base ho127) hb)
             have n3_ := aM (Kd.R_lower (Kd.R_newM (M := fun k_ => (w.heap.size ≤ k_)) ho127 (below_size aG) (fun k_ h_ => h_)) (below_size aG))
             have n4_ := aM (blk_below (g := gb241) (o := .cells #[.slice A0_0 l0_0.length c0_0, .slice A0_1 l0_1.length c0_1] 31 (0, 0)) aK hb)
             have n5_ := aM (blk_below (g := gb242) (o := .cells #[.int .i64 a1_0, .slice A1_1 l1_1.length c1_1] 45 (0, 0)) aK hb)
             have n6_ := aM (blk_below (g := gb243) (o := .cells #[.slice none 0 0, .slice none 0 0] 31 (0, 0)) aK hb)
             have n7_ := aM (blk_below (g := gb250) (o := .cells #[.slice Ao13 t244.length co13, .slice Ao18 t247.length co18] 31 (0, 0)) aK hb)
             have n8_ := aM (below_step aG hb)
             clear HO_251000
             clear HO_251001
             clear HO300
             clear BK241
             clear BK242
             clear BK243
             clear BK250
             clear HB
             have HO_251000 := n0_
             have HO_251001 := n1_
             have HO300 := n2_
             have HO289 := n3_
             have BK241 := n4_
             have BK242 := n5_
             have BK243 := n6_
             have BK250 := n7_
             have HB := n8_
             clear n0_ n1_ n2_ n3_ n4_ n5_ n6_ n7_ n8_
             clear hb ho127
             refine hK.out _ _ ⟨(blk_cell BK242.out 0).trans rfl, (blk_cell BK242.out 1).trans rfl, (blk_cell BK250.out 0).trans rfl, (blk_cell BK250.out 1).trans rfl⟩ (fun hHeld => ?_)
             clear hK K
             refine norm_ (a' := ?_) ?_ ?_
             rotate_left
             ·show Act.put _ (some 52) _ = _
              simp only [Act.put, List.setIfInBounds_toArray, List.set_cons_zero, List.set_cons_succ, i64_w, i32_w]
              rfl
             refine one_ (i := 5) (N := some 55) #[true, true, true, true, true, true, false, false, true, true, true, true, false, false] rfl rfl (one_of HT_.out (by kernel_rfl)) (by decide) (fun K hK => ?_)
             refine Kd.R_append_rows_step (Kd.int .i64) (w0 := w) w.heap.size (by rfl) (.tmp 52) (.tmp 54) 26 3 (.int .i64 0) 8 rfl Try.underlying26 info3 rfl (by decide) (by omega) v288 y287 l1_1 _ _ _ (fun k_ => (w.heap.size ≤ k_)) (fun _ => False) rfl rfl ?aO ?aR (fun _ _ h => h) (fun _ h => h.elim) ?aF ?aB ?aS ?aL ?_
             (case aR => exact aC)
             (case aB => exact aG)
             (case aF => exact (fun k_ hk => (Nat.le_trans (below_size aG) hk)))
             (case aO => exact (by (with_reducible repeat (first | apply Kd.R_alloc | apply Kd.R_drewN | apply Kd.R_drew)); exact Kd.R_mono HO289.out (fun _ hk => hk.1)))
             (case aS => exact (below_size aG))
             (case aL => have := LMc115.out; omega)
             intro v291 w128 ho hb hg hat
             rw [← Ny290.out] at ho
             have n0_ := aM (Kd.R_over' (aR HO_251000) (Kd.R_typed (aR HO289)) (by decide) hg)
             have n1_ := aM (Kd.N_afterv (ok := (fun k_ => (w.heap.size ≤ k_) ∧ some k_ ≠ (.slice Ao13 t244.length co13 : Value).ownBlock ∧ k_ ≠ gb241 ∧ k_ ≠ gb242 ∧ k_ ≠ gb243 ∧ k_ ≠ gb250)) (by (with_reducible repeat (first | apply Kd.N_alloc | apply Kd.N_drewN | apply Kd.N_drew)); exact HO_251001.out) hg hat)
             have n2_ := aM (blk_grown (g := gb241) (o := .cells #[.slice A0_0 l0_0.length c0_0, .slice A0_1 l0_1.length c0_1] 31 (0, 0)) aK hg (Kd.R_ne HO289.out BK241.out (by decide)))
             have n3_ := aM (blk_grown (g := gb242) (o := .cells #[.int .i64 a1_0, .slice A1_1 l1_1.length c1_1] 45 (0, 0)) aK hg (Kd.R_ne HO289.out BK242.out (by decide)))
             have n4_ := aM (blk_grown (g := gb243) (o := .cells #[.slice none 0 0, .slice none 0 0] 31 (0, 0)) aK hg (Kd.R_ne HO289.out BK243.out (by decide)))
             have n5_ := aM (blk_grown (g := gb250) (o := .cells #[.slice Ao13 t244.length co13, .slice Ao18 t247.length co18] 31 (0, 0)) aK hg (Kd.R_ne HO289.out BK250.out (by decide)))
             have n6_ := aM (Kd.V_afterv (ok := (fun k_ => (w.heap.size ≤ k_) ∧ some k_ ≠ (.slice Ao13 t244.length co13 : Value).ownBlock ∧ k_ ≠ gb241 ∧ k_ ≠ gb242 ∧ k_ ≠ gb243 ∧ k_ ≠ gb250)) (by (with_reducible repeat (first | apply Kd.V_alloc | apply Kd.V_drewN | apply Kd.V_drew)); exact HO300.out) hg hat)
             have n7_ := aM (hb)
             have n8_ := aM (ho)
             clear HO_251000
             clear HO_251001
             clear BK241
             clear BK242
             clear BK243
             clear BK250
             clear HO300
             clear HB
             clear HO289
             have HO_251000 := n0_
             have HO_251001 := n1_
             have BK241 := n2_
             have BK242 := n3_
             have BK243 := n4_
             have BK250 := n5_
             have HO300 := n6_
             have HB := n7_
             have HO292 := n8_
             clear n0_ n1_ n2_ n3_ n4_ n5_ n6_ n7_ n8_
             clear ho hb hg hat
             obtain ⟨Ao129, co129, eo129⟩ := Kd.R_slice HO292.out
             (first | subst eo129 | (injection eo129 with f1_ f2_ f3_; have f4_ := f1_.symm; have f5_ := f3_.symm; clear f1_ f2_ f3_; subst f4_; subst f5_))
             refine hK.out _ _ ⟨(blk_cell BK242.out 0).trans rfl, (blk_cell BK242.out 1).trans rfl, (blk_cell BK250.out 0).trans rfl, (blk_cell BK250.out 1).trans rfl⟩ (fun hHeld => ?_)
             clear hK K
             refine norm_ (a' := ?_) ?_ ?_
             rotate_left
             ·show Act.put _ (some 55) _ = _
              simp only [Act.put, List.setIfInBounds_toArray, List.set_cons_zero, List.set_cons_succ, i64_w, i32_w]
              rfl
             refine pure_ (i := 6) (N := some 56) (v := ?_) (a' := ?_) #[true, true, true, true, true, true, true, false, true, true, true, true, false, false] rfl rfl (any_of HT_.out (by kernel_rfl)) (fun _ _ _ h => h) (Or.inl ⟨by rfl, ?_⟩) ?_ ?_
             rotate_left
             ·exact aI
             rotate_left
             ·exact aP
             refine one_ (i := 7) (N := some 57) #[true, true, true, true, true, true, true, true, true, true, true, true, false, false] rfl rfl (one_of HT_.out (by kernel_rfl)) (by decide) (fun K hK => ?_)
             refine Kd.N_lit_step k45 _ 45 ?hg (N' := 57) ?hd (xs := ([(⟨a1_0, y290⟩ : S45)] : List (S45))) (inner := [.int .i64 a1_0, .slice Ao129 y290.length co129]) (ok := (fun k_ => (w.heap.size ≤ k_) ∧ some k_ ≠ (.slice Ao13 t244.length co13 : Value).ownBlock ∧ some k_ ≠ (.slice Ao18 t247.length co18 : Value).ownBlock ∧ k_ ≠ gb241 ∧ k_ ≠ gb242 ∧ k_ ≠ gb243 ∧ k_ ≠ gb250)) (okp := (fun k_ => (w.heap.size ≤ k_) ∧ some k_ ≠ (.slice Ao13 t244.length co13 : Value).ownBlock ∧ some k_ ≠ (.slice Ao18 t247.length co18 : Value).ownBlock ∧ k_ ≠ gb241 ∧ k_ ≠ gb242 ∧ k_ ≠ gb243 ∧ k_ ≠ gb250)) ?hr ?hp (fun _ hk => hk) ((show ∀ k_, w128.heap.size ≤ k_ → (fun k_ => (w.heap.size ≤ k_) ∧ some k_ ≠ (.slice Ao13 t244.length co13 : Value).ownBlock ∧ some k_ ≠ (.slice Ao18 t247.length co18 : Value).ownBlock ∧ k_ ≠ gb241 ∧ k_ ≠ gb242 ∧ k_ ≠ gb243 ∧ k_ ≠ gb250) k_ from fun k_ hk => ⟨(Nat.le_trans (below_size aG) hk), Kd.fresh' (Kd.R_lt (aR HO_251000)) k_ hk, Kd.fresh' (Kd.N_lt (by (with_reducible repeat (first | apply Kd.N_alloc | apply Kd.N_drewN | apply Kd.N_drew)); exact HO_251001.out)) k_ hk, Kd.freshB (g := gb241) (o := .cells #[.slice A0_0 l0_0.length c0_0, .slice A0_1 l0_1.length c0_1] 31 (0, 0)) aK k_ hk, Kd.freshB (g := gb242) (o := .cells #[.int .i64 a1_0, .slice A1_1 l1_1.length c1_1] 45 (0, 0)) aK k_ hk, Kd.freshB (g := gb243) (o := .cells #[.slice none 0 0, .slice none 0 0] 31 (0, 0)) aK k_ hk, Kd.freshB (g := gb250) (o := .cells #[.slice Ao13 t244.length co13, .slice Ao18 t247.length co18] 31 (0, 0)) aK k_ hk⟩) _ (Nat.le_refl _)) (Below.refl _ _) (Nat.le_refl _) (by simp) ?_; (case hd => rfl); (case hg => rfl); (case hr => first | (go_simp; done) | (go_simp; rfl)); (case hp => exact (Reps.c2 (show Kd.FK k45 _ _ (⟨a1_0, y290⟩ : S45) [.int .i64 a1_0, .slice Ao129 y290.length co129] from (k45_mkF _ _ (⟨a1_0, y290⟩ : S45) (Kd.R_reads' (Kd.R_mono (ok' := (fun k_ => (w.heap.size ≤ k_) ∧ some k_ ≠ (.slice Ao13 t244.length co13 : Value).ownBlock ∧ some k_ ≠ (.slice Ao18 t247.length co18 : Value).ownBlock ∧ k_ ≠ gb241 ∧ k_ ≠ gb242 ∧ k_ ≠ gb243 ∧ k_ ≠ gb250)) (Kd.R_types (Kd.R_types (Kd.R_types (Kd.R_types (Kd.R_apart' (Kd.R_apart' (HO292.out) (Kd.R_typed HO_251000.out) (by decide)) (Kd.N_typed HO_251001.out) (by decide)) BK241.out (by decide)) BK242.out (by decide)) BK243.out (by decide)) BK250.out (by decide)) (fun k_ hk => ⟨hk.1.1.1.1.1.1, ⟨hk.1.1.1.1.1.2, ⟨hk.1.1.1.1.2, ⟨hk.1.1.1.2, ⟨hk.1.1.2, ⟨hk.1.2, hk.2⟩⟩⟩⟩⟩⟩))).2.1 (Kd.R_F (Kd.R_mono (ok' := (fun k_ => (w.heap.size ≤ k_) ∧ some k_ ≠ (.slice Ao13 t244.length co13 : Value).ownBlock ∧ some k_ ≠ (.slice Ao18 t247.length co18 : Value).ownBlock ∧ k_ ≠ gb241 ∧ k_ ≠ gb242 ∧ k_ ≠ gb243 ∧ k_ ≠ gb250)) (Kd.R_types (Kd.R_types (Kd.R_types (Kd.R_types (Kd.R_apart' (Kd.R_apart' (HO292.out) (Kd.R_typed HO_251000.out) (by decide)) (Kd.N_typed HO_251001.out) (by decide)) BK241.out (by decide)) BK242.out (by decide)) BK243.out (by decide)) BK250.out (by decide)) (fun k_ hk => ⟨hk.1.1.1.1.1.1, ⟨hk.1.1.1.1.1.2, ⟨hk.1.1.1.1.2, ⟨hk.1.1.1.2, ⟨hk.1.1.2, ⟨hk.1.2, hk.2⟩⟩⟩⟩⟩⟩))))) (Reps.none _ _)))
             intro v294 w130 ho131 hb hg_ hnew_
             clear hg_ hnew_
             (first | rw [← Ny293.out] at ho131 | (simp only [Int.reduceToNat] at ho131; rw [← Ny293.out] at ho131))
             have n0_ := aM (Kd.R_below (aR HO_251000) hb)
             have n1_ := aM (Kd.N_elder' (by (with_reducible repeat (first | apply Kd.N_alloc | apply Kd.N_drewN | apply Kd.N_drew)); exact HO_251001.out) (Kd.N_base ho131) hb)
             have n2_ := aM (Kd.V_elder' (by (with_reducible repeat (first | apply Kd.V_alloc | apply Kd.V_drewN | apply Kd.V_drew)); exact HO300.out) (Kd.N_base ho131) hb)
             have n3_ := aM (Kd.N_lower ho131 (below_size aG))
             have n4_ := aM (blk_below (g := gb241) (o := .cells #[.slice A0_0 l0_0.length c0_0, .slice A0_1 l0_1.length c0_1] 31 (0, 0)) aK hb)
             have n5_ := aM (blk_below (g := gb242) (o := .cells #[.int .i64 a1_0, .slice A1_1 l1_1.length c1_1] 45 (0, 0)) aK hb)
             have n6_ := aM (blk_below (g := gb243) (o := .cells #[.slice none 0 0, .slice none 0 0] 31 (0, 0)) aK hb)
             have n7_ := aM (blk_below (g := gb250) (o := .cells #[.slice Ao13 t244.length co13, .slice Ao18 t247.length co18] 31 (0, 0)) aK hb)
             have n8_ := aM (below_step aG hb)
             clear HO_251000
             clear HO_251001
             clear HO300
             clear BK241
             clear BK242
             clear BK243
             clear BK250
             clear HB
             clear HO292
             have HO_251000 := n0_
             have HO_251001 := n1_
             have HO300 := n2_
             have HO295 := n3_
             have BK241 := n4_
             have BK242 := n5_
             have BK243 := n6_
             have BK250 := n7_
             have HB := n8_
             clear n0_ n1_ n2_ n3_ n4_ n5_ n6_ n7_ n8_
             clear hb ho131
             refine hK.out _ _ ⟨(blk_cell BK242.out 0).trans rfl, (blk_cell BK242.out 1).trans rfl, (blk_cell BK250.out 0).trans rfl, (blk_cell BK250.out 1).trans rfl⟩ (fun hHeld => ?_)
             clear hK K
             refine norm_ (a' := ?_) ?_ ?_
             rotate_left
             ·show Act.put _ (some 57) _ = _
              simp only [Act.put, List.setIfInBounds_toArray, List.set_cons_zero, List.set_cons_succ, i64_w, i32_w]
              rfl
             refine one_ (i := 12) (N := some 62) #[true, true, true, true, true, true, true, true, true, true, true, true, true, false] rfl rfl (one_of HT_.out (by kernel_rfl)) (by decide) (fun K hK => ?_)
             refine Kd.N_append_rows_step k45 (w0 := w) w.heap.size (by rfl) (.tmp 57) (.tmp 61) 29 45 (.agg #[(.int .i64 0), (.slice none 0 0)]) 32 rfl Try.underlying29 info45 rfl (by decide) (by omega) v294 y293 y296 _ _ _ (fun k_ => (w.heap.size ≤ k_) ∧ some k_ ≠ (.slice Ao13 t244.length co13 : Value).ownBlock ∧ k_ ≠ gb241 ∧ k_ ≠ gb242 ∧ k_ ≠ gb243 ∧ k_ ≠ gb250) (fun k_ => ((fun k_ => (w.heap.size ≤ k_) ∧ some k_ ≠ (.slice Ao13 t244.length co13 : Value).ownBlock ∧ k_ ≠ gb241 ∧ k_ ≠ gb242 ∧ k_ ≠ gb243 ∧ k_ ≠ gb250)) k_ ∧ some k_ ≠ (v294 : Value).ownBlock) rfl rfl ?aO ?aR (fun _ hk => hk) ?aF ?aB ?aS ?aL ?_
             (case aR => exact (by skip; exact Kd.V_F (Kd.V_mono (ok' := (fun k_ => ((fun k_ => (w.heap.size ≤ k_) ∧ some k_ ≠ (.slice Ao13 t244.length co13 : Value).ownBlock ∧ k_ ≠ gb241 ∧ k_ ≠ gb242 ∧ k_ ≠ gb243 ∧ k_ ≠ gb250)) k_ ∧ some k_ ≠ (v294 : Value).ownBlock)) (HO300.out) (fun k_ hk => ⟨⟨hk.1.1.1, ⟨hk.1.1.2.1, ⟨hk.1.1.2.2.1, ⟨hk.1.1.2.2.2.1, ⟨hk.1.1.2.2.2.2.1, hk.1.1.2.2.2.2.2⟩⟩⟩⟩⟩, hk.2⟩))))
             (case aB => exact aG)
             (case aF => exact (fun k_ hk => ⟨(Nat.le_trans (below_size aG) hk), Kd.fresh' (Kd.R_lt (aR HO_251000)) k_ hk, Kd.freshB (g := gb241) (o := .cells #[.slice A0_0 l0_0.length c0_0, .slice A0_1 l0_1.length c0_1] 31 (0, 0)) aK k_ hk, Kd.freshB (g := gb242) (o := .cells #[.int .i64 a1_0, .slice A1_1 l1_1.length c1_1] 45 (0, 0)) aK k_ hk, Kd.freshB (g := gb243) (o := .cells #[.slice none 0 0, .slice none 0 0] 31 (0, 0)) aK k_ hk, Kd.freshB (g := gb250) (o := .cells #[.slice Ao13 t244.length co13, .slice Ao18 t247.length co18] 31 (0, 0)) aK k_ hk⟩))
             (case aO => exact (by (with_reducible repeat (first | apply Kd.N_alloc | apply Kd.N_drewN | apply Kd.N_drew)); exact Kd.N_mono HO295.out (fun _ hk => ⟨hk.1, ⟨hk.2.1, ⟨hk.2.2.2.1, ⟨hk.2.2.2.2.1, ⟨hk.2.2.2.2.2.1, hk.2.2.2.2.2.2⟩⟩⟩⟩⟩)))
             (case aS => exact (below_size aG))
             (case aL => have := LMc118.out; omega)
             intro v302 w132 ho hb hg hat
             rw [← Ny301.out] at ho
             have n0_ := aM (Kd.R_over' (aR HO_251000) (Kd.N_typed (by (with_reducible repeat (first | apply Kd.N_alloc | apply Kd.N_drewN | apply Kd.N_drew)); exact HO295.out)) (by decide) hg)
             have n1_ := aM (Kd.N_afterv (ok := (fun k_ => (w.heap.size ≤ k_) ∧ some k_ ≠ (.slice Ao13 t244.length co13 : Value).ownBlock ∧ k_ ≠ gb241 ∧ k_ ≠ gb242 ∧ k_ ≠ gb243 ∧ k_ ≠ gb250)) (by (with_reducible repeat (first | apply Kd.N_alloc | apply Kd.N_drewN | apply Kd.N_drew)); exact Kd.N_mono HO_251001.out (fun _ hk => ⟨⟨hk.1.1.1, ⟨hk.1.1.2.1, ⟨hk.1.1.2.2.1, ⟨hk.1.1.2.2.2.1, ⟨hk.1.1.2.2.2.2.1, hk.1.1.2.2.2.2.2⟩⟩⟩⟩⟩, hk.2⟩)) hg hat)
             have n2_ := aM (blk_grown (g := gb241) (o := .cells #[.slice A0_0 l0_0.length c0_0, .slice A0_1 l0_1.length c0_1] 31 (0, 0)) aK hg (Kd.N_ne HO295.out BK241.out (by decide)))
             have n3_ := aM (blk_grown (g := gb242) (o := .cells #[.int .i64 a1_0, .slice A1_1 l1_1.length c1_1] 45 (0, 0)) aK hg (Kd.N_away HO295.out (fun _ hk => hk.2.2.2.2.1)))
             have n4_ := aM (blk_grown (g := gb243) (o := .cells #[.slice none 0 0, .slice none 0 0] 31 (0, 0)) aK hg (Kd.N_ne HO295.out BK243.out (by decide)))
             have n5_ := aM (blk_grown (g := gb250) (o := .cells #[.slice Ao13 t244.length co13, .slice Ao18 t247.length co18] 31 (0, 0)) aK hg (Kd.N_ne HO295.out BK250.out (by decide)))
             have n6_ := aM (Kd.V_afterv (ok := (fun k_ => (w.heap.size ≤ k_) ∧ some k_ ≠ (.slice Ao13 t244.length co13 : Value).ownBlock ∧ k_ ≠ gb241 ∧ k_ ≠ gb242 ∧ k_ ≠ gb243 ∧ k_ ≠ gb250)) (by (with_reducible repeat (first | apply Kd.V_alloc | apply Kd.V_drewN | apply Kd.V_drew)); exact Kd.V_mono HO300.out (fun _ hk => ⟨⟨hk.1.1.1, ⟨hk.1.1.2.1, ⟨hk.1.1.2.2.1, ⟨hk.1.1.2.2.2.1, ⟨hk.1.1.2.2.2.2.1, hk.1.1.2.2.2.2.2⟩⟩⟩⟩⟩, hk.2⟩)) hg hat)
             have n7_ := aM (hb)
             have n8_ := aM (ho)
             clear HO_251000
             clear HO_251001
             clear BK241
             clear BK242
             clear BK243
             clear BK250
             clear HO300
             clear HB
             clear HO295
             have HO_251000 := n0_
             have HO_251001 := n1_
             have BK241 := n2_
             have BK242 := n3_
             have BK243 := n4_
             have BK250 := n5_
             have HO300 := n6_
             have HB := n7_
             have HO303 := n8_
             clear n0_ n1_ n2_ n3_ n4_ n5_ n6_ n7_ n8_
             clear ho hb hg hat
             refine hK.out _ _ ⟨(blk_cell BK242.out 0).trans rfl, (blk_cell BK242.out 1).trans rfl, (blk_cell BK250.out 0).trans rfl, (blk_cell BK250.out 1).trans rfl⟩ (fun hHeld => ?_)
             clear hK K
             refine norm_ (a' := ?_) ?_ ?_
             rotate_left
             ·show Act.put _ (some 62) _ = _
              simp only [Act.put, List.setIfInBounds_toArray, List.set_cons_zero, List.set_cons_succ, i64_w, i32_w]
              rfl
             refine pure_ (i := 13) (N := some 8) (v := ?_) (a' := ?_) #[true, true, true, true, true, true, true, true, true, true, true, true, true, true] rfl rfl (any_of HT_.out (by kernel_rfl)) (fun _ _ _ h => h) (Or.inl ⟨by rfl, ?_⟩) ?_ ?_
             rotate_left
             ·exact aI
             rotate_left
             ·exact aP
             refine done_ (done_of HT_.out (by kernel_rfl)) ?_
             try go_wp2_with (first | ((with_reducible refine gate_dst (N := 63) rfl ?_); (try (refine gate_guard (by rfl) ?_; dsimp only)); refine Kd.N_lit k45 _ 45 ?hg (N' := 63) ?hd (xs := ([] : List (S45))) (inner := []) (ok := (fun k_ => (w.heap.size ≤ k_) ∧ some k_ ≠ (.slice Ao13 t244.length co13 : Value).ownBlock ∧ some k_ ≠ (.slice Ao18 t247.length co18 : Value).ownBlock ∧ some k_ ≠ (v302 : Value).ownBlock ∧ k_ ≠ gb241 ∧ k_ ≠ gb242 ∧ k_ ≠ gb243 ∧ k_ ≠ gb250)) (okp := (fun k_ => (w.heap.size ≤ k_) ∧ some k_ ≠ (.slice Ao13 t244.length co13 : Value).ownBlock ∧ some k_ ≠ (.slice Ao18 t247.length co18 : Value).ownBlock ∧ some k_ ≠ (v302 : Value).ownBlock ∧ k_ ≠ gb241 ∧ k_ ≠ gb242 ∧ k_ ≠ gb243 ∧ k_ ≠ gb250)) ?hr ?hp (fun _ hk => hk) ((show ∀ k_, w132.heap.size ≤ k_ → (fun k_ => (w.heap.size ≤ k_) ∧ some k_ ≠ (.slice Ao13 t244.length co13 : Value).ownBlock ∧ some k_ ≠ (.slice Ao18 t247.length co18 : Value).ownBlock ∧ some k_ ≠ (v302 : Value).ownBlock ∧ k_ ≠ gb241 ∧ k_ ≠ gb242 ∧ k_ ≠ gb243 ∧ k_ ≠ gb250) k_ from fun k_ hk => ⟨(Nat.le_trans (below_size aG) hk), Kd.fresh' (Kd.R_lt (aR HO_251000)) k_ hk, Kd.fresh' (Kd.N_lt (by (with_reducible repeat (first | apply Kd.N_alloc | apply Kd.N_drewN | apply Kd.N_drew)); exact HO_251001.out)) k_ hk, Kd.fresh' (Kd.N_lt (by (with_reducible repeat (first | apply Kd.N_alloc | apply Kd.N_drewN | apply Kd.N_drew)); exact HO303.out)) k_ hk, Kd.freshB (g := gb241) (o := .cells #[.slice A0_0 l0_0.length c0_0, .slice A0_1 l0_1.length c0_1] 31 (0, 0)) aK k_ hk, Kd.freshB (g := gb242) (o := .cells #[.int .i64 a1_0, .slice A1_1 l1_1.length c1_1] 45 (0, 0)) aK k_ hk, Kd.freshB (g := gb243) (o := .cells #[.slice none 0 0, .slice none 0 0] 31 (0, 0)) aK k_ hk, Kd.freshB (g := gb250) (o := .cells #[.slice Ao13 t244.length co13, .slice Ao18 t247.length co18] 31 (0, 0)) aK k_ hk⟩) _ (Nat.le_refl _)) (Below.refl _ _) (Nat.le_refl _) (by simp) ?_; (case hd => rfl); (case hg => rfl); (case hr => first | (go_simp; done) | (go_simp; rfl)); (case hp => exact (Reps.none _ _)); intro v305 w133 ho134 hb hg_ hnew_; clear hg_ hnew_; (first | rw [← Ny304.out] at ho134 | (simp only [Int.reduceToNat] at ho134; rw [← Ny304.out] at ho134)); have n0_ := aM (Kd.R_below (aR HO_251000) hb); have n1_ := aM (Kd.N_elder' (by (with_reducible repeat (first | apply Kd.N_alloc | apply Kd.N_drewN | apply Kd.N_drew)); exact HO_251001.out) (Kd.N_base ho134) hb); have n2_ := aM (Kd.V_elder' (by (with_reducible repeat (first | apply Kd.V_alloc | apply Kd.V_drewN | apply Kd.V_drew)); exact HO300.out) (Kd.N_base ho134) hb); have n3_ := aM (Kd.N_elder' (by (with_reducible repeat (first | apply Kd.N_alloc | apply Kd.N_drewN | apply Kd.N_drew)); exact HO303.out) (Kd.N_base ho134) hb); have n4_ := aM (Kd.N_lower ho134 (below_size aG)); have n5_ := aM (blk_below (g := gb241) (o := .cells #[.slice A0_0 l0_0.length c0_0, .slice A0_1 l0_1.length c0_1] 31 (0, 0)) aK hb); have n6_ := aM (blk_below (g := gb242) (o := .cells #[.int .i64 a1_0, .slice A1_1 l1_1.length c1_1] 45 (0, 0)) aK hb); have n7_ := aM (blk_below (g := gb243) (o := .cells #[.slice none 0 0, .slice none 0 0] 31 (0, 0)) aK hb); have n8_ := aM (blk_below (g := gb250) (o := .cells #[.slice Ao13 t244.length co13, .slice Ao18 t247.length co18] 31 (0, 0)) aK hb); have n9_ := aM (below_step aG hb); clear HO_251000; clear HO_251001; clear HO300; clear HO303; clear BK241; clear BK242; clear BK243; clear BK250; clear HB; have HO_251000 := n0_; have HO_251001 := n1_; have HO300 := n2_; have HO303 := n3_; have HO306 := n4_; have BK241 := n5_; have BK242 := n6_; have BK243 := n7_; have BK250 := n8_; have HB := n9_; clear n0_ n1_ n2_ n3_ n4_ n5_ n6_ n7_ n8_ n9_; clear hb ho134; have hnb135 := NB250_241.out; have hnc135 := NB241_250.out; have hnb136 := NB250_242.out; have hnc136 := NB242_250.out; have hnb137 := NB250_243.out; have hnc137 := NB243_250.out; have hcz138_0 : w133.cell? ⟨gb250, 0, none⟩ = some (.slice Ao13 t244.length co13) := (blk_cell BK250.out 0).trans rfl; have hcz138_1 : w133.cell? ⟨gb250, 1, none⟩ = some (.slice Ao18 t247.length co18) := (blk_cell BK250.out 1).trans rfl; have hfz138_0 := blk_frozen BK250.out 0; have hfz138_1 := blk_frozen BK250.out 1; have q139 : (x7_2 : Int) ≤ ((t247.length : Int) : Int) := aD; obtain ⟨i0139, hi0139, _, hsz139, _⟩ := info_parts info45; have hroom139 : t247.length ≤ co18 := (Kd.N_reads' HO_251001.out).2.1; have hC139 : Kd.F k45 _ _ Ao18 t247.length t247 := (Kd.V_at (base := w.heap.size) (Kd.N_V HO_251001.out)).2.2; have hcut139 := cut_to (P := Try.prog) 29 45 .i64 Try.underlying29 hi0139 Ao18 t247.length co18 x7_2 (aD) q139 hroom139; have hr139 := Kd.F_take (m := (x7_2 : Int).toNat) hC139 (by omega); have hy139 : y307.length = (x7_2 : Int).toNat := (by rw [Ny307.out, List.length_take]; omega); rw [← Ny307.out] at hr139; rw [← hy139] at hcut139; have HO311 := aM (show Kd.V k45 45 _ w.heap.size _ (.slice Ao18 y307.length co18) y307 from Kd.V_mk (by omega) hr139); have HC311 := aM (show y307.length ≤ co18 from by omega); clear hr139 hC139 hroom139 hi0139 hsz139; have KY139 := aM hy139; clear hy139; replace q139 := eq_true q139) | ((with_reducible refine gate_builtin (b := .append) (xs := #[.tmp 63, .tmp 67]) rfl ?_); (try (refine gate_guard (by rfl) ?_; dsimp only)); at_builtin; refine Kd.N_append_rows k45 (w0 := w) w.heap.size rfl (.tmp 63) (.tmp 67) 29 45 (.agg #[(.int .i64 0), (.slice none 0 0)]) 32 rfl Try.underlying29 info45 rfl (by decide) (by omega) v305 y304 y307 _ _ _ (fun k_ => (w.heap.size ≤ k_) ∧ some k_ ≠ (.slice Ao13 t244.length co13 : Value).ownBlock ∧ some k_ ≠ (v302 : Value).ownBlock ∧ k_ ≠ gb241 ∧ k_ ≠ gb242 ∧ k_ ≠ gb243 ∧ k_ ≠ gb250) (fun k_ => ((fun k_ => (w.heap.size ≤ k_) ∧ some k_ ≠ (.slice Ao13 t244.length co13 : Value).ownBlock ∧ some k_ ≠ (v302 : Value).ownBlock ∧ k_ ≠ gb241 ∧ k_ ≠ gb242 ∧ k_ ≠ gb243 ∧ k_ ≠ gb250)) k_ ∧ some k_ ≠ (v305 : Value).ownBlock) rfl rfl ?aO ?aR (fun _ hk => hk) ?aF ?aB ?aS ?aL ?_; (case aR => exact (by skip; exact Kd.V_F (Kd.V_mono (ok' := (fun k_ => ((fun k_ => (w.heap.size ≤ k_) ∧ some k_ ≠ (.slice Ao13 t244.length co13 : Value).ownBlock ∧ some k_ ≠ (v302 : Value).ownBlock ∧ k_ ≠ gb241 ∧ k_ ≠ gb242 ∧ k_ ≠ gb243 ∧ k_ ≠ gb250)) k_ ∧ some k_ ≠ (v305 : Value).ownBlock)) (HO311.out) (fun k_ hk => ⟨⟨hk.1.1.1, ⟨hk.1.1.2.1, ⟨hk.1.2, ⟨hk.1.1.2.2.1, ⟨hk.1.1.2.2.2.1, ⟨hk.1.1.2.2.2.2.1, hk.1.1.2.2.2.2.2⟩⟩⟩⟩⟩⟩, hk.2⟩)))); (case aB => exact aG); (case aF => exact (fun k_ hk => ⟨(Nat.le_trans (below_size aG) hk), Kd.fresh' (Kd.R_lt (aR HO_251000)) k_ hk, Kd.fresh' (Kd.N_lt (by (with_reducible repeat (first | apply Kd.N_alloc | apply Kd.N_drewN | apply Kd.N_drew)); exact HO303.out)) k_ hk, Kd.freshB (g := gb241) (o := .cells #[.slice A0_0 l0_0.length c0_0, .slice A0_1 l0_1.length c0_1] 31 (0, 0)) aK k_ hk, Kd.freshB (g := gb242) (o := .cells #[.int .i64 a1_0, .slice A1_1 l1_1.length c1_1] 45 (0, 0)) aK k_ hk, Kd.freshB (g := gb243) (o := .cells #[.slice none 0 0, .slice none 0 0] 31 (0, 0)) aK k_ hk, Kd.freshB (g := gb250) (o := .cells #[.slice Ao13 t244.length co13, .slice Ao18 t247.length co18] 31 (0, 0)) aK k_ hk⟩)); (case aO => exact (by (with_reducible repeat (first | apply Kd.N_alloc | apply Kd.N_drewN | apply Kd.N_drew)); exact Kd.N_mono HO306.out (fun _ hk => ⟨hk.1, ⟨hk.2.1, ⟨hk.2.2.2.1, ⟨hk.2.2.2.2.1, ⟨hk.2.2.2.2.2.1, ⟨hk.2.2.2.2.2.2.1, hk.2.2.2.2.2.2.2⟩⟩⟩⟩⟩⟩))); (case aS => exact (below_size aG)); (case aL => have := LMc121.out; omega); intro v313 w140 ho hb hg hat; rw [← Ny312.out] at ho; have n0_ := aM (Kd.R_over' (aR HO_251000) (Kd.N_typed (by (with_reducible repeat (first | apply Kd.N_alloc | apply Kd.N_drewN | apply Kd.N_drew)); exact HO306.out)) (by decide) hg); have n1_ := aM (Kd.N_afterv (ok := (fun k_ => (w.heap.size ≤ k_) ∧ some k_ ≠ (.slice Ao13 t244.length co13 : Value).ownBlock ∧ some k_ ≠ (v302 : Value).ownBlock ∧ k_ ≠ gb241 ∧ k_ ≠ gb242 ∧ k_ ≠ gb243 ∧ k_ ≠ gb250)) (by (with_reducible repeat (first | apply Kd.N_alloc | apply Kd.N_drewN | apply Kd.N_drew)); exact Kd.N_mono HO_251001.out (fun _ hk => ⟨⟨hk.1.1.1, ⟨hk.1.1.2.1, ⟨hk.1.2, ⟨hk.1.1.2.2.1, ⟨hk.1.1.2.2.2.1, ⟨hk.1.1.2.2.2.2.1, hk.1.1.2.2.2.2.2⟩⟩⟩⟩⟩⟩, hk.2⟩)) hg hat); have n2_ := aM (blk_grown (g := gb241) (o := .cells #[.slice A0_0 l0_0.length c0_0, .slice A0_1 l0_1.length c0_1] 31 (0, 0)) aK hg (Kd.N_ne HO306.out BK241.out (by decide))); have n3_ := aM (blk_grown (g := gb242) (o := .cells #[.int .i64 a1_0, .slice A1_1 l1_1.length c1_1] 45 (0, 0)) aK hg (Kd.N_away HO306.out (fun _ hk => hk.2.2.2.2.2.1))); have n4_ := aM (blk_grown (g := gb243) (o := .cells #[.slice none 0 0, .slice none 0 0] 31 (0, 0)) aK hg (Kd.N_ne HO306.out BK243.out (by decide))); have n5_ := aM (blk_grown (g := gb250) (o := .cells #[.slice Ao13 t244.length co13, .slice Ao18 t247.length co18] 31 (0, 0)) aK hg (Kd.N_ne HO306.out BK250.out (by decide))); have n6_ := aM (Kd.V_afterv (ok := (fun k_ => (w.heap.size ≤ k_) ∧ some k_ ≠ (.slice Ao13 t244.length co13 : Value).ownBlock ∧ some k_ ≠ (v302 : Value).ownBlock ∧ k_ ≠ gb241 ∧ k_ ≠ gb242 ∧ k_ ≠ gb243 ∧ k_ ≠ gb250)) (by (with_reducible repeat (first | apply Kd.V_alloc | apply Kd.V_drewN | apply Kd.V_drew)); exact Kd.V_mono HO300.out (fun _ hk => ⟨⟨hk.1.1.1, ⟨hk.1.1.2.1, ⟨hk.1.2, ⟨hk.1.1.2.2.1, ⟨hk.1.1.2.2.2.1, ⟨hk.1.1.2.2.2.2.1, hk.1.1.2.2.2.2.2⟩⟩⟩⟩⟩⟩, hk.2⟩)) hg hat); have n7_ := aM (Kd.N_afterv (ok := (fun k_ => (w.heap.size ≤ k_) ∧ some k_ ≠ (.slice Ao13 t244.length co13 : Value).ownBlock ∧ k_ ≠ gb241 ∧ k_ ≠ gb242 ∧ k_ ≠ gb243 ∧ k_ ≠ gb250)) (by (with_reducible repeat (first | apply Kd.N_alloc | apply Kd.N_drewN | apply Kd.N_drew)); exact HO303.out) hg hat); have n8_ := aM (Kd.V_afterv (ok := (fun k_ => (w.heap.size ≤ k_) ∧ some k_ ≠ (.slice Ao13 t244.length co13 : Value).ownBlock ∧ some k_ ≠ (v302 : Value).ownBlock ∧ k_ ≠ gb241 ∧ k_ ≠ gb242 ∧ k_ ≠ gb243 ∧ k_ ≠ gb250)) (by (with_reducible repeat (first | apply Kd.V_alloc | apply Kd.V_drewN | apply Kd.V_drew)); exact Kd.V_mono HO311.out (fun _ hk => ⟨⟨hk.1.1.1, ⟨hk.1.1.2.1, ⟨hk.1.2, ⟨hk.1.1.2.2.1, ⟨hk.1.1.2.2.2.1, ⟨hk.1.1.2.2.2.2.1, hk.1.1.2.2.2.2.2⟩⟩⟩⟩⟩⟩, hk.2⟩)) hg hat); have n9_ := aM (hb); have n10_ := aM (ho); clear HO_251000; clear HO_251001; clear BK241; clear BK242; clear BK243; clear BK250; clear HO300; clear HO303; clear HO311; clear HB; clear HO306; have HO_251000 := n0_; have HO_251001 := n1_; have BK241 := n2_; have BK242 := n3_; have BK243 := n4_; have BK250 := n5_; have HO300 := n6_; have HO303 := n7_; have HO311 := n8_; have HB := n9_; have HO314 := n10_; clear n0_ n1_ n2_ n3_ n4_ n5_ n6_ n7_ n8_ n9_ n10_; clear ho hb hg hat; obtain ⟨Ao142, co142, eo142⟩ := Kd.N_slice HO303.out; subst eo142) | ((with_reducible refine gate_builtin (b := .append) (xs := #[.tmp 68, .tmp 69]) rfl ?_); (try (refine gate_guard (by rfl) ?_; dsimp only)); at_builtin; refine Kd.N_append_rows k45 (w0 := w) w.heap.size rfl (.tmp 68) (.tmp 69) 29 45 (.agg #[(.int .i64 0), (.slice none 0 0)]) 32 rfl Try.underlying29 info45 rfl (by decide) (by omega) v313 y312 y301 _ _ _ (fun k_ => (w.heap.size ≤ k_) ∧ some k_ ≠ (.slice Ao13 t244.length co13 : Value).ownBlock ∧ k_ ≠ gb241 ∧ k_ ≠ gb242 ∧ k_ ≠ gb243 ∧ k_ ≠ gb250) (fun k_ => ((fun k_ => (w.heap.size ≤ k_) ∧ some k_ ≠ (.slice Ao13 t244.length co13 : Value).ownBlock ∧ k_ ≠ gb241 ∧ k_ ≠ gb242 ∧ k_ ≠ gb243 ∧ k_ ≠ gb250)) k_ ∧ some k_ ≠ (v313 : Value).ownBlock) rfl rfl ?aO ?aR (fun _ hk => hk) ?aF ?aB ?aS ?aL ?_; (case aR => exact (by skip; exact Kd.N_F (Kd.N_mono (ok' := (fun k_ => ((fun k_ => (w.heap.size ≤ k_) ∧ some k_ ≠ (.slice Ao13 t244.length co13 : Value).ownBlock ∧ k_ ≠ gb241 ∧ k_ ≠ gb242 ∧ k_ ≠ gb243 ∧ k_ ≠ gb250)) k_ ∧ some k_ ≠ (v313 : Value).ownBlock)) (HO303.out) (fun k_ hk => ⟨⟨hk.1.1, ⟨hk.1.2.1, ⟨hk.1.2.2.1, ⟨hk.1.2.2.2.1, ⟨hk.1.2.2.2.2.1, hk.1.2.2.2.2.2⟩⟩⟩⟩⟩, hk.2⟩)))); (case aB => exact aG); (case aF => exact (fun k_ hk => ⟨(Nat.le_trans (below_size aG) hk), Kd.fresh' (Kd.R_lt (aR HO_251000)) k_ hk, Kd.freshB (g := gb241) (o := .cells #[.slice A0_0 l0_0.length c0_0, .slice A0_1 l0_1.length c0_1] 31 (0, 0)) aK k_ hk, Kd.freshB (g := gb242) (o := .cells #[.int .i64 a1_0, .slice A1_1 l1_1.length c1_1] 45 (0, 0)) aK k_ hk, Kd.freshB (g := gb243) (o := .cells #[.slice none 0 0, .slice none 0 0] 31 (0, 0)) aK k_ hk, Kd.freshB (g := gb250) (o := .cells #[.slice Ao13 t244.length co13, .slice Ao18 t247.length co18] 31 (0, 0)) aK k_ hk⟩)); (case aO => exact (by (with_reducible repeat (first | apply Kd.N_alloc | apply Kd.N_drewN | apply Kd.N_drew)); exact Kd.N_mono HO314.out (fun _ hk => ⟨hk.1, ⟨hk.2.1, ⟨hk.2.2.2.1, ⟨hk.2.2.2.2.1, ⟨hk.2.2.2.2.2.1, hk.2.2.2.2.2.2⟩⟩⟩⟩⟩))); (case aS => exact (below_size aG)); (case aL => have := LMc122.out; omega); intro v316 w141 ho hb hg hat; rw [← Ny315.out] at ho; have n0_ := aM (Kd.R_over' (aR HO_251000) (Kd.N_typed (by (with_reducible repeat (first | apply Kd.N_alloc | apply Kd.N_drewN | apply Kd.N_drew)); exact HO314.out)) (by decide) hg); have n1_ := aM (Kd.N_afterv (ok := (fun k_ => (w.heap.size ≤ k_) ∧ some k_ ≠ (.slice Ao13 t244.length co13 : Value).ownBlock ∧ some k_ ≠ (.slice Ao142 y301.length co142 : Value).ownBlock ∧ k_ ≠ gb241 ∧ k_ ≠ gb242 ∧ k_ ≠ gb243 ∧ k_ ≠ gb250)) (by (with_reducible repeat (first | apply Kd.N_alloc | apply Kd.N_drewN | apply Kd.N_drew)); exact HO_251001.out) hg hat); have n2_ := aM (blk_grown (g := gb241) (o := .cells #[.slice A0_0 l0_0.length c0_0, .slice A0_1 l0_1.length c0_1] 31 (0, 0)) aK hg (Kd.N_ne HO314.out BK241.out (by decide))); have n3_ := aM (blk_grown (g := gb242) (o := .cells #[.int .i64 a1_0, .slice A1_1 l1_1.length c1_1] 45 (0, 0)) aK hg (Kd.N_away HO314.out (fun _ hk => hk.2.2.2.2.1))); have n4_ := aM (blk_grown (g := gb243) (o := .cells #[.slice none 0 0, .slice none 0 0] 31 (0, 0)) aK hg (Kd.N_ne HO314.out BK243.out (by decide))); have n5_ := aM (blk_grown (g := gb250) (o := .cells #[.slice Ao13 t244.length co13, .slice Ao18 t247.length co18] 31 (0, 0)) aK hg (Kd.N_ne HO314.out BK250.out (by decide))); have n6_ := aM (Kd.V_afterv (ok := (fun k_ => (w.heap.size ≤ k_) ∧ some k_ ≠ (.slice Ao13 t244.length co13 : Value).ownBlock ∧ some k_ ≠ (.slice Ao142 y301.length co142 : Value).ownBlock ∧ k_ ≠ gb241 ∧ k_ ≠ gb242 ∧ k_ ≠ gb243 ∧ k_ ≠ gb250)) (by (with_reducible repeat (first | apply Kd.V_alloc | apply Kd.V_drewN | apply Kd.V_drew)); exact HO300.out) hg hat); have n7_ := aM (Kd.N_afterv (ok := (fun k_ => (w.heap.size ≤ k_) ∧ some k_ ≠ (.slice Ao13 t244.length co13 : Value).ownBlock ∧ k_ ≠ gb241 ∧ k_ ≠ gb242 ∧ k_ ≠ gb243 ∧ k_ ≠ gb250)) (by (with_reducible repeat (first | apply Kd.N_alloc | apply Kd.N_drewN | apply Kd.N_drew)); exact HO303.out) hg hat); have n8_ := aM (Kd.V_afterv (ok := (fun k_ => (w.heap.size ≤ k_) ∧ some k_ ≠ (.slice Ao13 t244.length co13 : Value).ownBlock ∧ some k_ ≠ (.slice Ao142 y301.length co142 : Value).ownBlock ∧ k_ ≠ gb241 ∧ k_ ≠ gb242 ∧ k_ ≠ gb243 ∧ k_ ≠ gb250)) (by (with_reducible repeat (first | apply Kd.V_alloc | apply Kd.V_drewN | apply Kd.V_drew)); exact HO311.out) hg hat); have n9_ := aM (hb); have n10_ := aM (ho); clear HO_251000; clear HO_251001; clear BK241; clear BK242; clear BK243; clear BK250; clear HO300; clear HO303; clear HO311; clear HB; clear HO314; have HO_251000 := n0_; have HO_251001 := n1_; have BK241 := n2_; have BK242 := n3_; have BK243 := n4_; have BK250 := n5_; have HO300 := n6_; have HO303 := n7_; have HO311 := n8_; have HB := n9_; have HO317 := n10_; clear n0_ n1_ n2_ n3_ n4_ n5_ n6_ n7_ n8_ n9_ n10_; clear ho hb hg hat; obtain ⟨Ao143, co143, eo143⟩ := Kd.N_slice HO317.out; subst eo143; have hcz144_0 : w141.cell? ⟨gb250, 0, none⟩ = some (.slice Ao13 t244.length co13) := (blk_cell BK250.out 0).trans rfl; have hcz144_1 : w141.cell? ⟨gb250, 1, none⟩ = some (.slice Ao18 t247.length co18) := (blk_cell BK250.out 1).trans rfl; have hfz144_0 := blk_frozen BK250.out 0; have hfz144_1 := blk_frozen BK250.out 1; have hnb145 := NB243_241.out; have hnc145 := NB241_243.out; have hnb146 := NB243_242.out; have hnc146 := NB242_243.out; have hcz147_0 : w141.cell? ⟨gb243, 0, none⟩ = some (.slice none 0 0) := (blk_cell BK243.out 0).trans rfl; have hcz147_1 : w141.cell? ⟨gb243, 1, none⟩ = some (.slice none 0 0) := (blk_cell BK243.out 1).trans rfl; have hfz147_0 := blk_frozen BK243.out 0; have hfz147_1 := blk_frozen BK243.out 1))
             refine bodyPost_ret (results_ct rfl _ _ gb243 31 #[.slice Ao13 t244.length co13, .slice Ao143 y315.length co143] (0, 0) _ rfl (by (with_reducible repeat (first | refine blk_drewN ?_ _ | refine blk_drew ?_ | refine blk_alloc ?_ _)); refine blk_put (cs := #[.slice Ao13 t244.length co13, .slice none 0 0]) ?_ 1 _ rfl; (with_reducible repeat (first | refine blk_drewN ?_ _ | refine blk_drew ?_ | refine blk_alloc ?_ _)); refine blk_put (cs := #[.slice none 0 0, .slice none 0 0]) ?_ 0 _ rfl; (with_reducible repeat (first | refine blk_drewN ?_ _ | refine blk_drew ?_ | refine blk_alloc ?_ _)); refine blk_far ?_ NB243_250.out _; (with_reducible repeat (first | refine blk_drewN ?_ _ | refine blk_drew ?_ | refine blk_alloc ?_ _)); exact BK243.out) Try.underlying31 rfl (by kernel_rfl)) rfl ?_
             exact ⟨_, _, by first | rfl | (simp [errW_none, errW_some] <;> rfl) | (simp [*, errW_none, errW_some] <;> rfl), by (with_reducible repeat (first | apply Kd.R_alloc | apply Kd.R_drewN | apply Kd.R_drew)); exact Kd.R_mono (Kd.R_far (p := ⟨gb243, 1, none⟩) (Kd.R_far (p := ⟨gb243, 0, none⟩) (Kd.R_far (p := ⟨gb250, 1, none⟩) (Kd.R_types (Kd.R_types HO_251000.out BK250.out (by decide)) BK243.out (by decide)) (fun _ hk => hk.1.2) (.slice Ao143 y315.length co143)) (fun _ hk => hk.2) (.slice Ao13 t244.length co13)) (fun _ hk => hk.2) (.slice Ao143 y315.length co143)) (fun _ hk => hk.1.1), by (with_reducible repeat (first | apply Kd.N_alloc | apply Kd.N_drewN | apply Kd.N_drew)); exact Kd.N_mono (Kd.N_far (p := ⟨gb243, 1, none⟩) (Kd.N_far (p := ⟨gb243, 0, none⟩) (Kd.N_far (p := ⟨gb250, 1, none⟩) (Kd.N_mono (Kd.N_mono HO317.out (fun k_ hk => (⟨hk, hk.2.2.2.2.2⟩ : _ ∧ k_ ≠ gb250))) (fun k_ hk => (⟨hk, hk.1.2.2.2.2.1⟩ : _ ∧ k_ ≠ gb243))) (fun _ hk => hk.1.2) (.slice Ao143 y315.length co143)) (fun _ hk => hk.2) (.slice Ao13 t244.length co13)) (fun _ hk => hk.2) (.slice Ao143 y315.length co143)) (fun _ hk => ⟨hk.1.1.1, hk.1.1.2.1⟩), by repeat (first | (with_reducible first | exact HB.out | apply below_alloc | apply pw_below_drewN | apply below_drew1 | refine below_set ?_ GE241.out | refine below_set ?_ GE242.out | refine below_set ?_ GE243.out | refine below_set ?_ GE250.out) | exact HB.out)⟩
            ·rw [if_neg c122] at H
             exact absurd H (by simp)
           ·rw [if_neg c121] at H
            exact absurd H (by simp)
          ·rw [if_neg c118] at H
           exact absurd H (by simp)
         ·rw [if_neg c117] at H
          exact absurd H (by simp)
        ·rw [if_neg c116] at H
         exact absurd H (by simp)
       ·rw [if_neg c115] at H
        exact absurd H (by simp)

end Go.Proofs.Yteddnlklfjpgoaa.PFnExactInsertFact
