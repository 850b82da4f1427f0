import Derived.Test.YtckpikfbhlhhjaaDoorPFnSelectFactsx0
import Derived.Test.YtckpikfbhlhhjaaDoorPFnSelectFactsx3
import Derived.Test.YtckpikfbhlhhjaaDoorPFnSelectFactsx4
namespace Go.Proofs.YtckpikfbhlhhjaaDoor.PFnSelectFacts
open Go.RowKit Go.Proofs.YtckpikfbhlhhjaaDoorW.PrintWords Go.Proofs.YtckpikfbhlhhjaaDoorW.PrintLast Go.Proofs.YtckpikfbhlhhjaaDoorW.PrintMore
attribute [local go_sem] max2_int min2_int max_two min_two max_three min_three max_four min_four
set_option linter.unusedVariables false
set_option linter.unusedSimpArgs false

/-! ### spec_InsertFact: function 107 -/
mutual
def spec_InsertFact.j0 : Nat → Bool → Int → List Int → List (S68) → List (S39) → Option ((List (S68)) × (List (S39)) × Bool)
 | 0, _, _, _, _, _ => none
 | k + 1, x31, x228000, x228001, x236000, x236001 => if x31 = true then (some (x236000, x236001, false)) else (spec_InsertFact.l0 k 0 x228000 x228001 x236000 x236001)
def spec_InsertFact.l0 : Nat → Int → Int → List Int → List (S68) → List (S39) → Option ((List (S68)) × (List (S39)) × Bool)
 | 0, _, _, _, _, _ => none
 | k + 1, x7, x228000, x228001, x236000, x236001 => if x7 < (x236001.length : Int) then (if 0 ≤ x7 then ((spec_CompareFacts.f k ((rd_T39 x236001 x7).f0) ((rd_T39 x236001 x7).f1) x228000 x228001).bind fun t240 => (if t240 < 0 then (spec_InsertFact.l0 k (wrap64 (x7 + 1)) x228000 x228001 x236000 x236001) else ((some (([] : List Int) : List Int)).bind fun y241 => (if y241.length + x228001.length < 17592186044416 then ((some (([(⟨x228000, (y241 ++ x228001)⟩ : S39)] : List (S39)) : List (S39))).bind fun y247 => (if x7 ≤ (x236001.length : Int) then ((some (x236001.drop (x7 : Int).toNat : List (S39))).bind fun y250 => (if y247.length + y250.length < 4398046511104 then ((some (y247 ++ y250 : List (S39))).bind fun y255 => ((some (([] : List (S39)) : List (S39))).bind fun y258 => ((some (x236001.take (x7 : Int).toNat : List (S39))).bind fun y261 => (if y258.length + y261.length < 4398046511104 then ((some (y258 ++ y261 : List (S39))).bind fun y266 => (if y266.length + y255.length < 4398046511104 then (some (x236000, (y266 ++ y255), true)) else (none))) else (none))))) else (none))) else (none))) else (none))))) else (none)) else ((some (([] : List Int) : List Int)).bind fun y272 => (if y272.length + x228001.length < 17592186044416 then ((some (([(⟨x228000, (y272 ++ x228001)⟩ : S39)] : List (S39)) : List (S39))).bind fun y278 => (if 0 ≤ x7 then (if x7 ≤ (x236001.length : Int) then ((some (x236001.drop (x7 : Int).toNat : List (S39))).bind fun y281 => (if y278.length + y281.length < 4398046511104 then ((some (y278 ++ y281 : List (S39))).bind fun y286 => ((some (([] : List (S39)) : List (S39))).bind fun y289 => ((some (x236001.take (x7 : Int).toNat : List (S39))).bind fun y292 => (if y289.length + y292.length < 4398046511104 then ((some (y289 ++ y292 : List (S39))).bind fun y297 => (if y297.length + y286.length < 4398046511104 then (some (x236000, (y297 ++ y286), true)) else (none))) else (none))))) else (none))) else (none)) else (none))) else (none)))
end
def spec_InsertFact.f (k : Nat) (l0_0 : List (S68)) (l0_1 : List (S39)) (a1_0 : Int) (l1_1 : List Int) : Option ((List (S68)) × (List (S39)) × Bool) := (spec_l4Copy.f k l0_0 l0_1).bind fun bt229 => ((spec_IsValidDatabase.f k l0_0 l0_1).bind fun t236 => (if t236 = true then ((spec_IsValidFact.f k l0_0 a1_0 l1_1).bind fun t237 => (if t237 = true then ((spec_ContainsFact.f k l0_0 l0_1 a1_0 l1_1).bind fun t238 => (if t238 = true then (spec_InsertFact.j0 k true a1_0 l1_1 bt229.1 bt229.2) else (spec_InsertFact.j0 k ((l0_1.length : Int) == 14) a1_0 l1_1 bt229.1 bt229.2))) else (spec_InsertFact.j0 k true a1_0 l1_1 bt229.1 bt229.2))) else (spec_InsertFact.j0 k true a1_0 l1_1 bt229.1 bt229.2)))
def spec_InsertFact.T5 : Bool × List (List Nat × List Nat) := (true, [([], []), ([], []), ([1], [1]), ([2], [2]), ([0, 3], [0, 3]), ([4], [4]), ([5], [5]), ([6, 5], [5, 6]), ([5], [5]), ([7, 8, 5], [5, 7, 8]), ([9, 5], [5, 9]), ([5], [5]), ([10, 11, 5, 5], [5, 10, 11]), ([12, 5], [5, 12]), ([5, 13], [5, 13])])
def spec_InsertFact.B5 : List Nat := [0, 0, 2, 6, 15, 31, 63, 127, 63, 511, 1023, 63, 4095, 8191, 16383]
theorem spec_InsertFact.tab5 : rtab .any (opsOf Tryd.f107 5) = spec_InsertFact.T5 := by kernel_rfl
theorem spec_InsertFact.bits5 : waitsOk spec_InsertFact.T5.2 spec_InsertFact.B5 = true := by kernel_rfl
def spec_InsertFact.T7 : Bool × List (List Nat × List Nat) := (true, [([], []), ([0], [0]), ([], []), ([], []), ([3], [3]), ([2, 4], [2, 4]), ([1, 5], [1, 5]), ([6], [6]), ([], []), ([8], [8]), ([], []), ([9, 10], [9, 10]), ([7, 11, 5], [7, 11]), ([12, 12, 0, 1, 2, 3, 4, 5, 6, 7, 8, 9, 10, 11, 12], [12])])
def spec_InsertFact.B7 : List Nat := [0, 1, 0, 0, 8, 28, 63, 127, 0, 256, 0, 1792, 4095, 8191]
theorem spec_InsertFact.tab7 : rtab .any (opsOf Tryd.f107 7) = spec_InsertFact.T7 := by kernel_rfl
theorem spec_InsertFact.bits7 : waitsOk spec_InsertFact.T7.2 spec_InsertFact.B7 = true := by kernel_rfl
set_option maxHeartbeats 8000000 in
set_option maxRecDepth 100000 in
theorem spec_InsertFact.calls (k : Nat) (A0_0 : Option Addr) (c0_0 : Nat) (l0_0 : List (S68)) (A0_1 : Option Addr) (c0_1 : Nat) (l0_1 : List (S39)) (a1_0 : Int) (A1_1 : Option Addr) (c1_1 : Nat) (l1_1 : List Int) (r1 : List (S68)) (r2 : List (S39)) (r3 : Bool) (w : World) (hr0_0 : Kd.C k68 w A0_0 l0_0.length l0_0) (hc0_0 : l0_0.length ≤ c0_0) (hr0_1 : Kd.C k39 w A0_1 l0_1.length l0_1) (hc0_1 : l0_1.length ≤ c0_1) (hr1_1 : Kd.C (Kd.int .i64) w A1_1 l1_1.length l1_1) (hc1_1 : l1_1.length ≤ c1_1) (h : spec_InsertFact.f k l0_0 l0_1 a1_0 l1_1 = some (r1, r2, r3)) :
  Calls Tryd.prog 107 #[.agg #[.slice A0_0 l0_0.length c0_0, .slice A0_1 l0_1.length c0_1], .agg #[.int .i64 a1_0, .slice A1_1 l1_1.length c1_1]] w fun e w' => ∃ v0_ v1_ : Value, e = .returned (.tuple #[.agg #[v0_, v1_], .bool r3]) ∧ Kd.R k68 68 w' w.heap.size (fun k_ => (w.heap.size ≤ k_)) v0_ r1 ∧ Kd.N k39 39 w' w.heap.size (fun k_ => (w.heap.size ≤ k_) ∧ some k_ ≠ (v0_ : Value).ownBlock) v1_ r2 ∧ Below w.heap.size w w' := by
 have hu31 := Tryd.underlying31
 have hu39 := Tryd.underlying39
 have HR0_0 := aM hr0_0
 have HC0_0 := aM hc0_0
 clear hr0_0 hc0_0
 have HR0_1 := aM hr0_1
 have HC0_1 := aM hc0_1
 clear hr0_1 hc0_1
 have HR1_1 := aM hr1_1
 have HC1_1 := aM hc1_1
 clear hr1_1 hc1_1
 have HB := aM (Below.refl w.heap.size w)
 have H : ((spec_l4Copy.f k l0_0 l0_1).bind fun bt229 => ((spec_IsValidDatabase.f k l0_0 l0_1).bind fun t236 => (if t236 = true then ((spec_IsValidFact.f k l0_0 a1_0 l1_1).bind fun t237 => (if t237 = true then ((spec_ContainsFact.f k l0_0 l0_1 a1_0 l1_1).bind fun t238 => (if t238 = true then (spec_InsertFact.j0 k true a1_0 l1_1 bt229.1 bt229.2) else (spec_InsertFact.j0 k ((l0_1.length : Int) == 14) a1_0 l1_1 bt229.1 bt229.2))) else (spec_InsertFact.j0 k true a1_0 l1_1 bt229.1 bt229.2))) else (spec_InsertFact.j0 k true a1_0 l1_1 bt229.1 bt229.2)))) = some (r1, r2, r3) := h
 clear h
 replace H := bM H
 obtain ⟨⟨t229, t232⟩, A30, H⟩ := H
 dsimp only at H
 have A3 := aM A30
 clear A30
 have HC4 := aM H
 clear H
 go_enter Tryd.func107, Tryd.ntmps107
 go_upto_region 2 with (first | ((with_reducible refine gate_dst (N := 2) rfl ?_); (try (refine gate_guard (by rfl) ?_; dsimp only)); refine bE 2 (cs := #[.slice A0_0 l0_0.length c0_0, .slice A0_1 l0_1.length c0_1]) (t := 31) ?_; intro gb226 hg w5 hbox hb; have BK226 := aM (hbox); have GW226 := aM ((by rw [hg]; exact (below_size aB) : w.heap.size ≤ gb226)); have GE226 := aM ((by rw [hg]; exact (below_size aB) : w.heap.size ≤ gb226)); replace HB := aM (below_step aB hb); clear hb hbox hg) | ((with_reducible refine gate_dst (N := 3) rfl ?_); (try (refine gate_guard (by rfl) ?_; dsimp only)); refine bE 3 (cs := #[.int .i64 a1_0, .slice A1_1 l1_1.length c1_1]) (t := 39) ?_; intro gb227 hg w6 hbox hb; have BK227 := aM (hbox); have GW227 := aM ((by rw [hg]; exact (below_size aG) : w.heap.size ≤ gb227)); have GE227 := aM ((by rw [hg]; exact (below_size aG) : w.heap.size ≤ gb227)); have NB226_227 := aM ((by rw [hg]; exact Nat.ne_of_lt (blk_lt (g := gb226) (o := .cells #[.slice A0_0 l0_0.length c0_0, .slice A0_1 l0_1.length c0_1] 31 (0, 0)) aK) : gb226 ≠ gb227)); have NB227_226 := aM ((by rw [hg]; exact Nat.ne_of_gt (blk_lt (g := gb226) (o := .cells #[.slice A0_0 l0_0.length c0_0, .slice A0_1 l0_1.length c0_1] 31 (0, 0)) aK) : gb227 ≠ gb226)); replace BK226 := aM (kB gb226 #[.slice A0_0 l0_0.length c0_0, .slice A0_1 l0_1.length c0_1] 31 hb); replace HB := aM (below_step aG hb); clear hb hbox hg) | ((with_reducible refine gate_dst (N := 4) rfl ?_); (try (refine gate_guard (by rfl) ?_; dsimp only)); refine bE 4 (cs := #[.slice none 0 0, .slice none 0 0]) (t := 31) ?_; intro gb228 hg w7 hbox hb; have n0_ := aM (kB gb226 #[.slice A0_0 l0_0.length c0_0, .slice A0_1 l0_1.length c0_1] 31 hb); have n1_ := aM (kB gb227 #[.int .i64 a1_0, .slice A1_1 l1_1.length c1_1] 39 hb); have n2_ := aM (below_step aG hb); have n3_ := aM (hbox); have n4_ := aM ((by rw [hg]; exact (below_size aG) : w.heap.size ≤ gb228)); have n5_ := aM ((by rw [hg]; exact (below_size aG) : w.heap.size ≤ gb228)); have n6_ := aM ((by rw [hg]; exact Nat.ne_of_lt (blk_lt (g := gb226) (o := .cells #[.slice A0_0 l0_0.length c0_0, .slice A0_1 l0_1.length c0_1] 31 (0, 0)) aK) : gb226 ≠ gb228)); have n7_ := aM ((by rw [hg]; exact Nat.ne_of_gt (blk_lt (g := gb226) (o := .cells #[.slice A0_0 l0_0.length c0_0, .slice A0_1 l0_1.length c0_1] 31 (0, 0)) aK) : gb228 ≠ gb226)); have n8_ := aM ((by rw [hg]; exact Nat.ne_of_lt (blk_lt (g := gb227) (o := .cells #[.int .i64 a1_0, .slice A1_1 l1_1.length c1_1] 39 (0, 0)) aK) : gb227 ≠ gb228)); have n9_ := aM ((by rw [hg]; exact Nat.ne_of_gt (blk_lt (g := gb227) (o := .cells #[.int .i64 a1_0, .slice A1_1 l1_1.length c1_1] 39 (0, 0)) aK) : gb228 ≠ gb227)); clear BK226; clear BK227; clear HB; have BK226 := n0_; have BK227 := n1_; have HB := n2_; have BK228 := n3_; have GW228 := n4_; have GE228 := n5_; have NB226_228 := n6_; have NB228_226 := n7_; have NB227_228 := n8_; have NB228_227 := n9_; clear n0_ n1_ n2_ n3_ n4_ n5_ n6_ n7_ n8_ n9_; clear hb hbox hg; have hnb8 := NB226_227.out; have hnc8 := NB227_226.out; have hnb9 := NB226_228.out; have hnc9 := NB228_226.out; have hcz10_0 : w7.cell? ⟨gb226, 0, none⟩ = some (.slice A0_0 l0_0.length c0_0) := (blk_cell BK226.out 0).trans rfl; have hcz10_1 : w7.cell? ⟨gb226, 1, none⟩ = some (.slice A0_1 l0_1.length c0_1) := (blk_cell BK226.out 1).trans rfl; have hfz10_0 := blk_frozen BK226.out 0; have hfz10_1 := blk_frozen BK226.out 1) | ((with_reducible refine gate_callee (f := 113) rfl ?_); refine goesL_ (some 10) rfl rfl Tryd.func113 (by kernel_rfl) rfl #[.agg #[.slice A0_0 l0_0.length c0_0, .slice A0_1 l0_1.length c0_1]] rfl aA ?_; (with_reducible refine (spec_l4Copy.calls k _ _ l0_0 _ _ l0_1 t229 t232 _ ?side1 ?side2 ?side3 ?side4 A3.out).mono ?_); (case side1 => exact aC); (case side2 => exact HC0_0.out); (case side3 => exact aC); (case side4 => exact HC0_1.out); rintro e w11 ⟨v230, v233, rfl, ho0, ho1, hb⟩; refine ⟨_, rfl, ?_⟩; have n0_ := aM (Kd.R_lower (Kd.R_newM (M := fun k_ => (w.heap.size ≤ k_)) ho0 (below_size aG) (fun k_ h_ => h_)) (below_size aG)); have n1_ := aM (Kd.N_lower (Kd.N_mono (ok' := fun k_ => (w.heap.size ≤ k_) ∧ some k_ ≠ (v230 : Value).ownBlock ∧ k_ ≠ gb226 ∧ k_ ≠ gb227 ∧ k_ ≠ gb228) (Kd.S_N (Kd.S_bound (Kd.S_apart' ho1 (Kd.R_typed ho0) (by decide)))) (fun k_ hk_ => ⟨(Nat.le_trans (below_size aG) hk_.2.1), hk_.1.2, (Kd.freshB (g := gb226) (o := .cells #[.slice A0_0 l0_0.length c0_0, .slice A0_1 l0_1.length c0_1] 31 (0, 0)) aK k_ hk_.2.1), (Kd.freshB (g := gb227) (o := .cells #[.int .i64 a1_0, .slice A1_1 l1_1.length c1_1] 39 (0, 0)) aK k_ hk_.2.1), (Kd.freshB (g := gb228) (o := .cells #[.slice none 0 0, .slice none 0 0] 31 (0, 0)) aK k_ hk_.2.1)⟩)) (below_size aG)); have n2_ := aM (kB gb226 #[.slice A0_0 l0_0.length c0_0, .slice A0_1 l0_1.length c0_1] 31 hb); have n3_ := aM (kB gb227 #[.int .i64 a1_0, .slice A1_1 l1_1.length c1_1] 39 hb); have n4_ := aM (kB gb228 #[.slice none 0 0, .slice none 0 0] 31 hb); have n5_ := aM (below_step aG hb); clear BK226; clear BK227; clear BK228; clear HB; have HO231 := n0_; have HO234 := n1_; have BK226 := n2_; have BK227 := n3_; have BK228 := n4_; have HB := n5_; clear n0_ n1_ n2_ n3_ n4_ n5_; (try clear hb); (try clear hb2); (try clear hk); (try clear hi); (try clear ho0); (try clear ho1)) | ((with_reducible refine gate_dst (N := 6) rfl ?_); (try (refine gate_guard (by rfl) ?_; dsimp only)); refine bE 6 (cs := #[.slice none 0 0, .slice none 0 0]) (t := 31) ?_; intro gb235 hg w12 hbox hb; have n0_ := aM (Kd.R_below (aR HO231) hb); have n1_ := aM (Kd.N_below (Kd.N_elderB (aN HO234) gb235 (Nat.le_of_eq hg.symm)) hb); have n2_ := aM (kB gb226 #[.slice A0_0 l0_0.length c0_0, .slice A0_1 l0_1.length c0_1] 31 hb); have n3_ := aM (kB gb227 #[.int .i64 a1_0, .slice A1_1 l1_1.length c1_1] 39 hb); have n4_ := aM (kB gb228 #[.slice none 0 0, .slice none 0 0] 31 hb); have n5_ := aM (below_step aG hb); have n6_ := aM (hbox); have n7_ := aM ((by rw [hg]; exact (below_size aG) : w.heap.size ≤ gb235)); have n8_ := aM ((by rw [hg]; exact (below_size aG) : w.heap.size ≤ gb235)); have n9_ := aM ((by rw [hg]; exact Nat.ne_of_lt (blk_lt (g := gb226) (o := .cells #[.slice A0_0 l0_0.length c0_0, .slice A0_1 l0_1.length c0_1] 31 (0, 0)) aK) : gb226 ≠ gb235)); have n10_ := aM ((by rw [hg]; exact Nat.ne_of_gt (blk_lt (g := gb226) (o := .cells #[.slice A0_0 l0_0.length c0_0, .slice A0_1 l0_1.length c0_1] 31 (0, 0)) aK) : gb235 ≠ gb226)); have n11_ := aM ((by rw [hg]; exact Nat.ne_of_lt (blk_lt (g := gb227) (o := .cells #[.int .i64 a1_0, .slice A1_1 l1_1.length c1_1] 39 (0, 0)) aK) : gb227 ≠ gb235)); have n12_ := aM ((by rw [hg]; exact Nat.ne_of_gt (blk_lt (g := gb227) (o := .cells #[.int .i64 a1_0, .slice A1_1 l1_1.length c1_1] 39 (0, 0)) aK) : gb235 ≠ gb227)); have n13_ := aM ((by rw [hg]; exact Nat.ne_of_lt (blk_lt (g := gb228) (o := .cells #[.slice none 0 0, .slice none 0 0] 31 (0, 0)) aK) : gb228 ≠ gb235)); have n14_ := aM ((by rw [hg]; exact Nat.ne_of_gt (blk_lt (g := gb228) (o := .cells #[.slice none 0 0, .slice none 0 0] 31 (0, 0)) aK) : gb235 ≠ gb228)); clear HO231; clear HO234; clear BK226; clear BK227; clear BK228; clear HB; have HO231 := n0_; have HO234 := n1_; have BK226 := n2_; have BK227 := n3_; have BK228 := n4_; have HB := n5_; have BK235 := n6_; have GW235 := n7_; have GE235 := n8_; have NB226_235 := n9_; have NB235_226 := n10_; have NB227_235 := n11_; have NB235_227 := n12_; have NB228_235 := n13_; have NB235_228 := n14_; clear n0_ n1_ n2_ n3_ n4_ n5_ n6_ n7_ n8_ n9_ n10_ n11_ n12_ n13_ n14_; clear hb hbox hg; obtain ⟨Ao13, co13, eo13⟩ := Kd.R_slice HO231.out; subst eo13; have hnb14 := NB235_226.out; have hnc14 := NB226_235.out; have hnb15 := NB235_227.out; have hnc15 := NB227_235.out; have hnb16 := NB235_228.out; have hnc16 := NB228_235.out; have hcz17_0 : w12.cell? ⟨gb235, 0, none⟩ = some (.slice none 0 0) := (blk_cell BK235.out 0).trans rfl; have hcz17_1 : w12.cell? ⟨gb235, 1, none⟩ = some (.slice none 0 0) := (blk_cell BK235.out 1).trans rfl; have hfz17_0 := blk_frozen BK235.out 0; have hfz17_1 := blk_frozen BK235.out 1; obtain ⟨Ao18, co18, eo18⟩ := Kd.N_slice HO234.out; subst eo18))
 (try simp only [Act.put, List.setIfInBounds_toArray, List.set_cons_zero, List.set_cons_succ])
 go_cut [31] (fun v31 wc => ∃ (kq : Nat) (x31_3 : Bool), v31 = .bool x31_3 ∧ Aside0 (spec_InsertFact.j0 kq x31_3 a1_0 l1_1 t229 t232 = some (r1, r2, r3)) ∧ Aside0 (kq ≤ k) ∧ Aside0 (Kd.R k68 68 wc w.heap.size (fun k_ => (w.heap.size ≤ k_)) (.slice Ao13 t229.length co13) t229) ∧ Aside0 (Kd.N k39 39 wc w.heap.size (fun k_ => (w.heap.size ≤ k_) ∧ some k_ ≠ ((.slice Ao13 t229.length co13) : Value).ownBlock ∧ k_ ≠ gb226 ∧ k_ ≠ gb227 ∧ k_ ≠ gb228 ∧ k_ ≠ gb235) (.slice Ao18 t232.length co18) t232) ∧ Aside0 (wc.heap[gb226]? = some (.cells #[(.slice A0_0 l0_0.length c0_0), (.slice A0_1 l0_1.length c0_1)] 31 (0, 0))) ∧ Aside0 (wc.heap[gb227]? = some (.cells #[.int .i64 a1_0, (.slice A1_1 l1_1.length c1_1)] 39 (0, 0))) ∧ Aside0 (wc.heap[gb228]? = some (.cells #[(.slice none 0 0), (.slice none 0 0)] 31 (0, 0))) ∧ Aside0 (wc.heap[gb235]? = some (.cells #[(.slice Ao13 t229.length co13), (.slice Ao18 t232.length co18)] 31 (0, 0))) ∧ Aside0 (Below w.heap.size w wc))
 case first =>
  have H := HC4.out
  clear HC4
  replace H := bM H
  obtain ⟨t236, A190, H⟩ := H
  have A19 := aM A190
  clear A190
  by_cases c20 : t236 = true
  ·subst c20
   replace H := iT H
   replace H := bM H
   obtain ⟨t237, A210, H⟩ := H
   have A21 := aM A210
   clear A210
   by_cases c22 : t237 = true
   ·subst c22
    replace H := iT H
    replace H := bM H
    obtain ⟨t238, A230, H⟩ := H
    have A23 := aM A230
    clear A230
    by_cases c24 : t238 = true
    ·subst c24
     replace H := iT H
     have H' := aM H
     clear H
     have hnb25 := NB226_227.out
     have hnc25 := NB227_226.out
     have hnb26 := NB226_228.out
     have hnc26 := NB228_226.out
     have hnb27 := NB226_235.out
     have hnc27 := NB235_226.out
     have hcz28_0 : w12.cell? ⟨gb226, 0, none⟩ = some (.slice A0_0 l0_0.length c0_0) := (blk_cell BK226.out 0).trans rfl
     have hcz28_1 : w12.cell? ⟨gb226, 1, none⟩ = some (.slice A0_1 l0_1.length c0_1) := (blk_cell BK226.out 1).trans rfl
     have hfz28_0 := blk_frozen BK226.out 0
     have hfz28_1 := blk_frozen BK226.out 1
     go_wp2_with (first | ((with_reducible refine gate_callee (f := 33) rfl ?_); refine goesL_ (some 12) rfl rfl Tryd.func33 (by kernel_rfl) rfl #[.agg #[.slice A0_0 l0_0.length c0_0, .slice A0_1 l0_1.length c0_1]] rfl aA ?_; (with_reducible refine (spec_IsValidDatabase.calls k _ _ l0_0 _ _ l0_1 true _ ?side1 ?side2 ?side3 ?side4 A19.out).mono ?_); (case side1 => exact Kd.C_below HR0_0.out aG); (case side2 => exact HC0_0.out); (case side3 => exact Kd.C_below HR0_1.out aG); (case side4 => exact HC0_1.out); rintro e w29 ⟨rfl, hb⟩; refine ⟨_, rfl, ?_⟩; replace HO231 := aM (Kd.R_below (by (with_reducible repeat apply pR); exact (Kd.R_mono (Kd.R_far (p := ⟨gb235, 1, none⟩) (Kd.R_far (p := ⟨gb235, 0, none⟩) (Kd.R_types HO231.out BK235.out (by decide)) (fun _ hk => hk.2) (.slice Ao13 t229.length co13)) (fun _ hk => hk.2) (.slice Ao18 t232.length co18)) (fun _ h_ => h_.1))) hb); replace HO234 := aM (Kd.N_below (by (with_reducible repeat apply pN); exact (Kd.N_mono (Kd.N_far (p := ⟨gb235, 1, none⟩) (Kd.N_far (p := ⟨gb235, 0, none⟩) (Kd.N_mono HO234.out (fun k_ hk => (⟨hk, hk.2⟩ : _ ∧ k_ ≠ gb235))) (fun _ hk => hk.2) (.slice Ao13 t229.length co13)) (fun _ hk => hk.2) (.slice Ao18 t232.length co18)) (fun _ h_ => h_.1))) hb); replace BK226 := aM (blk_below (g := gb226) (o := .cells #[.slice A0_0 l0_0.length c0_0, .slice A0_1 l0_1.length c0_1] 31 (0, 0)) (by (with_reducible repeat refine pB ?_); refine blk_far ?_ NB226_235.out _; (with_reducible repeat refine pB ?_); refine blk_far ?_ NB226_235.out _; (with_reducible repeat refine pB ?_); exact BK226.out) hb); replace BK227 := aM (blk_below (g := gb227) (o := .cells #[.int .i64 a1_0, .slice A1_1 l1_1.length c1_1] 39 (0, 0)) (by (with_reducible repeat refine pB ?_); refine blk_far ?_ NB227_235.out _; (with_reducible repeat refine pB ?_); refine blk_far ?_ NB227_235.out _; (with_reducible repeat refine pB ?_); exact BK227.out) hb); replace BK228 := aM (blk_below (g := gb228) (o := .cells #[.slice none 0 0, .slice none 0 0] 31 (0, 0)) (by (with_reducible repeat refine pB ?_); refine blk_far ?_ NB228_235.out _; (with_reducible repeat refine pB ?_); refine blk_far ?_ NB228_235.out _; (with_reducible repeat refine pB ?_); exact BK228.out) hb); replace BK235 := aM (blk_below (g := gb235) (o := .cells #[.slice Ao13 t229.length co13, .slice Ao18 t232.length co18] 31 (0, 0)) (by (with_reducible repeat refine pB ?_); refine blk_put (cs := #[.slice Ao13 t229.length co13, .slice none 0 0]) ?_ 1 _ rfl; (with_reducible repeat refine pB ?_); refine blk_put (cs := #[.slice none 0 0, .slice none 0 0]) ?_ 0 _ rfl; (with_reducible repeat refine pB ?_); exact BK235.out) hb); replace HB := aM (below_step aG hb); (try clear hb); (try clear hb2); (try clear hk); (try clear hi); have hcz30_0 : w29.cell? ⟨gb226, 0, none⟩ = some (.slice A0_0 l0_0.length c0_0) := (blk_cell BK226.out 0).trans rfl; have hcz30_1 : w29.cell? ⟨gb226, 1, none⟩ = some (.slice A0_1 l0_1.length c0_1) := (blk_cell BK226.out 1).trans rfl; have hfz30_0 := blk_frozen BK226.out 0; have hfz30_1 := blk_frozen BK226.out 1; have hnb31 := NB227_228.out; have hnc31 := NB228_227.out; have hnb32 := NB227_235.out; have hnc32 := NB235_227.out; have hcz33_0 : w29.cell? ⟨gb227, 0, none⟩ = some (.int .i64 a1_0) := (blk_cell BK227.out 0).trans rfl; have hcz33_1 : w29.cell? ⟨gb227, 1, none⟩ = some (.slice A1_1 l1_1.length c1_1) := (blk_cell BK227.out 1).trans rfl; have hfz33_0 := blk_frozen BK227.out 0; have hfz33_1 := blk_frozen BK227.out 1) | (go_at_call 20; (with_reducible refine (spec_IsValidFact.calls k _ _ l0_0 a1_0 _ _ l1_1 true _ ?side1 ?side2 ?side3 ?side4 A21.out).mono ?_); (case side1 => exact aC); (case side2 => exact HC0_0.out); (case side3 => exact aC); (case side4 => exact HC1_1.out); rintro e w34 ⟨rfl, hb⟩; have n0_ := aM (Kd.R_below (aR HO231) hb); have n1_ := aM (Kd.N_below (aN HO234) hb); have n2_ := aM (kB gb226 #[.slice A0_0 l0_0.length c0_0, .slice A0_1 l0_1.length c0_1] 31 hb); have n3_ := aM (kB gb227 #[.int .i64 a1_0, .slice A1_1 l1_1.length c1_1] 39 hb); have n4_ := aM (kB gb228 #[.slice none 0 0, .slice none 0 0] 31 hb); have n5_ := aM (kB gb235 #[.slice Ao13 t229.length co13, .slice Ao18 t232.length co18] 31 hb); have n6_ := aM (below_step aG hb); clear HO231; clear HO234; clear BK226; clear BK227; clear BK228; clear BK235; clear HB; have HO231 := n0_; have HO234 := n1_; have BK226 := n2_; have BK227 := n3_; have BK228 := n4_; have BK235 := n5_; have HB := n6_; clear n0_ n1_ n2_ n3_ n4_ n5_ n6_; (try clear hb); (try clear hb2); (try clear hk); (try clear hi); have hcz35_0 : w34.cell? ⟨gb226, 0, none⟩ = some (.slice A0_0 l0_0.length c0_0) := (blk_cell BK226.out 0).trans rfl; have hcz35_1 : w34.cell? ⟨gb226, 1, none⟩ = some (.slice A0_1 l0_1.length c0_1) := (blk_cell BK226.out 1).trans rfl; have hfz35_0 := blk_frozen BK226.out 0; have hfz35_1 := blk_frozen BK226.out 1; have hcz36_0 : w34.cell? ⟨gb227, 0, none⟩ = some (.int .i64 a1_0) := (blk_cell BK227.out 0).trans rfl; have hcz36_1 : w34.cell? ⟨gb227, 1, none⟩ = some (.slice A1_1 l1_1.length c1_1) := (blk_cell BK227.out 1).trans rfl; have hfz36_0 := blk_frozen BK227.out 0; have hfz36_1 := blk_frozen BK227.out 1) | (go_at_call 114; (with_reducible refine (spec_ContainsFact.calls k _ _ l0_0 _ _ l0_1 a1_0 _ _ l1_1 true _ ?side1 ?side2 ?side3 ?side4 ?side5 ?side6 A23.out).mono ?_); (case side1 => exact aC); (case side2 => exact HC0_0.out); (case side3 => exact aC); (case side4 => exact HC0_1.out); (case side5 => exact aC); (case side6 => exact HC1_1.out); rintro e w37 ⟨rfl, hb⟩; have n0_ := aM (Kd.R_below (aR HO231) hb); have n1_ := aM (Kd.N_below (aN HO234) hb); have n2_ := aM (kB gb226 #[.slice A0_0 l0_0.length c0_0, .slice A0_1 l0_1.length c0_1] 31 hb); have n3_ := aM (kB gb227 #[.int .i64 a1_0, .slice A1_1 l1_1.length c1_1] 39 hb); have n4_ := aM (kB gb228 #[.slice none 0 0, .slice none 0 0] 31 hb); have n5_ := aM (kB gb235 #[.slice Ao13 t229.length co13, .slice Ao18 t232.length co18] 31 hb); have n6_ := aM (below_step aG hb); clear HO231; clear HO234; clear BK226; clear BK227; clear BK228; clear BK235; clear HB; have HO231 := n0_; have HO234 := n1_; have BK226 := n2_; have BK227 := n3_; have BK228 := n4_; have BK235 := n5_; have HB := n6_; clear n0_ n1_ n2_ n3_ n4_ n5_ n6_; (try clear hb); (try clear hb2); (try clear hk); (try clear hi)))
     go_meet
     case rel => exact ⟨_, (true), aX, H', ⟨by first | omega | exact Nat.le_refl _⟩, ⟨by (with_reducible repeat apply pR); exact Kd.R_mono HO231.out (fun _ hk => hk.1)⟩, ⟨by (with_reducible repeat apply pN); exact Kd.N_mono HO234.out (fun _ hk => ⟨hk.1.1, ⟨hk.1.2.1, ⟨hk.1.2.2.1, ⟨hk.1.2.2.2.1, ⟨hk.1.2.2.2.2, hk.2⟩⟩⟩⟩⟩)⟩, ⟨aK⟩, ⟨aK⟩, ⟨aK⟩, ⟨aK⟩, ⟨aG⟩⟩
    ·replace c24 := Bool.eq_false_iff.mpr c24
     subst c24
     have H1 : (spec_InsertFact.j0 k ((l0_1.length : Int) == 14) a1_0 l1_1 t229 t232) = some (r1, r2, r3) := by rw [if_neg (show ¬ (false = true) by decide)] at H; exact H
     clear H
     have H := H1
     clear H1
     have H' := aM H
     clear H
     have hnb38 := NB226_227.out
     have hnc38 := NB227_226.out
     have hnb39 := NB226_228.out
     have hnc39 := NB228_226.out
     have hnb40 := NB226_235.out
     have hnc40 := NB235_226.out
     have hcz41_0 : w12.cell? ⟨gb226, 0, none⟩ = some (.slice A0_0 l0_0.length c0_0) := (blk_cell BK226.out 0).trans rfl
     have hcz41_1 : w12.cell? ⟨gb226, 1, none⟩ = some (.slice A0_1 l0_1.length c0_1) := (blk_cell BK226.out 1).trans rfl
     have hfz41_0 := blk_frozen BK226.out 0
     have hfz41_1 := blk_frozen BK226.out 1
     go_wp2_with (first | ((with_reducible refine gate_callee (f := 33) rfl ?_); refine goesL_ (some 12) rfl rfl Tryd.func33 (by kernel_rfl) rfl #[.agg #[.slice A0_0 l0_0.length c0_0, .slice A0_1 l0_1.length c0_1]] rfl aA ?_; (with_reducible refine (spec_IsValidDatabase.calls k _ _ l0_0 _ _ l0_1 true _ ?side1 ?side2 ?side3 ?side4 A19.out).mono ?_); (case side1 => exact Kd.C_below HR0_0.out aG); (case side2 => exact HC0_0.out); (case side3 => exact Kd.C_below HR0_1.out aG); (case side4 => exact HC0_1.out); rintro e w42 ⟨rfl, hb⟩; refine ⟨_, rfl, ?_⟩; replace HO231 := aM (Kd.R_below (by (with_reducible repeat apply pR); exact (Kd.R_mono (Kd.R_far (p := ⟨gb235, 1, none⟩) (Kd.R_far (p := ⟨gb235, 0, none⟩) (Kd.R_types HO231.out BK235.out (by decide)) (fun _ hk => hk.2) (.slice Ao13 t229.length co13)) (fun _ hk => hk.2) (.slice Ao18 t232.length co18)) (fun _ h_ => h_.1))) hb); replace HO234 := aM (Kd.N_below (by (with_reducible repeat apply pN); exact (Kd.N_mono (Kd.N_far (p := ⟨gb235, 1, none⟩) (Kd.N_far (p := ⟨gb235, 0, none⟩) (Kd.N_mono HO234.out (fun k_ hk => (⟨hk, hk.2⟩ : _ ∧ k_ ≠ gb235))) (fun _ hk => hk.2) (.slice Ao13 t229.length co13)) (fun _ hk => hk.2) (.slice Ao18 t232.length co18)) (fun _ h_ => h_.1))) hb); replace BK226 := aM (blk_below (g := gb226) (o := .cells #[.slice A0_0 l0_0.length c0_0, .slice A0_1 l0_1.length c0_1] 31 (0, 0)) (by (with_reducible repeat refine pB ?_); refine blk_far ?_ NB226_235.out _; (with_reducible repeat refine pB ?_); refine blk_far ?_ NB226_235.out _; (with_reducible repeat refine pB ?_); exact BK226.out) hb); replace BK227 := aM (blk_below (g := gb227) (o := .cells #[.int .i64 a1_0, .slice A1_1 l1_1.length c1_1] 39 (0, 0)) (by (with_reducible repeat refine pB ?_); refine blk_far ?_ NB227_235.out _; (with_reducible repeat refine pB ?_); refine blk_far ?_ NB227_235.out _; (with_reducible repeat refine pB ?_); exact BK227.out) hb); replace BK228 := aM (blk_below (g := gb228) (o := .cells #[.slice none 0 0, .slice none 0 0] 31 (0, 0)) (by (with_reducible repeat refine pB ?_); refine blk_far ?_ NB228_235.out _; (with_reducible repeat refine pB ?_); refine blk_far ?_ NB228_235.out _; (with_reducible repeat refine pB ?_); exact BK228.out) hb); replace BK235 := aM (blk_below (g := gb235) (o := .cells #[.slice Ao13 t229.length co13, .slice Ao18 t232.length co18] 31 (0, 0)) (by (with_reducible repeat refine pB ?_); refine blk_put (cs := #[.slice Ao13 t229.length co13, .slice none 0 0]) ?_ 1 _ rfl; (with_reducible repeat refine pB ?_); refine blk_put (cs := #[.slice none 0 0, .slice none 0 0]) ?_ 0 _ rfl; (with_reducible repeat refine pB ?_); exact BK235.out) hb); replace HB := aM (below_step aG hb); (try clear hb); (try clear hb2); (try clear hk); (try clear hi); have hcz43_0 : w42.cell? ⟨gb226, 0, none⟩ = some (.slice A0_0 l0_0.length c0_0) := (blk_cell BK226.out 0).trans rfl; have hcz43_1 : w42.cell? ⟨gb226, 1, none⟩ = some (.slice A0_1 l0_1.length c0_1) := (blk_cell BK226.out 1).trans rfl; have hfz43_0 := blk_frozen BK226.out 0; have hfz43_1 := blk_frozen BK226.out 1; have hnb44 := NB227_228.out; have hnc44 := NB228_227.out; have hnb45 := NB227_235.out; have hnc45 := NB235_227.out; have hcz46_0 : w42.cell? ⟨gb227, 0, none⟩ = some (.int .i64 a1_0) := (blk_cell BK227.out 0).trans rfl; have hcz46_1 : w42.cell? ⟨gb227, 1, none⟩ = some (.slice A1_1 l1_1.length c1_1) := (blk_cell BK227.out 1).trans rfl; have hfz46_0 := blk_frozen BK227.out 0; have hfz46_1 := blk_frozen BK227.out 1) | (go_at_call 20; (with_reducible refine (spec_IsValidFact.calls k _ _ l0_0 a1_0 _ _ l1_1 true _ ?side1 ?side2 ?side3 ?side4 A21.out).mono ?_); (case side1 => exact aC); (case side2 => exact HC0_0.out); (case side3 => exact aC); (case side4 => exact HC1_1.out); rintro e w47 ⟨rfl, hb⟩; have n0_ := aM (Kd.R_below (aR HO231) hb); have n1_ := aM (Kd.N_below (aN HO234) hb); have n2_ := aM (kB gb226 #[.slice A0_0 l0_0.length c0_0, .slice A0_1 l0_1.length c0_1] 31 hb); have n3_ := aM (kB gb227 #[.int .i64 a1_0, .slice A1_1 l1_1.length c1_1] 39 hb); have n4_ := aM (kB gb228 #[.slice none 0 0, .slice none 0 0] 31 hb); have n5_ := aM (kB gb235 #[.slice Ao13 t229.length co13, .slice Ao18 t232.length co18] 31 hb); have n6_ := aM (below_step aG hb); clear HO231; clear HO234; clear BK226; clear BK227; clear BK228; clear BK235; clear HB; have HO231 := n0_; have HO234 := n1_; have BK226 := n2_; have BK227 := n3_; have BK228 := n4_; have BK235 := n5_; have HB := n6_; clear n0_ n1_ n2_ n3_ n4_ n5_ n6_; (try clear hb); (try clear hb2); (try clear hk); (try clear hi); have hcz48_0 : w47.cell? ⟨gb226, 0, none⟩ = some (.slice A0_0 l0_0.length c0_0) := (blk_cell BK226.out 0).trans rfl; have hcz48_1 : w47.cell? ⟨gb226, 1, none⟩ = some (.slice A0_1 l0_1.length c0_1) := (blk_cell BK226.out 1).trans rfl; have hfz48_0 := blk_frozen BK226.out 0; have hfz48_1 := blk_frozen BK226.out 1; have hcz49_0 : w47.cell? ⟨gb227, 0, none⟩ = some (.int .i64 a1_0) := (blk_cell BK227.out 0).trans rfl; have hcz49_1 : w47.cell? ⟨gb227, 1, none⟩ = some (.slice A1_1 l1_1.length c1_1) := (blk_cell BK227.out 1).trans rfl; have hfz49_0 := blk_frozen BK227.out 0; have hfz49_1 := blk_frozen BK227.out 1) | (go_at_call 114; (with_reducible refine (spec_ContainsFact.calls k _ _ l0_0 _ _ l0_1 a1_0 _ _ l1_1 false _ ?side1 ?side2 ?side3 ?side4 ?side5 ?side6 A23.out).mono ?_); (case side1 => exact aC); (case side2 => exact HC0_0.out); (case side3 => exact aC); (case side4 => exact HC0_1.out); (case side5 => exact aC); (case side6 => exact HC1_1.out); rintro e w50 ⟨rfl, hb⟩; have n0_ := aM (Kd.R_below (aR HO231) hb); have n1_ := aM (Kd.N_below (aN HO234) hb); have n2_ := aM (kB gb226 #[.slice A0_0 l0_0.length c0_0, .slice A0_1 l0_1.length c0_1] 31 hb); have n3_ := aM (kB gb227 #[.int .i64 a1_0, .slice A1_1 l1_1.length c1_1] 39 hb); have n4_ := aM (kB gb228 #[.slice none 0 0, .slice none 0 0] 31 hb); have n5_ := aM (kB gb235 #[.slice Ao13 t229.length co13, .slice Ao18 t232.length co18] 31 hb); have n6_ := aM (below_step aG hb); clear HO231; clear HO234; clear BK226; clear BK227; clear BK228; clear BK235; clear HB; have HO231 := n0_; have HO234 := n1_; have BK226 := n2_; have BK227 := n3_; have BK228 := n4_; have BK235 := n5_; have HB := n6_; clear n0_ n1_ n2_ n3_ n4_ n5_ n6_; (try clear hb); (try clear hb2); (try clear hk); (try clear hi); have hcz51_0 : w50.cell? ⟨gb226, 0, none⟩ = some (.slice A0_0 l0_0.length c0_0) := (blk_cell BK226.out 0).trans rfl; have hcz51_1 : w50.cell? ⟨gb226, 1, none⟩ = some (.slice A0_1 l0_1.length c0_1) := (blk_cell BK226.out 1).trans rfl; have hfz51_0 := blk_frozen BK226.out 0; have hfz51_1 := blk_frozen BK226.out 1))
     go_meet
     case rel => exact ⟨_, (((l0_1.length : Int) == 14)), aX, H', ⟨by first | omega | exact Nat.le_refl _⟩, ⟨by (with_reducible repeat apply pR); exact Kd.R_mono HO231.out (fun _ hk => hk.1)⟩, ⟨by (with_reducible repeat apply pN); exact Kd.N_mono HO234.out (fun _ hk => ⟨hk.1.1, ⟨hk.1.2.1, ⟨hk.1.2.2.1, ⟨hk.1.2.2.2.1, ⟨hk.1.2.2.2.2, hk.2⟩⟩⟩⟩⟩)⟩, ⟨aK⟩, ⟨aK⟩, ⟨aK⟩, ⟨aK⟩, ⟨aG⟩⟩
   ·replace c22 := Bool.eq_false_iff.mpr c22
    subst c22
    have H1 : (spec_InsertFact.j0 k true a1_0 l1_1 t229 t232) = some (r1, r2, r3) := by rw [if_neg (show ¬ (false = true) by decide)] at H; exact H
    clear H
    have H := H1
    clear H1
    have H' := aM H
    clear H
    have hnb52 := NB226_227.out
    have hnc52 := NB227_226.out
    have hnb53 := NB226_228.out
    have hnc53 := NB228_226.out
    have hnb54 := NB226_235.out
    have hnc54 := NB235_226.out
    have hcz55_0 : w12.cell? ⟨gb226, 0, none⟩ = some (.slice A0_0 l0_0.length c0_0) := (blk_cell BK226.out 0).trans rfl
    have hcz55_1 : w12.cell? ⟨gb226, 1, none⟩ = some (.slice A0_1 l0_1.length c0_1) := (blk_cell BK226.out 1).trans rfl
    have hfz55_0 := blk_frozen BK226.out 0
    have hfz55_1 := blk_frozen BK226.out 1
    go_wp2_with (first | ((with_reducible refine gate_callee (f := 33) rfl ?_); refine goesL_ (some 12) rfl rfl Tryd.func33 (by kernel_rfl) rfl #[.agg #[.slice A0_0 l0_0.length c0_0, .slice A0_1 l0_1.length c0_1]] rfl aA ?_; (with_reducible refine (spec_IsValidDatabase.calls k _ _ l0_0 _ _ l0_1 true _ ?side1 ?side2 ?side3 ?side4 A19.out).mono ?_); (case side1 => exact Kd.C_below HR0_0.out aG); (case side2 => exact HC0_0.out); (case side3 => exact Kd.C_below HR0_1.out aG); (case side4 => exact HC0_1.out); rintro e w56 ⟨rfl, hb⟩; refine ⟨_, rfl, ?_⟩; replace HO231 := aM (Kd.R_below (by (with_reducible repeat apply pR); exact (Kd.R_mono (Kd.R_far (p := ⟨gb235, 1, none⟩) (Kd.R_far (p := ⟨gb235, 0, none⟩) (Kd.R_types HO231.out BK235.out (by decide)) (fun _ hk => hk.2) (.slice Ao13 t229.length co13)) (fun _ hk => hk.2) (.slice Ao18 t232.length co18)) (fun _ h_ => h_.1))) hb); replace HO234 := aM (Kd.N_below (by (with_reducible repeat apply pN); exact (Kd.N_mono (Kd.N_far (p := ⟨gb235, 1, none⟩) (Kd.N_far (p := ⟨gb235, 0, none⟩) (Kd.N_mono HO234.out (fun k_ hk => (⟨hk, hk.2⟩ : _ ∧ k_ ≠ gb235))) (fun _ hk => hk.2) (.slice Ao13 t229.length co13)) (fun _ hk => hk.2) (.slice Ao18 t232.length co18)) (fun _ h_ => h_.1))) hb); replace BK226 := aM (blk_below (g := gb226) (o := .cells #[.slice A0_0 l0_0.length c0_0, .slice A0_1 l0_1.length c0_1] 31 (0, 0)) (by (with_reducible repeat refine pB ?_); refine blk_far ?_ NB226_235.out _; (with_reducible repeat refine pB ?_); refine blk_far ?_ NB226_235.out _; (with_reducible repeat refine pB ?_); exact BK226.out) hb); replace BK227 := aM (blk_below (g := gb227) (o := .cells #[.int .i64 a1_0, .slice A1_1 l1_1.length c1_1] 39 (0, 0)) (by (with_reducible repeat refine pB ?_); refine blk_far ?_ NB227_235.out _; (with_reducible repeat refine pB ?_); refine blk_far ?_ NB227_235.out _; (with_reducible repeat refine pB ?_); exact BK227.out) hb); replace BK228 := aM (blk_below (g := gb228) (o := .cells #[.slice none 0 0, .slice none 0 0] 31 (0, 0)) (by (with_reducible repeat refine pB ?_); refine blk_far ?_ NB228_235.out _; (with_reducible repeat refine pB ?_); refine blk_far ?_ NB228_235.out _; (with_reducible repeat refine pB ?_); exact BK228.out) hb); replace BK235 := aM (blk_below (g := gb235) (o := .cells #[.slice Ao13 t229.length co13, .slice Ao18 t232.length co18] 31 (0, 0)) (by (with_reducible repeat refine pB ?_); refine blk_put (cs := #[.slice Ao13 t229.length co13, .slice none 0 0]) ?_ 1 _ rfl; (with_reducible repeat refine pB ?_); refine blk_put (cs := #[.slice none 0 0, .slice none 0 0]) ?_ 0 _ rfl; (with_reducible repeat refine pB ?_); exact BK235.out) hb); replace HB := aM (below_step aG hb); (try clear hb); (try clear hb2); (try clear hk); (try clear hi); have hcz57_0 : w56.cell? ⟨gb226, 0, none⟩ = some (.slice A0_0 l0_0.length c0_0) := (blk_cell BK226.out 0).trans rfl; have hcz57_1 : w56.cell? ⟨gb226, 1, none⟩ = some (.slice A0_1 l0_1.length c0_1) := (blk_cell BK226.out 1).trans rfl; have hfz57_0 := blk_frozen BK226.out 0; have hfz57_1 := blk_frozen BK226.out 1; have hnb58 := NB227_228.out; have hnc58 := NB228_227.out; have hnb59 := NB227_235.out; have hnc59 := NB235_227.out; have hcz60_0 : w56.cell? ⟨gb227, 0, none⟩ = some (.int .i64 a1_0) := (blk_cell BK227.out 0).trans rfl; have hcz60_1 : w56.cell? ⟨gb227, 1, none⟩ = some (.slice A1_1 l1_1.length c1_1) := (blk_cell BK227.out 1).trans rfl; have hfz60_0 := blk_frozen BK227.out 0; have hfz60_1 := blk_frozen BK227.out 1) | (go_at_call 20; (with_reducible refine (spec_IsValidFact.calls k _ _ l0_0 a1_0 _ _ l1_1 false _ ?side1 ?side2 ?side3 ?side4 A21.out).mono ?_); (case side1 => exact aC); (case side2 => exact HC0_0.out); (case side3 => exact aC); (case side4 => exact HC1_1.out); rintro e w61 ⟨rfl, hb⟩; have n0_ := aM (Kd.R_below (aR HO231) hb); have n1_ := aM (Kd.N_below (aN HO234) hb); have n2_ := aM (kB gb226 #[.slice A0_0 l0_0.length c0_0, .slice A0_1 l0_1.length c0_1] 31 hb); have n3_ := aM (kB gb227 #[.int .i64 a1_0, .slice A1_1 l1_1.length c1_1] 39 hb); have n4_ := aM (kB gb228 #[.slice none 0 0, .slice none 0 0] 31 hb); have n5_ := aM (kB gb235 #[.slice Ao13 t229.length co13, .slice Ao18 t232.length co18] 31 hb); have n6_ := aM (below_step aG hb); clear HO231; clear HO234; clear BK226; clear BK227; clear BK228; clear BK235; clear HB; have HO231 := n0_; have HO234 := n1_; have BK226 := n2_; have BK227 := n3_; have BK228 := n4_; have BK235 := n5_; have HB := n6_; clear n0_ n1_ n2_ n3_ n4_ n5_ n6_; (try clear hb); (try clear hb2); (try clear hk); (try clear hi)))
    go_meet
    case rel => exact ⟨_, (true), aX, H', ⟨by first | omega | exact Nat.le_refl _⟩, ⟨by (with_reducible repeat apply pR); exact Kd.R_mono HO231.out (fun _ hk => hk.1)⟩, ⟨by (with_reducible repeat apply pN); exact Kd.N_mono HO234.out (fun _ hk => ⟨hk.1.1, ⟨hk.1.2.1, ⟨hk.1.2.2.1, ⟨hk.1.2.2.2.1, ⟨hk.1.2.2.2.2, hk.2⟩⟩⟩⟩⟩)⟩, ⟨aK⟩, ⟨aK⟩, ⟨aK⟩, ⟨aK⟩, ⟨aG⟩⟩
  ·replace c20 := Bool.eq_false_iff.mpr c20
   subst c20
   have H1 : (spec_InsertFact.j0 k true a1_0 l1_1 t229 t232) = some (r1, r2, r3) := by rw [if_neg (show ¬ (false = true) by decide)] at H; exact H
   clear H
   have H := H1
   clear H1
   have H' := aM H
   clear H
   have hnb62 := NB226_227.out
   have hnc62 := NB227_226.out
   have hnb63 := NB226_228.out
   have hnc63 := NB228_226.out
   have hnb64 := NB226_235.out
   have hnc64 := NB235_226.out
   have hcz65_0 : w12.cell? ⟨gb226, 0, none⟩ = some (.slice A0_0 l0_0.length c0_0) := (blk_cell BK226.out 0).trans rfl
   have hcz65_1 : w12.cell? ⟨gb226, 1, none⟩ = some (.slice A0_1 l0_1.length c0_1) := (blk_cell BK226.out 1).trans rfl
   have hfz65_0 := blk_frozen BK226.out 0
   have hfz65_1 := blk_frozen BK226.out 1
   go_wp2_with (first | ((with_reducible refine gate_callee (f := 33) rfl ?_); refine goesL_ (some 12) rfl rfl Tryd.func33 (by kernel_rfl) rfl #[.agg #[.slice A0_0 l0_0.length c0_0, .slice A0_1 l0_1.length c0_1]] rfl aA ?_; (with_reducible refine (spec_IsValidDatabase.calls k _ _ l0_0 _ _ l0_1 false _ ?side1 ?side2 ?side3 ?side4 A19.out).mono ?_); (case side1 => exact Kd.C_below HR0_0.out aG); (case side2 => exact HC0_0.out); (case side3 => exact Kd.C_below HR0_1.out aG); (case side4 => exact HC0_1.out); rintro e w66 ⟨rfl, hb⟩; refine ⟨_, rfl, ?_⟩; replace HO231 := aM (Kd.R_below (by (with_reducible repeat apply pR); exact (Kd.R_mono (Kd.R_far (p := ⟨gb235, 1, none⟩) (Kd.R_far (p := ⟨gb235, 0, none⟩) (Kd.R_types HO231.out BK235.out (by decide)) (fun _ hk => hk.2) (.slice Ao13 t229.length co13)) (fun _ hk => hk.2) (.slice Ao18 t232.length co18)) (fun _ h_ => h_.1))) hb); replace HO234 := aM (Kd.N_below (by (with_reducible repeat apply pN); exact (Kd.N_mono (Kd.N_far (p := ⟨gb235, 1, none⟩) (Kd.N_far (p := ⟨gb235, 0, none⟩) (Kd.N_mono HO234.out (fun k_ hk => (⟨hk, hk.2⟩ : _ ∧ k_ ≠ gb235))) (fun _ hk => hk.2) (.slice Ao13 t229.length co13)) (fun _ hk => hk.2) (.slice Ao18 t232.length co18)) (fun _ h_ => h_.1))) hb); replace BK226 := aM (blk_below (g := gb226) (o := .cells #[.slice A0_0 l0_0.length c0_0, .slice A0_1 l0_1.length c0_1] 31 (0, 0)) (by (with_reducible repeat refine pB ?_); refine blk_far ?_ NB226_235.out _; (with_reducible repeat refine pB ?_); refine blk_far ?_ NB226_235.out _; (with_reducible repeat refine pB ?_); exact BK226.out) hb); replace BK227 := aM (blk_below (g := gb227) (o := .cells #[.int .i64 a1_0, .slice A1_1 l1_1.length c1_1] 39 (0, 0)) (by (with_reducible repeat refine pB ?_); refine blk_far ?_ NB227_235.out _; (with_reducible repeat refine pB ?_); refine blk_far ?_ NB227_235.out _; (with_reducible repeat refine pB ?_); exact BK227.out) hb); replace BK228 := aM (blk_below (g := gb228) (o := .cells #[.slice none 0 0, .slice none 0 0] 31 (0, 0)) (by (with_reducible repeat refine pB ?_); refine blk_far ?_ NB228_235.out _; (with_reducible repeat refine pB ?_); refine blk_far ?_ NB228_235.out _; (with_reducible repeat refine pB ?_); exact BK228.out) hb); replace BK235 := aM (blk_below (g := gb235) (o := .cells #[.slice Ao13 t229.length co13, .slice Ao18 t232.length co18] 31 (0, 0)) (by (with_reducible repeat refine pB ?_); refine blk_put (cs := #[.slice Ao13 t229.length co13, .slice none 0 0]) ?_ 1 _ rfl; (with_reducible repeat refine pB ?_); refine blk_put (cs := #[.slice none 0 0, .slice none 0 0]) ?_ 0 _ rfl; (with_reducible repeat refine pB ?_); exact BK235.out) hb); replace HB := aM (below_step aG hb); (try clear hb); (try clear hb2); (try clear hk); (try clear hi)))
   go_meet
   case rel => exact ⟨_, (true), aX, H', ⟨by first | omega | exact Nat.le_refl _⟩, ⟨by (with_reducible repeat apply pR); exact Kd.R_mono HO231.out (fun _ hk => hk.1)⟩, ⟨by (with_reducible repeat apply pN); exact Kd.N_mono HO234.out (fun _ hk => ⟨hk.1.1, ⟨hk.1.2.1, ⟨hk.1.2.2.1, ⟨hk.1.2.2.2.1, ⟨hk.1.2.2.2.2, hk.2⟩⟩⟩⟩⟩)⟩, ⟨aK⟩, ⟨aK⟩, ⟨aK⟩, ⟨aK⟩, ⟨aG⟩⟩
 case rest =>
  clear HC4
  try clear c1
  try clear c2
  try clear p2
  try clear c3
  try clear c4
  try clear c5
  try clear c6
  try clear c8
  try clear c9
  try clear c10
  try clear c11
  try clear c14
  try clear c15
  try clear c16
  try clear c20
  try clear c22
  try clear c24
  try clear c25
  try clear c26
  try clear c27
  try clear c31
  try clear c32
  try clear c33
  try clear c38
  try clear c39
  try clear c40
  try clear c44
  try clear c45
  try clear c52
  try clear c53
  try clear c54
  try clear c58
  try clear c59
  try clear c62
  try clear c63
  try clear c64
  try clear hcz10_0
  try clear hcz10_1
  try clear hcz17_0
  try clear hcz17_1
  try clear hcz28_0
  try clear hcz28_1
  try clear hcz30_0
  try clear hcz30_1
  try clear hcz33_0
  try clear hcz33_1
  try clear hcz35_0
  try clear hcz35_1
  try clear hcz36_0
  try clear hcz36_1
  try clear hcz41_0
  try clear hcz41_1
  try clear hcz43_0
  try clear hcz43_1
  try clear hcz46_0
  try clear hcz46_1
  try clear hcz48_0
  try clear hcz48_1
  try clear hcz49_0
  try clear hcz49_1
  try clear hcz51_0
  try clear hcz51_1
  try clear hcz55_0
  try clear hcz55_1
  try clear hcz57_0
  try clear hcz57_1
  try clear hcz60_0
  try clear hcz60_1
  try clear hcz65_0
  try clear hcz65_1
  try clear hfz10_0
  try clear hfz10_1
  try clear hfz17_0
  try clear hfz17_1
  try clear hfz28_0
  try clear hfz28_1
  try clear hfz30_0
  try clear hfz30_1
  try clear hfz33_0
  try clear hfz33_1
  try clear hfz35_0
  try clear hfz35_1
  try clear hfz36_0
  try clear hfz36_1
  try clear hfz41_0
  try clear hfz41_1
  try clear hfz43_0
  try clear hfz43_1
  try clear hfz46_0
  try clear hfz46_1
  try clear hfz48_0
  try clear hfz48_1
  try clear hfz49_0
  try clear hfz49_1
  try clear hfz51_0
  try clear hfz51_1
  try clear hfz55_0
  try clear hfz55_1
  try clear hfz57_0
  try clear hfz57_1
  try clear hfz60_0
  try clear hfz60_1
  try clear hfz65_0
  try clear hfz65_1
  obtain ⟨kq, x31_3, rfl, HA, HJ3, HO_236000, HO_236001, BK226, BK227, BK228, BK235, HB⟩ := hcut
  cases kq with
  | zero => exact absurd HA.out (by simp [spec_InsertFact.j0])
  | succ kj3 =>
   have H := HA.out
   clear HA
   simp only [spec_InsertFact.j0] at H
   by_cases c67 : x31_3 = true
   ·subst c67
    replace H := iT H
    simp only [Option.some.injEq, Prod.mk.injEq] at H
    obtain ⟨rfl, rfl, rfl⟩ := H
    have hnb68 := NB235_226.out
    have hnc68 := NB226_235.out
    have hnb69 := NB235_227.out
    have hnc69 := NB227_235.out
    have hnb70 := NB235_228.out
    have hnc70 := NB228_235.out
    have hcz71_0 : wc.cell? ⟨gb235, 0, none⟩ = some (.slice Ao13 t229.length co13) := (blk_cell BK235.out 0).trans rfl
    have hcz71_1 : wc.cell? ⟨gb235, 1, none⟩ = some (.slice Ao18 t232.length co18) := (blk_cell BK235.out 1).trans rfl
    have hfz71_0 := blk_frozen BK235.out 0
    have hfz71_1 := blk_frozen BK235.out 1
    have hnb72 := NB228_226.out
    have hnc72 := NB226_228.out
    have hnb73 := NB228_227.out
    have hnc73 := NB227_228.out
    have hcz74_0 : wc.cell? ⟨gb228, 0, none⟩ = some (.slice none 0 0) := (blk_cell BK228.out 0).trans rfl
    have hcz74_1 : wc.cell? ⟨gb228, 1, none⟩ = some (.slice none 0 0) := (blk_cell BK228.out 1).trans rfl
    have hfz74_0 := blk_frozen BK228.out 0
    have hfz74_1 := blk_frozen BK228.out 1
    go_wp2
    refine bodyPost_ret (results_ct rfl _ _ gb228 31 #[.slice Ao13 t229.length co13, .slice Ao18 t232.length co18] (0, 0) _ rfl (by (with_reducible repeat refine pB ?_); refine blk_put (cs := #[.slice Ao13 t229.length co13, .slice none 0 0]) ?_ 1 _ rfl; (with_reducible repeat refine pB ?_); refine blk_put (cs := #[.slice none 0 0, .slice none 0 0]) ?_ 0 _ rfl; (with_reducible repeat refine pB ?_); exact BK228.out) Tryd.underlying31 rfl (by kernel_rfl)) rfl ?_
    exact ⟨_, _, aE, by (with_reducible repeat apply pR); exact Kd.R_mono (Kd.R_far (p := ⟨gb228, 1, none⟩) (Kd.R_far (p := ⟨gb228, 0, none⟩) (Kd.R_types HO_236000.out BK228.out (by decide)) (fun _ hk => hk.2) (.slice Ao13 t229.length co13)) (fun _ hk => hk.2) (.slice Ao18 t232.length co18)) (fun _ hk => hk.1), by (with_reducible repeat apply pN); exact Kd.N_mono (Kd.N_far (p := ⟨gb228, 1, none⟩) (Kd.N_far (p := ⟨gb228, 0, none⟩) (Kd.N_mono HO_236001.out (fun k_ hk => (⟨hk, hk.2.2.2.2.1⟩ : _ ∧ k_ ≠ gb228))) (fun _ hk => hk.2) (.slice Ao13 t229.length co13)) (fun _ hk => hk.2) (.slice Ao18 t232.length co18)) (fun _ hk => ⟨hk.1.1, hk.1.2.1⟩), aG⟩
   ·replace c67 := Bool.eq_false_iff.mpr c67
    subst c67
    have H1 : (spec_InsertFact.l0 kj3 0 a1_0 l1_1 t229 t232) = some (r1, r2, r3) := by rw [if_neg (show ¬ (false = true) by decide)] at H; exact H
    clear H
    have H := H1
    clear H1
    have H' := aM H
    clear H
    go_wp2
    go_loopg [7] kj3 (fun kq v7 w' => ∃ (x7_2 : Int), v7 = .int .i64 x7_2 ∧ Aside0 (spec_InsertFact.l0 kq x7_2 a1_0 l1_1 t229 t232 = some (r1, r2, r3)) ∧ Aside0 (kq ≤ kj3) ∧ Aside0 (Kd.R k68 68 w' w.heap.size (fun k_ => (w.heap.size ≤ k_)) (.slice Ao13 t229.length co13) t229) ∧ Aside0 (Kd.N k39 39 w' w.heap.size (fun k_ => (w.heap.size ≤ k_) ∧ some k_ ≠ ((.slice Ao13 t229.length co13) : Value).ownBlock ∧ k_ ≠ gb226 ∧ k_ ≠ gb227 ∧ k_ ≠ gb228 ∧ k_ ≠ gb235) (.slice Ao18 t232.length co18) t232) ∧ Aside0 (w'.heap[gb226]? = some (.cells #[(.slice A0_0 l0_0.length c0_0), (.slice A0_1 l0_1.length c0_1)] 31 (0, 0))) ∧ Aside0 (w'.heap[gb227]? = some (.cells #[.int .i64 a1_0, (.slice A1_1 l1_1.length c1_1)] 39 (0, 0))) ∧ Aside0 (w'.heap[gb228]? = some (.cells #[(.slice none 0 0), (.slice none 0 0)] 31 (0, 0))) ∧ Aside0 (w'.heap[gb235]? = some (.cells #[(.slice Ao13 t229.length co13), (.slice Ao18 t232.length co18)] 31 (0, 0))) ∧ Aside0 (Below w.heap.size w w'))
    case atStart => exact ⟨(0), aX, H', ⟨Nat.le_refl _⟩, ⟨aR HO_236000⟩, ⟨aN HO_236001⟩, ⟨aK⟩, ⟨aK⟩, ⟨aK⟩, ⟨aK⟩, ⟨aG⟩⟩
    case round =>
     clear H'
     try clear c1
     try clear c2
     try clear p2
     try clear c3
     try clear c4
     try clear c5
     try clear c6
     try clear c7
     try clear c8
     try clear c9
     try clear c10
     try clear c11
     try clear c14
     try clear c15
     try clear c16
     try clear c20
     try clear c22
     try clear c24
     try clear c25
     try clear c26
     try clear c27
     try clear c31
     try clear c32
     try clear c33
     try clear c38
     try clear c39
     try clear c40
     try clear c44
     try clear c45
     try clear c52
     try clear c53
     try clear c54
     try clear c58
     try clear c59
     try clear c62
     try clear c63
     try clear c64
     try clear c67
     try clear c68
     try clear c69
     try clear c70
     try clear c72
     try clear c73
     try clear hcz10_0
     try clear hcz10_1
     try clear hcz17_0
     try clear hcz17_1
     try clear hcz28_0
     try clear hcz28_1
     try clear hcz30_0
     try clear hcz30_1
     try clear hcz33_0
     try clear hcz33_1
     try clear hcz35_0
     try clear hcz35_1
     try clear hcz36_0
     try clear hcz36_1
     try clear hcz41_0
     try clear hcz41_1
     try clear hcz43_0
     try clear hcz43_1
     try clear hcz46_0
     try clear hcz46_1
     try clear hcz48_0
     try clear hcz48_1
     try clear hcz49_0
     try clear hcz49_1
     try clear hcz51_0
     try clear hcz51_1
     try clear hcz55_0
     try clear hcz55_1
     try clear hcz57_0
     try clear hcz57_1
     try clear hcz60_0
     try clear hcz60_1
     try clear hcz65_0
     try clear hcz65_1
     try clear hcz71_0
     try clear hcz71_1
     try clear hcz74_0
     try clear hcz74_1
     try clear hfz10_0
     try clear hfz10_1
     try clear hfz17_0
     try clear hfz17_1
     try clear hfz28_0
     try clear hfz28_1
     try clear hfz30_0
     try clear hfz30_1
     try clear hfz33_0
     try clear hfz33_1
     try clear hfz35_0
     try clear hfz35_1
     try clear hfz36_0
     try clear hfz36_1
     try clear hfz41_0
     try clear hfz41_1
     try clear hfz43_0
     try clear hfz43_1
     try clear hfz46_0
     try clear hfz46_1
     try clear hfz48_0
     try clear hfz48_1
     try clear hfz49_0
     try clear hfz49_1
     try clear hfz51_0
     try clear hfz51_1
     try clear hfz55_0
     try clear hfz55_1
     try clear hfz57_0
     try clear hfz57_1
     try clear hfz60_0
     try clear hfz60_1
     try clear hfz65_0
     try clear hfz65_1
     try clear hfz71_0
     try clear hfz71_1
     try clear hfz74_0
     try clear hfz74_1
     try clear p2
     obtain ⟨x7_2, rfl, HA, HK2, HO_236000, HO_236001, BK226, BK227, BK228, BK235, HB⟩ := hrel
     cases gk with
     | zero => exact absurd HA.out (by simp [spec_InsertFact.l0])
     | succ k2 =>
      have H := HA.out
      clear HA
      simp only [spec_InsertFact.l0] at H
      by_cases c75 : x7_2 < (t232.length : Int)
      ·rw [if_pos c75] at H
       have c75b0 : decide (x7_2 < (t232.length : Int)) = true := decide_eq_true c75
       clear c75
       by_cases c76 : 0 ≤ x7_2
       ·rw [if_pos c76] at H
        have c76b0 : decide (0 ≤ x7_2) = true := decide_eq_true c76
        clear c76
        replace H := bM H
        obtain ⟨t240, A770, H⟩ := H
        have A77 := aM A770
        clear A770
        by_cases c78 : t240 < 0
        ·rw [if_pos c78] at H
         have c78b0 : decide (t240 < 0) = true := decide_eq_true c78
         clear c78
         have H' := aM H
         clear H
         try go_wp2
         replace HO_236000 := aM (Kd.R_drew HO_236000.out)
         replace HO_236001 := aM (Kd.N_drew HO_236001.out)
         replace BK226 := aM (blk_drew BK226.out)
         replace BK227 := aM (blk_drew BK227.out)
         replace BK228 := aM (blk_drew BK228.out)
         replace BK235 := aM (blk_drew BK235.out)
         replace HB := aM (below_drew1 HB.out)
         have p239 : 0 ≤ (x7_2 : Int) := aD
         have q239 : x7_2 < (t232.length : Int) := aD
         obtain ⟨ad239, A239_1, c239_1, e239, hx239_0, hx239_1, hl239_1, hi239_1⟩ := at_T39 (Kd.N_reads' HO_236001.out).2.2 x7_2 p239 q239
         cases e239
         obtain ⟨ce239, hce239, hMe239, hcc239⟩ := Kd.N_get HO_236001.out z39 x7_2 p239 (by first | exact q239 | exact aD | (have e_ := (Kd.N_reads' HO_236001.out).1; omega))
         obtain ⟨ua239_1, uc239_1, rfl, ul239_1, ge239_1⟩ := k39_openF hMe239
         have hv239_1 := hcc239 1 _ rfl
         rw [add_field _ _ 1 (by omega)] at hv239_1
         replace hv239_1 := Option.some.inj (hv239_1.symm.trans hx239_1)
         injection hv239_1 with hva_ hvn_ hvc_
         rw [hva_] at ge239_1
         rw [hvc_] at ul239_1
         have HL239_1 := aM (show Kd.V (Kd.int .i64) 3 _ w.heap.size _ _ ((rd_T39 t232 x7_2).f1) from Kd.V_mk ul239_1 ge239_1)
         clear hva_ hvn_ hvc_ ge239_1 ul239_1
         clear hcc239 hce239
         have HR239_1 := aM hi239_1
         have HC239_1 := aM hl239_1
         clear hi239_1 hl239_1
         replace p239 := eq_true p239
         replace q239 := eq_true q239
         refine start_ (n := 15) (S := fun w' => w'.cell? ⟨gb235, 0, none⟩ = some (.slice Ao13 t229.length co13) ∧ w'.cell? ⟨gb235, 1, none⟩ = some (.slice (some ad239) t232.length co18) ∧ w'.cell? ⟨gb227, 0, none⟩ = some (.int .i64 a1_0) ∧ w'.cell? ⟨gb227, 1, none⟩ = some (.slice A1_1 l1_1.length c1_1) ∧ w'.cell? (ad239.add ((x7_2).toNat * 2)) = some (.int .i64 ((rd_T39 t232 x7_2).f0)) ∧ w'.cell? ⟨(ad239.add ((x7_2).toNat * 2)).block, (ad239.add ((x7_2).toNat * 2)).off + 1, none⟩ = some (.slice A239_1 ((rd_T39 t232 x7_2).f1).length c239_1)) (ds := []) #[false, false, false, false, false, false, false, false, false, false, false, false, false, false, false] (by kernel_rfl) rfl rfl ⟨(blk_cell BK235.out 0).trans rfl, (blk_cell BK235.out 1).trans rfl, (blk_cell BK227.out 0).trans rfl, (blk_cell BK227.out 1).trans rfl, hx239_0, hx239_1⟩ (fun hHeld => ?_); refine with_tabW spec_InsertFact.tab5 spec_InsertFact.bits5 (fun HT_ HW_ => ?_)
         generalize wr.drew = w79 at HO_236000 HO_236001 BK226 BK227 BK228 BK235 HB HL239_1 HR239_1 hx239_0 hx239_1 hHeld ⊢
         refine pU 0 33 ?_
         refine pU 1 34 ?_
         refine tU6 2 35 hHeld ?_
         refine pU 3 36 ?_
         refine pU 4 37 ?_
         refine pU 5 38 ?_
         refine pU 6 39 ?_
         refine pU 8 41 ?_
         refine tU6 7 40 hHeld ?_
         refine pU 9 42 ?_
         refine tU6 10 43 hHeld ?_
         refine tU6 11 44 hHeld ?_
         refine oU 12 45 (fun K hK => ?_)
         refine goes_ Tryd.func22 (by kernel_rfl) rfl #[.agg #[.int .i64 ((rd_T39 t232 x7_2).f0), .slice A239_1 ((rd_T39 t232 x7_2).f1).length c239_1], .agg #[.int .i64 a1_0, .slice A1_1 l1_1.length c1_1]] (by rfl) rfl rfl aA ?_
         with_reducible refine (spec_CompareFacts.calls k2 ((rd_T39 t232 x7_2).f0) _ _ ((rd_T39 t232 x7_2).f1) a1_0 _ _ l1_1 t240 _ ?side1 ?side2 ?side3 ?side4 A77.out).mono ?_
         (case side1 => repeat (first | exact (by repeat (first | (with_reducible exact HR239_1.out) | (with_reducible refine pC ?_) | exact HR239_1.out)) | (with_reducible refine pC ?_)))
         (case side2 => exact HC239_1.out)
         (case side3 => exact aC)
         (case side4 => exact HC1_1.out)
         rintro e w80 ⟨rfl, hb⟩
         have HS4_ := (hb.cell (World.block_lt_of_cell? _ _ (hHeld.2.2.2.2.1))).trans (hHeld.2.2.2.2.1)
         have HS5_ := (hb.cell (World.block_lt_of_cell? _ _ (hHeld.2.2.2.2.2))).trans (hHeld.2.2.2.2.2)
         refine ⟨_, rfl, ?_⟩
         have n0_ := aM (Kd.R_below (aR HO_236000) hb)
         have n1_ := aM (Kd.N_below (aN HO_236001) hb)
         have n2_ := aM (Kd.V_below (aV HL239_1) hb)
         have n3_ := aM (kB gb226 #[.slice A0_0 l0_0.length c0_0, .slice A0_1 l0_1.length c0_1] 31 hb)
         have n4_ := aM (kB gb227 #[.int .i64 a1_0, .slice A1_1 l1_1.length c1_1] 39 hb)
         have n5_ := aM (kB gb228 #[.slice none 0 0, .slice none 0 0] 31 hb)
         have n6_ := aM (kB gb235 #[.slice Ao13 t229.length co13, .slice (some ad239) t232.length co18] 31 hb)
         have n7_ := aM (Kd.C_below (by repeat (first | (with_reducible exact HR239_1.out) | (with_reducible refine pC ?_) | exact HR239_1.out)) hb)
         have n8_ := aM (below_step aG hb)
         clear HO_236000
         clear HO_236001
         clear HL239_1
         clear BK226
         clear BK227
         clear BK228
         clear BK235
         clear HR239_1
         clear HB
         have HO_236000 := n0_
         have HO_236001 := n1_
         have HL239_1 := n2_
         have BK226 := n3_
         have BK227 := n4_
         have BK228 := n5_
         have BK235 := n6_
         have HR239_1 := n7_
         have HB := n8_
         clear n0_ n1_ n2_ n3_ n4_ n5_ n6_ n7_ n8_
         (try clear hb)
         (try clear hb2)
         (try clear hk)
         (try clear hi)
         refine hK.out _ _ ⟨(blk_cell BK235.out 0).trans rfl, (blk_cell BK235.out 1).trans rfl, (blk_cell BK227.out 0).trans rfl, (blk_cell BK227.out 1).trans rfl, HS4_, HS5_⟩ (fun hHeld => ?_)
         clear hK K
         refine nU 45 ?_
         refine pU 13 46 ?_
         refine pU 14 47 ?_
         refine done_ (done_of HT_.out (by kernel_rfl)) ?_
         try go_wp2
         go_roundg k2
         case measure => have := HJ3.out; have := HK2.out; omega
         case rel => exact ⟨(wrap64 (x7_2 + 1)), aX, H', ⟨by have := HJ3.out; have := HK2.out; omega⟩, ⟨aR HO_236000⟩, ⟨aN HO_236001⟩, ⟨aK⟩, ⟨aK⟩, ⟨aK⟩, ⟨aK⟩, ⟨aG⟩⟩
        ·rw [if_neg c78] at H
         have c78b0 : decide (t240 < 0) = false := decide_eq_false c78
         clear c78
         obtain ⟨y241, hy241⟩ : ∃ y_ : List Int, y_ = (([] : List Int)) := ⟨_, rfl⟩
         first | replace H := bY hy241 H | rw [← hy241] at H
         have Ny241 := aM hy241
         clear hy241
         by_cases c81 : y241.length + l1_1.length < 17592186044416
         ·rw [if_pos c81] at H
          have LMc81 := aM c81
          clear c81
          obtain ⟨y244, hy244⟩ : ∃ y_ : List Int, y_ = (y241 ++ l1_1) := ⟨_, rfl⟩
          first | replace H := bY hy244 H | rw [← hy244] at H
          have Ny244 := aM hy244
          clear hy244
          obtain ⟨y247, hy247⟩ : ∃ y_ : List (S39), y_ = (([(⟨a1_0, y244⟩ : S39)] : List (S39))) := ⟨_, rfl⟩
          first | replace H := bY hy247 H | rw [← hy247] at H
          have Ny247 := aM hy247
          clear hy247
          have c82b0 := eq_true (aD : 0 ≤ x7_2)
          by_cases c83 : x7_2 ≤ (t232.length : Int)
          ·rw [if_pos c83] at H
           have c83b0 := eq_true c83
           have c83b1 : decide (x7_2 ≤ (t232.length : Int)) = true := decide_eq_true c83
           clear c83
           obtain ⟨y250, hy250⟩ : ∃ y_ : List (S39), y_ = (t232.drop (x7_2 : Int).toNat) := ⟨_, rfl⟩
           first | replace H := bY hy250 H | rw [← hy250] at H
           have Ny250 := aM hy250
           clear hy250
           by_cases c84 : y247.length + y250.length < 4398046511104
           ·rw [if_pos c84] at H
            have LMc84 := aM c84
            clear c84
            obtain ⟨y255, hy255⟩ : ∃ y_ : List (S39), y_ = (y247 ++ y250) := ⟨_, rfl⟩
            first | replace H := bY hy255 H | rw [← hy255] at H
            have Ny255 := aM hy255
            clear hy255
            obtain ⟨y258, hy258⟩ : ∃ y_ : List (S39), y_ = (([] : List (S39))) := ⟨_, rfl⟩
            first | replace H := bY hy258 H | rw [← hy258] at H
            have Ny258 := aM hy258
            clear hy258
            have c85b0 := eq_true (aD : 0 ≤ x7_2)
            have c86b0 := eq_true (aD : x7_2 ≤ (t232.length : Int))
            obtain ⟨y261, hy261⟩ : ∃ y_ : List (S39), y_ = (t232.take (x7_2 : Int).toNat) := ⟨_, rfl⟩
            first | replace H := bY hy261 H | rw [← hy261] at H
            have Ny261 := aM hy261
            clear hy261
            by_cases c87 : y258.length + y261.length < 4398046511104
            ·rw [if_pos c87] at H
             have LMc87 := aM c87
             clear c87
             obtain ⟨y266, hy266⟩ : ∃ y_ : List (S39), y_ = (y258 ++ y261) := ⟨_, rfl⟩
             first | replace H := bY hy266 H | rw [← hy266] at H
             have Ny266 := aM hy266
             clear hy266
             by_cases c88 : y266.length + y255.length < 4398046511104
             ·rw [if_pos c88] at H
              have LMc88 := aM c88
              clear c88
              obtain ⟨y269, hy269⟩ : ∃ y_ : List (S39), y_ = (y266 ++ y255) := ⟨_, rfl⟩
              first | replace H := bY hy269 H | rw [← hy269] at H
              have Ny269 := aM hy269
              clear hy269
              simp only [Option.some.injEq, Prod.mk.injEq] at H
              obtain ⟨rfl, rfl, rfl⟩ := H
              try go_wp2
              replace HO_236000 := aM (Kd.R_drew HO_236000.out)
              replace HO_236001 := aM (Kd.N_drew HO_236001.out)
              replace BK226 := aM (blk_drew BK226.out)
              replace BK227 := aM (blk_drew BK227.out)
              replace BK228 := aM (blk_drew BK228.out)
              replace BK235 := aM (blk_drew BK235.out)
              replace HB := aM (below_drew1 HB.out)
              have p239 : 0 ≤ (x7_2 : Int) := aD
              have q239 : x7_2 < (t232.length : Int) := aD
              obtain ⟨ad239, A239_1, c239_1, e239, hx239_0, hx239_1, hl239_1, hi239_1⟩ := at_T39 (Kd.N_reads' HO_236001.out).2.2 x7_2 p239 q239
              cases e239
              obtain ⟨ce239, hce239, hMe239, hcc239⟩ := Kd.N_get HO_236001.out z39 x7_2 p239 (by first | exact q239 | exact aD | (have e_ := (Kd.N_reads' HO_236001.out).1; omega))
              obtain ⟨ua239_1, uc239_1, rfl, ul239_1, ge239_1⟩ := k39_openF hMe239
              have hv239_1 := hcc239 1 _ rfl
              rw [add_field _ _ 1 (by omega)] at hv239_1
              replace hv239_1 := Option.some.inj (hv239_1.symm.trans hx239_1)
              injection hv239_1 with hva_ hvn_ hvc_
              rw [hva_] at ge239_1
              rw [hvc_] at ul239_1
              have HL239_1 := aM (show Kd.V (Kd.int .i64) 3 _ w.heap.size _ _ ((rd_T39 t232 x7_2).f1) from Kd.V_mk ul239_1 ge239_1)
              clear hva_ hvn_ hvc_ ge239_1 ul239_1
              clear hcc239 hce239
              have HR239_1 := aM hi239_1
              have HC239_1 := aM hl239_1
              clear hi239_1 hl239_1
              replace p239 := eq_true p239
              replace q239 := eq_true q239
              refine start_ (n := 15) (S := fun w' => w'.cell? ⟨gb235, 0, none⟩ = some (.slice Ao13 t229.length co13) ∧ w'.cell? ⟨gb235, 1, none⟩ = some (.slice (some ad239) t232.length co18) ∧ w'.cell? ⟨gb227, 0, none⟩ = some (.int .i64 a1_0) ∧ w'.cell? ⟨gb227, 1, none⟩ = some (.slice A1_1 l1_1.length c1_1) ∧ w'.cell? (ad239.add ((x7_2).toNat * 2)) = some (.int .i64 ((rd_T39 t232 x7_2).f0)) ∧ w'.cell? ⟨(ad239.add ((x7_2).toNat * 2)).block, (ad239.add ((x7_2).toNat * 2)).off + 1, none⟩ = some (.slice A239_1 ((rd_T39 t232 x7_2).f1).length c239_1)) (ds := []) #[false, false, false, false, false, false, false, false, false, false, false, false, false, false, false] (by kernel_rfl) rfl rfl ⟨(blk_cell BK235.out 0).trans rfl, (blk_cell BK235.out 1).trans rfl, (blk_cell BK227.out 0).trans rfl, (blk_cell BK227.out 1).trans rfl, hx239_0, hx239_1⟩ (fun hHeld => ?_); refine with_tabW spec_InsertFact.tab5 spec_InsertFact.bits5 (fun HT_ HW_ => ?_)
              generalize wr.drew = w89 at HO_236000 HO_236001 BK226 BK227 BK228 BK235 HB HL239_1 HR239_1 hx239_0 hx239_1 hHeld ⊢
              refine pU 0 33 ?_
              refine pU 1 34 ?_
              refine tU6 2 35 hHeld ?_
              refine pU 3 36 ?_
              refine pU 4 37 ?_
              refine pU 5 38 ?_
              refine pU 6 39 ?_
              refine pU 8 41 ?_
              refine tU6 7 40 hHeld ?_
              refine pU 9 42 ?_
              refine tU6 10 43 hHeld ?_
              refine tU6 11 44 hHeld ?_
              refine oU 12 45 (fun K hK => ?_)
              refine goes_ Tryd.func22 (by kernel_rfl) rfl #[.agg #[.int .i64 ((rd_T39 t232 x7_2).f0), .slice A239_1 ((rd_T39 t232 x7_2).f1).length c239_1], .agg #[.int .i64 a1_0, .slice A1_1 l1_1.length c1_1]] (by rfl) rfl rfl aA ?_
              with_reducible refine (spec_CompareFacts.calls k2 ((rd_T39 t232 x7_2).f0) _ _ ((rd_T39 t232 x7_2).f1) a1_0 _ _ l1_1 t240 _ ?side1 ?side2 ?side3 ?side4 A77.out).mono ?_
              (case side1 => repeat (first | exact (by repeat (first | (with_reducible exact HR239_1.out) | (with_reducible refine pC ?_) | exact HR239_1.out)) | (with_reducible refine pC ?_)))
              (case side2 => exact HC239_1.out)
              (case side3 => exact aC)
              (case side4 => exact HC1_1.out)
              rintro e w90 ⟨rfl, hb⟩
              have HS4_ := (hb.cell (World.block_lt_of_cell? _ _ (hHeld.2.2.2.2.1))).trans (hHeld.2.2.2.2.1)
              have HS5_ := (hb.cell (World.block_lt_of_cell? _ _ (hHeld.2.2.2.2.2))).trans (hHeld.2.2.2.2.2)
              refine ⟨_, rfl, ?_⟩
              have n0_ := aM (Kd.R_below (aR HO_236000) hb)
              have n1_ := aM (Kd.N_below (aN HO_236001) hb)
              have n2_ := aM (Kd.V_below (aV HL239_1) hb)
              have n3_ := aM (kB gb226 #[.slice A0_0 l0_0.length c0_0, .slice A0_1 l0_1.length c0_1] 31 hb)
              have n4_ := aM (kB gb227 #[.int .i64 a1_0, .slice A1_1 l1_1.length c1_1] 39 hb)
              have n5_ := aM (kB gb228 #[.slice none 0 0, .slice none 0 0] 31 hb)
              have n6_ := aM (kB gb235 #[.slice Ao13 t229.length co13, .slice (some ad239) t232.length co18] 31 hb)
              have n7_ := aM (Kd.C_below (by repeat (first | (with_reducible exact HR239_1.out) | (with_reducible refine pC ?_) | exact HR239_1.out)) hb)
              have n8_ := aM (below_step aG hb)
              clear HO_236000
              clear HO_236001
              clear HL239_1
              clear BK226
              clear BK227
              clear BK228
              clear BK235
              clear HR239_1
              clear HB
              have HO_236000 := n0_
              have HO_236001 := n1_
              have HL239_1 := n2_
              have BK226 := n3_
              have BK227 := n4_
              have BK228 := n5_
              have BK235 := n6_
              have HR239_1 := n7_
              have HB := n8_
              clear n0_ n1_ n2_ n3_ n4_ n5_ n6_ n7_ n8_
              (try clear hb)
              (try clear hb2)
              (try clear hk)
              (try clear hi)
              refine hK.out _ _ ⟨(blk_cell BK235.out 0).trans rfl, (blk_cell BK235.out 1).trans rfl, (blk_cell BK227.out 0).trans rfl, (blk_cell BK227.out 1).trans rfl, HS4_, HS5_⟩ (fun hHeld => ?_)
              clear hK K
              refine nU 45 ?_
              refine pU 13 46 ?_
              refine pU 14 47 ?_
              refine done_ (done_of HT_.out (by kernel_rfl)) ?_
              try go_wp2
              replace HO_236000 := aM (Kd.R_drew HO_236000.out)
              replace HO_236001 := aM (Kd.N_drew HO_236001.out)
              replace HL239_1 := aM (Kd.V_drew HL239_1.out)
              replace BK226 := aM (blk_drew BK226.out)
              replace BK227 := aM (blk_drew BK227.out)
              replace BK228 := aM (blk_drew BK228.out)
              replace BK235 := aM (blk_drew BK235.out)
              replace HR239_1 := aM (Kd.C_drew HR239_1.out)
              replace HB := aM (below_drew1 HB.out)
              have q92 : (x7_2 : Int) ≤ ((t232.length : Int) : Int) := aD
              obtain ⟨i092, hi092, _, hsz92, _⟩ := info_parts info39
              have hroom92 : t232.length ≤ co18 := (Kd.N_reads' HO_236001.out).2.1
              have hC92 : Kd.F k39 _ _ (some ad239) t232.length t232 := (Kd.V_at (base := w.heap.size) (Kd.N_V HO_236001.out)).2.2
              have q092 : (0 : Int) ≤ (x7_2 : Int) := aD
              have hcut92 := cut_from (P := Tryd.prog) 29 39 .i64 Tryd.underlying29 hi092 2 hsz92 (some ad239) t232.length co18 x7_2 q092 q92
              have hr92 := Kd.F_cut (m := (x7_2 : Int).toNat) (c := co18) hC92 (by omega) hroom92
              obtain ⟨A92, hA92⟩ : ∃ A1, A1 = (if co18 = (x7_2 : Int).toNat then (some ad239) else ((some ad239) : Option Addr).map (·.add ((x7_2 : Int).toNat * 2))) := ⟨_, rfl⟩
              obtain ⟨c92, hc92⟩ : ∃ c1, c1 = co18 - (x7_2 : Int).toNat := ⟨_, rfl⟩
              have hy92 : y250.length = t232.length - (x7_2 : Int).toNat := (by rw [Ny250.out, List.length_drop] <;> omega)
              rw [show (t232).drop (x7_2 : Int).toNat = y250 from Ny250.out.symm] at hr92
              replace hr92 : Kd.F k39 _ _ A92 y250.length y250 := (by rw [hA92]; exact hr92)
              rw [← hy92, ← hA92, ← hc92] at hcut92
              have HO254 := aM (show Kd.V k39 39 _ w.heap.size _ (.slice A92 y250.length c92) y250 from Kd.V_mk (by rw [hy92, hc92]; exact Nat.sub_le_sub_right hroom92 _) hr92)
              have HC254 := aM (show y250.length ≤ c92 from by rw [hy92, hc92]; exact Nat.sub_le_sub_right hroom92 _)
              clear hr92 hC92 hroom92 hi092 hsz92 hc92
              have KY92 := aM hy92
              have KA92 := aM hA92
              clear hy92 hA92
              replace q92 := eq_true q92
              refine start_ (n := 14) (S := fun w' => w'.cell? ⟨gb227, 0, none⟩ = some (.int .i64 a1_0) ∧ w'.cell? ⟨gb227, 1, none⟩ = some (.slice A1_1 l1_1.length c1_1) ∧ w'.cell? ⟨gb235, 0, none⟩ = some (.slice Ao13 t229.length co13) ∧ w'.cell? ⟨gb235, 1, none⟩ = some (.slice (some ad239) t232.length co18)) (ds := []) #[false, false, false, false, false, false, false, false, false, false, false, false, false, false] (by kernel_rfl) rfl rfl ⟨(blk_cell BK227.out 0).trans rfl, (blk_cell BK227.out 1).trans rfl, (blk_cell BK235.out 0).trans rfl, (blk_cell BK235.out 1).trans rfl⟩ (fun hHeld => ?_); refine with_tabW spec_InsertFact.tab7 spec_InsertFact.bits7 (fun HT_ HW_ => ?_)
              generalize w90.drew = w91 at HO_236000 HO_236001 HL239_1 BK226 BK227 BK228 BK235 HR239_1 HB HO254 hHeld ⊢
              refine pU 0 50 ?_
              refine pU 3 53 ?_
              refine pU 8 58 ?_
              refine pU 10 60 ?_
              refine tU4 1 51 hHeld ?_
              refine tU4 4 54 hHeld ?_
              refine tU4 9 59 hHeld ?_
              refine pU 11 61 ?_
              refine oU 2 52 (fun K hK => ?_)
              refine Kd.R_lit_step (Kd.int .i64) _ 3 ?hg (N := 52) ?hd (xs := ([] : List Int)) (inner := []) (ok := fun _ => True) (okp := fun _ => True) ?hr ?hp (fun _ hk => hk) trivial (Below.refl _ _) (Nat.le_refl _) (by simp) ?_; (case hd => rfl); (case hg => rfl); (case hr => first | (go_simp; done) | (go_simp; rfl)); (case hp => exact (Reps.none _ _))
              intro v242 w93 ho94 hb hg_ hnew_
              clear hg_ hnew_
              (first | rw [← Ny241.out] at ho94 | (simp only [Int.reduceToNat] at ho94; rw [← Ny241.out] at ho94))
              have n0_ := aM (Kd.R_below (aR HO_236000) hb)
              have n1_ := aM (Kd.N_elder' (aN HO_236001) (Kd.R_base ho94) hb)
              have n2_ := aM (Kd.V_elder' (aV HL239_1) (Kd.R_base ho94) hb)
              have n3_ := aM (Kd.V_elder' (aV HO254) (Kd.R_base ho94) hb)
              have n4_ := aM (Kd.R_lower (Kd.R_newM (M := fun k_ => (w.heap.size ≤ k_)) ho94 (below_size aG) (fun k_ h_ => h_)) (below_size aG))
              have n5_ := aM (kB gb226 #[.slice A0_0 l0_0.length c0_0, .slice A0_1 l0_1.length c0_1] 31 hb)
              have n6_ := aM (kB gb227 #[.int .i64 a1_0, .slice A1_1 l1_1.length c1_1] 39 hb)
              have n7_ := aM (kB gb228 #[.slice none 0 0, .slice none 0 0] 31 hb)
              have n8_ := aM (kB gb235 #[.slice Ao13 t229.length co13, .slice (some ad239) t232.length co18] 31 hb)
              have n9_ := aM (Kd.C_below (by repeat (first | (with_reducible exact HR239_1.out) | (with_reducible refine pC ?_) | exact HR239_1.out)) hb)
              have n10_ := aM (below_step aG hb)
              clear HO_236000
              clear HO_236001
              clear HL239_1
              clear HO254
              clear BK226
              clear BK227
              clear BK228
              clear BK235
              clear HR239_1
              clear HB
              have HO_236000 := n0_
              have HO_236001 := n1_
              have HL239_1 := n2_
              have HO254 := n3_
              have HO243 := n4_
              have BK226 := n5_
              have BK227 := n6_
              have BK228 := n7_
              have BK235 := n8_
              have HR239_1 := n9_
              have HB := n10_
              clear n0_ n1_ n2_ n3_ n4_ n5_ n6_ n7_ n8_ n9_ n10_
              clear hb ho94
              refine hK.out _ _ ⟨(blk_cell BK227.out 0).trans rfl, (blk_cell BK227.out 1).trans rfl, (blk_cell BK235.out 0).trans rfl, (blk_cell BK235.out 1).trans rfl⟩ (fun hHeld => ?_)
              clear hK K
              refine nU 52 ?_
              refine oU 5 55 (fun K hK => ?_)
              refine Kd.R_append_rows_step (Kd.int .i64) (w0 := w) w.heap.size (by rfl) (.tmp 52) (.tmp 54) 37 3 (.int .i64 0) 8 rfl Tryd.underlying37 info3 rfl (by decide) (by omega) v242 y241 l1_1 _ _ _ (fun k_ => (w.heap.size ≤ k_)) (fun _ => False) rfl rfl ?aO ?aR (fun _ _ h => h) (fun _ h => h.elim) ?aF ?aB ?aS ?aL ?_
              (case aR => exact aC)
              (case aB => exact aG)
              (case aF => exact (fun k_ hk => (Nat.le_trans (below_size aG) hk)))
              (case aO => exact (by (with_reducible repeat apply pR); exact Kd.R_mono HO243.out (fun _ hk => hk.1)))
              (case aS => exact (below_size aG))
              (case aL => have := LMc81.out; omega)
              intro v245 w95 ho hb hg hat
              rw [← Ny244.out] at ho
              have n0_ := aM (Kd.R_over' (aR HO_236000) (Kd.R_typed (aR HO243)) (by decide) hg)
              have n1_ := aM (Kd.N_afterv (ok := (fun k_ => (w.heap.size ≤ k_) ∧ some k_ ≠ (.slice Ao13 t229.length co13 : Value).ownBlock ∧ k_ ≠ gb226 ∧ k_ ≠ gb227 ∧ k_ ≠ gb228 ∧ k_ ≠ gb235)) (aN HO_236001) hg hat)
              have n2_ := aM (blk_grown (g := gb226) (o := .cells #[.slice A0_0 l0_0.length c0_0, .slice A0_1 l0_1.length c0_1] 31 (0, 0)) aK hg (Kd.R_ne HO243.out BK226.out (by decide)))
              have n3_ := aM (blk_grown (g := gb227) (o := .cells #[.int .i64 a1_0, .slice A1_1 l1_1.length c1_1] 39 (0, 0)) aK hg (Kd.R_ne HO243.out BK227.out (by decide)))
              have n4_ := aM (blk_grown (g := gb228) (o := .cells #[.slice none 0 0, .slice none 0 0] 31 (0, 0)) aK hg (Kd.R_ne HO243.out BK228.out (by decide)))
              have n5_ := aM (blk_grown (g := gb235) (o := .cells #[.slice Ao13 t229.length co13, .slice (some ad239) t232.length co18] 31 (0, 0)) aK hg (Kd.R_ne HO243.out BK235.out (by decide)))
              have n6_ := aM (Kd.V_afterv (ok := (fun k_ => (w.heap.size ≤ k_) ∧ some k_ ≠ (.slice Ao13 t229.length co13 : Value).ownBlock ∧ some k_ ≠ (.slice (some ad239) t232.length co18 : Value).ownBlock ∧ k_ ≠ gb226 ∧ k_ ≠ gb227 ∧ k_ ≠ gb228 ∧ k_ ≠ gb235)) (by (with_reducible repeat apply pV); exact Kd.V_mono HL239_1.out (fun _ hk => ⟨⟨hk.1.1.1, ⟨hk.1.1.2.1, ⟨hk.1.2, ⟨hk.1.1.2.2.1, ⟨hk.1.1.2.2.2.1, ⟨hk.1.1.2.2.2.2.1, hk.1.1.2.2.2.2.2⟩⟩⟩⟩⟩⟩, hk.2⟩)) hg hat)
              have n7_ := aM (Kd.V_afterv (ok := (fun k_ => (w.heap.size ≤ k_) ∧ some k_ ≠ (.slice Ao13 t229.length co13 : Value).ownBlock ∧ k_ ≠ gb226 ∧ k_ ≠ gb227 ∧ k_ ≠ gb228 ∧ k_ ≠ gb235)) (aV HO254) hg hat)
              have n8_ := aM (hb)
              have n9_ := aM (ho)
              clear HO_236000
              clear HO_236001
              clear BK226
              clear BK227
              clear BK228
              clear BK235
              clear HL239_1
              clear HO254
              clear HB
              clear HO243
              have HO_236000 := n0_
              have HO_236001 := n1_
              have BK226 := n2_
              have BK227 := n3_
              have BK228 := n4_
              have BK235 := n5_
              have HL239_1 := n6_
              have HO254 := n7_
              have HB := n8_
              have HO246 := n9_
              clear n0_ n1_ n2_ n3_ n4_ n5_ n6_ n7_ n8_ n9_
              clear ho hb hg hat
              obtain ⟨Ao96, co96, eo96⟩ := Kd.R_slice HO246.out
              (first | subst eo96 | (injection eo96 with f1_ f2_ f3_; have f4_ := f1_.symm; have f5_ := f3_.symm; clear f1_ f2_ f3_; subst f4_; subst f5_))
              refine hK.out _ _ ⟨(blk_cell BK227.out 0).trans rfl, (blk_cell BK227.out 1).trans rfl, (blk_cell BK235.out 0).trans rfl, (blk_cell BK235.out 1).trans rfl⟩ (fun hHeld => ?_)
              clear hK K
              refine nU 55 ?_
              refine pU 6 56 ?_
              refine oU 7 57 (fun K hK => ?_)
              refine Kd.N_lit_step k39 _ 39 ?hg (N' := 57) ?hd (xs := ([(⟨a1_0, y244⟩ : S39)] : List (S39))) (inner := [.int .i64 a1_0, .slice Ao96 y244.length co96]) (ok := (fun k_ => (w.heap.size ≤ k_) ∧ some k_ ≠ (.slice Ao13 t229.length co13 : Value).ownBlock ∧ some k_ ≠ (.slice (some ad239) t232.length co18 : Value).ownBlock ∧ k_ ≠ gb226 ∧ k_ ≠ gb227 ∧ k_ ≠ gb228 ∧ k_ ≠ gb235)) (okp := (fun k_ => (w.heap.size ≤ k_) ∧ some k_ ≠ (.slice Ao13 t229.length co13 : Value).ownBlock ∧ some k_ ≠ (.slice (some ad239) t232.length co18 : Value).ownBlock ∧ k_ ≠ gb226 ∧ k_ ≠ gb227 ∧ k_ ≠ gb228 ∧ k_ ≠ gb235)) ?hr ?hp (fun _ hk => hk) ((show ∀ k_, w95.heap.size ≤ k_ → (fun k_ => (w.heap.size ≤ k_) ∧ some k_ ≠ (.slice Ao13 t229.length co13 : Value).ownBlock ∧ some k_ ≠ (.slice (some ad239) t232.length co18 : Value).ownBlock ∧ k_ ≠ gb226 ∧ k_ ≠ gb227 ∧ k_ ≠ gb228 ∧ k_ ≠ gb235) k_ from fun k_ hk => ⟨(Nat.le_trans (below_size aG) hk), Kd.fresh' (Kd.R_lt (aR HO_236000)) k_ hk, Kd.fresh' (Kd.N_lt (aN HO_236001)) k_ hk, Kd.freshB (g := gb226) (o := .cells #[.slice A0_0 l0_0.length c0_0, .slice A0_1 l0_1.length c0_1] 31 (0, 0)) aK k_ hk, Kd.freshB (g := gb227) (o := .cells #[.int .i64 a1_0, .slice A1_1 l1_1.length c1_1] 39 (0, 0)) aK k_ hk, Kd.freshB (g := gb228) (o := .cells #[.slice none 0 0, .slice none 0 0] 31 (0, 0)) aK k_ hk, Kd.freshB (g := gb235) (o := .cells #[.slice Ao13 t229.length co13, .slice (some ad239) t232.length co18] 31 (0, 0)) aK k_ hk⟩) _ (Nat.le_refl _)) (Below.refl _ _) (Nat.le_refl _) (by simp) ?_; (case hd => rfl); (case hg => rfl); (case hr => first | (go_simp; done) | (go_simp; rfl)); (case hp => exact (Reps.c2 (show Kd.FK k39 _ _ (⟨a1_0, y244⟩ : S39) [.int .i64 a1_0, .slice Ao96 y244.length co96] from (k39_mkF _ _ (⟨a1_0, y244⟩ : S39) (Kd.R_reads' (Kd.R_mono (ok' := (fun k_ => (w.heap.size ≤ k_) ∧ some k_ ≠ (.slice Ao13 t229.length co13 : Value).ownBlock ∧ some k_ ≠ (.slice (some ad239) t232.length co18 : Value).ownBlock ∧ k_ ≠ gb226 ∧ k_ ≠ gb227 ∧ k_ ≠ gb228 ∧ k_ ≠ gb235)) (Kd.R_types (Kd.R_types (Kd.R_types (Kd.R_types (Kd.R_apart' (Kd.R_apart' (HO246.out) (Kd.R_typed HO_236000.out) (by decide)) (Kd.N_typed HO_236001.out) (by decide)) BK226.out (by decide)) BK227.out (by decide)) BK228.out (by decide)) BK235.out (by decide)) (fun k_ hk => ⟨hk.1.1.1.1.1.1, ⟨hk.1.1.1.1.1.2, ⟨hk.1.1.1.1.2, ⟨hk.1.1.1.2, ⟨hk.1.1.2, ⟨hk.1.2, hk.2⟩⟩⟩⟩⟩⟩))).2.1 (Kd.R_F (Kd.R_mono (ok' := (fun k_ => (w.heap.size ≤ k_) ∧ some k_ ≠ (.slice Ao13 t229.length co13 : Value).ownBlock ∧ some k_ ≠ (.slice (some ad239) t232.length co18 : Value).ownBlock ∧ k_ ≠ gb226 ∧ k_ ≠ gb227 ∧ k_ ≠ gb228 ∧ k_ ≠ gb235)) (Kd.R_types (Kd.R_types (Kd.R_types (Kd.R_types (Kd.R_apart' (Kd.R_apart' (HO246.out) (Kd.R_typed HO_236000.out) (by decide)) (Kd.N_typed HO_236001.out) (by decide)) BK226.out (by decide)) BK227.out (by decide)) BK228.out (by decide)) BK235.out (by decide)) (fun k_ hk => ⟨hk.1.1.1.1.1.1, ⟨hk.1.1.1.1.1.2, ⟨hk.1.1.1.1.2, ⟨hk.1.1.1.2, ⟨hk.1.1.2, ⟨hk.1.2, hk.2⟩⟩⟩⟩⟩⟩))))) (Reps.none _ _)))
              intro v248 w97 ho98 hb hg_ hnew_
              clear hg_ hnew_
              (first | rw [← Ny247.out] at ho98 | (simp only [Int.reduceToNat] at ho98; rw [← Ny247.out] at ho98))
              have n0_ := aM (Kd.R_below (aR HO_236000) hb)
              have n1_ := aM (Kd.N_elder' (aN HO_236001) (Kd.N_base ho98) hb)
              have n2_ := aM (Kd.V_elder' (aV HL239_1) (Kd.N_base ho98) hb)
              have n3_ := aM (Kd.V_elder' (aV HO254) (Kd.N_base ho98) hb)
              have n4_ := aM (Kd.N_lower ho98 (below_size aG))
              have n5_ := aM (kB gb226 #[.slice A0_0 l0_0.length c0_0, .slice A0_1 l0_1.length c0_1] 31 hb)
              have n6_ := aM (kB gb227 #[.int .i64 a1_0, .slice A1_1 l1_1.length c1_1] 39 hb)
              have n7_ := aM (kB gb228 #[.slice none 0 0, .slice none 0 0] 31 hb)
              have n8_ := aM (kB gb235 #[.slice Ao13 t229.length co13, .slice (some ad239) t232.length co18] 31 hb)
              have n9_ := aM (below_step aG hb)
              clear HO_236000
              clear HO_236001
              clear HL239_1
              clear HO254
              clear BK226
              clear BK227
              clear BK228
              clear BK235
              clear HB
              clear HO246
              have HO_236000 := n0_
              have HO_236001 := n1_
              have HL239_1 := n2_
              have HO254 := n3_
              have HO249 := n4_
              have BK226 := n5_
              have BK227 := n6_
              have BK228 := n7_
              have BK235 := n8_
              have HB := n9_
              clear n0_ n1_ n2_ n3_ n4_ n5_ n6_ n7_ n8_ n9_
              clear hb ho98
              refine hK.out _ _ ⟨(blk_cell BK227.out 0).trans rfl, (blk_cell BK227.out 1).trans rfl, (blk_cell BK235.out 0).trans rfl, (blk_cell BK235.out 1).trans rfl⟩ (fun hHeld => ?_)
              clear hK K
              refine nU 57 ?_
              refine oU 12 62 (fun K hK => ?_)
              refine Kd.N_append_rows_step k39 (w0 := w) w.heap.size (by rfl) (.tmp 57) (.tmp 61) 29 39 (.agg #[(.int .i64 0), (.slice none 0 0)]) 32 rfl Tryd.underlying29 info39 rfl (by decide) (by omega) v248 y247 y250 _ _ _ (fun k_ => (w.heap.size ≤ k_) ∧ some k_ ≠ (.slice Ao13 t229.length co13 : Value).ownBlock ∧ k_ ≠ gb226 ∧ k_ ≠ gb227 ∧ k_ ≠ gb228 ∧ k_ ≠ gb235) (fun k_ => ((fun k_ => (w.heap.size ≤ k_) ∧ some k_ ≠ (.slice Ao13 t229.length co13 : Value).ownBlock ∧ k_ ≠ gb226 ∧ k_ ≠ gb227 ∧ k_ ≠ gb228 ∧ k_ ≠ gb235)) k_ ∧ some k_ ≠ (v248 : Value).ownBlock) rfl rfl ?aO ?aR (fun _ hk => hk) ?aF ?aB ?aS ?aL ?_
              (case aR => exact (by skip; exact Kd.V_F (Kd.V_mono (ok' := (fun k_ => ((fun k_ => (w.heap.size ≤ k_) ∧ some k_ ≠ (.slice Ao13 t229.length co13 : Value).ownBlock ∧ k_ ≠ gb226 ∧ k_ ≠ gb227 ∧ k_ ≠ gb228 ∧ k_ ≠ gb235)) k_ ∧ some k_ ≠ (v248 : Value).ownBlock)) (HO254.out) (fun k_ hk => ⟨⟨hk.1.1.1, ⟨hk.1.1.2.1, ⟨hk.1.1.2.2.1, ⟨hk.1.1.2.2.2.1, ⟨hk.1.1.2.2.2.2.1, hk.1.1.2.2.2.2.2⟩⟩⟩⟩⟩, hk.2⟩))))
              (case aB => exact aG)
              (case aF => exact (fun k_ hk => ⟨(Nat.le_trans (below_size aG) hk), Kd.fresh' (Kd.R_lt (aR HO_236000)) k_ hk, Kd.freshB (g := gb226) (o := .cells #[.slice A0_0 l0_0.length c0_0, .slice A0_1 l0_1.length c0_1] 31 (0, 0)) aK k_ hk, Kd.freshB (g := gb227) (o := .cells #[.int .i64 a1_0, .slice A1_1 l1_1.length c1_1] 39 (0, 0)) aK k_ hk, Kd.freshB (g := gb228) (o := .cells #[.slice none 0 0, .slice none 0 0] 31 (0, 0)) aK k_ hk, Kd.freshB (g := gb235) (o := .cells #[.slice Ao13 t229.length co13, .slice (some ad239) t232.length co18] 31 (0, 0)) aK k_ hk⟩))
              (case aO => exact (by (with_reducible repeat apply pN); exact Kd.N_mono HO249.out (fun _ hk => ⟨hk.1, ⟨hk.2.1, ⟨hk.2.2.2.1, ⟨hk.2.2.2.2.1, ⟨hk.2.2.2.2.2.1, hk.2.2.2.2.2.2⟩⟩⟩⟩⟩)))
              (case aS => exact (below_size aG))
              (case aL => have := LMc84.out; omega)
              intro v256 w99 ho hb hg hat
              rw [← Ny255.out] at ho
              have n0_ := aM (Kd.R_over' (aR HO_236000) (Kd.N_typed (aN HO249)) (by decide) hg)
              have n1_ := aM (Kd.N_afterv (ok := (fun k_ => (w.heap.size ≤ k_) ∧ some k_ ≠ (.slice Ao13 t229.length co13 : Value).ownBlock ∧ k_ ≠ gb226 ∧ k_ ≠ gb227 ∧ k_ ≠ gb228 ∧ k_ ≠ gb235)) (by (with_reducible repeat apply pN); exact Kd.N_mono HO_236001.out (fun _ hk => ⟨⟨hk.1.1.1, ⟨hk.1.1.2.1, ⟨hk.1.1.2.2.1, ⟨hk.1.1.2.2.2.1, ⟨hk.1.1.2.2.2.2.1, hk.1.1.2.2.2.2.2⟩⟩⟩⟩⟩, hk.2⟩)) hg hat)
              have n2_ := aM (blk_grown (g := gb226) (o := .cells #[.slice A0_0 l0_0.length c0_0, .slice A0_1 l0_1.length c0_1] 31 (0, 0)) aK hg (Kd.N_ne HO249.out BK226.out (by decide)))
              have n3_ := aM (blk_grown (g := gb227) (o := .cells #[.int .i64 a1_0, .slice A1_1 l1_1.length c1_1] 39 (0, 0)) aK hg (Kd.N_away HO249.out (fun _ hk => hk.2.2.2.2.1)))
              have n4_ := aM (blk_grown (g := gb228) (o := .cells #[.slice none 0 0, .slice none 0 0] 31 (0, 0)) aK hg (Kd.N_ne HO249.out BK228.out (by decide)))
              have n5_ := aM (blk_grown (g := gb235) (o := .cells #[.slice Ao13 t229.length co13, .slice (some ad239) t232.length co18] 31 (0, 0)) aK hg (Kd.N_ne HO249.out BK235.out (by decide)))
              have n6_ := aM (Kd.V_afterv (ok := (fun k_ => (w.heap.size ≤ k_) ∧ some k_ ≠ (.slice Ao13 t229.length co13 : Value).ownBlock ∧ some k_ ≠ (.slice (some ad239) t232.length co18 : Value).ownBlock ∧ k_ ≠ gb226 ∧ k_ ≠ gb227 ∧ k_ ≠ gb228 ∧ k_ ≠ gb235)) (by (with_reducible repeat apply pV); exact Kd.V_mono HL239_1.out (fun _ hk => ⟨⟨hk.1.1.1, ⟨hk.1.1.2.1, ⟨hk.1.1.2.2.1, ⟨hk.1.1.2.2.2.1, ⟨hk.1.1.2.2.2.2.1, ⟨hk.1.1.2.2.2.2.2.1, hk.1.1.2.2.2.2.2.2⟩⟩⟩⟩⟩⟩, hk.2⟩)) hg hat)
              have n7_ := aM (Kd.V_afterv (ok := (fun k_ => (w.heap.size ≤ k_) ∧ some k_ ≠ (.slice Ao13 t229.length co13 : Value).ownBlock ∧ k_ ≠ gb226 ∧ k_ ≠ gb227 ∧ k_ ≠ gb228 ∧ k_ ≠ gb235)) (by (with_reducible repeat apply pV); exact Kd.V_mono HO254.out (fun _ hk => ⟨⟨hk.1.1.1, ⟨hk.1.1.2.1, ⟨hk.1.1.2.2.1, ⟨hk.1.1.2.2.2.1, ⟨hk.1.1.2.2.2.2.1, hk.1.1.2.2.2.2.2⟩⟩⟩⟩⟩, hk.2⟩)) hg hat)
              have n8_ := aM (hb)
              have n9_ := aM (ho)
              clear HO_236000
              clear HO_236001
              clear BK226
              clear BK227
              clear BK228
              clear BK235
              clear HL239_1
              clear HO254
              clear HB
              clear HO249
              have HO_236000 := n0_
              have HO_236001 := n1_
              have BK226 := n2_
              have BK227 := n3_
              have BK228 := n4_
              have BK235 := n5_
              have HL239_1 := n6_
              have HO254 := n7_
              have HB := n8_
              have HO257 := n9_
              clear n0_ n1_ n2_ n3_ n4_ n5_ n6_ n7_ n8_ n9_
              clear ho hb hg hat
              refine hK.out _ _ ⟨(blk_cell BK227.out 0).trans rfl, (blk_cell BK227.out 1).trans rfl, (blk_cell BK235.out 0).trans rfl, (blk_cell BK235.out 1).trans rfl⟩ (fun hHeld => ?_)
              clear hK K
              refine nU 62 ?_
              refine pU 13 8 ?_
              refine done_ (done_of HT_.out (by kernel_rfl)) ?_
              try go_wp2_with (first | ((with_reducible refine gate_dst (N := 63) rfl ?_); (try (refine gate_guard (by rfl) ?_; dsimp only)); refine Kd.N_lit k39 _ 39 ?hg (N' := 63) ?hd (xs := ([] : List (S39))) (inner := []) (ok := (fun k_ => (w.heap.size ≤ k_) ∧ some k_ ≠ (.slice Ao13 t229.length co13 : Value).ownBlock ∧ some k_ ≠ (.slice (some ad239) t232.length co18 : Value).ownBlock ∧ some k_ ≠ (v256 : Value).ownBlock ∧ k_ ≠ gb226 ∧ k_ ≠ gb227 ∧ k_ ≠ gb228 ∧ k_ ≠ gb235)) (okp := (fun k_ => (w.heap.size ≤ k_) ∧ some k_ ≠ (.slice Ao13 t229.length co13 : Value).ownBlock ∧ some k_ ≠ (.slice (some ad239) t232.length co18 : Value).ownBlock ∧ some k_ ≠ (v256 : Value).ownBlock ∧ k_ ≠ gb226 ∧ k_ ≠ gb227 ∧ k_ ≠ gb228 ∧ k_ ≠ gb235)) ?hr ?hp (fun _ hk => hk) ((show ∀ k_, w99.heap.size ≤ k_ → (fun k_ => (w.heap.size ≤ k_) ∧ some k_ ≠ (.slice Ao13 t229.length co13 : Value).ownBlock ∧ some k_ ≠ (.slice (some ad239) t232.length co18 : Value).ownBlock ∧ some k_ ≠ (v256 : Value).ownBlock ∧ k_ ≠ gb226 ∧ k_ ≠ gb227 ∧ k_ ≠ gb228 ∧ k_ ≠ gb235) k_ from fun k_ hk => ⟨(Nat.le_trans (below_size aG) hk), Kd.fresh' (Kd.R_lt (aR HO_236000)) k_ hk, Kd.fresh' (Kd.N_lt (aN HO_236001)) k_ hk, Kd.fresh' (Kd.N_lt (aN HO257)) k_ hk, Kd.freshB (g := gb226) (o := .cells #[.slice A0_0 l0_0.length c0_0, .slice A0_1 l0_1.length c0_1] 31 (0, 0)) aK k_ hk, Kd.freshB (g := gb227) (o := .cells #[.int .i64 a1_0, .slice A1_1 l1_1.length c1_1] 39 (0, 0)) aK k_ hk, Kd.freshB (g := gb228) (o := .cells #[.slice none 0 0, .slice none 0 0] 31 (0, 0)) aK k_ hk, Kd.freshB (g := gb235) (o := .cells #[.slice Ao13 t229.length co13, .slice (some ad239) t232.length co18] 31 (0, 0)) aK k_ hk⟩) _ (Nat.le_refl _)) (Below.refl _ _) (Nat.le_refl _) (by simp) ?_; (case hd => rfl); (case hg => rfl); (case hr => first | (go_simp; done) | (go_simp; rfl)); (case hp => exact (Reps.none _ _)); intro v259 w100 ho101 hb hg_ hnew_; clear hg_ hnew_; (first | rw [← Ny258.out] at ho101 | (simp only [Int.reduceToNat] at ho101; rw [← Ny258.out] at ho101)); have n0_ := aM (Kd.R_below (aR HO_236000) hb); have n1_ := aM (Kd.N_elder' (aN HO_236001) (Kd.N_base ho101) hb); have n2_ := aM (Kd.V_elder' (aV HL239_1) (Kd.N_base ho101) hb); have n3_ := aM (Kd.V_elder' (aV HO254) (Kd.N_base ho101) hb); have n4_ := aM (Kd.N_elder' (aN HO257) (Kd.N_base ho101) hb); have n5_ := aM (Kd.N_lower ho101 (below_size aG)); have n6_ := aM (kB gb226 #[.slice A0_0 l0_0.length c0_0, .slice A0_1 l0_1.length c0_1] 31 hb); have n7_ := aM (kB gb227 #[.int .i64 a1_0, .slice A1_1 l1_1.length c1_1] 39 hb); have n8_ := aM (kB gb228 #[.slice none 0 0, .slice none 0 0] 31 hb); have n9_ := aM (kB gb235 #[.slice Ao13 t229.length co13, .slice (some ad239) t232.length co18] 31 hb); have n10_ := aM (below_step aG hb); clear HO_236000; clear HO_236001; clear HL239_1; clear HO254; clear HO257; clear BK226; clear BK227; clear BK228; clear BK235; clear HB; have HO_236000 := n0_; have HO_236001 := n1_; have HL239_1 := n2_; have HO254 := n3_; have HO257 := n4_; have HO260 := n5_; have BK226 := n6_; have BK227 := n7_; have BK228 := n8_; have BK235 := n9_; have HB := n10_; clear n0_ n1_ n2_ n3_ n4_ n5_ n6_ n7_ n8_ n9_ n10_; clear hb ho101; have hnb102 := NB235_226.out; have hnc102 := NB226_235.out; have hnb103 := NB235_227.out; have hnc103 := NB227_235.out; have hnb104 := NB235_228.out; have hnc104 := NB228_235.out; have hcz105_0 : w100.cell? ⟨gb235, 0, none⟩ = some (.slice Ao13 t229.length co13) := (blk_cell BK235.out 0).trans rfl; have hcz105_1 : w100.cell? ⟨gb235, 1, none⟩ = some (.slice (some ad239) t232.length co18) := (blk_cell BK235.out 1).trans rfl; have hfz105_0 := blk_frozen BK235.out 0; have hfz105_1 := blk_frozen BK235.out 1; have q106 : (x7_2 : Int) ≤ ((t232.length : Int) : Int) := aD; obtain ⟨i0106, hi0106, _, hsz106, _⟩ := info_parts info39; have hroom106 : t232.length ≤ co18 := (Kd.N_reads' HO_236001.out).2.1; have hC106 : Kd.F k39 _ _ (some ad239) t232.length t232 := (Kd.V_at (base := w.heap.size) (Kd.N_V HO_236001.out)).2.2; have hcut106 := cut_to (P := Tryd.prog) 29 39 .i64 Tryd.underlying29 hi0106 (some ad239) t232.length co18 x7_2 (aD) q106 hroom106; have hr106 := Kd.F_take (m := (x7_2 : Int).toNat) hC106 (by omega); have hy106 : y261.length = (x7_2 : Int).toNat := (by rw [Ny261.out, List.length_take]; omega); rw [← Ny261.out] at hr106; rw [← hy106] at hcut106; have HO265 := aM (show Kd.V k39 39 _ w.heap.size _ (.slice (some ad239) y261.length co18) y261 from Kd.V_mk (by omega) hr106); have HC265 := aM (show y261.length ≤ co18 from by omega); clear hr106 hC106 hroom106 hi0106 hsz106; have KY106 := aM hy106; clear hy106; replace q106 := eq_true q106) | ((with_reducible refine gate_builtin (b := .append) (xs := #[.tmp 63, .tmp 67]) rfl ?_); (try (refine gate_guard (by rfl) ?_; dsimp only)); at_builtin; refine Kd.N_append_rows k39 (w0 := w) w.heap.size rfl (.tmp 63) (.tmp 67) 29 39 (.agg #[(.int .i64 0), (.slice none 0 0)]) 32 rfl Tryd.underlying29 info39 rfl (by decide) (by omega) v259 y258 y261 _ _ _ (fun k_ => (w.heap.size ≤ k_) ∧ some k_ ≠ (.slice Ao13 t229.length co13 : Value).ownBlock ∧ some k_ ≠ (v256 : Value).ownBlock ∧ k_ ≠ gb226 ∧ k_ ≠ gb227 ∧ k_ ≠ gb228 ∧ k_ ≠ gb235) (fun k_ => ((fun k_ => (w.heap.size ≤ k_) ∧ some k_ ≠ (.slice Ao13 t229.length co13 : Value).ownBlock ∧ some k_ ≠ (v256 : Value).ownBlock ∧ k_ ≠ gb226 ∧ k_ ≠ gb227 ∧ k_ ≠ gb228 ∧ k_ ≠ gb235)) k_ ∧ some k_ ≠ (v259 : Value).ownBlock) rfl rfl ?aO ?aR (fun _ hk => hk) ?aF ?aB ?aS ?aL ?_; (case aR => exact (by skip; exact Kd.V_F (Kd.V_mono (ok' := (fun k_ => ((fun k_ => (w.heap.size ≤ k_) ∧ some k_ ≠ (.slice Ao13 t229.length co13 : Value).ownBlock ∧ some k_ ≠ (v256 : Value).ownBlock ∧ k_ ≠ gb226 ∧ k_ ≠ gb227 ∧ k_ ≠ gb228 ∧ k_ ≠ gb235)) k_ ∧ some k_ ≠ (v259 : Value).ownBlock)) (HO265.out) (fun k_ hk => ⟨⟨hk.1.1.1, ⟨hk.1.1.2.1, ⟨hk.1.2, ⟨hk.1.1.2.2.1, ⟨hk.1.1.2.2.2.1, ⟨hk.1.1.2.2.2.2.1, hk.1.1.2.2.2.2.2⟩⟩⟩⟩⟩⟩, hk.2⟩)))); (case aB => exact aG); (case aF => exact (fun k_ hk => ⟨(Nat.le_trans (below_size aG) hk), Kd.fresh' (Kd.R_lt (aR HO_236000)) k_ hk, Kd.fresh' (Kd.N_lt (aN HO257)) k_ hk, Kd.freshB (g := gb226) (o := .cells #[.slice A0_0 l0_0.length c0_0, .slice A0_1 l0_1.length c0_1] 31 (0, 0)) aK k_ hk, Kd.freshB (g := gb227) (o := .cells #[.int .i64 a1_0, .slice A1_1 l1_1.length c1_1] 39 (0, 0)) aK k_ hk, Kd.freshB (g := gb228) (o := .cells #[.slice none 0 0, .slice none 0 0] 31 (0, 0)) aK k_ hk, Kd.freshB (g := gb235) (o := .cells #[.slice Ao13 t229.length co13, .slice (some ad239) t232.length co18] 31 (0, 0)) aK k_ hk⟩)); (case aO => exact (by (with_reducible repeat apply pN); exact Kd.N_mono HO260.out (fun _ hk => ⟨hk.1, ⟨hk.2.1, ⟨hk.2.2.2.1, ⟨hk.2.2.2.2.1, ⟨hk.2.2.2.2.2.1, ⟨hk.2.2.2.2.2.2.1, hk.2.2.2.2.2.2.2⟩⟩⟩⟩⟩⟩))); (case aS => exact (below_size aG)); (case aL => have := LMc87.out; omega); intro v267 w107 ho hb hg hat; rw [← Ny266.out] at ho; have n0_ := aM (Kd.R_over' (aR HO_236000) (Kd.N_typed (aN HO260)) (by decide) hg); have n1_ := aM (Kd.N_afterv (ok := (fun k_ => (w.heap.size ≤ k_) ∧ some k_ ≠ (.slice Ao13 t229.length co13 : Value).ownBlock ∧ some k_ ≠ (v256 : Value).ownBlock ∧ k_ ≠ gb226 ∧ k_ ≠ gb227 ∧ k_ ≠ gb228 ∧ k_ ≠ gb235)) (by (with_reducible repeat apply pN); exact Kd.N_mono HO_236001.out (fun _ hk => ⟨⟨hk.1.1.1, ⟨hk.1.1.2.1, ⟨hk.1.2, ⟨hk.1.1.2.2.1, ⟨hk.1.1.2.2.2.1, ⟨hk.1.1.2.2.2.2.1, hk.1.1.2.2.2.2.2⟩⟩⟩⟩⟩⟩, hk.2⟩)) hg hat); have n2_ := aM (blk_grown (g := gb226) (o := .cells #[.slice A0_0 l0_0.length c0_0, .slice A0_1 l0_1.length c0_1] 31 (0, 0)) aK hg (Kd.N_ne HO260.out BK226.out (by decide))); have n3_ := aM (blk_grown (g := gb227) (o := .cells #[.int .i64 a1_0, .slice A1_1 l1_1.length c1_1] 39 (0, 0)) aK hg (Kd.N_away HO260.out (fun _ hk => hk.2.2.2.2.2.1))); have n4_ := aM (blk_grown (g := gb228) (o := .cells #[.slice none 0 0, .slice none 0 0] 31 (0, 0)) aK hg (Kd.N_ne HO260.out BK228.out (by decide))); have n5_ := aM (blk_grown (g := gb235) (o := .cells #[.slice Ao13 t229.length co13, .slice (some ad239) t232.length co18] 31 (0, 0)) aK hg (Kd.N_ne HO260.out BK235.out (by decide))); have n6_ := aM (Kd.V_afterv (ok := (fun k_ => (w.heap.size ≤ k_) ∧ some k_ ≠ (.slice Ao13 t229.length co13 : Value).ownBlock ∧ some k_ ≠ (.slice (some ad239) t232.length co18 : Value).ownBlock ∧ some k_ ≠ (v256 : Value).ownBlock ∧ k_ ≠ gb226 ∧ k_ ≠ gb227 ∧ k_ ≠ gb228 ∧ k_ ≠ gb235)) (by (with_reducible repeat apply pV); exact Kd.V_mono HL239_1.out (fun _ hk => ⟨⟨hk.1.1.1, ⟨hk.1.1.2.1, ⟨hk.1.1.2.2.1, ⟨hk.1.2, ⟨hk.1.1.2.2.2.1, ⟨hk.1.1.2.2.2.2.1, ⟨hk.1.1.2.2.2.2.2.1, hk.1.1.2.2.2.2.2.2⟩⟩⟩⟩⟩⟩⟩, hk.2⟩)) hg hat); have n7_ := aM (Kd.V_afterv (ok := (fun k_ => (w.heap.size ≤ k_) ∧ some k_ ≠ (.slice Ao13 t229.length co13 : Value).ownBlock ∧ some k_ ≠ (v256 : Value).ownBlock ∧ k_ ≠ gb226 ∧ k_ ≠ gb227 ∧ k_ ≠ gb228 ∧ k_ ≠ gb235)) (by (with_reducible repeat apply pV); exact Kd.V_mono HO254.out (fun _ hk => ⟨⟨hk.1.1.1, ⟨hk.1.1.2.1, ⟨hk.1.2, ⟨hk.1.1.2.2.1, ⟨hk.1.1.2.2.2.1, ⟨hk.1.1.2.2.2.2.1, hk.1.1.2.2.2.2.2⟩⟩⟩⟩⟩⟩, hk.2⟩)) hg hat); have n8_ := aM (Kd.N_afterv (ok := (fun k_ => (w.heap.size ≤ k_) ∧ some k_ ≠ (.slice Ao13 t229.length co13 : Value).ownBlock ∧ k_ ≠ gb226 ∧ k_ ≠ gb227 ∧ k_ ≠ gb228 ∧ k_ ≠ gb235)) (aN HO257) hg hat); have n9_ := aM (Kd.V_afterv (ok := (fun k_ => (w.heap.size ≤ k_) ∧ some k_ ≠ (.slice Ao13 t229.length co13 : Value).ownBlock ∧ some k_ ≠ (v256 : Value).ownBlock ∧ k_ ≠ gb226 ∧ k_ ≠ gb227 ∧ k_ ≠ gb228 ∧ k_ ≠ gb235)) (by (with_reducible repeat apply pV); exact Kd.V_mono HO265.out (fun _ hk => ⟨⟨hk.1.1.1, ⟨hk.1.1.2.1, ⟨hk.1.2, ⟨hk.1.1.2.2.1, ⟨hk.1.1.2.2.2.1, ⟨hk.1.1.2.2.2.2.1, hk.1.1.2.2.2.2.2⟩⟩⟩⟩⟩⟩, hk.2⟩)) hg hat); have n10_ := aM (hb); have n11_ := aM (ho); clear HO_236000; clear HO_236001; clear BK226; clear BK227; clear BK228; clear BK235; clear HL239_1; clear HO254; clear HO257; clear HO265; clear HB; clear HO260; have HO_236000 := n0_; have HO_236001 := n1_; have BK226 := n2_; have BK227 := n3_; have BK228 := n4_; have BK235 := n5_; have HL239_1 := n6_; have HO254 := n7_; have HO257 := n8_; have HO265 := n9_; have HB := n10_; have HO268 := n11_; clear n0_ n1_ n2_ n3_ n4_ n5_ n6_ n7_ n8_ n9_ n10_ n11_; clear ho hb hg hat; obtain ⟨Ao109, co109, eo109⟩ := Kd.N_slice HO257.out; subst eo109) | ((with_reducible refine gate_builtin (b := .append) (xs := #[.tmp 68, .tmp 69]) rfl ?_); (try (refine gate_guard (by rfl) ?_; dsimp only)); at_builtin; refine Kd.N_append_rows k39 (w0 := w) w.heap.size rfl (.tmp 68) (.tmp 69) 29 39 (.agg #[(.int .i64 0), (.slice none 0 0)]) 32 rfl Tryd.underlying29 info39 rfl (by decide) (by omega) v267 y266 y255 _ _ _ (fun k_ => (w.heap.size ≤ k_) ∧ some k_ ≠ (.slice Ao13 t229.length co13 : Value).ownBlock ∧ k_ ≠ gb226 ∧ k_ ≠ gb227 ∧ k_ ≠ gb228 ∧ k_ ≠ gb235) (fun k_ => ((fun k_ => (w.heap.size ≤ k_) ∧ some k_ ≠ (.slice Ao13 t229.length co13 : Value).ownBlock ∧ k_ ≠ gb226 ∧ k_ ≠ gb227 ∧ k_ ≠ gb228 ∧ k_ ≠ gb235)) k_ ∧ some k_ ≠ (v267 : Value).ownBlock) rfl rfl ?aO ?aR (fun _ hk => hk) ?aF ?aB ?aS ?aL ?_; (case aR => exact (by skip; exact Kd.N_F (Kd.N_mono (ok' := (fun k_ => ((fun k_ => (w.heap.size ≤ k_) ∧ some k_ ≠ (.slice Ao13 t229.length co13 : Value).ownBlock ∧ k_ ≠ gb226 ∧ k_ ≠ gb227 ∧ k_ ≠ gb228 ∧ k_ ≠ gb235)) k_ ∧ some k_ ≠ (v267 : Value).ownBlock)) (HO257.out) (fun k_ hk => ⟨⟨hk.1.1, ⟨hk.1.2.1, ⟨hk.1.2.2.1, ⟨hk.1.2.2.2.1, ⟨hk.1.2.2.2.2.1, hk.1.2.2.2.2.2⟩⟩⟩⟩⟩, hk.2⟩)))); (case aB => exact aG); (case aF => exact (fun k_ hk => ⟨(Nat.le_trans (below_size aG) hk), Kd.fresh' (Kd.R_lt (aR HO_236000)) k_ hk, Kd.freshB (g := gb226) (o := .cells #[.slice A0_0 l0_0.length c0_0, .slice A0_1 l0_1.length c0_1] 31 (0, 0)) aK k_ hk, Kd.freshB (g := gb227) (o := .cells #[.int .i64 a1_0, .slice A1_1 l1_1.length c1_1] 39 (0, 0)) aK k_ hk, Kd.freshB (g := gb228) (o := .cells #[.slice none 0 0, .slice none 0 0] 31 (0, 0)) aK k_ hk, Kd.freshB (g := gb235) (o := .cells #[.slice Ao13 t229.length co13, .slice (some ad239) t232.length co18] 31 (0, 0)) aK k_ hk⟩)); (case aO => exact (by (with_reducible repeat apply pN); exact Kd.N_mono HO268.out (fun _ hk => ⟨hk.1, ⟨hk.2.1, ⟨hk.2.2.2.1, ⟨hk.2.2.2.2.1, ⟨hk.2.2.2.2.2.1, hk.2.2.2.2.2.2⟩⟩⟩⟩⟩))); (case aS => exact (below_size aG)); (case aL => have := LMc88.out; omega); intro v270 w108 ho hb hg hat; rw [← Ny269.out] at ho; have n0_ := aM (Kd.R_over' (aR HO_236000) (Kd.N_typed (aN HO268)) (by decide) hg); have n1_ := aM (Kd.N_afterv (ok := (fun k_ => (w.heap.size ≤ k_) ∧ some k_ ≠ (.slice Ao13 t229.length co13 : Value).ownBlock ∧ some k_ ≠ (.slice Ao109 y255.length co109 : Value).ownBlock ∧ k_ ≠ gb226 ∧ k_ ≠ gb227 ∧ k_ ≠ gb228 ∧ k_ ≠ gb235)) (aN HO_236001) hg hat); have n2_ := aM (blk_grown (g := gb226) (o := .cells #[.slice A0_0 l0_0.length c0_0, .slice A0_1 l0_1.length c0_1] 31 (0, 0)) aK hg (Kd.N_ne HO268.out BK226.out (by decide))); have n3_ := aM (blk_grown (g := gb227) (o := .cells #[.int .i64 a1_0, .slice A1_1 l1_1.length c1_1] 39 (0, 0)) aK hg (Kd.N_away HO268.out (fun _ hk => hk.2.2.2.2.1))); have n4_ := aM (blk_grown (g := gb228) (o := .cells #[.slice none 0 0, .slice none 0 0] 31 (0, 0)) aK hg (Kd.N_ne HO268.out BK228.out (by decide))); have n5_ := aM (blk_grown (g := gb235) (o := .cells #[.slice Ao13 t229.length co13, .slice (some ad239) t232.length co18] 31 (0, 0)) aK hg (Kd.N_ne HO268.out BK235.out (by decide))); have n6_ := aM (Kd.V_afterv (ok := (fun k_ => (w.heap.size ≤ k_) ∧ some k_ ≠ (.slice Ao13 t229.length co13 : Value).ownBlock ∧ some k_ ≠ (.slice (some ad239) t232.length co18 : Value).ownBlock ∧ some k_ ≠ (.slice Ao109 y255.length co109 : Value).ownBlock ∧ k_ ≠ gb226 ∧ k_ ≠ gb227 ∧ k_ ≠ gb228 ∧ k_ ≠ gb235)) (aV HL239_1) hg hat); have n7_ := aM (Kd.V_afterv (ok := (fun k_ => (w.heap.size ≤ k_) ∧ some k_ ≠ (.slice Ao13 t229.length co13 : Value).ownBlock ∧ some k_ ≠ (.slice Ao109 y255.length co109 : Value).ownBlock ∧ k_ ≠ gb226 ∧ k_ ≠ gb227 ∧ k_ ≠ gb228 ∧ k_ ≠ gb235)) (aV HO254) hg hat); have n8_ := aM (Kd.N_afterv (ok := (fun k_ => (w.heap.size ≤ k_) ∧ some k_ ≠ (.slice Ao13 t229.length co13 : Value).ownBlock ∧ k_ ≠ gb226 ∧ k_ ≠ gb227 ∧ k_ ≠ gb228 ∧ k_ ≠ gb235)) (aN HO257) hg hat); have n9_ := aM (Kd.V_afterv (ok := (fun k_ => (w.heap.size ≤ k_) ∧ some k_ ≠ (.slice Ao13 t229.length co13 : Value).ownBlock ∧ some k_ ≠ (.slice Ao109 y255.length co109 : Value).ownBlock ∧ k_ ≠ gb226 ∧ k_ ≠ gb227 ∧ k_ ≠ gb228 ∧ k_ ≠ gb235)) (aV HO265) hg hat); have n10_ := aM (hb); have n11_ := aM (ho); clear HO_236000; clear HO_236001; clear BK226; clear BK227; clear BK228; clear BK235; clear HL239_1; clear HO254; clear HO257; clear HO265; clear HB; clear HO268; have HO_236000 := n0_; have HO_236001 := n1_; have BK226 := n2_; have BK227 := n3_; have BK228 := n4_; have BK235 := n5_; have HL239_1 := n6_; have HO254 := n7_; have HO257 := n8_; have HO265 := n9_; have HB := n10_; have HO271 := n11_; clear n0_ n1_ n2_ n3_ n4_ n5_ n6_ n7_ n8_ n9_ n10_ n11_; clear ho hb hg hat; obtain ⟨Ao110, co110, eo110⟩ := Kd.N_slice HO271.out; subst eo110; have hcz111_0 : w108.cell? ⟨gb235, 0, none⟩ = some (.slice Ao13 t229.length co13) := (blk_cell BK235.out 0).trans rfl; have hcz111_1 : w108.cell? ⟨gb235, 1, none⟩ = some (.slice (some ad239) t232.length co18) := (blk_cell BK235.out 1).trans rfl; have hfz111_0 := blk_frozen BK235.out 0; have hfz111_1 := blk_frozen BK235.out 1; have hnb112 := NB228_226.out; have hnc112 := NB226_228.out; have hnb113 := NB228_227.out; have hnc113 := NB227_228.out; have hcz114_0 : w108.cell? ⟨gb228, 0, none⟩ = some (.slice none 0 0) := (blk_cell BK228.out 0).trans rfl; have hcz114_1 : w108.cell? ⟨gb228, 1, none⟩ = some (.slice none 0 0) := (blk_cell BK228.out 1).trans rfl; have hfz114_0 := blk_frozen BK228.out 0; have hfz114_1 := blk_frozen BK228.out 1))
              refine bodyPost_ret (results_ct rfl _ _ gb228 31 #[.slice Ao13 t229.length co13, .slice Ao110 y269.length co110] (0, 0) _ rfl (by (with_reducible repeat refine pB ?_); refine blk_put (cs := #[.slice Ao13 t229.length co13, .slice none 0 0]) ?_ 1 _ rfl; (with_reducible repeat refine pB ?_); refine blk_put (cs := #[.slice none 0 0, .slice none 0 0]) ?_ 0 _ rfl; (with_reducible repeat refine pB ?_); refine blk_far ?_ NB228_235.out _; (with_reducible repeat refine pB ?_); exact BK228.out) Tryd.underlying31 rfl (by kernel_rfl)) rfl ?_
              exact ⟨_, _, aE, by (with_reducible repeat apply pR); exact Kd.R_mono (Kd.R_far (p := ⟨gb228, 1, none⟩) (Kd.R_far (p := ⟨gb228, 0, none⟩) (Kd.R_far (p := ⟨gb235, 1, none⟩) (Kd.R_types (Kd.R_types HO_236000.out BK235.out (by decide)) BK228.out (by decide)) (fun _ hk => hk.1.2) (.slice Ao110 y269.length co110)) (fun _ hk => hk.2) (.slice Ao13 t229.length co13)) (fun _ hk => hk.2) (.slice Ao110 y269.length co110)) (fun _ hk => hk.1.1), by (with_reducible repeat apply pN); exact Kd.N_mono (Kd.N_far (p := ⟨gb228, 1, none⟩) (Kd.N_far (p := ⟨gb228, 0, none⟩) (Kd.N_far (p := ⟨gb235, 1, none⟩) (Kd.N_mono (Kd.N_mono HO271.out (fun k_ hk => (⟨hk, hk.2.2.2.2.2⟩ : _ ∧ k_ ≠ gb235))) (fun k_ hk => (⟨hk, hk.1.2.2.2.2.1⟩ : _ ∧ k_ ≠ gb228))) (fun _ hk => hk.1.2) (.slice Ao110 y269.length co110)) (fun _ hk => hk.2) (.slice Ao13 t229.length co13)) (fun _ hk => hk.2) (.slice Ao110 y269.length co110)) (fun _ hk => ⟨hk.1.1.1, hk.1.1.2.1⟩), aG⟩
             ·rw [if_neg c88] at H
              exact absurd H (by simp)
            ·rw [if_neg c87] at H
             exact absurd H (by simp)
           ·rw [if_neg c84] at H
            exact absurd H (by simp)
          ·rw [if_neg c83] at H
           exact absurd H (by simp)
         ·rw [if_neg c81] at H
          exact absurd H (by simp)
       ·rw [if_neg c76] at H
        exact absurd H (by simp)
      ·rw [if_neg c75] at H
       have c75b0 : decide (x7_2 < (t232.length : Int)) = false := decide_eq_false c75
       clear c75
       obtain ⟨y272, hy272⟩ : ∃ y_ : List Int, y_ = (([] : List Int)) := ⟨_, rfl⟩
       first | replace H := bY hy272 H | rw [← hy272] at H
       have Ny272 := aM hy272
       clear hy272
       by_cases c115 : y272.length + l1_1.length < 17592186044416
       ·rw [if_pos c115] at H
        have LMc115 := aM c115
        clear c115
        obtain ⟨y275, hy275⟩ : ∃ y_ : List Int, y_ = (y272 ++ l1_1) := ⟨_, rfl⟩
        first | replace H := bY hy275 H | rw [← hy275] at H
        have Ny275 := aM hy275
        clear hy275
        obtain ⟨y278, hy278⟩ : ∃ y_ : List (S39), y_ = (([(⟨a1_0, y275⟩ : S39)] : List (S39))) := ⟨_, rfl⟩
        first | replace H := bY hy278 H | rw [← hy278] at H
        have Ny278 := aM hy278
        clear hy278
        by_cases c116 : 0 ≤ x7_2
        ·rw [if_pos c116] at H
         have c116b0 := eq_true c116
         have c116b1 : decide (0 ≤ x7_2) = true := decide_eq_true c116
         clear c116
         by_cases c117 : x7_2 ≤ (t232.length : Int)
         ·rw [if_pos c117] at H
          have c117b0 := eq_true c117
          have c117b1 : decide (x7_2 ≤ (t232.length : Int)) = true := decide_eq_true c117
          clear c117
          obtain ⟨y281, hy281⟩ : ∃ y_ : List (S39), y_ = (t232.drop (x7_2 : Int).toNat) := ⟨_, rfl⟩
          first | replace H := bY hy281 H | rw [← hy281] at H
          have Ny281 := aM hy281
          clear hy281
          by_cases c118 : y278.length + y281.length < 4398046511104
          ·rw [if_pos c118] at H
           have LMc118 := aM c118
           clear c118
           obtain ⟨y286, hy286⟩ : ∃ y_ : List (S39), y_ = (y278 ++ y281) := ⟨_, rfl⟩
           first | replace H := bY hy286 H | rw [← hy286] at H
           have Ny286 := aM hy286
           clear hy286
           obtain ⟨y289, hy289⟩ : ∃ y_ : List (S39), y_ = (([] : List (S39))) := ⟨_, rfl⟩
           first | replace H := bY hy289 H | rw [← hy289] at H
           have Ny289 := aM hy289
           clear hy289
           have c119b0 := eq_true (aD : 0 ≤ x7_2)
           have c120b0 := eq_true (aD : x7_2 ≤ (t232.length : Int))
           obtain ⟨y292, hy292⟩ : ∃ y_ : List (S39), y_ = (t232.take (x7_2 : Int).toNat) := ⟨_, rfl⟩
           first | replace H := bY hy292 H | rw [← hy292] at H
           have Ny292 := aM hy292
           clear hy292
           by_cases c121 : y289.length + y292.length < 4398046511104
           ·rw [if_pos c121] at H
            have LMc121 := aM c121
            clear c121
            obtain ⟨y297, hy297⟩ : ∃ y_ : List (S39), y_ = (y289 ++ y292) := ⟨_, rfl⟩
            first | replace H := bY hy297 H | rw [← hy297] at H
            have Ny297 := aM hy297
            clear hy297
            by_cases c122 : y297.length + y286.length < 4398046511104
            ·rw [if_pos c122] at H
             have LMc122 := aM c122
             clear c122
             obtain ⟨y300, hy300⟩ : ∃ y_ : List (S39), y_ = (y297 ++ y286) := ⟨_, rfl⟩
             first | replace H := bY hy300 H | rw [← hy300] at H
             have Ny300 := aM hy300
             clear hy300
             simp only [Option.some.injEq, Prod.mk.injEq] at H
             obtain ⟨rfl, rfl, rfl⟩ := H
             try go_wp2
             replace HO_236000 := aM (Kd.R_drew HO_236000.out)
             replace HO_236001 := aM (Kd.N_drew HO_236001.out)
             replace BK226 := aM (blk_drew BK226.out)
             replace BK227 := aM (blk_drew BK227.out)
             replace BK228 := aM (blk_drew BK228.out)
             replace BK235 := aM (blk_drew BK235.out)
             replace HB := aM (below_drew1 HB.out)
             refine start_ (n := 15) (S := fun w' => w'.cell? ⟨gb235, 0, none⟩ = some (.slice Ao13 t229.length co13) ∧ w'.cell? ⟨gb235, 1, none⟩ = some (.slice Ao18 t232.length co18)) (ds := []) #[false, false, false, false, false, false, false, false, false, false, false, false, false, false, false] (by kernel_rfl) rfl rfl ⟨(blk_cell BK235.out 0).trans rfl, (blk_cell BK235.out 1).trans rfl⟩ (fun hHeld => ?_); refine with_tabW spec_InsertFact.tab5 spec_InsertFact.bits5 (fun HT_ HW_ => ?_)
             generalize wr.drew = w123 at HO_236000 HO_236001 BK226 BK227 BK228 BK235 HB hHeld ⊢
             refine pU 0 33 ?_
             refine pU 1 34 ?_
             refine tU2 2 35 hHeld ?_
             refine pU 3 36 ?_
             refine pU 4 37 ?_
             refine pU 5 38 ?_
             refine pure_ (i := 6) (N := some 39) (v := undef) (a' := ?_) #[true, true, true, true, true, true, true, false, false, false, false, false, false, false, false] rfl rfl (any_of HT_.out (by kernel_rfl)) (fun _ _ _ h => h) (Or.inr ⟨by rfl, rfl⟩) ?_ ?_
             rotate_left
             ·exact aP
             refine pure_ (i := 7) (N := some 40) (v := undef) (a' := ?_) #[true, true, true, true, true, true, true, true, false, false, false, false, false, false, false] rfl rfl (any_of HT_.out (by kernel_rfl)) (fun _ _ _ h => h) (Or.inr ⟨by rfl, rfl⟩) ?_ ?_
             rotate_left
             ·exact aP
             refine pure_ (i := 8) (N := some 41) (v := undef) (a' := ?_) #[true, true, true, true, true, true, true, true, true, false, false, false, false, false, false] rfl rfl (any_of HT_.out (by kernel_rfl)) (fun _ _ _ h => h) (Or.inr ⟨by rfl, rfl⟩) ?_ ?_
             rotate_left
             ·exact aP
             refine pure_ (i := 9) (N := some 42) (v := undef) (a' := ?_) #[true, true, true, true, true, true, true, true, true, true, false, false, false, false, false] rfl rfl (any_of HT_.out (by kernel_rfl)) (fun _ _ _ h => h) (Or.inr ⟨by rfl, rfl⟩) ?_ ?_
             rotate_left
             ·exact aP
             refine pure_ (i := 10) (N := some 43) (v := undef) (a' := ?_) #[true, true, true, true, true, true, true, true, true, true, true, false, false, false, false] rfl rfl (any_of HT_.out (by kernel_rfl)) (fun _ _ _ h => h) (Or.inr ⟨by rfl, rfl⟩) ?_ ?_
             rotate_left
             ·exact aP
             refine pure_ (i := 11) (N := some 44) (v := undef) (a' := ?_) #[true, true, true, true, true, true, true, true, true, true, true, true, false, false, false] rfl rfl (any_of HT_.out (by kernel_rfl)) (fun _ _ _ h => h) (Or.inr ⟨by rfl, rfl⟩) ?_ ?_
             rotate_left
             ·exact aP
             refine pure_ (i := 12) (N := some 45) (v := undef) (a' := ?_) #[true, true, true, true, true, true, true, true, true, true, true, true, true, false, false] rfl rfl (any_of HT_.out (by kernel_rfl)) (fun _ _ _ h => h) (Or.inr ⟨by rfl, rfl⟩) ?_ ?_
             rotate_left
             ·exact aP
             refine pure_ (i := 13) (N := some 46) (v := undef) (a' := ?_) #[true, true, true, true, true, true, true, true, true, true, true, true, true, true, false] rfl rfl (any_of HT_.out (by kernel_rfl)) (fun _ _ _ h => h) (Or.inr ⟨by rfl, rfl⟩) ?_ ?_
             rotate_left
             ·exact aP
             refine pU 14 47 ?_
             refine done_ (done_of HT_.out (by kernel_rfl)) ?_
             try go_wp2
             replace HO_236000 := aM (Kd.R_drew HO_236000.out)
             replace HO_236001 := aM (Kd.N_drew HO_236001.out)
             replace BK226 := aM (blk_drew BK226.out)
             replace BK227 := aM (blk_drew BK227.out)
             replace BK228 := aM (blk_drew BK228.out)
             replace BK235 := aM (blk_drew BK235.out)
             replace HB := aM (below_drew1 HB.out)
             have q125 : (x7_2 : Int) ≤ ((t232.length : Int) : Int) := aD
             obtain ⟨i0125, hi0125, _, hsz125, _⟩ := info_parts info39
             have hroom125 : t232.length ≤ co18 := (Kd.N_reads' HO_236001.out).2.1
             have hC125 : Kd.F k39 _ _ Ao18 t232.length t232 := (Kd.V_at (base := w.heap.size) (Kd.N_V HO_236001.out)).2.2
             have q0125 : (0 : Int) ≤ (x7_2 : Int) := aD
             have hcut125 := cut_from (P := Tryd.prog) 29 39 .i64 Tryd.underlying29 hi0125 2 hsz125 Ao18 t232.length co18 x7_2 q0125 q125
             have hr125 := Kd.F_cut (m := (x7_2 : Int).toNat) (c := co18) hC125 (by omega) hroom125
             obtain ⟨A125, hA125⟩ : ∃ A1, A1 = (if co18 = (x7_2 : Int).toNat then Ao18 else (Ao18 : Option Addr).map (·.add ((x7_2 : Int).toNat * 2))) := ⟨_, rfl⟩
             obtain ⟨c125, hc125⟩ : ∃ c1, c1 = co18 - (x7_2 : Int).toNat := ⟨_, rfl⟩
             have hy125 : y281.length = t232.length - (x7_2 : Int).toNat := (by rw [Ny281.out, List.length_drop] <;> omega)
             rw [show (t232).drop (x7_2 : Int).toNat = y281 from Ny281.out.symm] at hr125
             replace hr125 : Kd.F k39 _ _ A125 y281.length y281 := (by rw [hA125]; exact hr125)
             rw [← hy125, ← hA125, ← hc125] at hcut125
             have HO285 := aM (show Kd.V k39 39 _ w.heap.size _ (.slice A125 y281.length c125) y281 from Kd.V_mk (by rw [hy125, hc125]; exact Nat.sub_le_sub_right hroom125 _) hr125)
             have HC285 := aM (show y281.length ≤ c125 from by rw [hy125, hc125]; exact Nat.sub_le_sub_right hroom125 _)
             clear hr125 hC125 hroom125 hi0125 hsz125 hc125
             have KY125 := aM hy125
             have KA125 := aM hA125
             clear hy125 hA125
             replace q125 := eq_true q125
             refine start_ (n := 14) (S := fun w' => w'.cell? ⟨gb227, 0, none⟩ = some (.int .i64 a1_0) ∧ w'.cell? ⟨gb227, 1, none⟩ = some (.slice A1_1 l1_1.length c1_1) ∧ w'.cell? ⟨gb235, 0, none⟩ = some (.slice Ao13 t229.length co13) ∧ w'.cell? ⟨gb235, 1, none⟩ = some (.slice Ao18 t232.length co18)) (ds := []) #[false, false, false, false, false, false, false, false, false, false, false, false, false, false] (by kernel_rfl) rfl rfl ⟨(blk_cell BK227.out 0).trans rfl, (blk_cell BK227.out 1).trans rfl, (blk_cell BK235.out 0).trans rfl, (blk_cell BK235.out 1).trans rfl⟩ (fun hHeld => ?_); refine with_tabW spec_InsertFact.tab7 spec_InsertFact.bits7 (fun HT_ HW_ => ?_)
             generalize w123.drew = w124 at HO_236000 HO_236001 BK226 BK227 BK228 BK235 HB HO285 hHeld ⊢
             refine pU 0 50 ?_
             refine pU 3 53 ?_
             refine pU 8 58 ?_
             refine pU 10 60 ?_
             refine tU4 1 51 hHeld ?_
             refine tU4 4 54 hHeld ?_
             refine tU4 9 59 hHeld ?_
             refine pU 11 61 ?_
             refine oU 2 52 (fun K hK => ?_)
             refine Kd.R_lit_step (Kd.int .i64) _ 3 ?hg (N := 52) ?hd (xs := ([] : List Int)) (inner := []) (ok := fun _ => True) (okp := fun _ => True) ?hr ?hp (fun _ hk => hk) trivial (Below.refl _ _) (Nat.le_refl _) (by simp) ?_; (case hd => rfl); (case hg => rfl); (case hr => first | (go_simp; done) | (go_simp; rfl)); (case hp => exact (Reps.none _ _))
             intro v273 w126 ho127 hb hg_ hnew_
             clear hg_ hnew_
             (first | rw [← Ny272.out] at ho127 | (simp only [Int.reduceToNat] at ho127; rw [← Ny272.out] at ho127))
             have n0_ := aM (Kd.R_below (aR HO_236000) hb)
             have n1_ := aM (Kd.N_elder' (aN HO_236001) (Kd.R_base ho127) hb)
             have n2_ := aM (Kd.V_elder' (aV HO285) (Kd.R_base ho127) hb)
             have n3_ := aM (Kd.R_lower (Kd.R_newM (M := fun k_ => (w.heap.size ≤ k_)) ho127 (below_size aG) (fun k_ h_ => h_)) (below_size aG))
             have n4_ := aM (kB gb226 #[.slice A0_0 l0_0.length c0_0, .slice A0_1 l0_1.length c0_1] 31 hb)
             have n5_ := aM (kB gb227 #[.int .i64 a1_0, .slice A1_1 l1_1.length c1_1] 39 hb)
             have n6_ := aM (kB gb228 #[.slice none 0 0, .slice none 0 0] 31 hb)
             have n7_ := aM (kB gb235 #[.slice Ao13 t229.length co13, .slice Ao18 t232.length co18] 31 hb)
             have n8_ := aM (below_step aG hb)
             clear HO_236000
             clear HO_236001
             clear HO285
             clear BK226
             clear BK227
             clear BK228
             clear BK235
             clear HB
             have HO_236000 := n0_
             have HO_236001 := n1_
             have HO285 := n2_
             have HO274 := n3_
             have BK226 := n4_
             have BK227 := n5_
             have BK228 := n6_
             have BK235 := n7_
             have HB := n8_
             clear n0_ n1_ n2_ n3_ n4_ n5_ n6_ n7_ n8_
             clear hb ho127
             refine hK.out _ _ ⟨(blk_cell BK227.out 0).trans rfl, (blk_cell BK227.out 1).trans rfl, (blk_cell BK235.out 0).trans rfl, (blk_cell BK235.out 1).trans rfl⟩ (fun hHeld => ?_)
             clear hK K
             refine nU 52 ?_
             refine oU 5 55 (fun K hK => ?_)
             refine Kd.R_append_rows_step (Kd.int .i64) (w0 := w) w.heap.size (by rfl) (.tmp 52) (.tmp 54) 37 3 (.int .i64 0) 8 rfl Tryd.underlying37 info3 rfl (by decide) (by omega) v273 y272 l1_1 _ _ _ (fun k_ => (w.heap.size ≤ k_)) (fun _ => False) rfl rfl ?aO ?aR (fun _ _ h => h) (fun _ h => h.elim) ?aF ?aB ?aS ?aL ?_
             (case aR => exact aC)
             (case aB => exact aG)
             (case aF => exact (fun k_ hk => (Nat.le_trans (below_size aG) hk)))
             (case aO => exact (by (with_reducible repeat apply pR); exact Kd.R_mono HO274.out (fun _ hk => hk.1)))
             (case aS => exact (below_size aG))
             (case aL => have := LMc115.out; omega)
             intro v276 w128 ho hb hg hat
             rw [← Ny275.out] at ho
             have n0_ := aM (Kd.R_over' (aR HO_236000) (Kd.R_typed (aR HO274)) (by decide) hg)
             have n1_ := aM (Kd.N_afterv (ok := (fun k_ => (w.heap.size ≤ k_) ∧ some k_ ≠ (.slice Ao13 t229.length co13 : Value).ownBlock ∧ k_ ≠ gb226 ∧ k_ ≠ gb227 ∧ k_ ≠ gb228 ∧ k_ ≠ gb235)) (aN HO_236001) hg hat)
             have n2_ := aM (blk_grown (g := gb226) (o := .cells #[.slice A0_0 l0_0.length c0_0, .slice A0_1 l0_1.length c0_1] 31 (0, 0)) aK hg (Kd.R_ne HO274.out BK226.out (by decide)))
             have n3_ := aM (blk_grown (g := gb227) (o := .cells #[.int .i64 a1_0, .slice A1_1 l1_1.length c1_1] 39 (0, 0)) aK hg (Kd.R_ne HO274.out BK227.out (by decide)))
             have n4_ := aM (blk_grown (g := gb228) (o := .cells #[.slice none 0 0, .slice none 0 0] 31 (0, 0)) aK hg (Kd.R_ne HO274.out BK228.out (by decide)))
             have n5_ := aM (blk_grown (g := gb235) (o := .cells #[.slice Ao13 t229.length co13, .slice Ao18 t232.length co18] 31 (0, 0)) aK hg (Kd.R_ne HO274.out BK235.out (by decide)))
             have n6_ := aM (Kd.V_afterv (ok := (fun k_ => (w.heap.size ≤ k_) ∧ some k_ ≠ (.slice Ao13 t229.length co13 : Value).ownBlock ∧ k_ ≠ gb226 ∧ k_ ≠ gb227 ∧ k_ ≠ gb228 ∧ k_ ≠ gb235)) (aV HO285) hg hat)
             have n7_ := aM (hb)
             have n8_ := aM (ho)
             clear HO_236000
             clear HO_236001
             clear BK226
             clear BK227
             clear BK228
             clear BK235
             clear HO285
             clear HB
             clear HO274
             have HO_236000 := n0_
             have HO_236001 := n1_
             have BK226 := n2_
             have BK227 := n3_
             have BK228 := n4_
             have BK235 := n5_
             have HO285 := n6_
             have HB := n7_
             have HO277 := n8_
             clear n0_ n1_ n2_ n3_ n4_ n5_ n6_ n7_ n8_
             clear ho hb hg hat
             obtain ⟨Ao129, co129, eo129⟩ := Kd.R_slice HO277.out
             (first | subst eo129 | (injection eo129 with f1_ f2_ f3_; have f4_ := f1_.symm; have f5_ := f3_.symm; clear f1_ f2_ f3_; subst f4_; subst f5_))
             refine hK.out _ _ ⟨(blk_cell BK227.out 0).trans rfl, (blk_cell BK227.out 1).trans rfl, (blk_cell BK235.out 0).trans rfl, (blk_cell BK235.out 1).trans rfl⟩ (fun hHeld => ?_)
             clear hK K
             refine nU 55 ?_
             refine pU 6 56 ?_
             refine oU 7 57 (fun K hK => ?_)
             refine Kd.N_lit_step k39 _ 39 ?hg (N' := 57) ?hd (xs := ([(⟨a1_0, y275⟩ : S39)] : List (S39))) (inner := [.int .i64 a1_0, .slice Ao129 y275.length co129]) (ok := (fun k_ => (w.heap.size ≤ k_) ∧ some k_ ≠ (.slice Ao13 t229.length co13 : Value).ownBlock ∧ some k_ ≠ (.slice Ao18 t232.length co18 : Value).ownBlock ∧ k_ ≠ gb226 ∧ k_ ≠ gb227 ∧ k_ ≠ gb228 ∧ k_ ≠ gb235)) (okp := (fun k_ => (w.heap.size ≤ k_) ∧ some k_ ≠ (.slice Ao13 t229.length co13 : Value).ownBlock ∧ some k_ ≠ (.slice Ao18 t232.length co18 : Value).ownBlock ∧ k_ ≠ gb226 ∧ k_ ≠ gb227 ∧ k_ ≠ gb228 ∧ k_ ≠ gb235)) ?hr ?hp (fun _ hk => hk) ((show ∀ k_, w128.heap.size ≤ k_ → (fun k_ => (w.heap.size ≤ k_) ∧ some k_ ≠ (.slice Ao13 t229.length co13 : Value).ownBlock ∧ some k_ ≠ (.slice Ao18 t232.length co18 : Value).ownBlock ∧ k_ ≠ gb226 ∧ k_ ≠ gb227 ∧ k_ ≠ gb228 ∧ k_ ≠ gb235) k_ from fun k_ hk => ⟨(Nat.le_trans (below_size aG) hk), Kd.fresh' (Kd.R_lt (aR HO_236000)) k_ hk, Kd.fresh' (Kd.N_lt (aN HO_236001)) k_ hk, Kd.freshB (g := gb226) (o := .cells #[.slice A0_0 l0_0.length c0_0, .slice A0_1 l0_1.length c0_1] 31 (0, 0)) aK k_ hk, Kd.freshB (g := gb227) (o := .cells #[.int .i64 a1_0, .slice A1_1 l1_1.length c1_1] 39 (0, 0)) aK k_ hk, Kd.freshB (g := gb228) (o := .cells #[.slice none 0 0, .slice none 0 0] 31 (0, 0)) aK k_ hk, Kd.freshB (g := gb235) (o := .cells #[.slice Ao13 t229.length co13, .slice Ao18 t232.length co18] 31 (0, 0)) aK k_ hk⟩) _ (Nat.le_refl _)) (Below.refl _ _) (Nat.le_refl _) (by simp) ?_; (case hd => rfl); (case hg => rfl); (case hr => first | (go_simp; done) | (go_simp; rfl)); (case hp => exact (Reps.c2 (show Kd.FK k39 _ _ (⟨a1_0, y275⟩ : S39) [.int .i64 a1_0, .slice Ao129 y275.length co129] from (k39_mkF _ _ (⟨a1_0, y275⟩ : S39) (Kd.R_reads' (Kd.R_mono (ok' := (fun k_ => (w.heap.size ≤ k_) ∧ some k_ ≠ (.slice Ao13 t229.length co13 : Value).ownBlock ∧ some k_ ≠ (.slice Ao18 t232.length co18 : Value).ownBlock ∧ k_ ≠ gb226 ∧ k_ ≠ gb227 ∧ k_ ≠ gb228 ∧ k_ ≠ gb235)) (Kd.R_types (Kd.R_types (Kd.R_types (Kd.R_types (Kd.R_apart' (Kd.R_apart' (HO277.out) (Kd.R_typed HO_236000.out) (by decide)) (Kd.N_typed HO_236001.out) (by decide)) BK226.out (by decide)) BK227.out (by decide)) BK228.out (by decide)) BK235.out (by decide)) (fun k_ hk => ⟨hk.1.1.1.1.1.1, ⟨hk.1.1.1.1.1.2, ⟨hk.1.1.1.1.2, ⟨hk.1.1.1.2, ⟨hk.1.1.2, ⟨hk.1.2, hk.2⟩⟩⟩⟩⟩⟩))).2.1 (Kd.R_F (Kd.R_mono (ok' := (fun k_ => (w.heap.size ≤ k_) ∧ some k_ ≠ (.slice Ao13 t229.length co13 : Value).ownBlock ∧ some k_ ≠ (.slice Ao18 t232.length co18 : Value).ownBlock ∧ k_ ≠ gb226 ∧ k_ ≠ gb227 ∧ k_ ≠ gb228 ∧ k_ ≠ gb235)) (Kd.R_types (Kd.R_types (Kd.R_types (Kd.R_types (Kd.R_apart' (Kd.R_apart' (HO277.out) (Kd.R_typed HO_236000.out) (by decide)) (Kd.N_typed HO_236001.out) (by decide)) BK226.out (by decide)) BK227.out (by decide)) BK228.out (by decide)) BK235.out (by decide)) (fun k_ hk => ⟨hk.1.1.1.1.1.1, ⟨hk.1.1.1.1.1.2, ⟨hk.1.1.1.1.2, ⟨hk.1.1.1.2, ⟨hk.1.1.2, ⟨hk.1.2, hk.2⟩⟩⟩⟩⟩⟩))))) (Reps.none _ _)))
             intro v279 w130 ho131 hb hg_ hnew_
             clear hg_ hnew_
             (first | rw [← Ny278.out] at ho131 | (simp only [Int.reduceToNat] at ho131; rw [← Ny278.out] at ho131))
             have n0_ := aM (Kd.R_below (aR HO_236000) hb)
             have n1_ := aM (Kd.N_elder' (aN HO_236001) (Kd.N_base ho131) hb)
             have n2_ := aM (Kd.V_elder' (aV HO285) (Kd.N_base ho131) hb)
             have n3_ := aM (Kd.N_lower ho131 (below_size aG))
             have n4_ := aM (kB gb226 #[.slice A0_0 l0_0.length c0_0, .slice A0_1 l0_1.length c0_1] 31 hb)
             have n5_ := aM (kB gb227 #[.int .i64 a1_0, .slice A1_1 l1_1.length c1_1] 39 hb)
             have n6_ := aM (kB gb228 #[.slice none 0 0, .slice none 0 0] 31 hb)
             have n7_ := aM (kB gb235 #[.slice Ao13 t229.length co13, .slice Ao18 t232.length co18] 31 hb)
             have n8_ := aM (below_step aG hb)
             clear HO_236000
             clear HO_236001
             clear HO285
             clear BK226
             clear BK227
             clear BK228
             clear BK235
             clear HB
             clear HO277
             have HO_236000 := n0_
             have HO_236001 := n1_
             have HO285 := n2_
             have HO280 := n3_
             have BK226 := n4_
             have BK227 := n5_
             have BK228 := n6_
             have BK235 := n7_
             have HB := n8_
             clear n0_ n1_ n2_ n3_ n4_ n5_ n6_ n7_ n8_
             clear hb ho131
             refine hK.out _ _ ⟨(blk_cell BK227.out 0).trans rfl, (blk_cell BK227.out 1).trans rfl, (blk_cell BK235.out 0).trans rfl, (blk_cell BK235.out 1).trans rfl⟩ (fun hHeld => ?_)
             clear hK K
             refine nU 57 ?_
             refine oU 12 62 (fun K hK => ?_)
             refine Kd.N_append_rows_step k39 (w0 := w) w.heap.size (by rfl) (.tmp 57) (.tmp 61) 29 39 (.agg #[(.int .i64 0), (.slice none 0 0)]) 32 rfl Tryd.underlying29 info39 rfl (by decide) (by omega) v279 y278 y281 _ _ _ (fun k_ => (w.heap.size ≤ k_) ∧ some k_ ≠ (.slice Ao13 t229.length co13 : Value).ownBlock ∧ k_ ≠ gb226 ∧ k_ ≠ gb227 ∧ k_ ≠ gb228 ∧ k_ ≠ gb235) (fun k_ => ((fun k_ => (w.heap.size ≤ k_) ∧ some k_ ≠ (.slice Ao13 t229.length co13 : Value).ownBlock ∧ k_ ≠ gb226 ∧ k_ ≠ gb227 ∧ k_ ≠ gb228 ∧ k_ ≠ gb235)) k_ ∧ some k_ ≠ (v279 : Value).ownBlock) rfl rfl ?aO ?aR (fun _ hk => hk) ?aF ?aB ?aS ?aL ?_
             (case aR => exact (by skip; exact Kd.V_F (Kd.V_mono (ok' := (fun k_ => ((fun k_ => (w.heap.size ≤ k_) ∧ some k_ ≠ (.slice Ao13 t229.length co13 : Value).ownBlock ∧ k_ ≠ gb226 ∧ k_ ≠ gb227 ∧ k_ ≠ gb228 ∧ k_ ≠ gb235)) k_ ∧ some k_ ≠ (v279 : Value).ownBlock)) (HO285.out) (fun k_ hk => ⟨⟨hk.1.1.1, ⟨hk.1.1.2.1, ⟨hk.1.1.2.2.1, ⟨hk.1.1.2.2.2.1, ⟨hk.1.1.2.2.2.2.1, hk.1.1.2.2.2.2.2⟩⟩⟩⟩⟩, hk.2⟩))))
             (case aB => exact aG)
             (case aF => exact (fun k_ hk => ⟨(Nat.le_trans (below_size aG) hk), Kd.fresh' (Kd.R_lt (aR HO_236000)) k_ hk, Kd.freshB (g := gb226) (o := .cells #[.slice A0_0 l0_0.length c0_0, .slice A0_1 l0_1.length c0_1] 31 (0, 0)) aK k_ hk, Kd.freshB (g := gb227) (o := .cells #[.int .i64 a1_0, .slice A1_1 l1_1.length c1_1] 39 (0, 0)) aK k_ hk, Kd.freshB (g := gb228) (o := .cells #[.slice none 0 0, .slice none 0 0] 31 (0, 0)) aK k_ hk, Kd.freshB (g := gb235) (o := .cells #[.slice Ao13 t229.length co13, .slice Ao18 t232.length co18] 31 (0, 0)) aK k_ hk⟩))
             (case aO => exact (by (with_reducible repeat apply pN); exact Kd.N_mono HO280.out (fun _ hk => ⟨hk.1, ⟨hk.2.1, ⟨hk.2.2.2.1, ⟨hk.2.2.2.2.1, ⟨hk.2.2.2.2.2.1, hk.2.2.2.2.2.2⟩⟩⟩⟩⟩)))
             (case aS => exact (below_size aG))
             (case aL => have := LMc118.out; omega)
             intro v287 w132 ho hb hg hat
             rw [← Ny286.out] at ho
             have n0_ := aM (Kd.R_over' (aR HO_236000) (Kd.N_typed (aN HO280)) (by decide) hg)
             have n1_ := aM (Kd.N_afterv (ok := (fun k_ => (w.heap.size ≤ k_) ∧ some k_ ≠ (.slice Ao13 t229.length co13 : Value).ownBlock ∧ k_ ≠ gb226 ∧ k_ ≠ gb227 ∧ k_ ≠ gb228 ∧ k_ ≠ gb235)) (by (with_reducible repeat apply pN); exact Kd.N_mono HO_236001.out (fun _ hk => ⟨⟨hk.1.1.1, ⟨hk.1.1.2.1, ⟨hk.1.1.2.2.1, ⟨hk.1.1.2.2.2.1, ⟨hk.1.1.2.2.2.2.1, hk.1.1.2.2.2.2.2⟩⟩⟩⟩⟩, hk.2⟩)) hg hat)
             have n2_ := aM (blk_grown (g := gb226) (o := .cells #[.slice A0_0 l0_0.length c0_0, .slice A0_1 l0_1.length c0_1] 31 (0, 0)) aK hg (Kd.N_ne HO280.out BK226.out (by decide)))
             have n3_ := aM (blk_grown (g := gb227) (o := .cells #[.int .i64 a1_0, .slice A1_1 l1_1.length c1_1] 39 (0, 0)) aK hg (Kd.N_away HO280.out (fun _ hk => hk.2.2.2.2.1)))
             have n4_ := aM (blk_grown (g := gb228) (o := .cells #[.slice none 0 0, .slice none 0 0] 31 (0, 0)) aK hg (Kd.N_ne HO280.out BK228.out (by decide)))
             have n5_ := aM (blk_grown (g := gb235) (o := .cells #[.slice Ao13 t229.length co13, .slice Ao18 t232.length co18] 31 (0, 0)) aK hg (Kd.N_ne HO280.out BK235.out (by decide)))
             have n6_ := aM (Kd.V_afterv (ok := (fun k_ => (w.heap.size ≤ k_) ∧ some k_ ≠ (.slice Ao13 t229.length co13 : Value).ownBlock ∧ k_ ≠ gb226 ∧ k_ ≠ gb227 ∧ k_ ≠ gb228 ∧ k_ ≠ gb235)) (by (with_reducible repeat apply pV); exact Kd.V_mono HO285.out (fun _ hk => ⟨⟨hk.1.1.1, ⟨hk.1.1.2.1, ⟨hk.1.1.2.2.1, ⟨hk.1.1.2.2.2.1, ⟨hk.1.1.2.2.2.2.1, hk.1.1.2.2.2.2.2⟩⟩⟩⟩⟩, hk.2⟩)) hg hat)
             have n7_ := aM (hb)
             have n8_ := aM (ho)
             clear HO_236000
             clear HO_236001
             clear BK226
             clear BK227
             clear BK228
             clear BK235
             clear HO285
             clear HB
             clear HO280
             have HO_236000 := n0_
             have HO_236001 := n1_
             have BK226 := n2_
             have BK227 := n3_
             have BK228 := n4_
             have BK235 := n5_
             have HO285 := n6_
             have HB := n7_
             have HO288 := n8_
             clear n0_ n1_ n2_ n3_ n4_ n5_ n6_ n7_ n8_
             clear ho hb hg hat
             refine hK.out _ _ ⟨(blk_cell BK227.out 0).trans rfl, (blk_cell BK227.out 1).trans rfl, (blk_cell BK235.out 0).trans rfl, (blk_cell BK235.out 1).trans rfl⟩ (fun hHeld => ?_)
             clear hK K
             refine nU 62 ?_
             refine pU 13 8 ?_
             refine done_ (done_of HT_.out (by kernel_rfl)) ?_
             try go_wp2_with (first | ((with_reducible refine gate_dst (N := 63) rfl ?_); (try (refine gate_guard (by rfl) ?_; dsimp only)); refine Kd.N_lit k39 _ 39 ?hg (N' := 63) ?hd (xs := ([] : List (S39))) (inner := []) (ok := (fun k_ => (w.heap.size ≤ k_) ∧ some k_ ≠ (.slice Ao13 t229.length co13 : Value).ownBlock ∧ some k_ ≠ (.slice Ao18 t232.length co18 : Value).ownBlock ∧ some k_ ≠ (v287 : Value).ownBlock ∧ k_ ≠ gb226 ∧ k_ ≠ gb227 ∧ k_ ≠ gb228 ∧ k_ ≠ gb235)) (okp := (fun k_ => (w.heap.size ≤ k_) ∧ some k_ ≠ (.slice Ao13 t229.length co13 : Value).ownBlock ∧ some k_ ≠ (.slice Ao18 t232.length co18 : Value).ownBlock ∧ some k_ ≠ (v287 : Value).ownBlock ∧ k_ ≠ gb226 ∧ k_ ≠ gb227 ∧ k_ ≠ gb228 ∧ k_ ≠ gb235)) ?hr ?hp (fun _ hk => hk) ((show ∀ k_, w132.heap.size ≤ k_ → (fun k_ => (w.heap.size ≤ k_) ∧ some k_ ≠ (.slice Ao13 t229.length co13 : Value).ownBlock ∧ some k_ ≠ (.slice Ao18 t232.length co18 : Value).ownBlock ∧ some k_ ≠ (v287 : Value).ownBlock ∧ k_ ≠ gb226 ∧ k_ ≠ gb227 ∧ k_ ≠ gb228 ∧ k_ ≠ gb235) k_ from fun k_ hk => ⟨(Nat.le_trans (below_size aG) hk), Kd.fresh' (Kd.R_lt (aR HO_236000)) k_ hk, Kd.fresh' (Kd.N_lt (aN HO_236001)) k_ hk, Kd.fresh' (Kd.N_lt (aN HO288)) k_ hk, Kd.freshB (g := gb226) (o := .cells #[.slice A0_0 l0_0.length c0_0, .slice A0_1 l0_1.length c0_1] 31 (0, 0)) aK k_ hk, Kd.freshB (g := gb227) (o := .cells #[.int .i64 a1_0, .slice A1_1 l1_1.length c1_1] 39 (0, 0)) aK k_ hk, Kd.freshB (g := gb228) (o := .cells #[.slice none 0 0, .slice none 0 0] 31 (0, 0)) aK k_ hk, Kd.freshB (g := gb235) (o := .cells #[.slice Ao13 t229.length co13, .slice Ao18 t232.length co18] 31 (0, 0)) aK k_ hk⟩) _ (Nat.le_refl _)) (Below.refl _ _) (Nat.le_refl _) (by simp) ?_; (case hd => rfl); (case hg => rfl); (case hr => first | (go_simp; done) | (go_simp; rfl)); (case hp => exact (Reps.none _ _)); intro v290 w133 ho134 hb hg_ hnew_; clear hg_ hnew_; (first | rw [← Ny289.out] at ho134 | (simp only [Int.reduceToNat] at ho134; rw [← Ny289.out] at ho134)); have n0_ := aM (Kd.R_below (aR HO_236000) hb); have n1_ := aM (Kd.N_elder' (aN HO_236001) (Kd.N_base ho134) hb); have n2_ := aM (Kd.V_elder' (aV HO285) (Kd.N_base ho134) hb); have n3_ := aM (Kd.N_elder' (aN HO288) (Kd.N_base ho134) hb); have n4_ := aM (Kd.N_lower ho134 (below_size aG)); have n5_ := aM (kB gb226 #[.slice A0_0 l0_0.length c0_0, .slice A0_1 l0_1.length c0_1] 31 hb); have n6_ := aM (kB gb227 #[.int .i64 a1_0, .slice A1_1 l1_1.length c1_1] 39 hb); have n7_ := aM (kB gb228 #[.slice none 0 0, .slice none 0 0] 31 hb); have n8_ := aM (kB gb235 #[.slice Ao13 t229.length co13, .slice Ao18 t232.length co18] 31 hb); have n9_ := aM (below_step aG hb); clear HO_236000; clear HO_236001; clear HO285; clear HO288; clear BK226; clear BK227; clear BK228; clear BK235; clear HB; have HO_236000 := n0_; have HO_236001 := n1_; have HO285 := n2_; have HO288 := n3_; have HO291 := n4_; have BK226 := n5_; have BK227 := n6_; have BK228 := n7_; have BK235 := n8_; have HB := n9_; clear n0_ n1_ n2_ n3_ n4_ n5_ n6_ n7_ n8_ n9_; clear hb ho134; have hnb135 := NB235_226.out; have hnc135 := NB226_235.out; have hnb136 := NB235_227.out; have hnc136 := NB227_235.out; have hnb137 := NB235_228.out; have hnc137 := NB228_235.out; have hcz138_0 : w133.cell? ⟨gb235, 0, none⟩ = some (.slice Ao13 t229.length co13) := (blk_cell BK235.out 0).trans rfl; have hcz138_1 : w133.cell? ⟨gb235, 1, none⟩ = some (.slice Ao18 t232.length co18) := (blk_cell BK235.out 1).trans rfl; have hfz138_0 := blk_frozen BK235.out 0; have hfz138_1 := blk_frozen BK235.out 1; have q139 : (x7_2 : Int) ≤ ((t232.length : Int) : Int) := aD; obtain ⟨i0139, hi0139, _, hsz139, _⟩ := info_parts info39; have hroom139 : t232.length ≤ co18 := (Kd.N_reads' HO_236001.out).2.1; have hC139 : Kd.F k39 _ _ Ao18 t232.length t232 := (Kd.V_at (base := w.heap.size) (Kd.N_V HO_236001.out)).2.2; have hcut139 := cut_to (P := Tryd.prog) 29 39 .i64 Tryd.underlying29 hi0139 Ao18 t232.length co18 x7_2 (aD) q139 hroom139; have hr139 := Kd.F_take (m := (x7_2 : Int).toNat) hC139 (by omega); have hy139 : y292.length = (x7_2 : Int).toNat := (by rw [Ny292.out, List.length_take]; omega); rw [← Ny292.out] at hr139; rw [← hy139] at hcut139; have HO296 := aM (show Kd.V k39 39 _ w.heap.size _ (.slice Ao18 y292.length co18) y292 from Kd.V_mk (by omega) hr139); have HC296 := aM (show y292.length ≤ co18 from by omega); clear hr139 hC139 hroom139 hi0139 hsz139; have KY139 := aM hy139; clear hy139; replace q139 := eq_true q139) | ((with_reducible refine gate_builtin (b := .append) (xs := #[.tmp 63, .tmp 67]) rfl ?_); (try (refine gate_guard (by rfl) ?_; dsimp only)); at_builtin; refine Kd.N_append_rows k39 (w0 := w) w.heap.size rfl (.tmp 63) (.tmp 67) 29 39 (.agg #[(.int .i64 0), (.slice none 0 0)]) 32 rfl Tryd.underlying29 info39 rfl (by decide) (by omega) v290 y289 y292 _ _ _ (fun k_ => (w.heap.size ≤ k_) ∧ some k_ ≠ (.slice Ao13 t229.length co13 : Value).ownBlock ∧ some k_ ≠ (v287 : Value).ownBlock ∧ k_ ≠ gb226 ∧ k_ ≠ gb227 ∧ k_ ≠ gb228 ∧ k_ ≠ gb235) (fun k_ => ((fun k_ => (w.heap.size ≤ k_) ∧ some k_ ≠ (.slice Ao13 t229.length co13 : Value).ownBlock ∧ some k_ ≠ (v287 : Value).ownBlock ∧ k_ ≠ gb226 ∧ k_ ≠ gb227 ∧ k_ ≠ gb228 ∧ k_ ≠ gb235)) k_ ∧ some k_ ≠ (v290 : Value).ownBlock) rfl rfl ?aO ?aR (fun _ hk => hk) ?aF ?aB ?aS ?aL ?_; (case aR => exact (by skip; exact Kd.V_F (Kd.V_mono (ok' := (fun k_ => ((fun k_ => (w.heap.size ≤ k_) ∧ some k_ ≠ (.slice Ao13 t229.length co13 : Value).ownBlock ∧ some k_ ≠ (v287 : Value).ownBlock ∧ k_ ≠ gb226 ∧ k_ ≠ gb227 ∧ k_ ≠ gb228 ∧ k_ ≠ gb235)) k_ ∧ some k_ ≠ (v290 : Value).ownBlock)) (HO296.out) (fun k_ hk => ⟨⟨hk.1.1.1, ⟨hk.1.1.2.1, ⟨hk.1.2, ⟨hk.1.1.2.2.1, ⟨hk.1.1.2.2.2.1, ⟨hk.1.1.2.2.2.2.1, hk.1.1.2.2.2.2.2⟩⟩⟩⟩⟩⟩, hk.2⟩)))); (case aB => exact aG); (case aF => exact (fun k_ hk => ⟨(Nat.le_trans (below_size aG) hk), Kd.fresh' (Kd.R_lt (aR HO_236000)) k_ hk, Kd.fresh' (Kd.N_lt (aN HO288)) k_ hk, Kd.freshB (g := gb226) (o := .cells #[.slice A0_0 l0_0.length c0_0, .slice A0_1 l0_1.length c0_1] 31 (0, 0)) aK k_ hk, Kd.freshB (g := gb227) (o := .cells #[.int .i64 a1_0, .slice A1_1 l1_1.length c1_1] 39 (0, 0)) aK k_ hk, Kd.freshB (g := gb228) (o := .cells #[.slice none 0 0, .slice none 0 0] 31 (0, 0)) aK k_ hk, Kd.freshB (g := gb235) (o := .cells #[.slice Ao13 t229.length co13, .slice Ao18 t232.length co18] 31 (0, 0)) aK k_ hk⟩)); (case aO => exact (by (with_reducible repeat apply pN); exact Kd.N_mono HO291.out (fun _ hk => ⟨hk.1, ⟨hk.2.1, ⟨hk.2.2.2.1, ⟨hk.2.2.2.2.1, ⟨hk.2.2.2.2.2.1, ⟨hk.2.2.2.2.2.2.1, hk.2.2.2.2.2.2.2⟩⟩⟩⟩⟩⟩))); (case aS => exact (below_size aG)); (case aL => have := LMc121.out; omega); intro v298 w140 ho hb hg hat; rw [← Ny297.out] at ho; have n0_ := aM (Kd.R_over' (aR HO_236000) (Kd.N_typed (aN HO291)) (by decide) hg); have n1_ := aM (Kd.N_afterv (ok := (fun k_ => (w.heap.size ≤ k_) ∧ some k_ ≠ (.slice Ao13 t229.length co13 : Value).ownBlock ∧ some k_ ≠ (v287 : Value).ownBlock ∧ k_ ≠ gb226 ∧ k_ ≠ gb227 ∧ k_ ≠ gb228 ∧ k_ ≠ gb235)) (by (with_reducible repeat apply pN); exact Kd.N_mono HO_236001.out (fun _ hk => ⟨⟨hk.1.1.1, ⟨hk.1.1.2.1, ⟨hk.1.2, ⟨hk.1.1.2.2.1, ⟨hk.1.1.2.2.2.1, ⟨hk.1.1.2.2.2.2.1, hk.1.1.2.2.2.2.2⟩⟩⟩⟩⟩⟩, hk.2⟩)) hg hat); have n2_ := aM (blk_grown (g := gb226) (o := .cells #[.slice A0_0 l0_0.length c0_0, .slice A0_1 l0_1.length c0_1] 31 (0, 0)) aK hg (Kd.N_ne HO291.out BK226.out (by decide))); have n3_ := aM (blk_grown (g := gb227) (o := .cells #[.int .i64 a1_0, .slice A1_1 l1_1.length c1_1] 39 (0, 0)) aK hg (Kd.N_away HO291.out (fun _ hk => hk.2.2.2.2.2.1))); have n4_ := aM (blk_grown (g := gb228) (o := .cells #[.slice none 0 0, .slice none 0 0] 31 (0, 0)) aK hg (Kd.N_ne HO291.out BK228.out (by decide))); have n5_ := aM (blk_grown (g := gb235) (o := .cells #[.slice Ao13 t229.length co13, .slice Ao18 t232.length co18] 31 (0, 0)) aK hg (Kd.N_ne HO291.out BK235.out (by decide))); have n6_ := aM (Kd.V_afterv (ok := (fun k_ => (w.heap.size ≤ k_) ∧ some k_ ≠ (.slice Ao13 t229.length co13 : Value).ownBlock ∧ some k_ ≠ (v287 : Value).ownBlock ∧ k_ ≠ gb226 ∧ k_ ≠ gb227 ∧ k_ ≠ gb228 ∧ k_ ≠ gb235)) (by (with_reducible repeat apply pV); exact Kd.V_mono HO285.out (fun _ hk => ⟨⟨hk.1.1.1, ⟨hk.1.1.2.1, ⟨hk.1.2, ⟨hk.1.1.2.2.1, ⟨hk.1.1.2.2.2.1, ⟨hk.1.1.2.2.2.2.1, hk.1.1.2.2.2.2.2⟩⟩⟩⟩⟩⟩, hk.2⟩)) hg hat); have n7_ := aM (Kd.N_afterv (ok := (fun k_ => (w.heap.size ≤ k_) ∧ some k_ ≠ (.slice Ao13 t229.length co13 : Value).ownBlock ∧ k_ ≠ gb226 ∧ k_ ≠ gb227 ∧ k_ ≠ gb228 ∧ k_ ≠ gb235)) (aN HO288) hg hat); have n8_ := aM (Kd.V_afterv (ok := (fun k_ => (w.heap.size ≤ k_) ∧ some k_ ≠ (.slice Ao13 t229.length co13 : Value).ownBlock ∧ some k_ ≠ (v287 : Value).ownBlock ∧ k_ ≠ gb226 ∧ k_ ≠ gb227 ∧ k_ ≠ gb228 ∧ k_ ≠ gb235)) (by (with_reducible repeat apply pV); exact Kd.V_mono HO296.out (fun _ hk => ⟨⟨hk.1.1.1, ⟨hk.1.1.2.1, ⟨hk.1.2, ⟨hk.1.1.2.2.1, ⟨hk.1.1.2.2.2.1, ⟨hk.1.1.2.2.2.2.1, hk.1.1.2.2.2.2.2⟩⟩⟩⟩⟩⟩, hk.2⟩)) hg hat); have n9_ := aM (hb); have n10_ := aM (ho); clear HO_236000; clear HO_236001; clear BK226; clear BK227; clear BK228; clear BK235; clear HO285; clear HO288; clear HO296; clear HB; clear HO291; have HO_236000 := n0_; have HO_236001 := n1_; have BK226 := n2_; have BK227 := n3_; have BK228 := n4_; have BK235 := n5_; have HO285 := n6_; have HO288 := n7_; have HO296 := n8_; have HB := n9_; have HO299 := n10_; clear n0_ n1_ n2_ n3_ n4_ n5_ n6_ n7_ n8_ n9_ n10_; clear ho hb hg hat; obtain ⟨Ao142, co142, eo142⟩ := Kd.N_slice HO288.out; subst eo142) | ((with_reducible refine gate_builtin (b := .append) (xs := #[.tmp 68, .tmp 69]) rfl ?_); (try (refine gate_guard (by rfl) ?_; dsimp only)); at_builtin; refine Kd.N_append_rows k39 (w0 := w) w.heap.size rfl (.tmp 68) (.tmp 69) 29 39 (.agg #[(.int .i64 0), (.slice none 0 0)]) 32 rfl Tryd.underlying29 info39 rfl (by decide) (by omega) v298 y297 y286 _ _ _ (fun k_ => (w.heap.size ≤ k_) ∧ some k_ ≠ (.slice Ao13 t229.length co13 : Value).ownBlock ∧ k_ ≠ gb226 ∧ k_ ≠ gb227 ∧ k_ ≠ gb228 ∧ k_ ≠ gb235) (fun k_ => ((fun k_ => (w.heap.size ≤ k_) ∧ some k_ ≠ (.slice Ao13 t229.length co13 : Value).ownBlock ∧ k_ ≠ gb226 ∧ k_ ≠ gb227 ∧ k_ ≠ gb228 ∧ k_ ≠ gb235)) k_ ∧ some k_ ≠ (v298 : Value).ownBlock) rfl rfl ?aO ?aR (fun _ hk => hk) ?aF ?aB ?aS ?aL ?_; (case aR => exact (by skip; exact Kd.N_F (Kd.N_mono (ok' := (fun k_ => ((fun k_ => (w.heap.size ≤ k_) ∧ some k_ ≠ (.slice Ao13 t229.length co13 : Value).ownBlock ∧ k_ ≠ gb226 ∧ k_ ≠ gb227 ∧ k_ ≠ gb228 ∧ k_ ≠ gb235)) k_ ∧ some k_ ≠ (v298 : Value).ownBlock)) (HO288.out) (fun k_ hk => ⟨⟨hk.1.1, ⟨hk.1.2.1, ⟨hk.1.2.2.1, ⟨hk.1.2.2.2.1, ⟨hk.1.2.2.2.2.1, hk.1.2.2.2.2.2⟩⟩⟩⟩⟩, hk.2⟩)))); (case aB => exact aG); (case aF => exact (fun k_ hk => ⟨(Nat.le_trans (below_size aG) hk), Kd.fresh' (Kd.R_lt (aR HO_236000)) k_ hk, Kd.freshB (g := gb226) (o := .cells #[.slice A0_0 l0_0.length c0_0, .slice A0_1 l0_1.length c0_1] 31 (0, 0)) aK k_ hk, Kd.freshB (g := gb227) (o := .cells #[.int .i64 a1_0, .slice A1_1 l1_1.length c1_1] 39 (0, 0)) aK k_ hk, Kd.freshB (g := gb228) (o := .cells #[.slice none 0 0, .slice none 0 0] 31 (0, 0)) aK k_ hk, Kd.freshB (g := gb235) (o := .cells #[.slice Ao13 t229.length co13, .slice Ao18 t232.length co18] 31 (0, 0)) aK k_ hk⟩)); (case aO => exact (by (with_reducible repeat apply pN); exact Kd.N_mono HO299.out (fun _ hk => ⟨hk.1, ⟨hk.2.1, ⟨hk.2.2.2.1, ⟨hk.2.2.2.2.1, ⟨hk.2.2.2.2.2.1, hk.2.2.2.2.2.2⟩⟩⟩⟩⟩))); (case aS => exact (below_size aG)); (case aL => have := LMc122.out; omega); intro v301 w141 ho hb hg hat; rw [← Ny300.out] at ho; have n0_ := aM (Kd.R_over' (aR HO_236000) (Kd.N_typed (aN HO299)) (by decide) hg); have n1_ := aM (Kd.N_afterv (ok := (fun k_ => (w.heap.size ≤ k_) ∧ some k_ ≠ (.slice Ao13 t229.length co13 : Value).ownBlock ∧ some k_ ≠ (.slice Ao142 y286.length co142 : Value).ownBlock ∧ k_ ≠ gb226 ∧ k_ ≠ gb227 ∧ k_ ≠ gb228 ∧ k_ ≠ gb235)) (aN HO_236001) hg hat); have n2_ := aM (blk_grown (g := gb226) (o := .cells #[.slice A0_0 l0_0.length c0_0, .slice A0_1 l0_1.length c0_1] 31 (0, 0)) aK hg (Kd.N_ne HO299.out BK226.out (by decide))); have n3_ := aM (blk_grown (g := gb227) (o := .cells #[.int .i64 a1_0, .slice A1_1 l1_1.length c1_1] 39 (0, 0)) aK hg (Kd.N_away HO299.out (fun _ hk => hk.2.2.2.2.1))); have n4_ := aM (blk_grown (g := gb228) (o := .cells #[.slice none 0 0, .slice none 0 0] 31 (0, 0)) aK hg (Kd.N_ne HO299.out BK228.out (by decide))); have n5_ := aM (blk_grown (g := gb235) (o := .cells #[.slice Ao13 t229.length co13, .slice Ao18 t232.length co18] 31 (0, 0)) aK hg (Kd.N_ne HO299.out BK235.out (by decide))); have n6_ := aM (Kd.V_afterv (ok := (fun k_ => (w.heap.size ≤ k_) ∧ some k_ ≠ (.slice Ao13 t229.length co13 : Value).ownBlock ∧ some k_ ≠ (.slice Ao142 y286.length co142 : Value).ownBlock ∧ k_ ≠ gb226 ∧ k_ ≠ gb227 ∧ k_ ≠ gb228 ∧ k_ ≠ gb235)) (aV HO285) hg hat); have n7_ := aM (Kd.N_afterv (ok := (fun k_ => (w.heap.size ≤ k_) ∧ some k_ ≠ (.slice Ao13 t229.length co13 : Value).ownBlock ∧ k_ ≠ gb226 ∧ k_ ≠ gb227 ∧ k_ ≠ gb228 ∧ k_ ≠ gb235)) (aN HO288) hg hat); have n8_ := aM (Kd.V_afterv (ok := (fun k_ => (w.heap.size ≤ k_) ∧ some k_ ≠ (.slice Ao13 t229.length co13 : Value).ownBlock ∧ some k_ ≠ (.slice Ao142 y286.length co142 : Value).ownBlock ∧ k_ ≠ gb226 ∧ k_ ≠ gb227 ∧ k_ ≠ gb228 ∧ k_ ≠ gb235)) (aV HO296) hg hat); have n9_ := aM (hb); have n10_ := aM (ho); clear HO_236000; clear HO_236001; clear BK226; clear BK227; clear BK228; clear BK235; clear HO285; clear HO288; clear HO296; clear HB; clear HO299; have HO_236000 := n0_; have HO_236001 := n1_; have BK226 := n2_; have BK227 := n3_; have BK228 := n4_; have BK235 := n5_; have HO285 := n6_; have HO288 := n7_; have HO296 := n8_; have HB := n9_; have HO302 := n10_; clear n0_ n1_ n2_ n3_ n4_ n5_ n6_ n7_ n8_ n9_ n10_; clear ho hb hg hat; obtain ⟨Ao143, co143, eo143⟩ := Kd.N_slice HO302.out; subst eo143; have hcz144_0 : w141.cell? ⟨gb235, 0, none⟩ = some (.slice Ao13 t229.length co13) := (blk_cell BK235.out 0).trans rfl; have hcz144_1 : w141.cell? ⟨gb235, 1, none⟩ = some (.slice Ao18 t232.length co18) := (blk_cell BK235.out 1).trans rfl; have hfz144_0 := blk_frozen BK235.out 0; have hfz144_1 := blk_frozen BK235.out 1; have hnb145 := NB228_226.out; have hnc145 := NB226_228.out; have hnb146 := NB228_227.out; have hnc146 := NB227_228.out; have hcz147_0 : w141.cell? ⟨gb228, 0, none⟩ = some (.slice none 0 0) := (blk_cell BK228.out 0).trans rfl; have hcz147_1 : w141.cell? ⟨gb228, 1, none⟩ = some (.slice none 0 0) := (blk_cell BK228.out 1).trans rfl; have hfz147_0 := blk_frozen BK228.out 0; have hfz147_1 := blk_frozen BK228.out 1))
             refine bodyPost_ret (results_ct rfl _ _ gb228 31 #[.slice Ao13 t229.length co13, .slice Ao143 y300.length co143] (0, 0) _ rfl (by (with_reducible repeat refine pB ?_); refine blk_put (cs := #[.slice Ao13 t229.length co13, .slice none 0 0]) ?_ 1 _ rfl; (with_reducible repeat refine pB ?_); refine blk_put (cs := #[.slice none 0 0, .slice none 0 0]) ?_ 0 _ rfl; (with_reducible repeat refine pB ?_); refine blk_far ?_ NB228_235.out _; (with_reducible repeat refine pB ?_); exact BK228.out) Tryd.underlying31 rfl (by kernel_rfl)) rfl ?_
             exact ⟨_, _, aE, by (with_reducible repeat apply pR); exact Kd.R_mono (Kd.R_far (p := ⟨gb228, 1, none⟩) (Kd.R_far (p := ⟨gb228, 0, none⟩) (Kd.R_far (p := ⟨gb235, 1, none⟩) (Kd.R_types (Kd.R_types HO_236000.out BK235.out (by decide)) BK228.out (by decide)) (fun _ hk => hk.1.2) (.slice Ao143 y300.length co143)) (fun _ hk => hk.2) (.slice Ao13 t229.length co13)) (fun _ hk => hk.2) (.slice Ao143 y300.length co143)) (fun _ hk => hk.1.1), by (with_reducible repeat apply pN); exact Kd.N_mono (Kd.N_far (p := ⟨gb228, 1, none⟩) (Kd.N_far (p := ⟨gb228, 0, none⟩) (Kd.N_far (p := ⟨gb235, 1, none⟩) (Kd.N_mono (Kd.N_mono HO302.out (fun k_ hk => (⟨hk, hk.2.2.2.2.2⟩ : _ ∧ k_ ≠ gb235))) (fun k_ hk => (⟨hk, hk.1.2.2.2.2.1⟩ : _ ∧ k_ ≠ gb228))) (fun _ hk => hk.1.2) (.slice Ao143 y300.length co143)) (fun _ hk => hk.2) (.slice Ao13 t229.length co13)) (fun _ hk => hk.2) (.slice Ao143 y300.length co143)) (fun _ hk => ⟨hk.1.1.1, hk.1.1.2.1⟩), aG⟩
            ·rw [if_neg c122] at H
             exact absurd H (by simp)
           ·rw [if_neg c121] at H
            exact absurd H (by simp)
          ·rw [if_neg c118] at H
           exact absurd H (by simp)
         ·rw [if_neg c117] at H
          exact absurd H (by simp)
        ·rw [if_neg c116] at H
         exact absurd H (by simp)
       ·rw [if_neg c115] at H
        exact absurd H (by simp)

end Go.Proofs.YtckpikfbhlhhjaaDoor.PFnSelectFacts
