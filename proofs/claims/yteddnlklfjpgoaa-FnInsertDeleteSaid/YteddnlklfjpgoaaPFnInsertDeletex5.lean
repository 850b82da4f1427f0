import Derived.Test.YteddnlklfjpgoaaPFnInsertDeletex0
import Derived.Test.YteddnlklfjpgoaaPFnInsertDeletex2
import Derived.Test.YteddnlklfjpgoaaPFnInsertDeletex3
import Derived.Test.YteddnlklfjpgoaaPFnInsertDeletex4
namespace Go.Proofs.Yteddnlklfjpgoaa.PFnInsertDelete
open Go.RowKit Go.Proofs.YteddnlklfjpgoaaW.PrintWords Go.Proofs.YteddnlklfjpgoaaW.PrintLast Go.Proofs.YteddnlklfjpgoaaW.PrintMore
attribute [local go_sem] max2_int min2_int max_two min_two max_three min_three max_four min_four
set_option linter.unusedVariables false
set_option linter.unusedSimpArgs false

/-! ### spec_InsertFact: function 18 -/
mutual
def spec_InsertFact.j0 : Nat → Bool → Int → List Int → List (S74) → List (S45) → Option ((List (S74)) × (List (S45)) × Bool)
 | 0, _, _, _, _, _ => none
 | k + 1, x31, x157000, x157001, x165000, x165001 => if x31 = true then (some (x165000, x165001, false)) else (spec_InsertFact.l0 k 0 x157000 x157001 x165000 x165001)
def spec_InsertFact.l0 : Nat → Int → Int → List Int → List (S74) → List (S45) → Option ((List (S74)) × (List (S45)) × Bool)
 | 0, _, _, _, _, _ => none
 | k + 1, x7, x157000, x157001, x165000, x165001 => if x7 < (x165001.length : Int) then (if 0 ≤ x7 then ((spec_CompareFacts.f k ((rd_T45 x165001 x7).f0) ((rd_T45 x165001 x7).f1) x157000 x157001).bind fun t169 => (if t169 < 0 then (spec_InsertFact.l0 k (wrap64 (x7 + 1)) x157000 x157001 x165000 x165001) else ((some (([] : List Int) : List Int)).bind fun y170 => (if y170.length + x157001.length < 17592186044416 then ((some (([(⟨x157000, (y170 ++ x157001)⟩ : S45)] : List (S45)) : List (S45))).bind fun y176 => (if x7 ≤ (x165001.length : Int) then ((some (x165001.drop (x7 : Int).toNat : List (S45))).bind fun y179 => (if y176.length + y179.length < 4398046511104 then ((some (y176 ++ y179 : List (S45))).bind fun y184 => ((some (([] : List (S45)) : List (S45))).bind fun y187 => ((some (x165001.take (x7 : Int).toNat : List (S45))).bind fun y190 => (if y187.length + y190.length < 4398046511104 then ((some (y187 ++ y190 : List (S45))).bind fun y195 => (if y195.length + y184.length < 4398046511104 then (some (x165000, (y195 ++ y184), true)) else (none))) else (none))))) else (none))) else (none))) else (none))))) else (none)) else ((some (([] : List Int) : List Int)).bind fun y201 => (if y201.length + x157001.length < 17592186044416 then ((some (([(⟨x157000, (y201 ++ x157001)⟩ : S45)] : List (S45)) : List (S45))).bind fun y207 => (if 0 ≤ x7 then (if x7 ≤ (x165001.length : Int) then ((some (x165001.drop (x7 : Int).toNat : List (S45))).bind fun y210 => (if y207.length + y210.length < 4398046511104 then ((some (y207 ++ y210 : List (S45))).bind fun y215 => ((some (([] : List (S45)) : List (S45))).bind fun y218 => ((some (x165001.take (x7 : Int).toNat : List (S45))).bind fun y221 => (if y218.length + y221.length < 4398046511104 then ((some (y218 ++ y221 : List (S45))).bind fun y226 => (if y226.length + y215.length < 4398046511104 then (some (x165000, (y226 ++ y215), true)) else (none))) else (none))))) else (none))) else (none)) else (none))) else (none)))
end
def spec_InsertFact.f (k : Nat) (l0_0 : List (S74)) (l0_1 : List (S45)) (a1_0 : Int) (l1_1 : List Int) : Option ((List (S74)) × (List (S45)) × Bool) := (spec_l4Copy.f k l0_0 l0_1).bind fun bt158 => ((spec_IsValidDatabase.f k l0_0 l0_1).bind fun t165 => (if t165 = true then ((spec_IsValidFact.f k l0_0 a1_0 l1_1).bind fun t166 => (if t166 = true then ((spec_ContainsFact.f k l0_0 l0_1 a1_0 l1_1).bind fun t167 => (if t167 = true then (spec_InsertFact.j0 k true a1_0 l1_1 bt158.1 bt158.2) else (spec_InsertFact.j0 k ((l0_1.length : Int) == 14) a1_0 l1_1 bt158.1 bt158.2))) else (spec_InsertFact.j0 k true a1_0 l1_1 bt158.1 bt158.2))) else (spec_InsertFact.j0 k true a1_0 l1_1 bt158.1 bt158.2)))
def spec_InsertFact.T5 : Bool × List (List Nat × List Nat) := (true, [([], []), ([], []), ([1], [1]), ([2], [2]), ([0, 3], [0, 3]), ([4], [4]), ([5], [5]), ([6, 5], [5, 6]), ([5], [5]), ([7, 8, 5], [5, 7, 8]), ([9, 5], [5, 9]), ([5], [5]), ([10, 11, 5, 5], [5, 10, 11]), ([12, 5], [5, 12]), ([5, 13], [5, 13])])
def spec_InsertFact.B5 : List Nat := [0, 0, 2, 6, 15, 31, 63, 127, 63, 511, 1023, 63, 4095, 8191, 16383]
theorem spec_InsertFact.tab5 : rtab .any (opsOf Try.f18 5) = spec_InsertFact.T5 := by kernel_rfl
theorem spec_InsertFact.bits5 : waitsOk spec_InsertFact.T5.2 spec_InsertFact.B5 = true := by kernel_rfl
def spec_InsertFact.T7 : Bool × List (List Nat × List Nat) := (true, [([], []), ([0], [0]), ([], []), ([], []), ([3], [3]), ([2, 4], [2, 4]), ([1, 5], [1, 5]), ([6], [6]), ([], []), ([8], [8]), ([], []), ([9, 10], [9, 10]), ([7, 11, 5], [7, 11]), ([12, 12, 0, 1, 2, 3, 4, 5, 6, 7, 8, 9, 10, 11, 12], [12])])
def spec_InsertFact.B7 : List Nat := [0, 1, 0, 0, 8, 28, 63, 127, 0, 256, 0, 1792, 4095, 8191]
theorem spec_InsertFact.tab7 : rtab .any (opsOf Try.f18 7) = spec_InsertFact.T7 := by kernel_rfl
theorem spec_InsertFact.bits7 : waitsOk spec_InsertFact.T7.2 spec_InsertFact.B7 = true := by kernel_rfl
set_option maxHeartbeats 8000000 in
set_option maxRecDepth 100000 in
theorem spec_InsertFact.calls (k : Nat) (A0_0 : Option Addr) (c0_0 : Nat) (l0_0 : List (S74)) (A0_1 : Option Addr) (c0_1 : Nat) (l0_1 : List (S45)) (a1_0 : Int) (A1_1 : Option Addr) (c1_1 : Nat) (l1_1 : List Int) (r1 : List (S74)) (r2 : List (S45)) (r3 : Bool) (w : World) (hr0_0 : Kd.C k74 w A0_0 l0_0.length l0_0) (hc0_0 : l0_0.length ≤ c0_0) (hr0_1 : Kd.C k45 w A0_1 l0_1.length l0_1) (hc0_1 : l0_1.length ≤ c0_1) (hr1_1 : Kd.C (Kd.int .i64) w A1_1 l1_1.length l1_1) (hc1_1 : l1_1.length ≤ c1_1) (h : spec_InsertFact.f k l0_0 l0_1 a1_0 l1_1 = some (r1, r2, r3)) :
  Calls Try.prog 18 #[.agg #[.slice A0_0 l0_0.length c0_0, .slice A0_1 l0_1.length c0_1], .agg #[.int .i64 a1_0, .slice A1_1 l1_1.length c1_1]] w fun e w' => ∃ v0_ v1_ : Value, e = .returned (.tuple #[.agg #[v0_, v1_], .bool r3]) ∧ Kd.R k74 74 w' w.heap.size (fun k_ => (w.heap.size ≤ k_)) v0_ r1 ∧ Kd.N k45 45 w' w.heap.size (fun k_ => (w.heap.size ≤ k_) ∧ some k_ ≠ (v0_ : Value).ownBlock) v1_ r2 ∧ Below w.heap.size w w' := by
 have hu31 := Try.underlying31
 have hu45 := Try.underlying45
 have HR0_0 := aM hr0_0
 have HC0_0 := aM hc0_0
 clear hr0_0 hc0_0
 have HR0_1 := aM hr0_1
 have HC0_1 := aM hc0_1
 clear hr0_1 hc0_1
 have HR1_1 := aM hr1_1
 have HC1_1 := aM hc1_1
 clear hr1_1 hc1_1
 have HB := aM (Below.refl w.heap.size w)
 have H : ((spec_l4Copy.f k l0_0 l0_1).bind fun bt158 => ((spec_IsValidDatabase.f k l0_0 l0_1).bind fun t165 => (if t165 = true then ((spec_IsValidFact.f k l0_0 a1_0 l1_1).bind fun t166 => (if t166 = true then ((spec_ContainsFact.f k l0_0 l0_1 a1_0 l1_1).bind fun t167 => (if t167 = true then (spec_InsertFact.j0 k true a1_0 l1_1 bt158.1 bt158.2) else (spec_InsertFact.j0 k ((l0_1.length : Int) == 14) a1_0 l1_1 bt158.1 bt158.2))) else (spec_InsertFact.j0 k true a1_0 l1_1 bt158.1 bt158.2))) else (spec_InsertFact.j0 k true a1_0 l1_1 bt158.1 bt158.2)))) = some (r1, r2, r3) := h
 clear h
 replace H := bM H
 obtain ⟨⟨t158, t161⟩, A30, H⟩ := H
 dsimp only at H
 have A3 := aM A30
 clear A30
 have HC4 := aM H
 clear H
 go_enter Try.func18, Try.ntmps18
 go_upto_region 2 with (first | ((with_reducible refine gate_dst (N := 2) rfl ?_); (try (refine gate_guard (by rfl) ?_; dsimp only)); refine bE 2 (cs := #[.slice A0_0 l0_0.length c0_0, .slice A0_1 l0_1.length c0_1]) (t := 31) ?_; intro gb155 hg w5 hbox hb; have BK155 := aM (hbox); have GW155 := aM ((by rw [hg]; exact (below_size aB) : w.heap.size ≤ gb155)); have GE155 := aM ((by rw [hg]; exact (below_size aB) : w.heap.size ≤ gb155)); replace HB := aM (below_step aB hb); clear hb hbox hg) | ((with_reducible refine gate_dst (N := 3) rfl ?_); (try (refine gate_guard (by rfl) ?_; dsimp only)); refine bE 3 (cs := #[.int .i64 a1_0, .slice A1_1 l1_1.length c1_1]) (t := 45) ?_; intro gb156 hg w6 hbox hb; have BK156 := aM (hbox); have GW156 := aM ((by rw [hg]; exact (below_size aG) : w.heap.size ≤ gb156)); have GE156 := aM ((by rw [hg]; exact (below_size aG) : w.heap.size ≤ gb156)); have NB155_156 := aM ((by rw [hg]; exact Nat.ne_of_lt (blk_lt (g := gb155) aK) : gb155 ≠ gb156)); have NB156_155 := aM ((by rw [hg]; exact Nat.ne_of_gt (blk_lt (g := gb155) aK) : gb156 ≠ gb155)); replace BK155 := aM (kB gb155 #[.slice A0_0 l0_0.length c0_0, .slice A0_1 l0_1.length c0_1] 31 hb); replace HB := aM (below_step aG hb); clear hb hbox hg) | ((with_reducible refine gate_dst (N := 4) rfl ?_); (try (refine gate_guard (by rfl) ?_; dsimp only)); refine bE 4 (cs := #[.slice none 0 0, .slice none 0 0]) (t := 31) ?_; intro gb157 hg w7 hbox hb; have n0_ := aM (kB gb155 #[.slice A0_0 l0_0.length c0_0, .slice A0_1 l0_1.length c0_1] 31 hb); have n1_ := aM (kB gb156 #[.int .i64 a1_0, .slice A1_1 l1_1.length c1_1] 45 hb); have n2_ := aM (below_step aG hb); have n3_ := aM (hbox); have n4_ := aM ((by rw [hg]; exact (below_size aG) : w.heap.size ≤ gb157)); have n5_ := aM ((by rw [hg]; exact (below_size aG) : w.heap.size ≤ gb157)); have n6_ := aM ((by rw [hg]; exact Nat.ne_of_lt (blk_lt (g := gb155) aK) : gb155 ≠ gb157)); have n7_ := aM ((by rw [hg]; exact Nat.ne_of_gt (blk_lt (g := gb155) aK) : gb157 ≠ gb155)); have n8_ := aM ((by rw [hg]; exact Nat.ne_of_lt (blk_lt (g := gb156) aK) : gb156 ≠ gb157)); have n9_ := aM ((by rw [hg]; exact Nat.ne_of_gt (blk_lt (g := gb156) aK) : gb157 ≠ gb156)); clear BK155; clear BK156; clear HB; have BK155 := n0_; have BK156 := n1_; have HB := n2_; have BK157 := n3_; have GW157 := n4_; have GE157 := n5_; have NB155_157 := n6_; have NB157_155 := n7_; have NB156_157 := n8_; have NB157_156 := n9_; clear n0_ n1_ n2_ n3_ n4_ n5_ n6_ n7_ n8_ n9_; clear hb hbox hg; have hnb8 := NB155_156.out; have hnc8 := NB156_155.out; have hnb9 := NB155_157.out; have hnc9 := NB157_155.out; have hcz10_0 : w7.cell? ⟨gb155, 0, none⟩ = some (.slice A0_0 l0_0.length c0_0) := (blk_cell BK155.out 0).trans rfl; have hcz10_1 : w7.cell? ⟨gb155, 1, none⟩ = some (.slice A0_1 l0_1.length c0_1) := (blk_cell BK155.out 1).trans rfl; have hfz10_0 := blk_frozen BK155.out 0; have hfz10_1 := blk_frozen BK155.out 1) | ((with_reducible refine gate_callee (f := 46) rfl ?_); refine goesL_ (some 10) rfl rfl Try.func46 (by kernel_rfl) rfl #[.agg #[.slice A0_0 l0_0.length c0_0, .slice A0_1 l0_1.length c0_1]] rfl aA ?_; (with_reducible refine (spec_l4Copy.calls k _ _ l0_0 _ _ l0_1 t158 t161 _ ?side1 ?side2 ?side3 ?side4 A3.out).mono ?_); (case side1 => exact aC); (case side2 => exact HC0_0.out); (case side3 => exact aC); (case side4 => exact HC0_1.out); rintro e w11 ⟨v159, v162, rfl, ho0, ho1, hb⟩; refine ⟨_, rfl, ?_⟩; have n0_ := aM (Kd.R_lower (Kd.R_newM (M := fun k_ => (w.heap.size ≤ k_)) ho0 (below_size aG) (fun k_ h_ => h_)) (below_size aG)); have n1_ := aM (Kd.N_lower (Kd.N_mono (ok' := fun k_ => (w.heap.size ≤ k_) ∧ some k_ ≠ (v159 : Value).ownBlock ∧ k_ ≠ gb155 ∧ k_ ≠ gb156 ∧ k_ ≠ gb157) (Kd.S_N (Kd.S_bound (Kd.S_apart' ho1 (Kd.R_typed ho0) (by decide)))) (fun k_ hk_ => ⟨(Nat.le_trans (below_size aG) hk_.2.1), hk_.1.2, (Kd.freshB (g := gb155) aK k_ hk_.2.1), (Kd.freshB (g := gb156) aK k_ hk_.2.1), (Kd.freshB (g := gb157) aK k_ hk_.2.1)⟩)) (below_size aG)); have n2_ := aM (kB gb155 #[.slice A0_0 l0_0.length c0_0, .slice A0_1 l0_1.length c0_1] 31 hb); have n3_ := aM (kB gb156 #[.int .i64 a1_0, .slice A1_1 l1_1.length c1_1] 45 hb); have n4_ := aM (kB gb157 #[.slice none 0 0, .slice none 0 0] 31 hb); have n5_ := aM (below_step aG hb); clear BK155; clear BK156; clear BK157; clear HB; have HO160 := n0_; have HO163 := n1_; have BK155 := n2_; have BK156 := n3_; have BK157 := n4_; have HB := n5_; clear n0_ n1_ n2_ n3_ n4_ n5_; (try clear hb); (try clear hb2); (try clear hk); (try clear hi); (try clear ho0); (try clear ho1)) | ((with_reducible refine gate_dst (N := 6) rfl ?_); (try (refine gate_guard (by rfl) ?_; dsimp only)); refine bE 6 (cs := #[.slice none 0 0, .slice none 0 0]) (t := 31) ?_; intro gb164 hg w12 hbox hb; have n0_ := aM (Kd.R_below (aR HO160) hb); have n1_ := aM (Kd.N_below (Kd.N_elderB (aN HO163) gb164 (Nat.le_of_eq hg.symm)) hb); have n2_ := aM (kB gb155 #[.slice A0_0 l0_0.length c0_0, .slice A0_1 l0_1.length c0_1] 31 hb); have n3_ := aM (kB gb156 #[.int .i64 a1_0, .slice A1_1 l1_1.length c1_1] 45 hb); have n4_ := aM (kB gb157 #[.slice none 0 0, .slice none 0 0] 31 hb); have n5_ := aM (below_step aG hb); have n6_ := aM (hbox); have n7_ := aM ((by rw [hg]; exact (below_size aG) : w.heap.size ≤ gb164)); have n8_ := aM ((by rw [hg]; exact (below_size aG) : w.heap.size ≤ gb164)); have n9_ := aM ((by rw [hg]; exact Nat.ne_of_lt (blk_lt (g := gb155) aK) : gb155 ≠ gb164)); have n10_ := aM ((by rw [hg]; exact Nat.ne_of_gt (blk_lt (g := gb155) aK) : gb164 ≠ gb155)); have n11_ := aM ((by rw [hg]; exact Nat.ne_of_lt (blk_lt (g := gb156) aK) : gb156 ≠ gb164)); have n12_ := aM ((by rw [hg]; exact Nat.ne_of_gt (blk_lt (g := gb156) aK) : gb164 ≠ gb156)); have n13_ := aM ((by rw [hg]; exact Nat.ne_of_lt (blk_lt (g := gb157) aK) : gb157 ≠ gb164)); have n14_ := aM ((by rw [hg]; exact Nat.ne_of_gt (blk_lt (g := gb157) aK) : gb164 ≠ gb157)); clear HO160; clear HO163; clear BK155; clear BK156; clear BK157; clear HB; have HO160 := n0_; have HO163 := n1_; have BK155 := n2_; have BK156 := n3_; have BK157 := n4_; have HB := n5_; have BK164 := n6_; have GW164 := n7_; have GE164 := n8_; have NB155_164 := n9_; have NB164_155 := n10_; have NB156_164 := n11_; have NB164_156 := n12_; have NB157_164 := n13_; have NB164_157 := n14_; clear n0_ n1_ n2_ n3_ n4_ n5_ n6_ n7_ n8_ n9_ n10_ n11_ n12_ n13_ n14_; clear hb hbox hg; obtain ⟨Ao13, co13, eo13⟩ := Kd.R_slice HO160.out; subst eo13; have hnb14 := NB164_155.out; have hnc14 := NB155_164.out; have hnb15 := NB164_156.out; have hnc15 := NB156_164.out; have hnb16 := NB164_157.out; have hnc16 := NB157_164.out; have hcz17_0 : w12.cell? ⟨gb164, 0, none⟩ = some (.slice none 0 0) := (blk_cell BK164.out 0).trans rfl; have hcz17_1 : w12.cell? ⟨gb164, 1, none⟩ = some (.slice none 0 0) := (blk_cell BK164.out 1).trans rfl; have hfz17_0 := blk_frozen BK164.out 0; have hfz17_1 := blk_frozen BK164.out 1; obtain ⟨Ao18, co18, eo18⟩ := Kd.N_slice HO163.out; subst eo18))
 (try simp only [Act.put, List.setIfInBounds_toArray, List.set_cons_zero, List.set_cons_succ])
 go_cut [31] (fun v31 wc => ∃ (kq : Nat) (x31_3 : Bool), v31 = .bool x31_3 ∧ Aside0 (spec_InsertFact.j0 kq x31_3 a1_0 l1_1 t158 t161 = some (r1, r2, r3)) ∧ Aside0 (kq ≤ k) ∧ Aside0 (Kd.R k74 74 wc w.heap.size (fun k_ => (w.heap.size ≤ k_)) (.slice Ao13 t158.length co13) t158) ∧ Aside0 (Kd.N k45 45 wc w.heap.size (fun k_ => (w.heap.size ≤ k_) ∧ some k_ ≠ ((.slice Ao13 t158.length co13) : Value).ownBlock ∧ k_ ≠ gb155 ∧ k_ ≠ gb156 ∧ k_ ≠ gb157 ∧ k_ ≠ gb164) (.slice Ao18 t161.length co18) t161) ∧ Aside0 (wc.heap[gb155]? = some (.cells #[(.slice A0_0 l0_0.length c0_0), (.slice A0_1 l0_1.length c0_1)] 31 (0, 0))) ∧ Aside0 (wc.heap[gb156]? = some (.cells #[.int .i64 a1_0, (.slice A1_1 l1_1.length c1_1)] 45 (0, 0))) ∧ Aside0 (wc.heap[gb157]? = some (.cells #[(.slice none 0 0), (.slice none 0 0)] 31 (0, 0))) ∧ Aside0 (wc.heap[gb164]? = some (.cells #[(.slice Ao13 t158.length co13), (.slice Ao18 t161.length co18)] 31 (0, 0))) ∧ Aside0 (Below w.heap.size w wc))
 case first =>
  have H := HC4.out
  clear HC4
  replace H := bM H
  obtain ⟨t165, A190, H⟩ := H
  have A19 := aM A190
  clear A190
  by_cases c20 : t165 = true
  ·subst c20
   replace H := iT H
   replace H := bM H
   obtain ⟨t166, A210, H⟩ := H
   have A21 := aM A210
   clear A210
   by_cases c22 : t166 = true
   ·subst c22
    replace H := iT H
    replace H := bM H
    obtain ⟨t167, A230, H⟩ := H
    have A23 := aM A230
    clear A230
    by_cases c24 : t167 = true
    ·subst c24
     replace H := iT H
     have H' := aM H
     clear H
     have hnb25 := NB155_156.out
     have hnc25 := NB156_155.out
     have hnb26 := NB155_157.out
     have hnc26 := NB157_155.out
     have hnb27 := NB155_164.out
     have hnc27 := NB164_155.out
     have hcz28_0 : w12.cell? ⟨gb155, 0, none⟩ = some (.slice A0_0 l0_0.length c0_0) := (blk_cell BK155.out 0).trans rfl
     have hcz28_1 : w12.cell? ⟨gb155, 1, none⟩ = some (.slice A0_1 l0_1.length c0_1) := (blk_cell BK155.out 1).trans rfl
     have hfz28_0 := blk_frozen BK155.out 0
     have hfz28_1 := blk_frozen BK155.out 1
     go_wp2_with (first | ((with_reducible refine gate_callee (f := 28) rfl ?_); refine goesL_ (some 12) rfl rfl Try.func28 (by kernel_rfl) rfl #[.agg #[.slice A0_0 l0_0.length c0_0, .slice A0_1 l0_1.length c0_1]] rfl aA ?_; (with_reducible refine (spec_IsValidDatabase.calls k _ _ l0_0 _ _ l0_1 true _ ?side1 ?side2 ?side3 ?side4 A19.out).mono ?_); (case side1 => exact Kd.C_below HR0_0.out aG); (case side2 => exact HC0_0.out); (case side3 => exact Kd.C_below HR0_1.out aG); (case side4 => exact HC0_1.out); rintro e w29 ⟨rfl, hb⟩; refine ⟨_, rfl, ?_⟩; replace HO160 := aM (Kd.R_below (by (with_reducible repeat apply pR); exact (rF1 HO160.out BK164.out (.slice Ao13 t158.length co13) (.slice Ao18 t161.length co18))) hb); replace HO163 := aM (Kd.N_below (by (with_reducible repeat apply pN); exact (nF1 gb164 HO163.out (fun _ hk => hk.2) (.slice Ao13 t158.length co13) (.slice Ao18 t161.length co18))) hb); replace BK155 := aM (blk_below (g := gb155) (bF2 NB155_164.out BK155.out) hb); replace BK156 := aM (blk_below (g := gb156) (bF2 NB156_164.out BK156.out) hb); replace BK157 := aM (blk_below (g := gb157) (bF2 NB157_164.out BK157.out) hb); replace BK164 := aM (blk_below (g := gb164) (bP2 BK164.out) hb); replace HB := aM (below_step aG hb); (try clear hb); (try clear hb2); (try clear hk); (try clear hi); have hcz30_0 : w29.cell? ⟨gb155, 0, none⟩ = some (.slice A0_0 l0_0.length c0_0) := (blk_cell BK155.out 0).trans rfl; have hcz30_1 : w29.cell? ⟨gb155, 1, none⟩ = some (.slice A0_1 l0_1.length c0_1) := (blk_cell BK155.out 1).trans rfl; have hfz30_0 := blk_frozen BK155.out 0; have hfz30_1 := blk_frozen BK155.out 1; have hnb31 := NB156_157.out; have hnc31 := NB157_156.out; have hnb32 := NB156_164.out; have hnc32 := NB164_156.out; have hcz33_0 : w29.cell? ⟨gb156, 0, none⟩ = some (.int .i64 a1_0) := (blk_cell BK156.out 0).trans rfl; have hcz33_1 : w29.cell? ⟨gb156, 1, none⟩ = some (.slice A1_1 l1_1.length c1_1) := (blk_cell BK156.out 1).trans rfl; have hfz33_0 := blk_frozen BK156.out 0; have hfz33_1 := blk_frozen BK156.out 1) | (go_at_call 47; (with_reducible refine (spec_IsValidFact.calls k _ _ l0_0 a1_0 _ _ l1_1 true _ ?side1 ?side2 ?side3 ?side4 A21.out).mono ?_); (case side1 => exact aC); (case side2 => exact HC0_0.out); (case side3 => exact aC); (case side4 => exact HC1_1.out); rintro e w34 ⟨rfl, hb⟩; have n0_ := aM (Kd.R_below (aR HO160) hb); have n1_ := aM (Kd.N_below (aN HO163) hb); have n2_ := aM (kB gb155 #[.slice A0_0 l0_0.length c0_0, .slice A0_1 l0_1.length c0_1] 31 hb); have n3_ := aM (kB gb156 #[.int .i64 a1_0, .slice A1_1 l1_1.length c1_1] 45 hb); have n4_ := aM (kB gb157 #[.slice none 0 0, .slice none 0 0] 31 hb); have n5_ := aM (kB gb164 #[.slice Ao13 t158.length co13, .slice Ao18 t161.length co18] 31 hb); have n6_ := aM (below_step aG hb); clear HO160; clear HO163; clear BK155; clear BK156; clear BK157; clear BK164; clear HB; have HO160 := n0_; have HO163 := n1_; have BK155 := n2_; have BK156 := n3_; have BK157 := n4_; have BK164 := n5_; have HB := n6_; clear n0_ n1_ n2_ n3_ n4_ n5_ n6_; (try clear hb); (try clear hb2); (try clear hk); (try clear hi); have hcz35_0 : w34.cell? ⟨gb155, 0, none⟩ = some (.slice A0_0 l0_0.length c0_0) := (blk_cell BK155.out 0).trans rfl; have hcz35_1 : w34.cell? ⟨gb155, 1, none⟩ = some (.slice A0_1 l0_1.length c0_1) := (blk_cell BK155.out 1).trans rfl; have hfz35_0 := blk_frozen BK155.out 0; have hfz35_1 := blk_frozen BK155.out 1; have hcz36_0 : w34.cell? ⟨gb156, 0, none⟩ = some (.int .i64 a1_0) := (blk_cell BK156.out 0).trans rfl; have hcz36_1 : w34.cell? ⟨gb156, 1, none⟩ = some (.slice A1_1 l1_1.length c1_1) := (blk_cell BK156.out 1).trans rfl; have hfz36_0 := blk_frozen BK156.out 0; have hfz36_1 := blk_frozen BK156.out 1) | (go_at_call 48; (with_reducible refine (spec_ContainsFact.calls k _ _ l0_0 _ _ l0_1 a1_0 _ _ l1_1 true _ ?side1 ?side2 ?side3 ?side4 ?side5 ?side6 A23.out).mono ?_); (case side1 => exact aC); (case side2 => exact HC0_0.out); (case side3 => exact aC); (case side4 => exact HC0_1.out); (case side5 => exact aC); (case side6 => exact HC1_1.out); rintro e w37 ⟨rfl, hb⟩; have n0_ := aM (Kd.R_below (aR HO160) hb); have n1_ := aM (Kd.N_below (aN HO163) hb); have n2_ := aM (kB gb155 #[.slice A0_0 l0_0.length c0_0, .slice A0_1 l0_1.length c0_1] 31 hb); have n3_ := aM (kB gb156 #[.int .i64 a1_0, .slice A1_1 l1_1.length c1_1] 45 hb); have n4_ := aM (kB gb157 #[.slice none 0 0, .slice none 0 0] 31 hb); have n5_ := aM (kB gb164 #[.slice Ao13 t158.length co13, .slice Ao18 t161.length co18] 31 hb); have n6_ := aM (below_step aG hb); clear HO160; clear HO163; clear BK155; clear BK156; clear BK157; clear BK164; clear HB; have HO160 := n0_; have HO163 := n1_; have BK155 := n2_; have BK156 := n3_; have BK157 := n4_; have BK164 := n5_; have HB := n6_; clear n0_ n1_ n2_ n3_ n4_ n5_ n6_; (try clear hb); (try clear hb2); (try clear hk); (try clear hi)))
     go_meet
     case rel => exact ⟨_, (true), aX, H', ⟨by first | omega | exact Nat.le_refl _⟩, ⟨by (with_reducible repeat apply pR); exact Kd.R_mono HO160.out (fun _ hk => hk.1)⟩, ⟨by (with_reducible repeat apply pN); exact Kd.N_mono HO163.out (fun _ hk => ⟨hk.1.1, ⟨hk.1.2.1, ⟨hk.1.2.2.1, ⟨hk.1.2.2.2.1, ⟨hk.1.2.2.2.2, hk.2⟩⟩⟩⟩⟩)⟩, ⟨aK⟩, ⟨aK⟩, ⟨aK⟩, ⟨aK⟩, ⟨aG⟩⟩
    ·replace c24 := Bool.eq_false_iff.mpr c24
     subst c24
     have H1 : (spec_InsertFact.j0 k ((l0_1.length : Int) == 14) a1_0 l1_1 t158 t161) = some (r1, r2, r3) := by rw [if_neg (show ¬ (false = true) by decide)] at H; exact H
     clear H
     have H := H1
     clear H1
     have H' := aM H
     clear H
     have hnb38 := NB155_156.out
     have hnc38 := NB156_155.out
     have hnb39 := NB155_157.out
     have hnc39 := NB157_155.out
     have hnb40 := NB155_164.out
     have hnc40 := NB164_155.out
     have hcz41_0 : w12.cell? ⟨gb155, 0, none⟩ = some (.slice A0_0 l0_0.length c0_0) := (blk_cell BK155.out 0).trans rfl
     have hcz41_1 : w12.cell? ⟨gb155, 1, none⟩ = some (.slice A0_1 l0_1.length c0_1) := (blk_cell BK155.out 1).trans rfl
     have hfz41_0 := blk_frozen BK155.out 0
     have hfz41_1 := blk_frozen BK155.out 1
     go_wp2_with (first | ((with_reducible refine gate_callee (f := 28) rfl ?_); refine goesL_ (some 12) rfl rfl Try.func28 (by kernel_rfl) rfl #[.agg #[.slice A0_0 l0_0.length c0_0, .slice A0_1 l0_1.length c0_1]] rfl aA ?_; (with_reducible refine (spec_IsValidDatabase.calls k _ _ l0_0 _ _ l0_1 true _ ?side1 ?side2 ?side3 ?side4 A19.out).mono ?_); (case side1 => exact Kd.C_below HR0_0.out aG); (case side2 => exact HC0_0.out); (case side3 => exact Kd.C_below HR0_1.out aG); (case side4 => exact HC0_1.out); rintro e w42 ⟨rfl, hb⟩; refine ⟨_, rfl, ?_⟩; replace HO160 := aM (Kd.R_below (by (with_reducible repeat apply pR); exact (rF1 HO160.out BK164.out (.slice Ao13 t158.length co13) (.slice Ao18 t161.length co18))) hb); replace HO163 := aM (Kd.N_below (by (with_reducible repeat apply pN); exact (nF1 gb164 HO163.out (fun _ hk => hk.2) (.slice Ao13 t158.length co13) (.slice Ao18 t161.length co18))) hb); replace BK155 := aM (blk_below (g := gb155) (bF2 NB155_164.out BK155.out) hb); replace BK156 := aM (blk_below (g := gb156) (bF2 NB156_164.out BK156.out) hb); replace BK157 := aM (blk_below (g := gb157) (bF2 NB157_164.out BK157.out) hb); replace BK164 := aM (blk_below (g := gb164) (bP2 BK164.out) hb); replace HB := aM (below_step aG hb); (try clear hb); (try clear hb2); (try clear hk); (try clear hi); have hcz43_0 : w42.cell? ⟨gb155, 0, none⟩ = some (.slice A0_0 l0_0.length c0_0) := (blk_cell BK155.out 0).trans rfl; have hcz43_1 : w42.cell? ⟨gb155, 1, none⟩ = some (.slice A0_1 l0_1.length c0_1) := (blk_cell BK155.out 1).trans rfl; have hfz43_0 := blk_frozen BK155.out 0; have hfz43_1 := blk_frozen BK155.out 1; have hnb44 := NB156_157.out; have hnc44 := NB157_156.out; have hnb45 := NB156_164.out; have hnc45 := NB164_156.out; have hcz46_0 : w42.cell? ⟨gb156, 0, none⟩ = some (.int .i64 a1_0) := (blk_cell BK156.out 0).trans rfl; have hcz46_1 : w42.cell? ⟨gb156, 1, none⟩ = some (.slice A1_1 l1_1.length c1_1) := (blk_cell BK156.out 1).trans rfl; have hfz46_0 := blk_frozen BK156.out 0; have hfz46_1 := blk_frozen BK156.out 1) | (go_at_call 47; (with_reducible refine (spec_IsValidFact.calls k _ _ l0_0 a1_0 _ _ l1_1 true _ ?side1 ?side2 ?side3 ?side4 A21.out).mono ?_); (case side1 => exact aC); (case side2 => exact HC0_0.out); (case side3 => exact aC); (case side4 => exact HC1_1.out); rintro e w47 ⟨rfl, hb⟩; have n0_ := aM (Kd.R_below (aR HO160) hb); have n1_ := aM (Kd.N_below (aN HO163) hb); have n2_ := aM (kB gb155 #[.slice A0_0 l0_0.length c0_0, .slice A0_1 l0_1.length c0_1] 31 hb); have n3_ := aM (kB gb156 #[.int .i64 a1_0, .slice A1_1 l1_1.length c1_1] 45 hb); have n4_ := aM (kB gb157 #[.slice none 0 0, .slice none 0 0] 31 hb); have n5_ := aM (kB gb164 #[.slice Ao13 t158.length co13, .slice Ao18 t161.length co18] 31 hb); have n6_ := aM (below_step aG hb); clear HO160; clear HO163; clear BK155; clear BK156; clear BK157; clear BK164; clear HB; have HO160 := n0_; have HO163 := n1_; have BK155 := n2_; have BK156 := n3_; have BK157 := n4_; have BK164 := n5_; have HB := n6_; clear n0_ n1_ n2_ n3_ n4_ n5_ n6_; (try clear hb); (try clear hb2); (try clear hk); (try clear hi); have hcz48_0 : w47.cell? ⟨gb155, 0, none⟩ = some (.slice A0_0 l0_0.length c0_0) := (blk_cell BK155.out 0).trans rfl; have hcz48_1 : w47.cell? ⟨gb155, 1, none⟩ = some (.slice A0_1 l0_1.length c0_1) := (blk_cell BK155.out 1).trans rfl; have hfz48_0 := blk_frozen BK155.out 0; have hfz48_1 := blk_frozen BK155.out 1; have hcz49_0 : w47.cell? ⟨gb156, 0, none⟩ = some (.int .i64 a1_0) := (blk_cell BK156.out 0).trans rfl; have hcz49_1 : w47.cell? ⟨gb156, 1, none⟩ = some (.slice A1_1 l1_1.length c1_1) := (blk_cell BK156.out 1).trans rfl; have hfz49_0 := blk_frozen BK156.out 0; have hfz49_1 := blk_frozen BK156.out 1) | (go_at_call 48; (with_reducible refine (spec_ContainsFact.calls k _ _ l0_0 _ _ l0_1 a1_0 _ _ l1_1 false _ ?side1 ?side2 ?side3 ?side4 ?side5 ?side6 A23.out).mono ?_); (case side1 => exact aC); (case side2 => exact HC0_0.out); (case side3 => exact aC); (case side4 => exact HC0_1.out); (case side5 => exact aC); (case side6 => exact HC1_1.out); rintro e w50 ⟨rfl, hb⟩; have n0_ := aM (Kd.R_below (aR HO160) hb); have n1_ := aM (Kd.N_below (aN HO163) hb); have n2_ := aM (kB gb155 #[.slice A0_0 l0_0.length c0_0, .slice A0_1 l0_1.length c0_1] 31 hb); have n3_ := aM (kB gb156 #[.int .i64 a1_0, .slice A1_1 l1_1.length c1_1] 45 hb); have n4_ := aM (kB gb157 #[.slice none 0 0, .slice none 0 0] 31 hb); have n5_ := aM (kB gb164 #[.slice Ao13 t158.length co13, .slice Ao18 t161.length co18] 31 hb); have n6_ := aM (below_step aG hb); clear HO160; clear HO163; clear BK155; clear BK156; clear BK157; clear BK164; clear HB; have HO160 := n0_; have HO163 := n1_; have BK155 := n2_; have BK156 := n3_; have BK157 := n4_; have BK164 := n5_; have HB := n6_; clear n0_ n1_ n2_ n3_ n4_ n5_ n6_; (try clear hb); (try clear hb2); (try clear hk); (try clear hi); have hcz51_0 : w50.cell? ⟨gb155, 0, none⟩ = some (.slice A0_0 l0_0.length c0_0) := (blk_cell BK155.out 0).trans rfl; have hcz51_1 : w50.cell? ⟨gb155, 1, none⟩ = some (.slice A0_1 l0_1.length c0_1) := (blk_cell BK155.out 1).trans rfl; have hfz51_0 := blk_frozen BK155.out 0; have hfz51_1 := blk_frozen BK155.out 1))
     go_meet
     case rel => exact ⟨_, (((l0_1.length : Int) == 14)), aX, H', ⟨by first | omega | exact Nat.le_refl _⟩, ⟨by (with_reducible repeat apply pR); exact Kd.R_mono HO160.out (fun _ hk => hk.1)⟩, ⟨by (with_reducible repeat apply pN); exact Kd.N_mono HO163.out (fun _ hk => ⟨hk.1.1, ⟨hk.1.2.1, ⟨hk.1.2.2.1, ⟨hk.1.2.2.2.1, ⟨hk.1.2.2.2.2, hk.2⟩⟩⟩⟩⟩)⟩, ⟨aK⟩, ⟨aK⟩, ⟨aK⟩, ⟨aK⟩, ⟨aG⟩⟩
   ·replace c22 := Bool.eq_false_iff.mpr c22
    subst c22
    have H1 : (spec_InsertFact.j0 k true a1_0 l1_1 t158 t161) = some (r1, r2, r3) := by rw [if_neg (show ¬ (false = true) by decide)] at H; exact H
    clear H
    have H := H1
    clear H1
    have H' := aM H
    clear H
    have hnb52 := NB155_156.out
    have hnc52 := NB156_155.out
    have hnb53 := NB155_157.out
    have hnc53 := NB157_155.out
    have hnb54 := NB155_164.out
    have hnc54 := NB164_155.out
    have hcz55_0 : w12.cell? ⟨gb155, 0, none⟩ = some (.slice A0_0 l0_0.length c0_0) := (blk_cell BK155.out 0).trans rfl
    have hcz55_1 : w12.cell? ⟨gb155, 1, none⟩ = some (.slice A0_1 l0_1.length c0_1) := (blk_cell BK155.out 1).trans rfl
    have hfz55_0 := blk_frozen BK155.out 0
    have hfz55_1 := blk_frozen BK155.out 1
    go_wp2_with (first | ((with_reducible refine gate_callee (f := 28) rfl ?_); refine goesL_ (some 12) rfl rfl Try.func28 (by kernel_rfl) rfl #[.agg #[.slice A0_0 l0_0.length c0_0, .slice A0_1 l0_1.length c0_1]] rfl aA ?_; (with_reducible refine (spec_IsValidDatabase.calls k _ _ l0_0 _ _ l0_1 true _ ?side1 ?side2 ?side3 ?side4 A19.out).mono ?_); (case side1 => exact Kd.C_below HR0_0.out aG); (case side2 => exact HC0_0.out); (case side3 => exact Kd.C_below HR0_1.out aG); (case side4 => exact HC0_1.out); rintro e w56 ⟨rfl, hb⟩; refine ⟨_, rfl, ?_⟩; replace HO160 := aM (Kd.R_below (by (with_reducible repeat apply pR); exact (rF1 HO160.out BK164.out (.slice Ao13 t158.length co13) (.slice Ao18 t161.length co18))) hb); replace HO163 := aM (Kd.N_below (by (with_reducible repeat apply pN); exact (nF1 gb164 HO163.out (fun _ hk => hk.2) (.slice Ao13 t158.length co13) (.slice Ao18 t161.length co18))) hb); replace BK155 := aM (blk_below (g := gb155) (bF2 NB155_164.out BK155.out) hb); replace BK156 := aM (blk_below (g := gb156) (bF2 NB156_164.out BK156.out) hb); replace BK157 := aM (blk_below (g := gb157) (bF2 NB157_164.out BK157.out) hb); replace BK164 := aM (blk_below (g := gb164) (bP2 BK164.out) hb); replace HB := aM (below_step aG hb); (try clear hb); (try clear hb2); (try clear hk); (try clear hi); have hcz57_0 : w56.cell? ⟨gb155, 0, none⟩ = some (.slice A0_0 l0_0.length c0_0) := (blk_cell BK155.out 0).trans rfl; have hcz57_1 : w56.cell? ⟨gb155, 1, none⟩ = some (.slice A0_1 l0_1.length c0_1) := (blk_cell BK155.out 1).trans rfl; have hfz57_0 := blk_frozen BK155.out 0; have hfz57_1 := blk_frozen BK155.out 1; have hnb58 := NB156_157.out; have hnc58 := NB157_156.out; have hnb59 := NB156_164.out; have hnc59 := NB164_156.out; have hcz60_0 : w56.cell? ⟨gb156, 0, none⟩ = some (.int .i64 a1_0) := (blk_cell BK156.out 0).trans rfl; have hcz60_1 : w56.cell? ⟨gb156, 1, none⟩ = some (.slice A1_1 l1_1.length c1_1) := (blk_cell BK156.out 1).trans rfl; have hfz60_0 := blk_frozen BK156.out 0; have hfz60_1 := blk_frozen BK156.out 1) | (go_at_call 47; (with_reducible refine (spec_IsValidFact.calls k _ _ l0_0 a1_0 _ _ l1_1 false _ ?side1 ?side2 ?side3 ?side4 A21.out).mono ?_); (case side1 => exact aC); (case side2 => exact HC0_0.out); (case side3 => exact aC); (case side4 => exact HC1_1.out); rintro e w61 ⟨rfl, hb⟩; have n0_ := aM (Kd.R_below (aR HO160) hb); have n1_ := aM (Kd.N_below (aN HO163) hb); have n2_ := aM (kB gb155 #[.slice A0_0 l0_0.length c0_0, .slice A0_1 l0_1.length c0_1] 31 hb); have n3_ := aM (kB gb156 #[.int .i64 a1_0, .slice A1_1 l1_1.length c1_1] 45 hb); have n4_ := aM (kB gb157 #[.slice none 0 0, .slice none 0 0] 31 hb); have n5_ := aM (kB gb164 #[.slice Ao13 t158.length co13, .slice Ao18 t161.length co18] 31 hb); have n6_ := aM (below_step aG hb); clear HO160; clear HO163; clear BK155; clear BK156; clear BK157; clear BK164; clear HB; have HO160 := n0_; have HO163 := n1_; have BK155 := n2_; have BK156 := n3_; have BK157 := n4_; have BK164 := n5_; have HB := n6_; clear n0_ n1_ n2_ n3_ n4_ n5_ n6_; (try clear hb); (try clear hb2); (try clear hk); (try clear hi)))
    go_meet
    case rel => exact ⟨_, (true), aX, H', ⟨by first | omega | exact Nat.le_refl _⟩, ⟨by (with_reducible repeat apply pR); exact Kd.R_mono HO160.out (fun _ hk => hk.1)⟩, ⟨by (with_reducible repeat apply pN); exact Kd.N_mono HO163.out (fun _ hk => ⟨hk.1.1, ⟨hk.1.2.1, ⟨hk.1.2.2.1, ⟨hk.1.2.2.2.1, ⟨hk.1.2.2.2.2, hk.2⟩⟩⟩⟩⟩)⟩, ⟨aK⟩, ⟨aK⟩, ⟨aK⟩, ⟨aK⟩, ⟨aG⟩⟩
  ·replace c20 := Bool.eq_false_iff.mpr c20
   subst c20
   have H1 : (spec_InsertFact.j0 k true a1_0 l1_1 t158 t161) = some (r1, r2, r3) := by rw [if_neg (show ¬ (false = true) by decide)] at H; exact H
   clear H
   have H := H1
   clear H1
   have H' := aM H
   clear H
   have hnb62 := NB155_156.out
   have hnc62 := NB156_155.out
   have hnb63 := NB155_157.out
   have hnc63 := NB157_155.out
   have hnb64 := NB155_164.out
   have hnc64 := NB164_155.out
   have hcz65_0 : w12.cell? ⟨gb155, 0, none⟩ = some (.slice A0_0 l0_0.length c0_0) := (blk_cell BK155.out 0).trans rfl
   have hcz65_1 : w12.cell? ⟨gb155, 1, none⟩ = some (.slice A0_1 l0_1.length c0_1) := (blk_cell BK155.out 1).trans rfl
   have hfz65_0 := blk_frozen BK155.out 0
   have hfz65_1 := blk_frozen BK155.out 1
   go_wp2_with (first | ((with_reducible refine gate_callee (f := 28) rfl ?_); refine goesL_ (some 12) rfl rfl Try.func28 (by kernel_rfl) rfl #[.agg #[.slice A0_0 l0_0.length c0_0, .slice A0_1 l0_1.length c0_1]] rfl aA ?_; (with_reducible refine (spec_IsValidDatabase.calls k _ _ l0_0 _ _ l0_1 false _ ?side1 ?side2 ?side3 ?side4 A19.out).mono ?_); (case side1 => exact Kd.C_below HR0_0.out aG); (case side2 => exact HC0_0.out); (case side3 => exact Kd.C_below HR0_1.out aG); (case side4 => exact HC0_1.out); rintro e w66 ⟨rfl, hb⟩; refine ⟨_, rfl, ?_⟩; replace HO160 := aM (Kd.R_below (by (with_reducible repeat apply pR); exact (rF1 HO160.out BK164.out (.slice Ao13 t158.length co13) (.slice Ao18 t161.length co18))) hb); replace HO163 := aM (Kd.N_below (by (with_reducible repeat apply pN); exact (nF1 gb164 HO163.out (fun _ hk => hk.2) (.slice Ao13 t158.length co13) (.slice Ao18 t161.length co18))) hb); replace BK155 := aM (blk_below (g := gb155) (bF2 NB155_164.out BK155.out) hb); replace BK156 := aM (blk_below (g := gb156) (bF2 NB156_164.out BK156.out) hb); replace BK157 := aM (blk_below (g := gb157) (bF2 NB157_164.out BK157.out) hb); replace BK164 := aM (blk_below (g := gb164) (bP2 BK164.out) hb); replace HB := aM (below_step aG hb); (try clear hb); (try clear hb2); (try clear hk); (try clear hi)))
   go_meet
   case rel => exact ⟨_, (true), aX, H', ⟨by first | omega | exact Nat.le_refl _⟩, ⟨by (with_reducible repeat apply pR); exact Kd.R_mono HO160.out (fun _ hk => hk.1)⟩, ⟨by (with_reducible repeat apply pN); exact Kd.N_mono HO163.out (fun _ hk => ⟨hk.1.1, ⟨hk.1.2.1, ⟨hk.1.2.2.1, ⟨hk.1.2.2.2.1, ⟨hk.1.2.2.2.2, hk.2⟩⟩⟩⟩⟩)⟩, ⟨aK⟩, ⟨aK⟩, ⟨aK⟩, ⟨aK⟩, ⟨aG⟩⟩
 case rest =>
  clear HC4
  try clear c1
  try clear c2
  try clear p2
  try clear c3
  try clear c4
  try clear c5
  try clear c6
  try clear c8
  try clear c9
  try clear c14
  try clear c15
  try clear c16
  try clear c18
  try clear c20
  try clear c22
  try clear c24
  try clear c25
  try clear c26
  try clear c27
  try clear c28
  try clear c31
  try clear c32
  try clear c38
  try clear c39
  try clear c40
  try clear c44
  try clear c45
  try clear c46
  try clear c52
  try clear c53
  try clear c54
  try clear c58
  try clear c59
  try clear c62
  try clear c63
  try clear c64
  try clear hcz10_0
  try clear hcz10_1
  try clear hcz17_0
  try clear hcz17_1
  try clear hcz28_0
  try clear hcz28_1
  try clear hcz30_0
  try clear hcz30_1
  try clear hcz33_0
  try clear hcz33_1
  try clear hcz35_0
  try clear hcz35_1
  try clear hcz36_0
  try clear hcz36_1
  try clear hcz41_0
  try clear hcz41_1
  try clear hcz43_0
  try clear hcz43_1
  try clear hcz46_0
  try clear hcz46_1
  try clear hcz48_0
  try clear hcz48_1
  try clear hcz49_0
  try clear hcz49_1
  try clear hcz51_0
  try clear hcz51_1
  try clear hcz55_0
  try clear hcz55_1
  try clear hcz57_0
  try clear hcz57_1
  try clear hcz60_0
  try clear hcz60_1
  try clear hcz65_0
  try clear hcz65_1
  try clear hfz10_0
  try clear hfz10_1
  try clear hfz17_0
  try clear hfz17_1
  try clear hfz28_0
  try clear hfz28_1
  try clear hfz30_0
  try clear hfz30_1
  try clear hfz33_0
  try clear hfz33_1
  try clear hfz35_0
  try clear hfz35_1
  try clear hfz36_0
  try clear hfz36_1
  try clear hfz41_0
  try clear hfz41_1
  try clear hfz43_0
  try clear hfz43_1
  try clear hfz46_0
  try clear hfz46_1
  try clear hfz48_0
  try clear hfz48_1
  try clear hfz49_0
  try clear hfz49_1
  try clear hfz51_0
  try clear hfz51_1
  try clear hfz55_0
  try clear hfz55_1
  try clear hfz57_0
  try clear hfz57_1
  try clear hfz60_0
  try clear hfz60_1
  try clear hfz65_0
  try clear hfz65_1
  obtain ⟨kq, x31_3, rfl, HA, HJ3, HO_165000, HO_165001, BK155, BK156, BK157, BK164, HB⟩ := hcut
  cases kq with
  | zero => exact absurd HA.out (by simp [spec_InsertFact.j0])
  | succ kj3 =>
   have H := HA.out
   clear HA
   simp only [spec_InsertFact.j0] at H
   by_cases c67 : x31_3 = true
   ·subst c67
    replace H := iT H
    simp only [Option.some.injEq, Prod.mk.injEq] at H
    obtain ⟨rfl, rfl, rfl⟩ := H
    have hnb68 := NB164_155.out
    have hnc68 := NB155_164.out
    have hnb69 := NB164_156.out
    have hnc69 := NB156_164.out
    have hnb70 := NB164_157.out
    have hnc70 := NB157_164.out
    have hcz71_0 : wc.cell? ⟨gb164, 0, none⟩ = some (.slice Ao13 t158.length co13) := (blk_cell BK164.out 0).trans rfl
    have hcz71_1 : wc.cell? ⟨gb164, 1, none⟩ = some (.slice Ao18 t161.length co18) := (blk_cell BK164.out 1).trans rfl
    have hfz71_0 := blk_frozen BK164.out 0
    have hfz71_1 := blk_frozen BK164.out 1
    have hnb72 := NB157_155.out
    have hnc72 := NB155_157.out
    have hnb73 := NB157_156.out
    have hnc73 := NB156_157.out
    have hcz74_0 : wc.cell? ⟨gb157, 0, none⟩ = some (.slice none 0 0) := (blk_cell BK157.out 0).trans rfl
    have hcz74_1 : wc.cell? ⟨gb157, 1, none⟩ = some (.slice none 0 0) := (blk_cell BK157.out 1).trans rfl
    have hfz74_0 := blk_frozen BK157.out 0
    have hfz74_1 := blk_frozen BK157.out 1
    go_wp2
    refine bodyPost_ret (results_ct rfl _ _ gb157 31 #[.slice Ao13 t158.length co13, .slice Ao18 t161.length co18] (0, 0) _ rfl (bP2 BK157.out) Try.underlying31 rfl (by kernel_rfl)) rfl ?_
    exact ⟨_, _, aE, by (with_reducible repeat apply pR); exact Kd.R_mono (Kd.R_far (p := ⟨gb157, 1, none⟩) (Kd.R_far (p := ⟨gb157, 0, none⟩) (Kd.R_types HO_165000.out BK157.out (by decide)) (fun _ hk => hk.2) (.slice Ao13 t158.length co13)) (fun _ hk => hk.2) (.slice Ao18 t161.length co18)) (fun _ hk => hk.1), by (with_reducible repeat apply pN); exact Kd.N_mono (Kd.N_far (p := ⟨gb157, 1, none⟩) (Kd.N_far (p := ⟨gb157, 0, none⟩) (Kd.N_mono HO_165001.out (fun k_ hk => (⟨hk, hk.2.2.2.2.1⟩ : _ ∧ k_ ≠ gb157))) (fun _ hk => hk.2) (.slice Ao13 t158.length co13)) (fun _ hk => hk.2) (.slice Ao18 t161.length co18)) (fun _ hk => ⟨hk.1.1, hk.1.2.1⟩), aG⟩
   ·replace c67 := Bool.eq_false_iff.mpr c67
    subst c67
    have H1 : (spec_InsertFact.l0 kj3 0 a1_0 l1_1 t158 t161) = some (r1, r2, r3) := by rw [if_neg (show ¬ (false = true) by decide)] at H; exact H
    clear H
    have H := H1
    clear H1
    have H' := aM H
    clear H
    go_wp2
    go_loopg [7] kj3 (fun kq v7 w' => ∃ (x7_2 : Int), v7 = .int .i64 x7_2 ∧ Aside0 (spec_InsertFact.l0 kq x7_2 a1_0 l1_1 t158 t161 = some (r1, r2, r3)) ∧ Aside0 (kq ≤ kj3) ∧ Aside0 (Kd.R k74 74 w' w.heap.size (fun k_ => (w.heap.size ≤ k_)) (.slice Ao13 t158.length co13) t158) ∧ Aside0 (Kd.N k45 45 w' w.heap.size (fun k_ => (w.heap.size ≤ k_) ∧ some k_ ≠ ((.slice Ao13 t158.length co13) : Value).ownBlock ∧ k_ ≠ gb155 ∧ k_ ≠ gb156 ∧ k_ ≠ gb157 ∧ k_ ≠ gb164) (.slice Ao18 t161.length co18) t161) ∧ Aside0 (w'.heap[gb155]? = some (.cells #[(.slice A0_0 l0_0.length c0_0), (.slice A0_1 l0_1.length c0_1)] 31 (0, 0))) ∧ Aside0 (w'.heap[gb156]? = some (.cells #[.int .i64 a1_0, (.slice A1_1 l1_1.length c1_1)] 45 (0, 0))) ∧ Aside0 (w'.heap[gb157]? = some (.cells #[(.slice none 0 0), (.slice none 0 0)] 31 (0, 0))) ∧ Aside0 (w'.heap[gb164]? = some (.cells #[(.slice Ao13 t158.length co13), (.slice Ao18 t161.length co18)] 31 (0, 0))) ∧ Aside0 (Below w.heap.size w w'))
    case atStart => exact ⟨(0), aX, H', ⟨Nat.le_refl _⟩, ⟨aR HO_165000⟩, ⟨aN HO_165001⟩, ⟨aK⟩, ⟨aK⟩, ⟨aK⟩, ⟨aK⟩, ⟨aG⟩⟩
    case round =>
     clear H'
     try clear c1
     try clear c2
     try clear p2
     try clear c3
     try clear c4
     try clear c5
     try clear c6
     try clear c7
     try clear c8
     try clear c9
     try clear c14
     try clear c15
     try clear c16
     try clear c18
     try clear c20
     try clear c22
     try clear c24
     try clear c25
     try clear c26
     try clear c27
     try clear c28
     try clear c31
     try clear c32
     try clear c38
     try clear c39
     try clear c40
     try clear c44
     try clear c45
     try clear c46
     try clear c52
     try clear c53
     try clear c54
     try clear c58
     try clear c59
     try clear c62
     try clear c63
     try clear c64
     try clear c67
     try clear c68
     try clear c69
     try clear c70
     try clear c72
     try clear c73
     try clear hcz10_0
     try clear hcz10_1
     try clear hcz17_0
     try clear hcz17_1
     try clear hcz28_0
     try clear hcz28_1
     try clear hcz30_0
     try clear hcz30_1
     try clear hcz33_0
     try clear hcz33_1
     try clear hcz35_0
     try clear hcz35_1
     try clear hcz36_0
     try clear hcz36_1
     try clear hcz41_0
     try clear hcz41_1
     try clear hcz43_0
     try clear hcz43_1
     try clear hcz46_0
     try clear hcz46_1
     try clear hcz48_0
     try clear hcz48_1
     try clear hcz49_0
     try clear hcz49_1
     try clear hcz51_0
     try clear hcz51_1
     try clear hcz55_0
     try clear hcz55_1
     try clear hcz57_0
     try clear hcz57_1
     try clear hcz60_0
     try clear hcz60_1
     try clear hcz65_0
     try clear hcz65_1
     try clear hcz71_0
     try clear hcz71_1
     try clear hcz74_0
     try clear hcz74_1
     try clear hfz10_0
     try clear hfz10_1
     try clear hfz17_0
     try clear hfz17_1
     try clear hfz28_0
     try clear hfz28_1
     try clear hfz30_0
     try clear hfz30_1
     try clear hfz33_0
     try clear hfz33_1
     try clear hfz35_0
     try clear hfz35_1
     try clear hfz36_0
     try clear hfz36_1
     try clear hfz41_0
     try clear hfz41_1
     try clear hfz43_0
     try clear hfz43_1
     try clear hfz46_0
     try clear hfz46_1
     try clear hfz48_0
     try clear hfz48_1
     try clear hfz49_0
     try clear hfz49_1
     try clear hfz51_0
     try clear hfz51_1
     try clear hfz55_0
     try clear hfz55_1
     try clear hfz57_0
     try clear hfz57_1
     try clear hfz60_0
     try clear hfz60_1
     try clear hfz65_0
     try clear hfz65_1
     try clear hfz71_0
     try clear hfz71_1
     try clear hfz74_0
     try clear hfz74_1
     try clear p2
     obtain ⟨x7_2, rfl, HA, HK2, HO_165000, HO_165001, BK155, BK156, BK157, BK164, HB⟩ := hrel
     cases gk with
     | zero => exact absurd HA.out (by simp [spec_InsertFact.l0])
     | succ k2 =>
      have H := HA.out
      clear HA
      simp only [spec_InsertFact.l0] at H
      by_cases c75 : x7_2 < (t161.length : Int)
      ·rw [if_pos c75] at H
       have c75b0 : decide (x7_2 < (t161.length : Int)) = true := decide_eq_true c75
       clear c75
       by_cases c76 : 0 ≤ x7_2
       ·rw [if_pos c76] at H
        have c76b0 : decide (0 ≤ x7_2) = true := decide_eq_true c76
        clear c76
        replace H := bM H
        obtain ⟨t169, A770, H⟩ := H
        have A77 := aM A770
        clear A770
        by_cases c78 : t169 < 0
        ·rw [if_pos c78] at H
         have c78b0 : decide (t169 < 0) = true := decide_eq_true c78
         clear c78
         have H' := aM H
         clear H
         try go_wp2
         replace HO_165000 := aM (Kd.R_drew HO_165000.out)
         replace HO_165001 := aM (Kd.N_drew HO_165001.out)
         replace BK155 := aM (blk_drew BK155.out)
         replace BK156 := aM (blk_drew BK156.out)
         replace BK157 := aM (blk_drew BK157.out)
         replace BK164 := aM (blk_drew BK164.out)
         replace HB := aM (below_drew1 HB.out)
         have p168 : 0 ≤ (x7_2 : Int) := aD
         have q168 : x7_2 < (t161.length : Int) := aD
         obtain ⟨ad168, A168_1, c168_1, e168, hx168_0, hx168_1, hl168_1, hi168_1⟩ := at_T45 (Kd.N_reads' HO_165001.out).2.2 x7_2 p168 q168
         cases e168
         obtain ⟨ce168, hce168, hMe168, hcc168⟩ := Kd.N_get HO_165001.out z45 x7_2 p168 (by first | exact q168 | exact aD | (have e_ := (Kd.N_reads' HO_165001.out).1; omega))
         obtain ⟨ua168_1, uc168_1, rfl, ul168_1, ge168_1⟩ := k45_openF hMe168
         have hv168_1 := hcc168 1 _ rfl
         rw [add_field _ _ 1 (by omega)] at hv168_1
         replace hv168_1 := Option.some.inj (hv168_1.symm.trans hx168_1)
         injection hv168_1 with hva_ hvn_ hvc_
         rw [hva_] at ge168_1
         rw [hvc_] at ul168_1
         have HL168_1 := aM (show Kd.V (Kd.int .i64) 3 _ w.heap.size _ _ ((rd_T45 t161 x7_2).f1) from Kd.V_mk ul168_1 ge168_1)
         clear hva_ hvn_ hvc_ ge168_1 ul168_1
         clear hcc168 hce168
         have HR168_1 := aM hi168_1
         have HC168_1 := aM hl168_1
         clear hi168_1 hl168_1
         replace p168 := eq_true p168
         replace q168 := eq_true q168
         refine start_ (n := 15) (S := fun w' => w'.cell? ⟨gb164, 0, none⟩ = some (.slice Ao13 t158.length co13) ∧ w'.cell? ⟨gb164, 1, none⟩ = some (.slice (some ad168) t161.length co18) ∧ w'.cell? ⟨gb156, 0, none⟩ = some (.int .i64 a1_0) ∧ w'.cell? ⟨gb156, 1, none⟩ = some (.slice A1_1 l1_1.length c1_1) ∧ w'.cell? (ad168.add ((x7_2).toNat * 2)) = some (.int .i64 ((rd_T45 t161 x7_2).f0)) ∧ w'.cell? ⟨(ad168.add ((x7_2).toNat * 2)).block, (ad168.add ((x7_2).toNat * 2)).off + 1, none⟩ = some (.slice A168_1 ((rd_T45 t161 x7_2).f1).length c168_1)) (ds := []) #[false, false, false, false, false, false, false, false, false, false, false, false, false, false, false] (by kernel_rfl) rfl rfl ⟨(blk_cell BK164.out 0).trans rfl, (blk_cell BK164.out 1).trans rfl, (blk_cell BK156.out 0).trans rfl, (blk_cell BK156.out 1).trans rfl, hx168_0, hx168_1⟩ (fun hHeld => ?_); refine with_tabW spec_InsertFact.tab5 spec_InsertFact.bits5 (fun HT_ HW_ => ?_)
         generalize wr.drew = w79 at HO_165000 HO_165001 BK155 BK156 BK157 BK164 HB HL168_1 HR168_1 hx168_0 hx168_1 hHeld ⊢
         refine pU 0 33 ?_
         refine pU 1 34 ?_
         refine tU6 2 35 hHeld ?_
         refine pU 3 36 ?_
         refine pU 4 37 ?_
         refine pU 5 38 ?_
         refine pU 6 39 ?_
         refine pU 8 41 ?_
         refine tU6 7 40 hHeld ?_
         refine pU 9 42 ?_
         refine tU6 10 43 hHeld ?_
         refine tU6 11 44 hHeld ?_
         refine oU 12 45 (fun K hK => ?_)
         refine goes_ Try.func49 (by kernel_rfl) rfl #[.agg #[.int .i64 ((rd_T45 t161 x7_2).f0), .slice A168_1 ((rd_T45 t161 x7_2).f1).length c168_1], .agg #[.int .i64 a1_0, .slice A1_1 l1_1.length c1_1]] (by rfl) rfl rfl aA ?_
         with_reducible refine (spec_CompareFacts.calls k2 ((rd_T45 t161 x7_2).f0) _ _ ((rd_T45 t161 x7_2).f1) a1_0 _ _ l1_1 t169 _ ?side1 ?side2 ?side3 ?side4 A77.out).mono ?_
         (case side1 => repeat (first | exact (by repeat (first | (with_reducible exact HR168_1.out) | (with_reducible refine pC ?_) | exact HR168_1.out)) | (with_reducible refine pC ?_)))
         (case side2 => exact HC168_1.out)
         (case side3 => exact aC)
         (case side4 => exact HC1_1.out)
         rintro e w80 ⟨rfl, hb⟩
         have HS4_ := (hb.cell (World.block_lt_of_cell? _ _ (hHeld.2.2.2.2.1))).trans (hHeld.2.2.2.2.1)
         have HS5_ := (hb.cell (World.block_lt_of_cell? _ _ (hHeld.2.2.2.2.2))).trans (hHeld.2.2.2.2.2)
         refine ⟨_, rfl, ?_⟩
         have n0_ := aM (Kd.R_below (aR HO_165000) hb)
         have n1_ := aM (Kd.N_below (aN HO_165001) hb)
         have n2_ := aM (Kd.V_below (aV HL168_1) hb)
         have n3_ := aM (kB gb155 #[.slice A0_0 l0_0.length c0_0, .slice A0_1 l0_1.length c0_1] 31 hb)
         have n4_ := aM (kB gb156 #[.int .i64 a1_0, .slice A1_1 l1_1.length c1_1] 45 hb)
         have n5_ := aM (kB gb157 #[.slice none 0 0, .slice none 0 0] 31 hb)
         have n6_ := aM (kB gb164 #[.slice Ao13 t158.length co13, .slice (some ad168) t161.length co18] 31 hb)
         have n7_ := aM (Kd.C_below (by repeat (first | (with_reducible exact HR168_1.out) | (with_reducible refine pC ?_) | exact HR168_1.out)) hb)
         have n8_ := aM (below_step aG hb)
         clear HO_165000
         clear HO_165001
         clear HL168_1
         clear BK155
         clear BK156
         clear BK157
         clear BK164
         clear HR168_1
         clear HB
         have HO_165000 := n0_
         have HO_165001 := n1_
         have HL168_1 := n2_
         have BK155 := n3_
         have BK156 := n4_
         have BK157 := n5_
         have BK164 := n6_
         have HR168_1 := n7_
         have HB := n8_
         clear n0_ n1_ n2_ n3_ n4_ n5_ n6_ n7_ n8_
         (try clear hb)
         (try clear hb2)
         (try clear hk)
         (try clear hi)
         refine hK.out _ _ ⟨(blk_cell BK164.out 0).trans rfl, (blk_cell BK164.out 1).trans rfl, (blk_cell BK156.out 0).trans rfl, (blk_cell BK156.out 1).trans rfl, HS4_, HS5_⟩ (fun hHeld => ?_)
         clear hK K
         refine nU 45 ?_
         refine pU 13 46 ?_
         refine pU 14 47 ?_
         refine done_ (done_of HT_.out (by kernel_rfl)) ?_
         try go_wp2
         go_roundg k2
         case measure => have := HJ3.out; have := HK2.out; omega
         case rel => exact ⟨(wrap64 (x7_2 + 1)), aX, H', ⟨by have := HJ3.out; have := HK2.out; omega⟩, ⟨aR HO_165000⟩, ⟨aN HO_165001⟩, ⟨aK⟩, ⟨aK⟩, ⟨aK⟩, ⟨aK⟩, ⟨aG⟩⟩
        ·rw [if_neg c78] at H
         have c78b0 : decide (t169 < 0) = false := decide_eq_false c78
         clear c78
         obtain ⟨y170, hy170⟩ : ∃ y_ : List Int, y_ = (([] : List Int)) := ⟨_, rfl⟩
         first | replace H := bY hy170 H | rw [← hy170] at H
         have Ny170 := aM hy170
         clear hy170
         by_cases c81 : y170.length + l1_1.length < 17592186044416
         ·rw [if_pos c81] at H
          have LMc81 := aM c81
          clear c81
          obtain ⟨y173, hy173⟩ : ∃ y_ : List Int, y_ = (y170 ++ l1_1) := ⟨_, rfl⟩
          first | replace H := bY hy173 H | rw [← hy173] at H
          have Ny173 := aM hy173
          clear hy173
          obtain ⟨y176, hy176⟩ : ∃ y_ : List (S45), y_ = (([(⟨a1_0, y173⟩ : S45)] : List (S45))) := ⟨_, rfl⟩
          first | replace H := bY hy176 H | rw [← hy176] at H
          have Ny176 := aM hy176
          clear hy176
          have c82b0 := eq_true (aD : 0 ≤ x7_2)
          by_cases c83 : x7_2 ≤ (t161.length : Int)
          ·rw [if_pos c83] at H
           have c83b0 := eq_true c83
           have c83b1 : decide (x7_2 ≤ (t161.length : Int)) = true := decide_eq_true c83
           clear c83
           obtain ⟨y179, hy179⟩ : ∃ y_ : List (S45), y_ = (t161.drop (x7_2 : Int).toNat) := ⟨_, rfl⟩
           first | replace H := bY hy179 H | rw [← hy179] at H
           have Ny179 := aM hy179
           clear hy179
           by_cases c84 : y176.length + y179.length < 4398046511104
           ·rw [if_pos c84] at H
            have LMc84 := aM c84
            clear c84
            obtain ⟨y184, hy184⟩ : ∃ y_ : List (S45), y_ = (y176 ++ y179) := ⟨_, rfl⟩
            first | replace H := bY hy184 H | rw [← hy184] at H
            have Ny184 := aM hy184
            clear hy184
            obtain ⟨y187, hy187⟩ : ∃ y_ : List (S45), y_ = (([] : List (S45))) := ⟨_, rfl⟩
            first | replace H := bY hy187 H | rw [← hy187] at H
            have Ny187 := aM hy187
            clear hy187
            have c85b0 := eq_true (aD : 0 ≤ x7_2)
            have c86b0 := eq_true (aD : x7_2 ≤ (t161.length : Int))
            obtain ⟨y190, hy190⟩ : ∃ y_ : List (S45), y_ = (t161.take (x7_2 : Int).toNat) := ⟨_, rfl⟩
            first | replace H := bY hy190 H | rw [← hy190] at H
            have Ny190 := aM hy190
            clear hy190
            by_cases c87 : y187.length + y190.length < 4398046511104
            ·rw [if_pos c87] at H
             have LMc87 := aM c87
             clear c87
             obtain ⟨y195, hy195⟩ : ∃ y_ : List (S45), y_ = (y187 ++ y190) := ⟨_, rfl⟩
             first | replace H := bY hy195 H | rw [← hy195] at H
             have Ny195 := aM hy195
             clear hy195
             by_cases c88 : y195.length + y184.length < 4398046511104
             ·rw [if_pos c88] at H
              have LMc88 := aM c88
              clear c88
              obtain ⟨y198, hy198⟩ : ∃ y_ : List (S45), y_ = (y195 ++ y184) := ⟨_, rfl⟩
              first | replace H := bY hy198 H | rw [← hy198] at H
              have Ny198 := aM hy198
              clear hy198
              simp only [Option.some.injEq, Prod.mk.injEq] at H
              obtain ⟨rfl, rfl, rfl⟩ := H
              try go_wp2
              replace HO_165000 := aM (Kd.R_drew HO_165000.out)
              replace HO_165001 := aM (Kd.N_drew HO_165001.out)
              replace BK155 := aM (blk_drew BK155.out)
              replace BK156 := aM (blk_drew BK156.out)
              replace BK157 := aM (blk_drew BK157.out)
              replace BK164 := aM (blk_drew BK164.out)
              replace HB := aM (below_drew1 HB.out)
              have p168 : 0 ≤ (x7_2 : Int) := aD
              have q168 : x7_2 < (t161.length : Int) := aD
              obtain ⟨ad168, A168_1, c168_1, e168, hx168_0, hx168_1, hl168_1, hi168_1⟩ := at_T45 (Kd.N_reads' HO_165001.out).2.2 x7_2 p168 q168
              cases e168
              obtain ⟨ce168, hce168, hMe168, hcc168⟩ := Kd.N_get HO_165001.out z45 x7_2 p168 (by first | exact q168 | exact aD | (have e_ := (Kd.N_reads' HO_165001.out).1; omega))
              obtain ⟨ua168_1, uc168_1, rfl, ul168_1, ge168_1⟩ := k45_openF hMe168
              have hv168_1 := hcc168 1 _ rfl
              rw [add_field _ _ 1 (by omega)] at hv168_1
              replace hv168_1 := Option.some.inj (hv168_1.symm.trans hx168_1)
              injection hv168_1 with hva_ hvn_ hvc_
              rw [hva_] at ge168_1
              rw [hvc_] at ul168_1
              have HL168_1 := aM (show Kd.V (Kd.int .i64) 3 _ w.heap.size _ _ ((rd_T45 t161 x7_2).f1) from Kd.V_mk ul168_1 ge168_1)
              clear hva_ hvn_ hvc_ ge168_1 ul168_1
              clear hcc168 hce168
              have HR168_1 := aM hi168_1
              have HC168_1 := aM hl168_1
              clear hi168_1 hl168_1
              replace p168 := eq_true p168
              replace q168 := eq_true q168
              refine start_ (n := 15) (S := fun w' => w'.cell? ⟨gb164, 0, none⟩ = some (.slice Ao13 t158.length co13) ∧ w'.cell? ⟨gb164, 1, none⟩ = some (.slice (some ad168) t161.length co18) ∧ w'.cell? ⟨gb156, 0, none⟩ = some (.int .i64 a1_0) ∧ w'.cell? ⟨gb156, 1, none⟩ = some (.slice A1_1 l1_1.length c1_1) ∧ w'.cell? (ad168.add ((x7_2).toNat * 2)) = some (.int .i64 ((rd_T45 t161 x7_2).f0)) ∧ w'.cell? ⟨(ad168.add ((x7_2).toNat * 2)).block, (ad168.add ((x7_2).toNat * 2)).off + 1, none⟩ = some (.slice A168_1 ((rd_T45 t161 x7_2).f1).length c168_1)) (ds := []) #[false, false, false, false, false, false, false, false, false, false, false, false, false, false, false] (by kernel_rfl) rfl rfl ⟨(blk_cell BK164.out 0).trans rfl, (blk_cell BK164.out 1).trans rfl, (blk_cell BK156.out 0).trans rfl, (blk_cell BK156.out 1).trans rfl, hx168_0, hx168_1⟩ (fun hHeld => ?_); refine with_tabW spec_InsertFact.tab5 spec_InsertFact.bits5 (fun HT_ HW_ => ?_)
              generalize wr.drew = w89 at HO_165000 HO_165001 BK155 BK156 BK157 BK164 HB HL168_1 HR168_1 hx168_0 hx168_1 hHeld ⊢
              refine pU 0 33 ?_
              refine pU 1 34 ?_
              refine tU6 2 35 hHeld ?_
              refine pU 3 36 ?_
              refine pU 4 37 ?_
              refine pU 5 38 ?_
              refine pU 6 39 ?_
              refine pU 8 41 ?_
              refine tU6 7 40 hHeld ?_
              refine pU 9 42 ?_
              refine tU6 10 43 hHeld ?_
              refine tU6 11 44 hHeld ?_
              refine oU 12 45 (fun K hK => ?_)
              refine goes_ Try.func49 (by kernel_rfl) rfl #[.agg #[.int .i64 ((rd_T45 t161 x7_2).f0), .slice A168_1 ((rd_T45 t161 x7_2).f1).length c168_1], .agg #[.int .i64 a1_0, .slice A1_1 l1_1.length c1_1]] (by rfl) rfl rfl aA ?_
              with_reducible refine (spec_CompareFacts.calls k2 ((rd_T45 t161 x7_2).f0) _ _ ((rd_T45 t161 x7_2).f1) a1_0 _ _ l1_1 t169 _ ?side1 ?side2 ?side3 ?side4 A77.out).mono ?_
              (case side1 => repeat (first | exact (by repeat (first | (with_reducible exact HR168_1.out) | (with_reducible refine pC ?_) | exact HR168_1.out)) | (with_reducible refine pC ?_)))
              (case side2 => exact HC168_1.out)
              (case side3 => exact aC)
              (case side4 => exact HC1_1.out)
              rintro e w90 ⟨rfl, hb⟩
              have HS4_ := (hb.cell (World.block_lt_of_cell? _ _ (hHeld.2.2.2.2.1))).trans (hHeld.2.2.2.2.1)
              have HS5_ := (hb.cell (World.block_lt_of_cell? _ _ (hHeld.2.2.2.2.2))).trans (hHeld.2.2.2.2.2)
              refine ⟨_, rfl, ?_⟩
              have n0_ := aM (Kd.R_below (aR HO_165000) hb)
              have n1_ := aM (Kd.N_below (aN HO_165001) hb)
              have n2_ := aM (Kd.V_below (aV HL168_1) hb)
              have n3_ := aM (kB gb155 #[.slice A0_0 l0_0.length c0_0, .slice A0_1 l0_1.length c0_1] 31 hb)
              have n4_ := aM (kB gb156 #[.int .i64 a1_0, .slice A1_1 l1_1.length c1_1] 45 hb)
              have n5_ := aM (kB gb157 #[.slice none 0 0, .slice none 0 0] 31 hb)
              have n6_ := aM (kB gb164 #[.slice Ao13 t158.length co13, .slice (some ad168) t161.length co18] 31 hb)
              have n7_ := aM (Kd.C_below (by repeat (first | (with_reducible exact HR168_1.out) | (with_reducible refine pC ?_) | exact HR168_1.out)) hb)
              have n8_ := aM (below_step aG hb)
              clear HO_165000
              clear HO_165001
              clear HL168_1
              clear BK155
              clear BK156
              clear BK157
              clear BK164
              clear HR168_1
              clear HB
              have HO_165000 := n0_
              have HO_165001 := n1_
              have HL168_1 := n2_
              have BK155 := n3_
              have BK156 := n4_
              have BK157 := n5_
              have BK164 := n6_
              have HR168_1 := n7_
              have HB := n8_
              clear n0_ n1_ n2_ n3_ n4_ n5_ n6_ n7_ n8_
              (try clear hb)
              (try clear hb2)
              (try clear hk)
              (try clear hi)
              refine hK.out _ _ ⟨(blk_cell BK164.out 0).trans rfl, (blk_cell BK164.out 1).trans rfl, (blk_cell BK156.out 0).trans rfl, (blk_cell BK156.out 1).trans rfl, HS4_, HS5_⟩ (fun hHeld => ?_)
              clear hK K
              refine nU 45 ?_
              refine pU 13 46 ?_
              refine pU 14 47 ?_
              refine done_ (done_of HT_.out (by kernel_rfl)) ?_
              try go_wp2
              replace HO_165000 := aM (Kd.R_drew HO_165000.out)
              replace HO_165001 := aM (Kd.N_drew HO_165001.out)
              replace HL168_1 := aM (Kd.V_drew HL168_1.out)
              replace BK155 := aM (blk_drew BK155.out)
              replace BK156 := aM (blk_drew BK156.out)
              replace BK157 := aM (blk_drew BK157.out)
              replace BK164 := aM (blk_drew BK164.out)
              replace HR168_1 := aM (Kd.C_drew HR168_1.out)
              replace HB := aM (below_drew1 HB.out)
              have q92 : (x7_2 : Int) ≤ ((t161.length : Int) : Int) := aD
              obtain ⟨i092, hi092, _, hsz92, _⟩ := info_parts info45
              have hroom92 : t161.length ≤ co18 := (Kd.N_reads' HO_165001.out).2.1
              have hC92 : Kd.F k45 _ _ (some ad168) t161.length t161 := (Kd.V_at (base := w.heap.size) (Kd.N_V HO_165001.out)).2.2
              have q092 : (0 : Int) ≤ (x7_2 : Int) := aD
              have hcut92 := cut_from (P := Try.prog) 29 45 .i64 Try.underlying29 hi092 2 hsz92 (some ad168) t161.length co18 x7_2 q092 q92
              have hr92 := Kd.F_cut (m := (x7_2 : Int).toNat) (c := co18) hC92 (by omega) hroom92
              obtain ⟨A92, hA92⟩ : ∃ A1, A1 = (if co18 = (x7_2 : Int).toNat then (some ad168) else ((some ad168) : Option Addr).map (·.add ((x7_2 : Int).toNat * 2))) := ⟨_, rfl⟩
              obtain ⟨c92, hc92⟩ : ∃ c1, c1 = co18 - (x7_2 : Int).toNat := ⟨_, rfl⟩
              have hy92 : y179.length = t161.length - (x7_2 : Int).toNat := (by rw [Ny179.out, List.length_drop] <;> omega)
              rw [show (t161).drop (x7_2 : Int).toNat = y179 from Ny179.out.symm] at hr92
              replace hr92 : Kd.F k45 _ _ A92 y179.length y179 := (by rw [hA92]; exact hr92)
              rw [← hy92, ← hA92, ← hc92] at hcut92
              have HO183 := aM (show Kd.V k45 45 _ w.heap.size _ (.slice A92 y179.length c92) y179 from Kd.V_mk (by rw [hy92, hc92]; exact Nat.sub_le_sub_right hroom92 _) hr92)
              have HC183 := aM (show y179.length ≤ c92 from by rw [hy92, hc92]; exact Nat.sub_le_sub_right hroom92 _)
              clear hr92 hC92 hroom92 hi092 hsz92 hc92
              have KY92 := aM hy92
              have KA92 := aM hA92
              clear hy92 hA92
              replace q92 := eq_true q92
              refine start_ (n := 14) (S := fun w' => w'.cell? ⟨gb156, 0, none⟩ = some (.int .i64 a1_0) ∧ w'.cell? ⟨gb156, 1, none⟩ = some (.slice A1_1 l1_1.length c1_1) ∧ w'.cell? ⟨gb164, 0, none⟩ = some (.slice Ao13 t158.length co13) ∧ w'.cell? ⟨gb164, 1, none⟩ = some (.slice (some ad168) t161.length co18)) (ds := []) #[false, false, false, false, false, false, false, false, false, false, false, false, false, false] (by kernel_rfl) rfl rfl ⟨(blk_cell BK156.out 0).trans rfl, (blk_cell BK156.out 1).trans rfl, (blk_cell BK164.out 0).trans rfl, (blk_cell BK164.out 1).trans rfl⟩ (fun hHeld => ?_); refine with_tabW spec_InsertFact.tab7 spec_InsertFact.bits7 (fun HT_ HW_ => ?_)
              generalize w90.drew = w91 at HO_165000 HO_165001 HL168_1 BK155 BK156 BK157 BK164 HR168_1 HB HO183 hHeld ⊢
              refine pU 0 50 ?_
              refine pU 3 53 ?_
              refine pU 8 58 ?_
              refine pU 10 60 ?_
              refine tU4 1 51 hHeld ?_
              refine tU4 4 54 hHeld ?_
              refine tU4 9 59 hHeld ?_
              refine pU 11 61 ?_
              refine oU 2 52 (fun K hK => ?_)
              refine Kd.R_lit_step (Kd.int .i64) _ 3 ?hg (N := 52) ?hd (xs := ([] : List Int)) (inner := []) (ok := fun _ => True) (okp := fun _ => True) ?hr ?hp (fun _ hk => hk) trivial (Below.refl _ _) (Nat.le_refl _) (by simp) ?_; (case hd => rfl); (case hg => rfl); (case hr => first | (go_simp; done) | (go_simp; rfl)); (case hp => exact (Reps.none _ _))
              intro v171 w93 ho94 hb hg_ hnew_
              clear hg_ hnew_
              (first | rw [← Ny170.out] at ho94 | (simp only [Int.reduceToNat] at ho94; rw [← Ny170.out] at ho94))
              have n0_ := aM (Kd.R_below (aR HO_165000) hb)
              have n1_ := aM (Kd.N_elder' (aN HO_165001) (Kd.R_base ho94) hb)
              have n2_ := aM (Kd.V_elder' (aV HL168_1) (Kd.R_base ho94) hb)
              have n3_ := aM (Kd.V_elder' (aV HO183) (Kd.R_base ho94) hb)
              have n4_ := aM (Kd.R_lower (Kd.R_newM (M := fun k_ => (w.heap.size ≤ k_)) ho94 (below_size aG) (fun k_ h_ => h_)) (below_size aG))
              have n5_ := aM (kB gb155 #[.slice A0_0 l0_0.length c0_0, .slice A0_1 l0_1.length c0_1] 31 hb)
              have n6_ := aM (kB gb156 #[.int .i64 a1_0, .slice A1_1 l1_1.length c1_1] 45 hb)
              have n7_ := aM (kB gb157 #[.slice none 0 0, .slice none 0 0] 31 hb)
              have n8_ := aM (kB gb164 #[.slice Ao13 t158.length co13, .slice (some ad168) t161.length co18] 31 hb)
              have n9_ := aM (Kd.C_below (by repeat (first | (with_reducible exact HR168_1.out) | (with_reducible refine pC ?_) | exact HR168_1.out)) hb)
              have n10_ := aM (below_step aG hb)
              clear HO_165000
              clear HO_165001
              clear HL168_1
              clear HO183
              clear BK155
              clear BK156
              clear BK157
              clear BK164
              clear HR168_1
              clear HB
              have HO_165000 := n0_
              have HO_165001 := n1_
              have HL168_1 := n2_
              have HO183 := n3_
              have HO172 := n4_
              have BK155 := n5_
              have BK156 := n6_
              have BK157 := n7_
              have BK164 := n8_
              have HR168_1 := n9_
              have HB := n10_
              clear n0_ n1_ n2_ n3_ n4_ n5_ n6_ n7_ n8_ n9_ n10_
              clear hb ho94
              refine hK.out _ _ ⟨(blk_cell BK156.out 0).trans rfl, (blk_cell BK156.out 1).trans rfl, (blk_cell BK164.out 0).trans rfl, (blk_cell BK164.out 1).trans rfl⟩ (fun hHeld => ?_)
              clear hK K
              refine nU 52 ?_
              refine oU 5 55 (fun K hK => ?_)
              refine Kd.R_append_rows_step (Kd.int .i64) (w0 := w) w.heap.size (by rfl) (.tmp 52) (.tmp 54) 26 3 (.int .i64 0) 8 rfl Try.underlying26 info3 rfl (by decide) (by omega) v171 y170 l1_1 _ _ _ (fun k_ => (w.heap.size ≤ k_)) (fun _ => False) rfl rfl ?aO ?aR (fun _ _ h => h) (fun _ h => h.elim) ?aF ?aB ?aS ?aL ?_
              (case aR => exact aC)
              (case aB => exact aG)
              (case aF => exact (fun k_ hk => (Nat.le_trans (below_size aG) hk)))
              (case aO => exact (by (with_reducible repeat apply pR); exact Kd.R_mono HO172.out (fun _ hk => hk.1)))
              (case aS => exact (below_size aG))
              (case aL => have := LMc81.out; omega)
              intro v174 w95 ho hb hg hat
              rw [← Ny173.out] at ho
              have n0_ := aM (Kd.R_over' (aR HO_165000) (Kd.R_typed (aR HO172)) (by decide) hg)
              have n1_ := aM (Kd.N_afterv (ok := (fun k_ => (w.heap.size ≤ k_) ∧ some k_ ≠ (.slice Ao13 t158.length co13 : Value).ownBlock ∧ k_ ≠ gb155 ∧ k_ ≠ gb156 ∧ k_ ≠ gb157 ∧ k_ ≠ gb164)) (aN HO_165001) hg hat)
              have n2_ := aM (blk_grown (g := gb155) aK hg (Kd.R_ne HO172.out BK155.out (by decide)))
              have n3_ := aM (blk_grown (g := gb156) aK hg (Kd.R_ne HO172.out BK156.out (by decide)))
              have n4_ := aM (blk_grown (g := gb157) aK hg (Kd.R_ne HO172.out BK157.out (by decide)))
              have n5_ := aM (blk_grown (g := gb164) aK hg (Kd.R_ne HO172.out BK164.out (by decide)))
              have n6_ := aM (Kd.V_afterv (ok := (fun k_ => (w.heap.size ≤ k_) ∧ some k_ ≠ (.slice Ao13 t158.length co13 : Value).ownBlock ∧ some k_ ≠ (.slice (some ad168) t161.length co18 : Value).ownBlock ∧ k_ ≠ gb155 ∧ k_ ≠ gb156 ∧ k_ ≠ gb157 ∧ k_ ≠ gb164)) (by (with_reducible repeat apply pV); exact Kd.V_mono HL168_1.out (fun _ hk => ⟨⟨hk.1.1.1, ⟨hk.1.1.2.1, ⟨hk.1.2, ⟨hk.1.1.2.2.1, ⟨hk.1.1.2.2.2.1, ⟨hk.1.1.2.2.2.2.1, hk.1.1.2.2.2.2.2⟩⟩⟩⟩⟩⟩, hk.2⟩)) hg hat)
              have n7_ := aM (Kd.V_afterv (ok := (fun k_ => (w.heap.size ≤ k_) ∧ some k_ ≠ (.slice Ao13 t158.length co13 : Value).ownBlock ∧ k_ ≠ gb155 ∧ k_ ≠ gb156 ∧ k_ ≠ gb157 ∧ k_ ≠ gb164)) (aV HO183) hg hat)
              have n8_ := aM (hb)
              have n9_ := aM (ho)
              clear HO_165000
              clear HO_165001
              clear BK155
              clear BK156
              clear BK157
              clear BK164
              clear HL168_1
              clear HO183
              clear HB
              clear HO172
              have HO_165000 := n0_
              have HO_165001 := n1_
              have BK155 := n2_
              have BK156 := n3_
              have BK157 := n4_
              have BK164 := n5_
              have HL168_1 := n6_
              have HO183 := n7_
              have HB := n8_
              have HO175 := n9_
              clear n0_ n1_ n2_ n3_ n4_ n5_ n6_ n7_ n8_ n9_
              clear ho hb hg hat
              obtain ⟨Ao96, co96, eo96⟩ := Kd.R_slice HO175.out
              (first | subst eo96 | (injection eo96 with f1_ f2_ f3_; have f4_ := f1_.symm; have f5_ := f3_.symm; clear f1_ f2_ f3_; subst f4_; subst f5_))
              refine hK.out _ _ ⟨(blk_cell BK156.out 0).trans rfl, (blk_cell BK156.out 1).trans rfl, (blk_cell BK164.out 0).trans rfl, (blk_cell BK164.out 1).trans rfl⟩ (fun hHeld => ?_)
              clear hK K
              refine nU 55 ?_
              refine pU 6 56 ?_
              refine oU 7 57 (fun K hK => ?_)
              refine Kd.N_lit_step k45 _ 45 ?hg (N' := 57) ?hd (xs := ([(⟨a1_0, y173⟩ : S45)] : List (S45))) (inner := [.int .i64 a1_0, .slice Ao96 y173.length co96]) (ok := (fun k_ => (w.heap.size ≤ k_) ∧ some k_ ≠ (.slice Ao13 t158.length co13 : Value).ownBlock ∧ some k_ ≠ (.slice (some ad168) t161.length co18 : Value).ownBlock ∧ k_ ≠ gb155 ∧ k_ ≠ gb156 ∧ k_ ≠ gb157 ∧ k_ ≠ gb164)) (okp := (fun k_ => (w.heap.size ≤ k_) ∧ some k_ ≠ (.slice Ao13 t158.length co13 : Value).ownBlock ∧ some k_ ≠ (.slice (some ad168) t161.length co18 : Value).ownBlock ∧ k_ ≠ gb155 ∧ k_ ≠ gb156 ∧ k_ ≠ gb157 ∧ k_ ≠ gb164)) ?hr ?hp (fun _ hk => hk) ((show ∀ k_, w95.heap.size ≤ k_ → (fun k_ => (w.heap.size ≤ k_) ∧ some k_ ≠ (.slice Ao13 t158.length co13 : Value).ownBlock ∧ some k_ ≠ (.slice (some ad168) t161.length co18 : Value).ownBlock ∧ k_ ≠ gb155 ∧ k_ ≠ gb156 ∧ k_ ≠ gb157 ∧ k_ ≠ gb164) k_ from fun k_ hk => ⟨(Nat.le_trans (below_size aG) hk), Kd.fresh' (Kd.R_lt (aR HO_165000)) k_ hk, Kd.fresh' (Kd.N_lt (aN HO_165001)) k_ hk, Kd.freshB (g := gb155) aK k_ hk, Kd.freshB (g := gb156) aK k_ hk, Kd.freshB (g := gb157) aK k_ hk, Kd.freshB (g := gb164) aK k_ hk⟩) _ (Nat.le_refl _)) (Below.refl _ _) (Nat.le_refl _) (by simp) ?_; (case hd => rfl); (case hg => rfl); (case hr => first | (go_simp; done) | (go_simp; rfl)); (case hp => exact (Reps.c2 (show Kd.FK k45 _ _ (⟨a1_0, y173⟩ : S45) [.int .i64 a1_0, .slice Ao96 y173.length co96] from (k45_mkF _ _ (⟨a1_0, y173⟩ : S45) (Kd.R_reads' (Kd.R_mono (ok' := (fun k_ => (w.heap.size ≤ k_) ∧ some k_ ≠ (.slice Ao13 t158.length co13 : Value).ownBlock ∧ some k_ ≠ (.slice (some ad168) t161.length co18 : Value).ownBlock ∧ k_ ≠ gb155 ∧ k_ ≠ gb156 ∧ k_ ≠ gb157 ∧ k_ ≠ gb164)) (Kd.R_types (Kd.R_types (Kd.R_types (Kd.R_types (Kd.R_apart' (Kd.R_apart' (HO175.out) (Kd.R_typed HO_165000.out) (by decide)) (Kd.N_typed HO_165001.out) (by decide)) BK155.out (by decide)) BK156.out (by decide)) BK157.out (by decide)) BK164.out (by decide)) (fun k_ hk => ⟨hk.1.1.1.1.1.1, ⟨hk.1.1.1.1.1.2, ⟨hk.1.1.1.1.2, ⟨hk.1.1.1.2, ⟨hk.1.1.2, ⟨hk.1.2, hk.2⟩⟩⟩⟩⟩⟩))).2.1 (Kd.R_F (Kd.R_mono (ok' := (fun k_ => (w.heap.size ≤ k_) ∧ some k_ ≠ (.slice Ao13 t158.length co13 : Value).ownBlock ∧ some k_ ≠ (.slice (some ad168) t161.length co18 : Value).ownBlock ∧ k_ ≠ gb155 ∧ k_ ≠ gb156 ∧ k_ ≠ gb157 ∧ k_ ≠ gb164)) (Kd.R_types (Kd.R_types (Kd.R_types (Kd.R_types (Kd.R_apart' (Kd.R_apart' (HO175.out) (Kd.R_typed HO_165000.out) (by decide)) (Kd.N_typed HO_165001.out) (by decide)) BK155.out (by decide)) BK156.out (by decide)) BK157.out (by decide)) BK164.out (by decide)) (fun k_ hk => ⟨hk.1.1.1.1.1.1, ⟨hk.1.1.1.1.1.2, ⟨hk.1.1.1.1.2, ⟨hk.1.1.1.2, ⟨hk.1.1.2, ⟨hk.1.2, hk.2⟩⟩⟩⟩⟩⟩))))) (Reps.none _ _)))
              intro v177 w97 ho98 hb hg_ hnew_
              clear hg_ hnew_
              (first | rw [← Ny176.out] at ho98 | (simp only [Int.reduceToNat] at ho98; rw [← Ny176.out] at ho98))
              have n0_ := aM (Kd.R_below (aR HO_165000) hb)
              have n1_ := aM (Kd.N_elder' (aN HO_165001) (Kd.N_base ho98) hb)
              have n2_ := aM (Kd.V_elder' (aV HL168_1) (Kd.N_base ho98) hb)
              have n3_ := aM (Kd.V_elder' (aV HO183) (Kd.N_base ho98) hb)
              have n4_ := aM (Kd.N_lower ho98 (below_size aG))
              have n5_ := aM (kB gb155 #[.slice A0_0 l0_0.length c0_0, .slice A0_1 l0_1.length c0_1] 31 hb)
              have n6_ := aM (kB gb156 #[.int .i64 a1_0, .slice A1_1 l1_1.length c1_1] 45 hb)
              have n7_ := aM (kB gb157 #[.slice none 0 0, .slice none 0 0] 31 hb)
              have n8_ := aM (kB gb164 #[.slice Ao13 t158.length co13, .slice (some ad168) t161.length co18] 31 hb)
              have n9_ := aM (below_step aG hb)
              clear HO_165000
              clear HO_165001
              clear HL168_1
              clear HO183
              clear BK155
              clear BK156
              clear BK157
              clear BK164
              clear HB
              clear HO175
              have HO_165000 := n0_
              have HO_165001 := n1_
              have HL168_1 := n2_
              have HO183 := n3_
              have HO178 := n4_
              have BK155 := n5_
              have BK156 := n6_
              have BK157 := n7_
              have BK164 := n8_
              have HB := n9_
              clear n0_ n1_ n2_ n3_ n4_ n5_ n6_ n7_ n8_ n9_
              clear hb ho98
              refine hK.out _ _ ⟨(blk_cell BK156.out 0).trans rfl, (blk_cell BK156.out 1).trans rfl, (blk_cell BK164.out 0).trans rfl, (blk_cell BK164.out 1).trans rfl⟩ (fun hHeld => ?_)
              clear hK K
              refine nU 57 ?_
              refine oU 12 62 (fun K hK => ?_)
              refine Kd.N_append_rows_step k45 (w0 := w) w.heap.size (by rfl) (.tmp 57) (.tmp 61) 29 45 (.agg #[(.int .i64 0), (.slice none 0 0)]) 32 rfl Try.underlying29 info45 rfl (by decide) (by omega) v177 y176 y179 _ _ _ (fun k_ => (w.heap.size ≤ k_) ∧ some k_ ≠ (.slice Ao13 t158.length co13 : Value).ownBlock ∧ k_ ≠ gb155 ∧ k_ ≠ gb156 ∧ k_ ≠ gb157 ∧ k_ ≠ gb164) (fun k_ => ((fun k_ => (w.heap.size ≤ k_) ∧ some k_ ≠ (.slice Ao13 t158.length co13 : Value).ownBlock ∧ k_ ≠ gb155 ∧ k_ ≠ gb156 ∧ k_ ≠ gb157 ∧ k_ ≠ gb164)) k_ ∧ some k_ ≠ (v177 : Value).ownBlock) rfl rfl ?aO ?aR (fun _ hk => hk) ?aF ?aB ?aS ?aL ?_
              (case aR => exact (by skip; exact Kd.V_F (Kd.V_mono (ok' := (fun k_ => ((fun k_ => (w.heap.size ≤ k_) ∧ some k_ ≠ (.slice Ao13 t158.length co13 : Value).ownBlock ∧ k_ ≠ gb155 ∧ k_ ≠ gb156 ∧ k_ ≠ gb157 ∧ k_ ≠ gb164)) k_ ∧ some k_ ≠ (v177 : Value).ownBlock)) (HO183.out) (fun k_ hk => ⟨⟨hk.1.1.1, ⟨hk.1.1.2.1, ⟨hk.1.1.2.2.1, ⟨hk.1.1.2.2.2.1, ⟨hk.1.1.2.2.2.2.1, hk.1.1.2.2.2.2.2⟩⟩⟩⟩⟩, hk.2⟩))))
              (case aB => exact aG)
              (case aF => exact (fun k_ hk => ⟨(Nat.le_trans (below_size aG) hk), Kd.fresh' (Kd.R_lt (aR HO_165000)) k_ hk, Kd.freshB (g := gb155) aK k_ hk, Kd.freshB (g := gb156) aK k_ hk, Kd.freshB (g := gb157) aK k_ hk, Kd.freshB (g := gb164) aK k_ hk⟩))
              (case aO => exact (by (with_reducible repeat apply pN); exact Kd.N_mono HO178.out (fun _ hk => ⟨hk.1, ⟨hk.2.1, ⟨hk.2.2.2.1, ⟨hk.2.2.2.2.1, ⟨hk.2.2.2.2.2.1, hk.2.2.2.2.2.2⟩⟩⟩⟩⟩)))
              (case aS => exact (below_size aG))
              (case aL => have := LMc84.out; omega)
              intro v185 w99 ho hb hg hat
              rw [← Ny184.out] at ho
              have n0_ := aM (Kd.R_over' (aR HO_165000) (Kd.N_typed (aN HO178)) (by decide) hg)
              have n1_ := aM (Kd.N_afterv (ok := (fun k_ => (w.heap.size ≤ k_) ∧ some k_ ≠ (.slice Ao13 t158.length co13 : Value).ownBlock ∧ k_ ≠ gb155 ∧ k_ ≠ gb156 ∧ k_ ≠ gb157 ∧ k_ ≠ gb164)) (by (with_reducible repeat apply pN); exact Kd.N_mono HO_165001.out (fun _ hk => ⟨⟨hk.1.1.1, ⟨hk.1.1.2.1, ⟨hk.1.1.2.2.1, ⟨hk.1.1.2.2.2.1, ⟨hk.1.1.2.2.2.2.1, hk.1.1.2.2.2.2.2⟩⟩⟩⟩⟩, hk.2⟩)) hg hat)
              have n2_ := aM (blk_grown (g := gb155) aK hg (Kd.N_ne HO178.out BK155.out (by decide)))
              have n3_ := aM (blk_grown (g := gb156) aK hg (Kd.N_away HO178.out (fun _ hk => hk.2.2.2.2.1)))
              have n4_ := aM (blk_grown (g := gb157) aK hg (Kd.N_ne HO178.out BK157.out (by decide)))
              have n5_ := aM (blk_grown (g := gb164) aK hg (Kd.N_ne HO178.out BK164.out (by decide)))
              have n6_ := aM (Kd.V_afterv (ok := (fun k_ => (w.heap.size ≤ k_) ∧ some k_ ≠ (.slice Ao13 t158.length co13 : Value).ownBlock ∧ some k_ ≠ (.slice (some ad168) t161.length co18 : Value).ownBlock ∧ k_ ≠ gb155 ∧ k_ ≠ gb156 ∧ k_ ≠ gb157 ∧ k_ ≠ gb164)) (by (with_reducible repeat apply pV); exact Kd.V_mono HL168_1.out (fun _ hk => ⟨⟨hk.1.1.1, ⟨hk.1.1.2.1, ⟨hk.1.1.2.2.1, ⟨hk.1.1.2.2.2.1, ⟨hk.1.1.2.2.2.2.1, ⟨hk.1.1.2.2.2.2.2.1, hk.1.1.2.2.2.2.2.2⟩⟩⟩⟩⟩⟩, hk.2⟩)) hg hat)
              have n7_ := aM (Kd.V_afterv (ok := (fun k_ => (w.heap.size ≤ k_) ∧ some k_ ≠ (.slice Ao13 t158.length co13 : Value).ownBlock ∧ k_ ≠ gb155 ∧ k_ ≠ gb156 ∧ k_ ≠ gb157 ∧ k_ ≠ gb164)) (by (with_reducible repeat apply pV); exact Kd.V_mono HO183.out (fun _ hk => ⟨⟨hk.1.1.1, ⟨hk.1.1.2.1, ⟨hk.1.1.2.2.1, ⟨hk.1.1.2.2.2.1, ⟨hk.1.1.2.2.2.2.1, hk.1.1.2.2.2.2.2⟩⟩⟩⟩⟩, hk.2⟩)) hg hat)
              have n8_ := aM (hb)
              have n9_ := aM (ho)
              clear HO_165000
              clear HO_165001
              clear BK155
              clear BK156
              clear BK157
              clear BK164
              clear HL168_1
              clear HO183
              clear HB
              clear HO178
              have HO_165000 := n0_
              have HO_165001 := n1_
              have BK155 := n2_
              have BK156 := n3_
              have BK157 := n4_
              have BK164 := n5_
              have HL168_1 := n6_
              have HO183 := n7_
              have HB := n8_
              have HO186 := n9_
              clear n0_ n1_ n2_ n3_ n4_ n5_ n6_ n7_ n8_ n9_
              clear ho hb hg hat
              refine hK.out _ _ ⟨(blk_cell BK156.out 0).trans rfl, (blk_cell BK156.out 1).trans rfl, (blk_cell BK164.out 0).trans rfl, (blk_cell BK164.out 1).trans rfl⟩ (fun hHeld => ?_)
              clear hK K
              refine nU 62 ?_
              refine pU 13 8 ?_
              refine done_ (done_of HT_.out (by kernel_rfl)) ?_
              try go_wp2_with (first | ((with_reducible refine gate_dst (N := 63) rfl ?_); (try (refine gate_guard (by rfl) ?_; dsimp only)); refine Kd.N_lit k45 _ 45 ?hg (N' := 63) ?hd (xs := ([] : List (S45))) (inner := []) (ok := (fun k_ => (w.heap.size ≤ k_) ∧ some k_ ≠ (.slice Ao13 t158.length co13 : Value).ownBlock ∧ some k_ ≠ (.slice (some ad168) t161.length co18 : Value).ownBlock ∧ some k_ ≠ (v185 : Value).ownBlock ∧ k_ ≠ gb155 ∧ k_ ≠ gb156 ∧ k_ ≠ gb157 ∧ k_ ≠ gb164)) (okp := (fun k_ => (w.heap.size ≤ k_) ∧ some k_ ≠ (.slice Ao13 t158.length co13 : Value).ownBlock ∧ some k_ ≠ (.slice (some ad168) t161.length co18 : Value).ownBlock ∧ some k_ ≠ (v185 : Value).ownBlock ∧ k_ ≠ gb155 ∧ k_ ≠ gb156 ∧ k_ ≠ gb157 ∧ k_ ≠ gb164)) ?hr ?hp (fun _ hk => hk) ((show ∀ k_, w99.heap.size ≤ k_ → (fun k_ => (w.heap.size ≤ k_) ∧ some k_ ≠ (.slice Ao13 t158.length co13 : Value).ownBlock ∧ some k_ ≠ (.slice (some ad168) t161.length co18 : Value).ownBlock ∧ some k_ ≠ (v185 : Value).ownBlock ∧ k_ ≠ gb155 ∧ k_ ≠ gb156 ∧ k_ ≠ gb157 ∧ k_ ≠ gb164) k_ from fun k_ hk => ⟨(Nat.le_trans (below_size aG) hk), Kd.fresh' (Kd.R_lt (aR HO_165000)) k_ hk, Kd.fresh' (Kd.N_lt (aN HO_165001)) k_ hk, Kd.fresh' (Kd.N_lt (aN HO186)) k_ hk, Kd.freshB (g := gb155) aK k_ hk, Kd.freshB (g := gb156) aK k_ hk, Kd.freshB (g := gb157) aK k_ hk, Kd.freshB (g := gb164) aK k_ hk⟩) _ (Nat.le_refl _)) (Below.refl _ _) (Nat.le_refl _) (by simp) ?_; (case hd => rfl); (case hg => rfl); (case hr => first | (go_simp; done) | (go_simp; rfl)); (case hp => exact (Reps.none _ _)); intro v188 w100 ho101 hb hg_ hnew_; clear hg_ hnew_; (first | rw [← Ny187.out] at ho101 | (simp only [Int.reduceToNat] at ho101; rw [← Ny187.out] at ho101)); have n0_ := aM (Kd.R_below (aR HO_165000) hb); have n1_ := aM (Kd.N_elder' (aN HO_165001) (Kd.N_base ho101) hb); have n2_ := aM (Kd.V_elder' (aV HL168_1) (Kd.N_base ho101) hb); have n3_ := aM (Kd.V_elder' (aV HO183) (Kd.N_base ho101) hb); have n4_ := aM (Kd.N_elder' (aN HO186) (Kd.N_base ho101) hb); have n5_ := aM (Kd.N_lower ho101 (below_size aG)); have n6_ := aM (kB gb155 #[.slice A0_0 l0_0.length c0_0, .slice A0_1 l0_1.length c0_1] 31 hb); have n7_ := aM (kB gb156 #[.int .i64 a1_0, .slice A1_1 l1_1.length c1_1] 45 hb); have n8_ := aM (kB gb157 #[.slice none 0 0, .slice none 0 0] 31 hb); have n9_ := aM (kB gb164 #[.slice Ao13 t158.length co13, .slice (some ad168) t161.length co18] 31 hb); have n10_ := aM (below_step aG hb); clear HO_165000; clear HO_165001; clear HL168_1; clear HO183; clear HO186; clear BK155; clear BK156; clear BK157; clear BK164; clear HB; have HO_165000 := n0_; have HO_165001 := n1_; have HL168_1 := n2_; have HO183 := n3_; have HO186 := n4_; have HO189 := n5_; have BK155 := n6_; have BK156 := n7_; have BK157 := n8_; have BK164 := n9_; have HB := n10_; clear n0_ n1_ n2_ n3_ n4_ n5_ n6_ n7_ n8_ n9_ n10_; clear hb ho101; have hnb102 := NB164_155.out; have hnc102 := NB155_164.out; have hnb103 := NB164_156.out; have hnc103 := NB156_164.out; have hnb104 := NB164_157.out; have hnc104 := NB157_164.out; have hcz105_0 : w100.cell? ⟨gb164, 0, none⟩ = some (.slice Ao13 t158.length co13) := (blk_cell BK164.out 0).trans rfl; have hcz105_1 : w100.cell? ⟨gb164, 1, none⟩ = some (.slice (some ad168) t161.length co18) := (blk_cell BK164.out 1).trans rfl; have hfz105_0 := blk_frozen BK164.out 0; have hfz105_1 := blk_frozen BK164.out 1; have q106 : (x7_2 : Int) ≤ ((t161.length : Int) : Int) := aD; obtain ⟨i0106, hi0106, _, hsz106, _⟩ := info_parts info45; have hroom106 : t161.length ≤ co18 := (Kd.N_reads' HO_165001.out).2.1; have hC106 : Kd.F k45 _ _ (some ad168) t161.length t161 := (Kd.V_at (base := w.heap.size) (Kd.N_V HO_165001.out)).2.2; have hcut106 := cut_to (P := Try.prog) 29 45 .i64 Try.underlying29 hi0106 (some ad168) t161.length co18 x7_2 (aD) q106 hroom106; have hr106 := Kd.F_take (m := (x7_2 : Int).toNat) hC106 (by omega); have hy106 : y190.length = (x7_2 : Int).toNat := (by rw [Ny190.out, List.length_take]; omega); rw [← Ny190.out] at hr106; rw [← hy106] at hcut106; have HO194 := aM (show Kd.V k45 45 _ w.heap.size _ (.slice (some ad168) y190.length co18) y190 from Kd.V_mk (by omega) hr106); have HC194 := aM (show y190.length ≤ co18 from by omega); clear hr106 hC106 hroom106 hi0106 hsz106; have KY106 := aM hy106; clear hy106; replace q106 := eq_true q106) | ((with_reducible refine gate_builtin (b := .append) (xs := #[.tmp 63, .tmp 67]) rfl ?_); (try (refine gate_guard (by rfl) ?_; dsimp only)); at_builtin; refine Kd.N_append_rows k45 (w0 := w) w.heap.size rfl (.tmp 63) (.tmp 67) 29 45 (.agg #[(.int .i64 0), (.slice none 0 0)]) 32 rfl Try.underlying29 info45 rfl (by decide) (by omega) v188 y187 y190 _ _ _ (fun k_ => (w.heap.size ≤ k_) ∧ some k_ ≠ (.slice Ao13 t158.length co13 : Value).ownBlock ∧ some k_ ≠ (v185 : Value).ownBlock ∧ k_ ≠ gb155 ∧ k_ ≠ gb156 ∧ k_ ≠ gb157 ∧ k_ ≠ gb164) (fun k_ => ((fun k_ => (w.heap.size ≤ k_) ∧ some k_ ≠ (.slice Ao13 t158.length co13 : Value).ownBlock ∧ some k_ ≠ (v185 : Value).ownBlock ∧ k_ ≠ gb155 ∧ k_ ≠ gb156 ∧ k_ ≠ gb157 ∧ k_ ≠ gb164)) k_ ∧ some k_ ≠ (v188 : Value).ownBlock) rfl rfl ?aO ?aR (fun _ hk => hk) ?aF ?aB ?aS ?aL ?_; (case aR => exact (by skip; exact Kd.V_F (Kd.V_mono (ok' := (fun k_ => ((fun k_ => (w.heap.size ≤ k_) ∧ some k_ ≠ (.slice Ao13 t158.length co13 : Value).ownBlock ∧ some k_ ≠ (v185 : Value).ownBlock ∧ k_ ≠ gb155 ∧ k_ ≠ gb156 ∧ k_ ≠ gb157 ∧ k_ ≠ gb164)) k_ ∧ some k_ ≠ (v188 : Value).ownBlock)) (HO194.out) (fun k_ hk => ⟨⟨hk.1.1.1, ⟨hk.1.1.2.1, ⟨hk.1.2, ⟨hk.1.1.2.2.1, ⟨hk.1.1.2.2.2.1, ⟨hk.1.1.2.2.2.2.1, hk.1.1.2.2.2.2.2⟩⟩⟩⟩⟩⟩, hk.2⟩)))); (case aB => exact aG); (case aF => exact (fun k_ hk => ⟨(Nat.le_trans (below_size aG) hk), Kd.fresh' (Kd.R_lt (aR HO_165000)) k_ hk, Kd.fresh' (Kd.N_lt (aN HO186)) k_ hk, Kd.freshB (g := gb155) aK k_ hk, Kd.freshB (g := gb156) aK k_ hk, Kd.freshB (g := gb157) aK k_ hk, Kd.freshB (g := gb164) aK k_ hk⟩)); (case aO => exact (by (with_reducible repeat apply pN); exact Kd.N_mono HO189.out (fun _ hk => ⟨hk.1, ⟨hk.2.1, ⟨hk.2.2.2.1, ⟨hk.2.2.2.2.1, ⟨hk.2.2.2.2.2.1, ⟨hk.2.2.2.2.2.2.1, hk.2.2.2.2.2.2.2⟩⟩⟩⟩⟩⟩))); (case aS => exact (below_size aG)); (case aL => have := LMc87.out; omega); intro v196 w107 ho hb hg hat; rw [← Ny195.out] at ho; have n0_ := aM (Kd.R_over' (aR HO_165000) (Kd.N_typed (aN HO189)) (by decide) hg); have n1_ := aM (Kd.N_afterv (ok := (fun k_ => (w.heap.size ≤ k_) ∧ some k_ ≠ (.slice Ao13 t158.length co13 : Value).ownBlock ∧ some k_ ≠ (v185 : Value).ownBlock ∧ k_ ≠ gb155 ∧ k_ ≠ gb156 ∧ k_ ≠ gb157 ∧ k_ ≠ gb164)) (by (with_reducible repeat apply pN); exact Kd.N_mono HO_165001.out (fun _ hk => ⟨⟨hk.1.1.1, ⟨hk.1.1.2.1, ⟨hk.1.2, ⟨hk.1.1.2.2.1, ⟨hk.1.1.2.2.2.1, ⟨hk.1.1.2.2.2.2.1, hk.1.1.2.2.2.2.2⟩⟩⟩⟩⟩⟩, hk.2⟩)) hg hat); have n2_ := aM (blk_grown (g := gb155) aK hg (Kd.N_ne HO189.out BK155.out (by decide))); have n3_ := aM (blk_grown (g := gb156) aK hg (Kd.N_away HO189.out (fun _ hk => hk.2.2.2.2.2.1))); have n4_ := aM (blk_grown (g := gb157) aK hg (Kd.N_ne HO189.out BK157.out (by decide))); have n5_ := aM (blk_grown (g := gb164) aK hg (Kd.N_ne HO189.out BK164.out (by decide))); have n6_ := aM (Kd.V_afterv (ok := (fun k_ => (w.heap.size ≤ k_) ∧ some k_ ≠ (.slice Ao13 t158.length co13 : Value).ownBlock ∧ some k_ ≠ (.slice (some ad168) t161.length co18 : Value).ownBlock ∧ some k_ ≠ (v185 : Value).ownBlock ∧ k_ ≠ gb155 ∧ k_ ≠ gb156 ∧ k_ ≠ gb157 ∧ k_ ≠ gb164)) (by (with_reducible repeat apply pV); exact Kd.V_mono HL168_1.out (fun _ hk => ⟨⟨hk.1.1.1, ⟨hk.1.1.2.1, ⟨hk.1.1.2.2.1, ⟨hk.1.2, ⟨hk.1.1.2.2.2.1, ⟨hk.1.1.2.2.2.2.1, ⟨hk.1.1.2.2.2.2.2.1, hk.1.1.2.2.2.2.2.2⟩⟩⟩⟩⟩⟩⟩, hk.2⟩)) hg hat); have n7_ := aM (Kd.V_afterv (ok := (fun k_ => (w.heap.size ≤ k_) ∧ some k_ ≠ (.slice Ao13 t158.length co13 : Value).ownBlock ∧ some k_ ≠ (v185 : Value).ownBlock ∧ k_ ≠ gb155 ∧ k_ ≠ gb156 ∧ k_ ≠ gb157 ∧ k_ ≠ gb164)) (by (with_reducible repeat apply pV); exact Kd.V_mono HO183.out (fun _ hk => ⟨⟨hk.1.1.1, ⟨hk.1.1.2.1, ⟨hk.1.2, ⟨hk.1.1.2.2.1, ⟨hk.1.1.2.2.2.1, ⟨hk.1.1.2.2.2.2.1, hk.1.1.2.2.2.2.2⟩⟩⟩⟩⟩⟩, hk.2⟩)) hg hat); have n8_ := aM (Kd.N_afterv (ok := (fun k_ => (w.heap.size ≤ k_) ∧ some k_ ≠ (.slice Ao13 t158.length co13 : Value).ownBlock ∧ k_ ≠ gb155 ∧ k_ ≠ gb156 ∧ k_ ≠ gb157 ∧ k_ ≠ gb164)) (aN HO186) hg hat); have n9_ := aM (Kd.V_afterv (ok := (fun k_ => (w.heap.size ≤ k_) ∧ some k_ ≠ (.slice Ao13 t158.length co13 : Value).ownBlock ∧ some k_ ≠ (v185 : Value).ownBlock ∧ k_ ≠ gb155 ∧ k_ ≠ gb156 ∧ k_ ≠ gb157 ∧ k_ ≠ gb164)) (by (with_reducible repeat apply pV); exact Kd.V_mono HO194.out (fun _ hk => ⟨⟨hk.1.1.1, ⟨hk.1.1.2.1, ⟨hk.1.2, ⟨hk.1.1.2.2.1, ⟨hk.1.1.2.2.2.1, ⟨hk.1.1.2.2.2.2.1, hk.1.1.2.2.2.2.2⟩⟩⟩⟩⟩⟩, hk.2⟩)) hg hat); have n10_ := aM (hb); have n11_ := aM (ho); clear HO_165000; clear HO_165001; clear BK155; clear BK156; clear BK157; clear BK164; clear HL168_1; clear HO183; clear HO186; clear HO194; clear HB; clear HO189; have HO_165000 := n0_; have HO_165001 := n1_; have BK155 := n2_; have BK156 := n3_; have BK157 := n4_; have BK164 := n5_; have HL168_1 := n6_; have HO183 := n7_; have HO186 := n8_; have HO194 := n9_; have HB := n10_; have HO197 := n11_; clear n0_ n1_ n2_ n3_ n4_ n5_ n6_ n7_ n8_ n9_ n10_ n11_; clear ho hb hg hat; obtain ⟨Ao109, co109, eo109⟩ := Kd.N_slice HO186.out; subst eo109) | ((with_reducible refine gate_builtin (b := .append) (xs := #[.tmp 68, .tmp 69]) rfl ?_); (try (refine gate_guard (by rfl) ?_; dsimp only)); at_builtin; refine Kd.N_append_rows k45 (w0 := w) w.heap.size rfl (.tmp 68) (.tmp 69) 29 45 (.agg #[(.int .i64 0), (.slice none 0 0)]) 32 rfl Try.underlying29 info45 rfl (by decide) (by omega) v196 y195 y184 _ _ _ (fun k_ => (w.heap.size ≤ k_) ∧ some k_ ≠ (.slice Ao13 t158.length co13 : Value).ownBlock ∧ k_ ≠ gb155 ∧ k_ ≠ gb156 ∧ k_ ≠ gb157 ∧ k_ ≠ gb164) (fun k_ => ((fun k_ => (w.heap.size ≤ k_) ∧ some k_ ≠ (.slice Ao13 t158.length co13 : Value).ownBlock ∧ k_ ≠ gb155 ∧ k_ ≠ gb156 ∧ k_ ≠ gb157 ∧ k_ ≠ gb164)) k_ ∧ some k_ ≠ (v196 : Value).ownBlock) rfl rfl ?aO ?aR (fun _ hk => hk) ?aF ?aB ?aS ?aL ?_; (case aR => exact (by skip; exact Kd.N_F (Kd.N_mono (ok' := (fun k_ => ((fun k_ => (w.heap.size ≤ k_) ∧ some k_ ≠ (.slice Ao13 t158.length co13 : Value).ownBlock ∧ k_ ≠ gb155 ∧ k_ ≠ gb156 ∧ k_ ≠ gb157 ∧ k_ ≠ gb164)) k_ ∧ some k_ ≠ (v196 : Value).ownBlock)) (HO186.out) (fun k_ hk => ⟨⟨hk.1.1, ⟨hk.1.2.1, ⟨hk.1.2.2.1, ⟨hk.1.2.2.2.1, ⟨hk.1.2.2.2.2.1, hk.1.2.2.2.2.2⟩⟩⟩⟩⟩, hk.2⟩)))); (case aB => exact aG); (case aF => exact (fun k_ hk => ⟨(Nat.le_trans (below_size aG) hk), Kd.fresh' (Kd.R_lt (aR HO_165000)) k_ hk, Kd.freshB (g := gb155) aK k_ hk, Kd.freshB (g := gb156) aK k_ hk, Kd.freshB (g := gb157) aK k_ hk, Kd.freshB (g := gb164) aK k_ hk⟩)); (case aO => exact (by (with_reducible repeat apply pN); exact Kd.N_mono HO197.out (fun _ hk => ⟨hk.1, ⟨hk.2.1, ⟨hk.2.2.2.1, ⟨hk.2.2.2.2.1, ⟨hk.2.2.2.2.2.1, hk.2.2.2.2.2.2⟩⟩⟩⟩⟩))); (case aS => exact (below_size aG)); (case aL => have := LMc88.out; omega); intro v199 w108 ho hb hg hat; rw [← Ny198.out] at ho; have n0_ := aM (Kd.R_over' (aR HO_165000) (Kd.N_typed (aN HO197)) (by decide) hg); have n1_ := aM (Kd.N_afterv (ok := (fun k_ => (w.heap.size ≤ k_) ∧ some k_ ≠ (.slice Ao13 t158.length co13 : Value).ownBlock ∧ some k_ ≠ (.slice Ao109 y184.length co109 : Value).ownBlock ∧ k_ ≠ gb155 ∧ k_ ≠ gb156 ∧ k_ ≠ gb157 ∧ k_ ≠ gb164)) (aN HO_165001) hg hat); have n2_ := aM (blk_grown (g := gb155) aK hg (Kd.N_ne HO197.out BK155.out (by decide))); have n3_ := aM (blk_grown (g := gb156) aK hg (Kd.N_away HO197.out (fun _ hk => hk.2.2.2.2.1))); have n4_ := aM (blk_grown (g := gb157) aK hg (Kd.N_ne HO197.out BK157.out (by decide))); have n5_ := aM (blk_grown (g := gb164) aK hg (Kd.N_ne HO197.out BK164.out (by decide))); have n6_ := aM (Kd.V_afterv (ok := (fun k_ => (w.heap.size ≤ k_) ∧ some k_ ≠ (.slice Ao13 t158.length co13 : Value).ownBlock ∧ some k_ ≠ (.slice (some ad168) t161.length co18 : Value).ownBlock ∧ some k_ ≠ (.slice Ao109 y184.length co109 : Value).ownBlock ∧ k_ ≠ gb155 ∧ k_ ≠ gb156 ∧ k_ ≠ gb157 ∧ k_ ≠ gb164)) (aV HL168_1) hg hat); have n7_ := aM (Kd.V_afterv (ok := (fun k_ => (w.heap.size ≤ k_) ∧ some k_ ≠ (.slice Ao13 t158.length co13 : Value).ownBlock ∧ some k_ ≠ (.slice Ao109 y184.length co109 : Value).ownBlock ∧ k_ ≠ gb155 ∧ k_ ≠ gb156 ∧ k_ ≠ gb157 ∧ k_ ≠ gb164)) (aV HO183) hg hat); have n8_ := aM (Kd.N_afterv (ok := (fun k_ => (w.heap.size ≤ k_) ∧ some k_ ≠ (.slice Ao13 t158.length co13 : Value).ownBlock ∧ k_ ≠ gb155 ∧ k_ ≠ gb156 ∧ k_ ≠ gb157 ∧ k_ ≠ gb164)) (aN HO186) hg hat); have n9_ := aM (Kd.V_afterv (ok := (fun k_ => (w.heap.size ≤ k_) ∧ some k_ ≠ (.slice Ao13 t158.length co13 : Value).ownBlock ∧ some k_ ≠ (.slice Ao109 y184.length co109 : Value).ownBlock ∧ k_ ≠ gb155 ∧ k_ ≠ gb156 ∧ k_ ≠ gb157 ∧ k_ ≠ gb164)) (aV HO194) hg hat); have n10_ := aM (hb); have n11_ := aM (ho); clear HO_165000; clear HO_165001; clear BK155; clear BK156; clear BK157; clear BK164; clear HL168_1; clear HO183; clear HO186; clear HO194; clear HB; clear HO197; have HO_165000 := n0_; have HO_165001 := n1_; have BK155 := n2_; have BK156 := n3_; have BK157 := n4_; have BK164 := n5_; have HL168_1 := n6_; have HO183 := n7_; have HO186 := n8_; have HO194 := n9_; have HB := n10_; have HO200 := n11_; clear n0_ n1_ n2_ n3_ n4_ n5_ n6_ n7_ n8_ n9_ n10_ n11_; clear ho hb hg hat; obtain ⟨Ao110, co110, eo110⟩ := Kd.N_slice HO200.out; subst eo110; have hcz111_0 : w108.cell? ⟨gb164, 0, none⟩ = some (.slice Ao13 t158.length co13) := (blk_cell BK164.out 0).trans rfl; have hcz111_1 : w108.cell? ⟨gb164, 1, none⟩ = some (.slice (some ad168) t161.length co18) := (blk_cell BK164.out 1).trans rfl; have hfz111_0 := blk_frozen BK164.out 0; have hfz111_1 := blk_frozen BK164.out 1; have hnb112 := NB157_155.out; have hnc112 := NB155_157.out; have hnb113 := NB157_156.out; have hnc113 := NB156_157.out; have hcz114_0 : w108.cell? ⟨gb157, 0, none⟩ = some (.slice none 0 0) := (blk_cell BK157.out 0).trans rfl; have hcz114_1 : w108.cell? ⟨gb157, 1, none⟩ = some (.slice none 0 0) := (blk_cell BK157.out 1).trans rfl; have hfz114_0 := blk_frozen BK157.out 0; have hfz114_1 := blk_frozen BK157.out 1))
              refine bodyPost_ret (results_ct rfl _ _ gb157 31 #[.slice Ao13 t158.length co13, .slice Ao110 y198.length co110] (0, 0) _ rfl (by (with_reducible repeat refine pB ?_); refine blk_put (cs := #[.slice Ao13 t158.length co13, .slice none 0 0]) ?_ 1 _ rfl; (with_reducible repeat refine pB ?_); refine blk_put (cs := #[.slice none 0 0, .slice none 0 0]) ?_ 0 _ rfl; (with_reducible repeat refine pB ?_); refine blk_far ?_ NB157_164.out _; (with_reducible repeat refine pB ?_); exact BK157.out) Try.underlying31 rfl (by kernel_rfl)) rfl ?_
              exact ⟨_, _, aE, by (with_reducible repeat apply pR); exact Kd.R_mono (Kd.R_far (p := ⟨gb157, 1, none⟩) (Kd.R_far (p := ⟨gb157, 0, none⟩) (Kd.R_far (p := ⟨gb164, 1, none⟩) (Kd.R_types (Kd.R_types HO_165000.out BK164.out (by decide)) BK157.out (by decide)) (fun _ hk => hk.1.2) (.slice Ao110 y198.length co110)) (fun _ hk => hk.2) (.slice Ao13 t158.length co13)) (fun _ hk => hk.2) (.slice Ao110 y198.length co110)) (fun _ hk => hk.1.1), by (with_reducible repeat apply pN); exact Kd.N_mono (Kd.N_far (p := ⟨gb157, 1, none⟩) (Kd.N_far (p := ⟨gb157, 0, none⟩) (Kd.N_far (p := ⟨gb164, 1, none⟩) (Kd.N_mono (Kd.N_mono HO200.out (fun k_ hk => (⟨hk, hk.2.2.2.2.2⟩ : _ ∧ k_ ≠ gb164))) (fun k_ hk => (⟨hk, hk.1.2.2.2.2.1⟩ : _ ∧ k_ ≠ gb157))) (fun _ hk => hk.1.2) (.slice Ao110 y198.length co110)) (fun _ hk => hk.2) (.slice Ao13 t158.length co13)) (fun _ hk => hk.2) (.slice Ao110 y198.length co110)) (fun _ hk => ⟨hk.1.1.1, hk.1.1.2.1⟩), aG⟩
             ·rw [if_neg c88] at H
              exact absurd H (by simp)
            ·rw [if_neg c87] at H
             exact absurd H (by simp)
           ·rw [if_neg c84] at H
            exact absurd H (by simp)
          ·rw [if_neg c83] at H
           exact absurd H (by simp)
         ·rw [if_neg c81] at H
          exact absurd H (by simp)
       ·rw [if_neg c76] at H
        exact absurd H (by simp)
      ·rw [if_neg c75] at H
       have c75b0 : decide (x7_2 < (t161.length : Int)) = false := decide_eq_false c75
       clear c75
       obtain ⟨y201, hy201⟩ : ∃ y_ : List Int, y_ = (([] : List Int)) := ⟨_, rfl⟩
       first | replace H := bY hy201 H | rw [← hy201] at H
       have Ny201 := aM hy201
       clear hy201
       by_cases c115 : y201.length + l1_1.length < 17592186044416
       ·rw [if_pos c115] at H
        have LMc115 := aM c115
        clear c115
        obtain ⟨y204, hy204⟩ : ∃ y_ : List Int, y_ = (y201 ++ l1_1) := ⟨_, rfl⟩
        first | replace H := bY hy204 H | rw [← hy204] at H
        have Ny204 := aM hy204
        clear hy204
        obtain ⟨y207, hy207⟩ : ∃ y_ : List (S45), y_ = (([(⟨a1_0, y204⟩ : S45)] : List (S45))) := ⟨_, rfl⟩
        first | replace H := bY hy207 H | rw [← hy207] at H
        have Ny207 := aM hy207
        clear hy207
        by_cases c116 : 0 ≤ x7_2
        ·rw [if_pos c116] at H
         have c116b0 := eq_true c116
         have c116b1 : decide (0 ≤ x7_2) = true := decide_eq_true c116
         clear c116
         by_cases c117 : x7_2 ≤ (t161.length : Int)
         ·rw [if_pos c117] at H
          have c117b0 := eq_true c117
          have c117b1 : decide (x7_2 ≤ (t161.length : Int)) = true := decide_eq_true c117
          clear c117
          obtain ⟨y210, hy210⟩ : ∃ y_ : List (S45), y_ = (t161.drop (x7_2 : Int).toNat) := ⟨_, rfl⟩
          first | replace H := bY hy210 H | rw [← hy210] at H
          have Ny210 := aM hy210
          clear hy210
          by_cases c118 : y207.length + y210.length < 4398046511104
          ·rw [if_pos c118] at H
           have LMc118 := aM c118
           clear c118
           obtain ⟨y215, hy215⟩ : ∃ y_ : List (S45), y_ = (y207 ++ y210) := ⟨_, rfl⟩
           first | replace H := bY hy215 H | rw [← hy215] at H
           have Ny215 := aM hy215
           clear hy215
           obtain ⟨y218, hy218⟩ : ∃ y_ : List (S45), y_ = (([] : List (S45))) := ⟨_, rfl⟩
           first | replace H := bY hy218 H | rw [← hy218] at H
           have Ny218 := aM hy218
           clear hy218
           have c119b0 := eq_true (aD : 0 ≤ x7_2)
           have c120b0 := eq_true (aD : x7_2 ≤ (t161.length : Int))
           obtain ⟨y221, hy221⟩ : ∃ y_ : List (S45), y_ = (t161.take (x7_2 : Int).toNat) := ⟨_, rfl⟩
           first | replace H := bY hy221 H | rw [← hy221] at H
           have Ny221 := aM hy221
           clear hy221
           by_cases c121 : y218.length + y221.length < 4398046511104
           ·rw [if_pos c121] at H
            have LMc121 := aM c121
            clear c121
            obtain ⟨y226, hy226⟩ : ∃ y_ : List (S45), y_ = (y218 ++ y221) := ⟨_, rfl⟩
            first | replace H := bY hy226 H | rw [← hy226] at H
            have Ny226 := aM hy226
            clear hy226
            by_cases c122 : y226.length + y215.length < 4398046511104
            ·rw [if_pos c122] at H
             have LMc122 := aM c122
             clear c122
             obtain ⟨y229, hy229⟩ : ∃ y_ : List (S45), y_ = (y226 ++ y215) := ⟨_, rfl⟩
             first | replace H := bY hy229 H | rw [← hy229] at H
             have Ny229 := aM hy229
             clear hy229
             simp only [Option.some.injEq, Prod.mk.injEq] at H
             obtain ⟨rfl, rfl, rfl⟩ := H
             try go_wp2
             replace HO_165000 := aM (Kd.R_drew HO_165000.out)
             replace HO_165001 := aM (Kd.N_drew HO_165001.out)
             replace BK155 := aM (blk_drew BK155.out)
             replace BK156 := aM (blk_drew BK156.out)
             replace BK157 := aM (blk_drew BK157.out)
             replace BK164 := aM (blk_drew BK164.out)
             replace HB := aM (below_drew1 HB.out)
             refine start_ (n := 15) (S := fun w' => w'.cell? ⟨gb164, 0, none⟩ = some (.slice Ao13 t158.length co13) ∧ w'.cell? ⟨gb164, 1, none⟩ = some (.slice Ao18 t161.length co18)) (ds := []) #[false, false, false, false, false, false, false, false, false, false, false, false, false, false, false] (by kernel_rfl) rfl rfl ⟨(blk_cell BK164.out 0).trans rfl, (blk_cell BK164.out 1).trans rfl⟩ (fun hHeld => ?_); refine with_tabW spec_InsertFact.tab5 spec_InsertFact.bits5 (fun HT_ HW_ => ?_)
             generalize wr.drew = w123 at HO_165000 HO_165001 BK155 BK156 BK157 BK164 HB hHeld ⊢
             refine pU 0 33 ?_
             refine pU 1 34 ?_
             refine tU2 2 35 hHeld ?_
             refine pU 3 36 ?_
             refine pU 4 37 ?_
             refine pU 5 38 ?_
             refine pure_ (i := 6) (N := some 39) (v := undef) (a' := ?_) #[true, true, true, true, true, true, true, false, false, false, false, false, false, false, false] rfl rfl (any_of HT_.out (by kernel_rfl)) (fun _ _ _ h => h) (Or.inr ⟨by rfl, rfl⟩) ?_ ?_
             rotate_left
             ·exact aP
             refine pure_ (i := 7) (N := some 40) (v := undef) (a' := ?_) #[true, true, true, true, true, true, true, true, false, false, false, false, false, false, false] rfl rfl (any_of HT_.out (by kernel_rfl)) (fun _ _ _ h => h) (Or.inr ⟨by rfl, rfl⟩) ?_ ?_
             rotate_left
             ·exact aP
             refine pure_ (i := 8) (N := some 41) (v := undef) (a' := ?_) #[true, true, true, true, true, true, true, true, true, false, false, false, false, false, false] rfl rfl (any_of HT_.out (by kernel_rfl)) (fun _ _ _ h => h) (Or.inr ⟨by rfl, rfl⟩) ?_ ?_
             rotate_left
             ·exact aP
             refine pure_ (i := 9) (N := some 42) (v := undef) (a' := ?_) #[true, true, true, true, true, true, true, true, true, true, false, false, false, false, false] rfl rfl (any_of HT_.out (by kernel_rfl)) (fun _ _ _ h => h) (Or.inr ⟨by rfl, rfl⟩) ?_ ?_
             rotate_left
             ·exact aP
             refine pure_ (i := 10) (N := some 43) (v := undef) (a' := ?_) #[true, true, true, true, true, true, true, true, true, true, true, false, false, false, false] rfl rfl (any_of HT_.out (by kernel_rfl)) (fun _ _ _ h => h) (Or.inr ⟨by rfl, rfl⟩) ?_ ?_
             rotate_left
             ·exact aP
             refine pure_ (i := 11) (N := some 44) (v := undef) (a' := ?_) #[true, true, true, true, true, true, true, true, true, true, true, true, false, false, false] rfl rfl (any_of HT_.out (by kernel_rfl)) (fun _ _ _ h => h) (Or.inr ⟨by rfl, rfl⟩) ?_ ?_
             rotate_left
             ·exact aP
             refine pure_ (i := 12) (N := some 45) (v := undef) (a' := ?_) #[true, true, true, true, true, true, true, true, true, true, true, true, true, false, false] rfl rfl (any_of HT_.out (by kernel_rfl)) (fun _ _ _ h => h) (Or.inr ⟨by rfl, rfl⟩) ?_ ?_
             rotate_left
             ·exact aP
             refine pure_ (i := 13) (N := some 46) (v := undef) (a' := ?_) #[true, true, true, true, true, true, true, true, true, true, true, true, true, true, false] rfl rfl (any_of HT_.out (by kernel_rfl)) (fun _ _ _ h => h) (Or.inr ⟨by rfl, rfl⟩) ?_ ?_
             rotate_left
             ·exact aP
             refine pU 14 47 ?_
             refine done_ (done_of HT_.out (by kernel_rfl)) ?_
             try go_wp2
             replace HO_165000 := aM (Kd.R_drew HO_165000.out)
             replace HO_165001 := aM (Kd.N_drew HO_165001.out)
             replace BK155 := aM (blk_drew BK155.out)
             replace BK156 := aM (blk_drew BK156.out)
             replace BK157 := aM (blk_drew BK157.out)
             replace BK164 := aM (blk_drew BK164.out)
             replace HB := aM (below_drew1 HB.out)
             have q125 : (x7_2 : Int) ≤ ((t161.length : Int) : Int) := aD
             obtain ⟨i0125, hi0125, _, hsz125, _⟩ := info_parts info45
             have hroom125 : t161.length ≤ co18 := (Kd.N_reads' HO_165001.out).2.1
             have hC125 : Kd.F k45 _ _ Ao18 t161.length t161 := (Kd.V_at (base := w.heap.size) (Kd.N_V HO_165001.out)).2.2
             have q0125 : (0 : Int) ≤ (x7_2 : Int) := aD
             have hcut125 := cut_from (P := Try.prog) 29 45 .i64 Try.underlying29 hi0125 2 hsz125 Ao18 t161.length co18 x7_2 q0125 q125
             have hr125 := Kd.F_cut (m := (x7_2 : Int).toNat) (c := co18) hC125 (by omega) hroom125
             obtain ⟨A125, hA125⟩ : ∃ A1, A1 = (if co18 = (x7_2 : Int).toNat then Ao18 else (Ao18 : Option Addr).map (·.add ((x7_2 : Int).toNat * 2))) := ⟨_, rfl⟩
             obtain ⟨c125, hc125⟩ : ∃ c1, c1 = co18 - (x7_2 : Int).toNat := ⟨_, rfl⟩
             have hy125 : y210.length = t161.length - (x7_2 : Int).toNat := (by rw [Ny210.out, List.length_drop] <;> omega)
             rw [show (t161).drop (x7_2 : Int).toNat = y210 from Ny210.out.symm] at hr125
             replace hr125 : Kd.F k45 _ _ A125 y210.length y210 := (by rw [hA125]; exact hr125)
             rw [← hy125, ← hA125, ← hc125] at hcut125
             have HO214 := aM (show Kd.V k45 45 _ w.heap.size _ (.slice A125 y210.length c125) y210 from Kd.V_mk (by rw [hy125, hc125]; exact Nat.sub_le_sub_right hroom125 _) hr125)
             have HC214 := aM (show y210.length ≤ c125 from by rw [hy125, hc125]; exact Nat.sub_le_sub_right hroom125 _)
             clear hr125 hC125 hroom125 hi0125 hsz125 hc125
             have KY125 := aM hy125
             have KA125 := aM hA125
             clear hy125 hA125
             replace q125 := eq_true q125
             refine start_ (n := 14) (S := fun w' => w'.cell? ⟨gb156, 0, none⟩ = some (.int .i64 a1_0) ∧ w'.cell? ⟨gb156, 1, none⟩ = some (.slice A1_1 l1_1.length c1_1) ∧ w'.cell? ⟨gb164, 0, none⟩ = some (.slice Ao13 t158.length co13) ∧ w'.cell? ⟨gb164, 1, none⟩ = some (.slice Ao18 t161.length co18)) (ds := []) #[false, false, false, false, false, false, false, false, false, false, false, false, false, false] (by kernel_rfl) rfl rfl ⟨(blk_cell BK156.out 0).trans rfl, (blk_cell BK156.out 1).trans rfl, (blk_cell BK164.out 0).trans rfl, (blk_cell BK164.out 1).trans rfl⟩ (fun hHeld => ?_); refine with_tabW spec_InsertFact.tab7 spec_InsertFact.bits7 (fun HT_ HW_ => ?_)
             generalize w123.drew = w124 at HO_165000 HO_165001 BK155 BK156 BK157 BK164 HB HO214 hHeld ⊢
             refine pU 0 50 ?_
             refine pU 3 53 ?_
             refine pU 8 58 ?_
             refine pU 10 60 ?_
             refine tU4 1 51 hHeld ?_
             refine tU4 4 54 hHeld ?_
             refine tU4 9 59 hHeld ?_
             refine pU 11 61 ?_
             refine oU 2 52 (fun K hK => ?_)
             refine Kd.R_lit_step (Kd.int .i64) _ 3 ?hg (N := 52) ?hd (xs := ([] : List Int)) (inner := []) (ok := fun _ => True) (okp := fun _ => True) ?hr ?hp (fun _ hk => hk) trivial (Below.refl _ _) (Nat.le_refl _) (by simp) ?_; (case hd => rfl); (case hg => rfl); (case hr => first | (go_simp; done) | (go_simp; rfl)); (case hp => exact (Reps.none _ _))
             intro v202 w126 ho127 hb hg_ hnew_
             clear hg_ hnew_
             (first | rw [← Ny201.out] at ho127 | (simp only [Int.reduceToNat] at ho127; rw [← Ny201.out] at ho127))
             have n0_ := aM (Kd.R_below (aR HO_165000) hb)
             have n1_ := aM (Kd.N_elder' (aN HO_165001) (Kd.R_base ho127) hb)
             have n2_ := aM (Kd.V_elder' (aV HO214) (Kd.R_base ho127) hb)
             have n3_ := aM (Kd.R_lower (Kd.R_newM (M := fun k_ => (w.heap.size ≤ k_)) ho127 (below_size aG) (fun k_ h_ => h_)) (below_size aG))
             have n4_ := aM (kB gb155 #[.slice A0_0 l0_0.length c0_0, .slice A0_1 l0_1.length c0_1] 31 hb)
             have n5_ := aM (kB gb156 #[.int .i64 a1_0, .slice A1_1 l1_1.length c1_1] 45 hb)
             have n6_ := aM (kB gb157 #[.slice none 0 0, .slice none 0 0] 31 hb)
             have n7_ := aM (kB gb164 #[.slice Ao13 t158.length co13, .slice Ao18 t161.length co18] 31 hb)
             have n8_ := aM (below_step aG hb)
             clear HO_165000
             clear HO_165001
             clear HO214
             clear BK155
             clear BK156
             clear BK157
             clear BK164
             clear HB
             have HO_165000 := n0_
             have HO_165001 := n1_
             have HO214 := n2_
             have HO203 := n3_
             have BK155 := n4_
             have BK156 := n5_
             have BK157 := n6_
             have BK164 := n7_
             have HB := n8_
             clear n0_ n1_ n2_ n3_ n4_ n5_ n6_ n7_ n8_
             clear hb ho127
             refine hK.out _ _ ⟨(blk_cell BK156.out 0).trans rfl, (blk_cell BK156.out 1).trans rfl, (blk_cell BK164.out 0).trans rfl, (blk_cell BK164.out 1).trans rfl⟩ (fun hHeld => ?_)
             clear hK K
             refine nU 52 ?_
             refine oU 5 55 (fun K hK => ?_)
             refine Kd.R_append_rows_step (Kd.int .i64) (w0 := w) w.heap.size (by rfl) (.tmp 52) (.tmp 54) 26 3 (.int .i64 0) 8 rfl Try.underlying26 info3 rfl (by decide) (by omega) v202 y201 l1_1 _ _ _ (fun k_ => (w.heap.size ≤ k_)) (fun _ => False) rfl rfl ?aO ?aR (fun _ _ h => h) (fun _ h => h.elim) ?aF ?aB ?aS ?aL ?_
             (case aR => exact aC)
             (case aB => exact aG)
             (case aF => exact (fun k_ hk => (Nat.le_trans (below_size aG) hk)))
             (case aO => exact (by (with_reducible repeat apply pR); exact Kd.R_mono HO203.out (fun _ hk => hk.1)))
             (case aS => exact (below_size aG))
             (case aL => have := LMc115.out; omega)
             intro v205 w128 ho hb hg hat
             rw [← Ny204.out] at ho
             have n0_ := aM (Kd.R_over' (aR HO_165000) (Kd.R_typed (aR HO203)) (by decide) hg)
             have n1_ := aM (Kd.N_afterv (ok := (fun k_ => (w.heap.size ≤ k_) ∧ some k_ ≠ (.slice Ao13 t158.length co13 : Value).ownBlock ∧ k_ ≠ gb155 ∧ k_ ≠ gb156 ∧ k_ ≠ gb157 ∧ k_ ≠ gb164)) (aN HO_165001) hg hat)
             have n2_ := aM (blk_grown (g := gb155) aK hg (Kd.R_ne HO203.out BK155.out (by decide)))
             have n3_ := aM (blk_grown (g := gb156) aK hg (Kd.R_ne HO203.out BK156.out (by decide)))
             have n4_ := aM (blk_grown (g := gb157) aK hg (Kd.R_ne HO203.out BK157.out (by decide)))
             have n5_ := aM (blk_grown (g := gb164) aK hg (Kd.R_ne HO203.out BK164.out (by decide)))
             have n6_ := aM (Kd.V_afterv (ok := (fun k_ => (w.heap.size ≤ k_) ∧ some k_ ≠ (.slice Ao13 t158.length co13 : Value).ownBlock ∧ k_ ≠ gb155 ∧ k_ ≠ gb156 ∧ k_ ≠ gb157 ∧ k_ ≠ gb164)) (aV HO214) hg hat)
             have n7_ := aM (hb)
             have n8_ := aM (ho)
             clear HO_165000
             clear HO_165001
             clear BK155
             clear BK156
             clear BK157
             clear BK164
             clear HO214
             clear HB
             clear HO203
             have HO_165000 := n0_
             have HO_165001 := n1_
             have BK155 := n2_
             have BK156 := n3_
             have BK157 := n4_
             have BK164 := n5_
             have HO214 := n6_
             have HB := n7_
             have HO206 := n8_
             clear n0_ n1_ n2_ n3_ n4_ n5_ n6_ n7_ n8_
             clear ho hb hg hat
             obtain ⟨Ao129, co129, eo129⟩ := Kd.R_slice HO206.out
             (first | subst eo129 | (injection eo129 with f1_ f2_ f3_; have f4_ := f1_.symm; have f5_ := f3_.symm; clear f1_ f2_ f3_; subst f4_; subst f5_))
             refine hK.out _ _ ⟨(blk_cell BK156.out 0).trans rfl, (blk_cell BK156.out 1).trans rfl, (blk_cell BK164.out 0).trans rfl, (blk_cell BK164.out 1).trans rfl⟩ (fun hHeld => ?_)
             clear hK K
             refine nU 55 ?_
             refine pU 6 56 ?_
             refine oU 7 57 (fun K hK => ?_)
             refine Kd.N_lit_step k45 _ 45 ?hg (N' := 57) ?hd (xs := ([(⟨a1_0, y204⟩ : S45)] : List (S45))) (inner := [.int .i64 a1_0, .slice Ao129 y204.length co129]) (ok := (fun k_ => (w.heap.size ≤ k_) ∧ some k_ ≠ (.slice Ao13 t158.length co13 : Value).ownBlock ∧ some k_ ≠ (.slice Ao18 t161.length co18 : Value).ownBlock ∧ k_ ≠ gb155 ∧ k_ ≠ gb156 ∧ k_ ≠ gb157 ∧ k_ ≠ gb164)) (okp := (fun k_ => (w.heap.size ≤ k_) ∧ some k_ ≠ (.slice Ao13 t158.length co13 : Value).ownBlock ∧ some k_ ≠ (.slice Ao18 t161.length co18 : Value).ownBlock ∧ k_ ≠ gb155 ∧ k_ ≠ gb156 ∧ k_ ≠ gb157 ∧ k_ ≠ gb164)) ?hr ?hp (fun _ hk => hk) ((show ∀ k_, w128.heap.size ≤ k_ → (fun k_ => (w.heap.size ≤ k_) ∧ some k_ ≠ (.slice Ao13 t158.length co13 : Value).ownBlock ∧ some k_ ≠ (.slice Ao18 t161.length co18 : Value).ownBlock ∧ k_ ≠ gb155 ∧ k_ ≠ gb156 ∧ k_ ≠ gb157 ∧ k_ ≠ gb164) k_ from fun k_ hk => ⟨(Nat.le_trans (below_size aG) hk), Kd.fresh' (Kd.R_lt (aR HO_165000)) k_ hk, Kd.fresh' (Kd.N_lt (aN HO_165001)) k_ hk, Kd.freshB (g := gb155) aK k_ hk, Kd.freshB (g := gb156) aK k_ hk, Kd.freshB (g := gb157) aK k_ hk, Kd.freshB (g := gb164) aK k_ hk⟩) _ (Nat.le_refl _)) (Below.refl _ _) (Nat.le_refl _) (by simp) ?_; (case hd => rfl); (case hg => rfl); (case hr => first | (go_simp; done) | (go_simp; rfl)); (case hp => exact (Reps.c2 (show Kd.FK k45 _ _ (⟨a1_0, y204⟩ : S45) [.int .i64 a1_0, .slice Ao129 y204.length co129] from (k45_mkF _ _ (⟨a1_0, y204⟩ : S45) (Kd.R_reads' (Kd.R_mono (ok' := (fun k_ => (w.heap.size ≤ k_) ∧ some k_ ≠ (.slice Ao13 t158.length co13 : Value).ownBlock ∧ some k_ ≠ (.slice Ao18 t161.length co18 : Value).ownBlock ∧ k_ ≠ gb155 ∧ k_ ≠ gb156 ∧ k_ ≠ gb157 ∧ k_ ≠ gb164)) (Kd.R_types (Kd.R_types (Kd.R_types (Kd.R_types (Kd.R_apart' (Kd.R_apart' (HO206.out) (Kd.R_typed HO_165000.out) (by decide)) (Kd.N_typed HO_165001.out) (by decide)) BK155.out (by decide)) BK156.out (by decide)) BK157.out (by decide)) BK164.out (by decide)) (fun k_ hk => ⟨hk.1.1.1.1.1.1, ⟨hk.1.1.1.1.1.2, ⟨hk.1.1.1.1.2, ⟨hk.1.1.1.2, ⟨hk.1.1.2, ⟨hk.1.2, hk.2⟩⟩⟩⟩⟩⟩))).2.1 (Kd.R_F (Kd.R_mono (ok' := (fun k_ => (w.heap.size ≤ k_) ∧ some k_ ≠ (.slice Ao13 t158.length co13 : Value).ownBlock ∧ some k_ ≠ (.slice Ao18 t161.length co18 : Value).ownBlock ∧ k_ ≠ gb155 ∧ k_ ≠ gb156 ∧ k_ ≠ gb157 ∧ k_ ≠ gb164)) (Kd.R_types (Kd.R_types (Kd.R_types (Kd.R_types (Kd.R_apart' (Kd.R_apart' (HO206.out) (Kd.R_typed HO_165000.out) (by decide)) (Kd.N_typed HO_165001.out) (by decide)) BK155.out (by decide)) BK156.out (by decide)) BK157.out (by decide)) BK164.out (by decide)) (fun k_ hk => ⟨hk.1.1.1.1.1.1, ⟨hk.1.1.1.1.1.2, ⟨hk.1.1.1.1.2, ⟨hk.1.1.1.2, ⟨hk.1.1.2, ⟨hk.1.2, hk.2⟩⟩⟩⟩⟩⟩))))) (Reps.none _ _)))
             intro v208 w130 ho131 hb hg_ hnew_
             clear hg_ hnew_
             (first | rw [← Ny207.out] at ho131 | (simp only [Int.reduceToNat] at ho131; rw [← Ny207.out] at ho131))
             have n0_ := aM (Kd.R_below (aR HO_165000) hb)
             have n1_ := aM (Kd.N_elder' (aN HO_165001) (Kd.N_base ho131) hb)
             have n2_ := aM (Kd.V_elder' (aV HO214) (Kd.N_base ho131) hb)
             have n3_ := aM (Kd.N_lower ho131 (below_size aG))
             have n4_ := aM (kB gb155 #[.slice A0_0 l0_0.length c0_0, .slice A0_1 l0_1.length c0_1] 31 hb)
             have n5_ := aM (kB gb156 #[.int .i64 a1_0, .slice A1_1 l1_1.length c1_1] 45 hb)
             have n6_ := aM (kB gb157 #[.slice none 0 0, .slice none 0 0] 31 hb)
             have n7_ := aM (kB gb164 #[.slice Ao13 t158.length co13, .slice Ao18 t161.length co18] 31 hb)
             have n8_ := aM (below_step aG hb)
             clear HO_165000
             clear HO_165001
             clear HO214
             clear BK155
             clear BK156
             clear BK157
             clear BK164
             clear HB
             clear HO206
             have HO_165000 := n0_
             have HO_165001 := n1_
             have HO214 := n2_
             have HO209 := n3_
             have BK155 := n4_
             have BK156 := n5_
             have BK157 := n6_
             have BK164 := n7_
             have HB := n8_
             clear n0_ n1_ n2_ n3_ n4_ n5_ n6_ n7_ n8_
             clear hb ho131
             refine hK.out _ _ ⟨(blk_cell BK156.out 0).trans rfl, (blk_cell BK156.out 1).trans rfl, (blk_cell BK164.out 0).trans rfl, (blk_cell BK164.out 1).trans rfl⟩ (fun hHeld => ?_)
             clear hK K
             refine nU 57 ?_
             refine oU 12 62 (fun K hK => ?_)
             refine Kd.N_append_rows_step k45 (w0 := w) w.heap.size (by rfl) (.tmp 57) (.tmp 61) 29 45 (.agg #[(.int .i64 0), (.slice none 0 0)]) 32 rfl Try.underlying29 info45 rfl (by decide) (by omega) v208 y207 y210 _ _ _ (fun k_ => (w.heap.size ≤ k_) ∧ some k_ ≠ (.slice Ao13 t158.length co13 : Value).ownBlock ∧ k_ ≠ gb155 ∧ k_ ≠ gb156 ∧ k_ ≠ gb157 ∧ k_ ≠ gb164) (fun k_ => ((fun k_ => (w.heap.size ≤ k_) ∧ some k_ ≠ (.slice Ao13 t158.length co13 : Value).ownBlock ∧ k_ ≠ gb155 ∧ k_ ≠ gb156 ∧ k_ ≠ gb157 ∧ k_ ≠ gb164)) k_ ∧ some k_ ≠ (v208 : Value).ownBlock) rfl rfl ?aO ?aR (fun _ hk => hk) ?aF ?aB ?aS ?aL ?_
             (case aR => exact (by skip; exact Kd.V_F (Kd.V_mono (ok' := (fun k_ => ((fun k_ => (w.heap.size ≤ k_) ∧ some k_ ≠ (.slice Ao13 t158.length co13 : Value).ownBlock ∧ k_ ≠ gb155 ∧ k_ ≠ gb156 ∧ k_ ≠ gb157 ∧ k_ ≠ gb164)) k_ ∧ some k_ ≠ (v208 : Value).ownBlock)) (HO214.out) (fun k_ hk => ⟨⟨hk.1.1.1, ⟨hk.1.1.2.1, ⟨hk.1.1.2.2.1, ⟨hk.1.1.2.2.2.1, ⟨hk.1.1.2.2.2.2.1, hk.1.1.2.2.2.2.2⟩⟩⟩⟩⟩, hk.2⟩))))
             (case aB => exact aG)
             (case aF => exact (fun k_ hk => ⟨(Nat.le_trans (below_size aG) hk), Kd.fresh' (Kd.R_lt (aR HO_165000)) k_ hk, Kd.freshB (g := gb155) aK k_ hk, Kd.freshB (g := gb156) aK k_ hk, Kd.freshB (g := gb157) aK k_ hk, Kd.freshB (g := gb164) aK k_ hk⟩))
             (case aO => exact (by (with_reducible repeat apply pN); exact Kd.N_mono HO209.out (fun _ hk => ⟨hk.1, ⟨hk.2.1, ⟨hk.2.2.2.1, ⟨hk.2.2.2.2.1, ⟨hk.2.2.2.2.2.1, hk.2.2.2.2.2.2⟩⟩⟩⟩⟩)))
             (case aS => exact (below_size aG))
             (case aL => have := LMc118.out; omega)
             intro v216 w132 ho hb hg hat
             rw [← Ny215.out] at ho
             have n0_ := aM (Kd.R_over' (aR HO_165000) (Kd.N_typed (aN HO209)) (by decide) hg)
             have n1_ := aM (Kd.N_afterv (ok := (fun k_ => (w.heap.size ≤ k_) ∧ some k_ ≠ (.slice Ao13 t158.length co13 : Value).ownBlock ∧ k_ ≠ gb155 ∧ k_ ≠ gb156 ∧ k_ ≠ gb157 ∧ k_ ≠ gb164)) (by (with_reducible repeat apply pN); exact Kd.N_mono HO_165001.out (fun _ hk => ⟨⟨hk.1.1.1, ⟨hk.1.1.2.1, ⟨hk.1.1.2.2.1, ⟨hk.1.1.2.2.2.1, ⟨hk.1.1.2.2.2.2.1, hk.1.1.2.2.2.2.2⟩⟩⟩⟩⟩, hk.2⟩)) hg hat)
             have n2_ := aM (blk_grown (g := gb155) aK hg (Kd.N_ne HO209.out BK155.out (by decide)))
             have n3_ := aM (blk_grown (g := gb156) aK hg (Kd.N_away HO209.out (fun _ hk => hk.2.2.2.2.1)))
             have n4_ := aM (blk_grown (g := gb157) aK hg (Kd.N_ne HO209.out BK157.out (by decide)))
             have n5_ := aM (blk_grown (g := gb164) aK hg (Kd.N_ne HO209.out BK164.out (by decide)))
             have n6_ := aM (Kd.V_afterv (ok := (fun k_ => (w.heap.size ≤ k_) ∧ some k_ ≠ (.slice Ao13 t158.length co13 : Value).ownBlock ∧ k_ ≠ gb155 ∧ k_ ≠ gb156 ∧ k_ ≠ gb157 ∧ k_ ≠ gb164)) (by (with_reducible repeat apply pV); exact Kd.V_mono HO214.out (fun _ hk => ⟨⟨hk.1.1.1, ⟨hk.1.1.2.1, ⟨hk.1.1.2.2.1, ⟨hk.1.1.2.2.2.1, ⟨hk.1.1.2.2.2.2.1, hk.1.1.2.2.2.2.2⟩⟩⟩⟩⟩, hk.2⟩)) hg hat)
             have n7_ := aM (hb)
             have n8_ := aM (ho)
             clear HO_165000
             clear HO_165001
             clear BK155
             clear BK156
             clear BK157
             clear BK164
             clear HO214
             clear HB
             clear HO209
             have HO_165000 := n0_
             have HO_165001 := n1_
             have BK155 := n2_
             have BK156 := n3_
             have BK157 := n4_
             have BK164 := n5_
             have HO214 := n6_
             have HB := n7_
             have HO217 := n8_
             clear n0_ n1_ n2_ n3_ n4_ n5_ n6_ n7_ n8_
             clear ho hb hg hat
             refine hK.out _ _ ⟨(blk_cell BK156.out 0).trans rfl, (blk_cell BK156.out 1).trans rfl, (blk_cell BK164.out 0).trans rfl, (blk_cell BK164.out 1).trans rfl⟩ (fun hHeld => ?_)
             clear hK K
             refine nU 62 ?_
             refine pU 13 8 ?_
             refine done_ (done_of HT_.out (by kernel_rfl)) ?_
             try go_wp2_with (first | ((with_reducible refine gate_dst (N := 63) rfl ?_); (try (refine gate_guard (by rfl) ?_; dsimp only)); refine Kd.N_lit k45 _ 45 ?hg (N' := 63) ?hd (xs := ([] : List (S45))) (inner := []) (ok := (fun k_ => (w.heap.size ≤ k_) ∧ some k_ ≠ (.slice Ao13 t158.length co13 : Value).ownBlock ∧ some k_ ≠ (.slice Ao18 t161.length co18 : Value).ownBlock ∧ some k_ ≠ (v216 : Value).ownBlock ∧ k_ ≠ gb155 ∧ k_ ≠ gb156 ∧ k_ ≠ gb157 ∧ k_ ≠ gb164)) (okp := (fun k_ => (w.heap.size ≤ k_) ∧ some k_ ≠ (.slice Ao13 t158.length co13 : Value).ownBlock ∧ some k_ ≠ (.slice Ao18 t161.length co18 : Value).ownBlock ∧ some k_ ≠ (v216 : Value).ownBlock ∧ k_ ≠ gb155 ∧ k_ ≠ gb156 ∧ k_ ≠ gb157 ∧ k_ ≠ gb164)) ?hr ?hp (fun _ hk => hk) ((show ∀ k_, w132.heap.size ≤ k_ → (fun k_ => (w.heap.size ≤ k_) ∧ some k_ ≠ (.slice Ao13 t158.length co13 : Value).ownBlock ∧ some k_ ≠ (.slice Ao18 t161.length co18 : Value).ownBlock ∧ some k_ ≠ (v216 : Value).ownBlock ∧ k_ ≠ gb155 ∧ k_ ≠ gb156 ∧ k_ ≠ gb157 ∧ k_ ≠ gb164) k_ from fun k_ hk => ⟨(Nat.le_trans (below_size aG) hk), Kd.fresh' (Kd.R_lt (aR HO_165000)) k_ hk, Kd.fresh' (Kd.N_lt (aN HO_165001)) k_ hk, Kd.fresh' (Kd.N_lt (aN HO217)) k_ hk, Kd.freshB (g := gb155) aK k_ hk, Kd.freshB (g := gb156) aK k_ hk, Kd.freshB (g := gb157) aK k_ hk, Kd.freshB (g := gb164) aK k_ hk⟩) _ (Nat.le_refl _)) (Below.refl _ _) (Nat.le_refl _) (by simp) ?_; (case hd => rfl); (case hg => rfl); (case hr => first | (go_simp; done) | (go_simp; rfl)); (case hp => exact (Reps.none _ _)); intro v219 w133 ho134 hb hg_ hnew_; clear hg_ hnew_; (first | rw [← Ny218.out] at ho134 | (simp only [Int.reduceToNat] at ho134; rw [← Ny218.out] at ho134)); have n0_ := aM (Kd.R_below (aR HO_165000) hb); have n1_ := aM (Kd.N_elder' (aN HO_165001) (Kd.N_base ho134) hb); have n2_ := aM (Kd.V_elder' (aV HO214) (Kd.N_base ho134) hb); have n3_ := aM (Kd.N_elder' (aN HO217) (Kd.N_base ho134) hb); have n4_ := aM (Kd.N_lower ho134 (below_size aG)); have n5_ := aM (kB gb155 #[.slice A0_0 l0_0.length c0_0, .slice A0_1 l0_1.length c0_1] 31 hb); have n6_ := aM (kB gb156 #[.int .i64 a1_0, .slice A1_1 l1_1.length c1_1] 45 hb); have n7_ := aM (kB gb157 #[.slice none 0 0, .slice none 0 0] 31 hb); have n8_ := aM (kB gb164 #[.slice Ao13 t158.length co13, .slice Ao18 t161.length co18] 31 hb); have n9_ := aM (below_step aG hb); clear HO_165000; clear HO_165001; clear HO214; clear HO217; clear BK155; clear BK156; clear BK157; clear BK164; clear HB; have HO_165000 := n0_; have HO_165001 := n1_; have HO214 := n2_; have HO217 := n3_; have HO220 := n4_; have BK155 := n5_; have BK156 := n6_; have BK157 := n7_; have BK164 := n8_; have HB := n9_; clear n0_ n1_ n2_ n3_ n4_ n5_ n6_ n7_ n8_ n9_; clear hb ho134; have hnb135 := NB164_155.out; have hnc135 := NB155_164.out; have hnb136 := NB164_156.out; have hnc136 := NB156_164.out; have hnb137 := NB164_157.out; have hnc137 := NB157_164.out; have hcz138_0 : w133.cell? ⟨gb164, 0, none⟩ = some (.slice Ao13 t158.length co13) := (blk_cell BK164.out 0).trans rfl; have hcz138_1 : w133.cell? ⟨gb164, 1, none⟩ = some (.slice Ao18 t161.length co18) := (blk_cell BK164.out 1).trans rfl; have hfz138_0 := blk_frozen BK164.out 0; have hfz138_1 := blk_frozen BK164.out 1; have q139 : (x7_2 : Int) ≤ ((t161.length : Int) : Int) := aD; obtain ⟨i0139, hi0139, _, hsz139, _⟩ := info_parts info45; have hroom139 : t161.length ≤ co18 := (Kd.N_reads' HO_165001.out).2.1; have hC139 : Kd.F k45 _ _ Ao18 t161.length t161 := (Kd.V_at (base := w.heap.size) (Kd.N_V HO_165001.out)).2.2; have hcut139 := cut_to (P := Try.prog) 29 45 .i64 Try.underlying29 hi0139 Ao18 t161.length co18 x7_2 (aD) q139 hroom139; have hr139 := Kd.F_take (m := (x7_2 : Int).toNat) hC139 (by omega); have hy139 : y221.length = (x7_2 : Int).toNat := (by rw [Ny221.out, List.length_take]; omega); rw [← Ny221.out] at hr139; rw [← hy139] at hcut139; have HO225 := aM (show Kd.V k45 45 _ w.heap.size _ (.slice Ao18 y221.length co18) y221 from Kd.V_mk (by omega) hr139); have HC225 := aM (show y221.length ≤ co18 from by omega); clear hr139 hC139 hroom139 hi0139 hsz139; have KY139 := aM hy139; clear hy139; replace q139 := eq_true q139) | ((with_reducible refine gate_builtin (b := .append) (xs := #[.tmp 63, .tmp 67]) rfl ?_); (try (refine gate_guard (by rfl) ?_; dsimp only)); at_builtin; refine Kd.N_append_rows k45 (w0 := w) w.heap.size rfl (.tmp 63) (.tmp 67) 29 45 (.agg #[(.int .i64 0), (.slice none 0 0)]) 32 rfl Try.underlying29 info45 rfl (by decide) (by omega) v219 y218 y221 _ _ _ (fun k_ => (w.heap.size ≤ k_) ∧ some k_ ≠ (.slice Ao13 t158.length co13 : Value).ownBlock ∧ some k_ ≠ (v216 : Value).ownBlock ∧ k_ ≠ gb155 ∧ k_ ≠ gb156 ∧ k_ ≠ gb157 ∧ k_ ≠ gb164) (fun k_ => ((fun k_ => (w.heap.size ≤ k_) ∧ some k_ ≠ (.slice Ao13 t158.length co13 : Value).ownBlock ∧ some k_ ≠ (v216 : Value).ownBlock ∧ k_ ≠ gb155 ∧ k_ ≠ gb156 ∧ k_ ≠ gb157 ∧ k_ ≠ gb164)) k_ ∧ some k_ ≠ (v219 : Value).ownBlock) rfl rfl ?aO ?aR (fun _ hk => hk) ?aF ?aB ?aS ?aL ?_; (case aR => exact (by skip; exact Kd.V_F (Kd.V_mono (ok' := (fun k_ => ((fun k_ => (w.heap.size ≤ k_) ∧ some k_ ≠ (.slice Ao13 t158.length co13 : Value).ownBlock ∧ some k_ ≠ (v216 : Value).ownBlock ∧ k_ ≠ gb155 ∧ k_ ≠ gb156 ∧ k_ ≠ gb157 ∧ k_ ≠ gb164)) k_ ∧ some k_ ≠ (v219 : Value).ownBlock)) (HO225.out) (fun k_ hk => ⟨⟨hk.1.1.1, ⟨hk.1.1.2.1, ⟨hk.1.2, ⟨hk.1.1.2.2.1, ⟨hk.1.1.2.2.2.1, ⟨hk.1.1.2.2.2.2.1, hk.1.1.2.2.2.2.2⟩⟩⟩⟩⟩⟩, hk.2⟩)))); (case aB => exact aG); (case aF => exact (fun k_ hk => ⟨(Nat.le_trans (below_size aG) hk), Kd.fresh' (Kd.R_lt (aR HO_165000)) k_ hk, Kd.fresh' (Kd.N_lt (aN HO217)) k_ hk, Kd.freshB (g := gb155) aK k_ hk, Kd.freshB (g := gb156) aK k_ hk, Kd.freshB (g := gb157) aK k_ hk, Kd.freshB (g := gb164) aK k_ hk⟩)); (case aO => exact (by (with_reducible repeat apply pN); exact Kd.N_mono HO220.out (fun _ hk => ⟨hk.1, ⟨hk.2.1, ⟨hk.2.2.2.1, ⟨hk.2.2.2.2.1, ⟨hk.2.2.2.2.2.1, ⟨hk.2.2.2.2.2.2.1, hk.2.2.2.2.2.2.2⟩⟩⟩⟩⟩⟩))); (case aS => exact (below_size aG)); (case aL => have := LMc121.out; omega); intro v227 w140 ho hb hg hat; rw [← Ny226.out] at ho; have n0_ := aM (Kd.R_over' (aR HO_165000) (Kd.N_typed (aN HO220)) (by decide) hg); have n1_ := aM (Kd.N_afterv (ok := (fun k_ => (w.heap.size ≤ k_) ∧ some k_ ≠ (.slice Ao13 t158.length co13 : Value).ownBlock ∧ some k_ ≠ (v216 : Value).ownBlock ∧ k_ ≠ gb155 ∧ k_ ≠ gb156 ∧ k_ ≠ gb157 ∧ k_ ≠ gb164)) (by (with_reducible repeat apply pN); exact Kd.N_mono HO_165001.out (fun _ hk => ⟨⟨hk.1.1.1, ⟨hk.1.1.2.1, ⟨hk.1.2, ⟨hk.1.1.2.2.1, ⟨hk.1.1.2.2.2.1, ⟨hk.1.1.2.2.2.2.1, hk.1.1.2.2.2.2.2⟩⟩⟩⟩⟩⟩, hk.2⟩)) hg hat); have n2_ := aM (blk_grown (g := gb155) aK hg (Kd.N_ne HO220.out BK155.out (by decide))); have n3_ := aM (blk_grown (g := gb156) aK hg (Kd.N_away HO220.out (fun _ hk => hk.2.2.2.2.2.1))); have n4_ := aM (blk_grown (g := gb157) aK hg (Kd.N_ne HO220.out BK157.out (by decide))); have n5_ := aM (blk_grown (g := gb164) aK hg (Kd.N_ne HO220.out BK164.out (by decide))); have n6_ := aM (Kd.V_afterv (ok := (fun k_ => (w.heap.size ≤ k_) ∧ some k_ ≠ (.slice Ao13 t158.length co13 : Value).ownBlock ∧ some k_ ≠ (v216 : Value).ownBlock ∧ k_ ≠ gb155 ∧ k_ ≠ gb156 ∧ k_ ≠ gb157 ∧ k_ ≠ gb164)) (by (with_reducible repeat apply pV); exact Kd.V_mono HO214.out (fun _ hk => ⟨⟨hk.1.1.1, ⟨hk.1.1.2.1, ⟨hk.1.2, ⟨hk.1.1.2.2.1, ⟨hk.1.1.2.2.2.1, ⟨hk.1.1.2.2.2.2.1, hk.1.1.2.2.2.2.2⟩⟩⟩⟩⟩⟩, hk.2⟩)) hg hat); have n7_ := aM (Kd.N_afterv (ok := (fun k_ => (w.heap.size ≤ k_) ∧ some k_ ≠ (.slice Ao13 t158.length co13 : Value).ownBlock ∧ k_ ≠ gb155 ∧ k_ ≠ gb156 ∧ k_ ≠ gb157 ∧ k_ ≠ gb164)) (aN HO217) hg hat); have n8_ := aM (Kd.V_afterv (ok := (fun k_ => (w.heap.size ≤ k_) ∧ some k_ ≠ (.slice Ao13 t158.length co13 : Value).ownBlock ∧ some k_ ≠ (v216 : Value).ownBlock ∧ k_ ≠ gb155 ∧ k_ ≠ gb156 ∧ k_ ≠ gb157 ∧ k_ ≠ gb164)) (by (with_reducible repeat apply pV); exact Kd.V_mono HO225.out (fun _ hk => ⟨⟨hk.1.1.1, ⟨hk.1.1.2.1, ⟨hk.1.2, ⟨hk.1.1.2.2.1, ⟨hk.1.1.2.2.2.1, ⟨hk.1.1.2.2.2.2.1, hk.1.1.2.2.2.2.2⟩⟩⟩⟩⟩⟩, hk.2⟩)) hg hat); have n9_ := aM (hb); have n10_ := aM (ho); clear HO_165000; clear HO_165001; clear BK155; clear BK156; clear BK157; clear BK164; clear HO214; clear HO217; clear HO225; clear HB; clear HO220; have HO_165000 := n0_; have HO_165001 := n1_; have BK155 := n2_; have BK156 := n3_; have BK157 := n4_; have BK164 := n5_; have HO214 := n6_; have HO217 := n7_; have HO225 := n8_; have HB := n9_; have HO228 := n10_; clear n0_ n1_ n2_ n3_ n4_ n5_ n6_ n7_ n8_ n9_ n10_; clear ho hb hg hat; obtain ⟨Ao142, co142, eo142⟩ := Kd.N_slice HO217.out; subst eo142) | ((with_reducible refine gate_builtin (b := .append) (xs := #[.tmp 68, .tmp 69]) rfl ?_); (try (refine gate_guard (by rfl) ?_; dsimp only)); at_builtin; refine Kd.N_append_rows k45 (w0 := w) w.heap.size rfl (.tmp 68) (.tmp 69) 29 45 (.agg #[(.int .i64 0), (.slice none 0 0)]) 32 rfl Try.underlying29 info45 rfl (by decide) (by omega) v227 y226 y215 _ _ _ (fun k_ => (w.heap.size ≤ k_) ∧ some k_ ≠ (.slice Ao13 t158.length co13 : Value).ownBlock ∧ k_ ≠ gb155 ∧ k_ ≠ gb156 ∧ k_ ≠ gb157 ∧ k_ ≠ gb164) (fun k_ => ((fun k_ => (w.heap.size ≤ k_) ∧ some k_ ≠ (.slice Ao13 t158.length co13 : Value).ownBlock ∧ k_ ≠ gb155 ∧ k_ ≠ gb156 ∧ k_ ≠ gb157 ∧ k_ ≠ gb164)) k_ ∧ some k_ ≠ (v227 : Value).ownBlock) rfl rfl ?aO ?aR (fun _ hk => hk) ?aF ?aB ?aS ?aL ?_; (case aR => exact (by skip; exact Kd.N_F (Kd.N_mono (ok' := (fun k_ => ((fun k_ => (w.heap.size ≤ k_) ∧ some k_ ≠ (.slice Ao13 t158.length co13 : Value).ownBlock ∧ k_ ≠ gb155 ∧ k_ ≠ gb156 ∧ k_ ≠ gb157 ∧ k_ ≠ gb164)) k_ ∧ some k_ ≠ (v227 : Value).ownBlock)) (HO217.out) (fun k_ hk => ⟨⟨hk.1.1, ⟨hk.1.2.1, ⟨hk.1.2.2.1, ⟨hk.1.2.2.2.1, ⟨hk.1.2.2.2.2.1, hk.1.2.2.2.2.2⟩⟩⟩⟩⟩, hk.2⟩)))); (case aB => exact aG); (case aF => exact (fun k_ hk => ⟨(Nat.le_trans (below_size aG) hk), Kd.fresh' (Kd.R_lt (aR HO_165000)) k_ hk, Kd.freshB (g := gb155) aK k_ hk, Kd.freshB (g := gb156) aK k_ hk, Kd.freshB (g := gb157) aK k_ hk, Kd.freshB (g := gb164) aK k_ hk⟩)); (case aO => exact (by (with_reducible repeat apply pN); exact Kd.N_mono HO228.out (fun _ hk => ⟨hk.1, ⟨hk.2.1, ⟨hk.2.2.2.1, ⟨hk.2.2.2.2.1, ⟨hk.2.2.2.2.2.1, hk.2.2.2.2.2.2⟩⟩⟩⟩⟩))); (case aS => exact (below_size aG)); (case aL => have := LMc122.out; omega); intro v230 w141 ho hb hg hat; rw [← Ny229.out] at ho; have n0_ := aM (Kd.R_over' (aR HO_165000) (Kd.N_typed (aN HO228)) (by decide) hg); have n1_ := aM (Kd.N_afterv (ok := (fun k_ => (w.heap.size ≤ k_) ∧ some k_ ≠ (.slice Ao13 t158.length co13 : Value).ownBlock ∧ some k_ ≠ (.slice Ao142 y215.length co142 : Value).ownBlock ∧ k_ ≠ gb155 ∧ k_ ≠ gb156 ∧ k_ ≠ gb157 ∧ k_ ≠ gb164)) (aN HO_165001) hg hat); have n2_ := aM (blk_grown (g := gb155) aK hg (Kd.N_ne HO228.out BK155.out (by decide))); have n3_ := aM (blk_grown (g := gb156) aK hg (Kd.N_away HO228.out (fun _ hk => hk.2.2.2.2.1))); have n4_ := aM (blk_grown (g := gb157) aK hg (Kd.N_ne HO228.out BK157.out (by decide))); have n5_ := aM (blk_grown (g := gb164) aK hg (Kd.N_ne HO228.out BK164.out (by decide))); have n6_ := aM (Kd.V_afterv (ok := (fun k_ => (w.heap.size ≤ k_) ∧ some k_ ≠ (.slice Ao13 t158.length co13 : Value).ownBlock ∧ some k_ ≠ (.slice Ao142 y215.length co142 : Value).ownBlock ∧ k_ ≠ gb155 ∧ k_ ≠ gb156 ∧ k_ ≠ gb157 ∧ k_ ≠ gb164)) (aV HO214) hg hat); have n7_ := aM (Kd.N_afterv (ok := (fun k_ => (w.heap.size ≤ k_) ∧ some k_ ≠ (.slice Ao13 t158.length co13 : Value).ownBlock ∧ k_ ≠ gb155 ∧ k_ ≠ gb156 ∧ k_ ≠ gb157 ∧ k_ ≠ gb164)) (aN HO217) hg hat); have n8_ := aM (Kd.V_afterv (ok := (fun k_ => (w.heap.size ≤ k_) ∧ some k_ ≠ (.slice Ao13 t158.length co13 : Value).ownBlock ∧ some k_ ≠ (.slice Ao142 y215.length co142 : Value).ownBlock ∧ k_ ≠ gb155 ∧ k_ ≠ gb156 ∧ k_ ≠ gb157 ∧ k_ ≠ gb164)) (aV HO225) hg hat); have n9_ := aM (hb); have n10_ := aM (ho); clear HO_165000; clear HO_165001; clear BK155; clear BK156; clear BK157; clear BK164; clear HO214; clear HO217; clear HO225; clear HB; clear HO228; have HO_165000 := n0_; have HO_165001 := n1_; have BK155 := n2_; have BK156 := n3_; have BK157 := n4_; have BK164 := n5_; have HO214 := n6_; have HO217 := n7_; have HO225 := n8_; have HB := n9_; have HO231 := n10_; clear n0_ n1_ n2_ n3_ n4_ n5_ n6_ n7_ n8_ n9_ n10_; clear ho hb hg hat; obtain ⟨Ao143, co143, eo143⟩ := Kd.N_slice HO231.out; subst eo143; have hcz144_0 : w141.cell? ⟨gb164, 0, none⟩ = some (.slice Ao13 t158.length co13) := (blk_cell BK164.out 0).trans rfl; have hcz144_1 : w141.cell? ⟨gb164, 1, none⟩ = some (.slice Ao18 t161.length co18) := (blk_cell BK164.out 1).trans rfl; have hfz144_0 := blk_frozen BK164.out 0; have hfz144_1 := blk_frozen BK164.out 1; have hnb145 := NB157_155.out; have hnc145 := NB155_157.out; have hnb146 := NB157_156.out; have hnc146 := NB156_157.out; have hcz147_0 : w141.cell? ⟨gb157, 0, none⟩ = some (.slice none 0 0) := (blk_cell BK157.out 0).trans rfl; have hcz147_1 : w141.cell? ⟨gb157, 1, none⟩ = some (.slice none 0 0) := (blk_cell BK157.out 1).trans rfl; have hfz147_0 := blk_frozen BK157.out 0; have hfz147_1 := blk_frozen BK157.out 1))
             refine bodyPost_ret (results_ct rfl _ _ gb157 31 #[.slice Ao13 t158.length co13, .slice Ao143 y229.length co143] (0, 0) _ rfl (by (with_reducible repeat refine pB ?_); refine blk_put (cs := #[.slice Ao13 t158.length co13, .slice none 0 0]) ?_ 1 _ rfl; (with_reducible repeat refine pB ?_); refine blk_put (cs := #[.slice none 0 0, .slice none 0 0]) ?_ 0 _ rfl; (with_reducible repeat refine pB ?_); refine blk_far ?_ NB157_164.out _; (with_reducible repeat refine pB ?_); exact BK157.out) Try.underlying31 rfl (by kernel_rfl)) rfl ?_
             exact ⟨_, _, aE, by (with_reducible repeat apply pR); exact Kd.R_mono (Kd.R_far (p := ⟨gb157, 1, none⟩) (Kd.R_far (p := ⟨gb157, 0, none⟩) (Kd.R_far (p := ⟨gb164, 1, none⟩) (Kd.R_types (Kd.R_types HO_165000.out BK164.out (by decide)) BK157.out (by decide)) (fun _ hk => hk.1.2) (.slice Ao143 y229.length co143)) (fun _ hk => hk.2) (.slice Ao13 t158.length co13)) (fun _ hk => hk.2) (.slice Ao143 y229.length co143)) (fun _ hk => hk.1.1), by (with_reducible repeat apply pN); exact Kd.N_mono (Kd.N_far (p := ⟨gb157, 1, none⟩) (Kd.N_far (p := ⟨gb157, 0, none⟩) (Kd.N_far (p := ⟨gb164, 1, none⟩) (Kd.N_mono (Kd.N_mono HO231.out (fun k_ hk => (⟨hk, hk.2.2.2.2.2⟩ : _ ∧ k_ ≠ gb164))) (fun k_ hk => (⟨hk, hk.1.2.2.2.2.1⟩ : _ ∧ k_ ≠ gb157))) (fun _ hk => hk.1.2) (.slice Ao143 y229.length co143)) (fun _ hk => hk.2) (.slice Ao13 t158.length co13)) (fun _ hk => hk.2) (.slice Ao143 y229.length co143)) (fun _ hk => ⟨hk.1.1.1, hk.1.1.2.1⟩), aG⟩
            ·rw [if_neg c122] at H
             exact absurd H (by simp)
           ·rw [if_neg c121] at H
            exact absurd H (by simp)
          ·rw [if_neg c118] at H
           exact absurd H (by simp)
         ·rw [if_neg c117] at H
          exact absurd H (by simp)
        ·rw [if_neg c116] at H
         exact absurd H (by simp)
       ·rw [if_neg c115] at H
        exact absurd H (by simp)

end Go.Proofs.Yteddnlklfjpgoaa.PFnInsertDelete
