import Derived.Test.YteddnlklfjpgoaaPFnInsertDeletex0
import Derived.Test.YteddnlklfjpgoaaPFnInsertDeletex4
import Derived.Test.YteddnlklfjpgoaaPFnInsertDeletex7
namespace Go.Proofs.Yteddnlklfjpgoaa.PFnInsertDelete
open Go.RowKit Go.Proofs.YteddnlklfjpgoaaW.PrintWords Go.Proofs.YteddnlklfjpgoaaW.PrintLast Go.Proofs.YteddnlklfjpgoaaW.PrintMore
attribute [local go_sem] max2_int min2_int max_two min_two max_three min_three max_four min_four
set_option linter.unusedVariables false
set_option linter.unusedSimpArgs false

/-! ### spec_DeleteFact: function 23 -/
def spec_DeleteFact.f (k : Nat) (l0_0 : List (S74)) (l0_1 : List (S45)) (a1_0 : Int) (l1_1 : List Int) : Option ((List (S74)) × (List (S45)) × Bool) := (spec_l4Copy.f k l0_0 l0_1).bind fun bt277 => ((spec_ContainsFact.f k l0_0 l0_1 a1_0 l1_1).bind fun t284 => (if t284 = true then ((spec_FactIndex.f k l0_0 l0_1 a1_0 l1_1).bind fun t285 => ((some (([] : List (S45)) : List (S45))).bind fun y286 => (if 0 ≤ t285 then (if t285 ≤ (bt277.2.length : Int) then ((some (bt277.2.take (t285 : Int).toNat : List (S45))).bind fun y289 => (if y286.length + y289.length < 4398046511104 then ((some (y286 ++ y289 : List (S45))).bind fun y294 => (if 0 ≤ (wrap64 (t285 + 1)) then (if (wrap64 (t285 + 1)) ≤ (bt277.2.length : Int) then ((some (bt277.2.drop ((wrap64 (t285 + 1)) : Int).toNat : List (S45))).bind fun y297 => (if y294.length + y297.length < 4398046511104 then (some (bt277.1, (y294 ++ y297), true)) else (none))) else (none)) else (none))) else (none))) else (none)) else (none)))) else (some (bt277.1, bt277.2, false))))
def spec_DeleteFact.T5 : Bool × List (List Nat × List Nat) := (true, [([], []), ([], []), ([1], [1]), ([], []), ([2, 3], [2, 3]), ([0, 4], [0, 4]), ([], []), ([6], [6]), ([], []), ([8], [8]), ([7, 9], [7, 9]), ([5, 10, 5], [5, 10]), ([0, 1, 2, 3, 4, 5, 6, 7, 8, 9, 10, 11], []), ([12, 11, 11, 0, 1, 2, 3, 4, 5, 6, 7, 8, 9, 10, 11], [11, 12])])
def spec_DeleteFact.B5 : List Nat := [0, 0, 2, 0, 14, 31, 0, 64, 0, 256, 960, 2047, 4095, 8191]
theorem spec_DeleteFact.tab5 : rtab .any (opsOf Try.f23 5) = spec_DeleteFact.T5 := by kernel_rfl
theorem spec_DeleteFact.bits5 : waitsOk spec_DeleteFact.T5.2 spec_DeleteFact.B5 = true := by kernel_rfl
set_option maxHeartbeats 8000000 in
set_option maxRecDepth 100000 in
theorem spec_DeleteFact.calls (k : Nat) (A0_0 : Option Addr) (c0_0 : Nat) (l0_0 : List (S74)) (A0_1 : Option Addr) (c0_1 : Nat) (l0_1 : List (S45)) (a1_0 : Int) (A1_1 : Option Addr) (c1_1 : Nat) (l1_1 : List Int) (r1 : List (S74)) (r2 : List (S45)) (r3 : Bool) (w : World) (hr0_0 : Kd.C k74 w A0_0 l0_0.length l0_0) (hc0_0 : l0_0.length ≤ c0_0) (hr0_1 : Kd.C k45 w A0_1 l0_1.length l0_1) (hc0_1 : l0_1.length ≤ c0_1) (hr1_1 : Kd.C (Kd.int .i64) w A1_1 l1_1.length l1_1) (hc1_1 : l1_1.length ≤ c1_1) (h : spec_DeleteFact.f k l0_0 l0_1 a1_0 l1_1 = some (r1, r2, r3)) :
  Calls Try.prog 23 #[.agg #[.slice A0_0 l0_0.length c0_0, .slice A0_1 l0_1.length c0_1], .agg #[.int .i64 a1_0, .slice A1_1 l1_1.length c1_1]] w fun e w' => ∃ v0_ v1_ : Value, e = .returned (.tuple #[.agg #[v0_, v1_], .bool r3]) ∧ Kd.R k74 74 w' w.heap.size (fun k_ => (w.heap.size ≤ k_)) v0_ r1 ∧ Kd.N k45 45 w' w.heap.size (fun k_ => (w.heap.size ≤ k_) ∧ some k_ ≠ (v0_ : Value).ownBlock) v1_ r2 ∧ Below w.heap.size w w' := by
 have hu31 := Try.underlying31
 have hu45 := Try.underlying45
 have HR0_0 := aM hr0_0
 have HC0_0 := aM hc0_0
 clear hr0_0 hc0_0
 have HR0_1 := aM hr0_1
 have HC0_1 := aM hc0_1
 clear hr0_1 hc0_1
 have HR1_1 := aM hr1_1
 have HC1_1 := aM hc1_1
 clear hr1_1 hc1_1
 have HB := aM (Below.refl w.heap.size w)
 have H : ((spec_l4Copy.f k l0_0 l0_1).bind fun bt277 => ((spec_ContainsFact.f k l0_0 l0_1 a1_0 l1_1).bind fun t284 => (if t284 = true then ((spec_FactIndex.f k l0_0 l0_1 a1_0 l1_1).bind fun t285 => ((some (([] : List (S45)) : List (S45))).bind fun y286 => (if 0 ≤ t285 then (if t285 ≤ (bt277.2.length : Int) then ((some (bt277.2.take (t285 : Int).toNat : List (S45))).bind fun y289 => (if y286.length + y289.length < 4398046511104 then ((some (y286 ++ y289 : List (S45))).bind fun y294 => (if 0 ≤ (wrap64 (t285 + 1)) then (if (wrap64 (t285 + 1)) ≤ (bt277.2.length : Int) then ((some (bt277.2.drop ((wrap64 (t285 + 1)) : Int).toNat : List (S45))).bind fun y297 => (if y294.length + y297.length < 4398046511104 then (some (bt277.1, (y294 ++ y297), true)) else (none))) else (none)) else (none))) else (none))) else (none)) else (none)))) else (some (bt277.1, bt277.2, false))))) = some (r1, r2, r3) := h
 clear h
 replace H := bM H
 obtain ⟨⟨t277, t280⟩, A30, H⟩ := H
 dsimp only at H
 have A3 := aM A30
 clear A30
 replace H := bM H
 obtain ⟨t284, A40, H⟩ := H
 have A4 := aM A40
 clear A40
 by_cases c5 : t284 = true
 ·subst c5
  replace H := iT H
  replace H := bM H
  obtain ⟨t285, A60, H⟩ := H
  have A6 := aM A60
  clear A60
  obtain ⟨y286, hy286⟩ : ∃ y_ : List (S45), y_ = (([] : List (S45))) := ⟨_, rfl⟩
  first | replace H := bY hy286 H | rw [← hy286] at H
  have Ny286 := aM hy286
  clear hy286
  by_cases c7 : 0 ≤ t285
  ·rw [if_pos c7] at H
   have c7b0 := eq_true c7
   have c7b1 : decide (0 ≤ t285) = true := decide_eq_true c7
   clear c7
   by_cases c8 : t285 ≤ (t280.length : Int)
   ·rw [if_pos c8] at H
    have c8b0 := eq_true c8
    have c8b1 : decide (t285 ≤ (t280.length : Int)) = true := decide_eq_true c8
    clear c8
    obtain ⟨y289, hy289⟩ : ∃ y_ : List (S45), y_ = (t280.take (t285 : Int).toNat) := ⟨_, rfl⟩
    first | replace H := bY hy289 H | rw [← hy289] at H
    have Ny289 := aM hy289
    clear hy289
    by_cases c9 : y286.length + y289.length < 4398046511104
    ·rw [if_pos c9] at H
     have LMc9 := aM c9
     clear c9
     obtain ⟨y294, hy294⟩ : ∃ y_ : List (S45), y_ = (y286 ++ y289) := ⟨_, rfl⟩
     first | replace H := bY hy294 H | rw [← hy294] at H
     have Ny294 := aM hy294
     clear hy294
     obtain ⟨ji10, hji10⟩ : ∃ j_ : Int, (wrap64 (t285 + 1)) = j_ := ⟨_, rfl⟩
     replace H : (if 0 ≤ (ji10) then (if (ji10) ≤ (t280.length : Int) then ((some (t280.drop ((ji10) : Int).toNat : List (S45))).bind fun y297 => (if y294.length + y297.length < 4398046511104 then (some (t277, (y294 ++ y297), true)) else (none))) else (none)) else (none)) = some (r1, r2, r3) := by first | (rw [hji10] at H; exact H) | (simp only [hji10] at H ⊢; exact H)
     (try rw [hji10] at A3)
     (try rw [hji10] at A4)
     (try rw [hji10] at A6)
     have hji10w : (IntKind.i64.wrap (t285 + 1)) = ji10 := (i64_w _).trans hji10
     by_cases c11 : 0 ≤ (ji10)
     ·rw [if_pos c11] at H
      have c11b0 := eq_true c11
      have c11b1 : decide (0 ≤ (ji10)) = true := decide_eq_true c11
      clear c11
      by_cases c12 : (ji10) ≤ (t280.length : Int)
      ·rw [if_pos c12] at H
       have c12b0 := eq_true c12
       have c12b1 : decide ((ji10) ≤ (t280.length : Int)) = true := decide_eq_true c12
       clear c12
       obtain ⟨y297, hy297⟩ : ∃ y_ : List (S45), y_ = (t280.drop ((ji10) : Int).toNat) := ⟨_, rfl⟩
       first | replace H := bY hy297 H | rw [← hy297] at H
       have Ny297 := aM hy297
       clear hy297
       by_cases c13 : y294.length + y297.length < 4398046511104
       ·rw [if_pos c13] at H
        have LMc13 := aM c13
        clear c13
        obtain ⟨y302, hy302⟩ : ∃ y_ : List (S45), y_ = (y294 ++ y297) := ⟨_, rfl⟩
        first | replace H := bY hy302 H | rw [← hy302] at H
        have Ny302 := aM hy302
        clear hy302
        simp only [Option.some.injEq, Prod.mk.injEq] at H
        obtain ⟨rfl, rfl, rfl⟩ := H
        go_enter Try.func23, Try.ntmps23
        try go_wp2_with (first | ((with_reducible refine gate_dst (N := 2) rfl ?_); refine bE 2 (cs := #[.slice A0_0 l0_0.length c0_0, .slice A0_1 l0_1.length c0_1]) (t := 31) ?_; intro gb274 hg w14 hbox hb; have BK274 := aM (hbox); have GW274 := aM ((by rw [hg]; exact (below_size aB) : w.heap.size ≤ gb274)); have GE274 := aM ((by rw [hg]; exact (below_size aB) : w.heap.size ≤ gb274)); replace HB := aM (below_step aB hb); clear hb hbox hg) | ((with_reducible refine gate_dst (N := 3) rfl ?_); refine bE 3 (cs := #[.int .i64 a1_0, .slice A1_1 l1_1.length c1_1]) (t := 45) ?_; intro gb275 hg w15 hbox hb; have BK275 := aM (hbox); have GW275 := aM ((by rw [hg]; exact (below_size aG) : w.heap.size ≤ gb275)); have GE275 := aM ((by rw [hg]; exact (below_size aG) : w.heap.size ≤ gb275)); have NB274_275 := aM ((by rw [hg]; exact Nat.ne_of_lt (blk_lt (g := gb274) aK) : gb274 ≠ gb275)); have NB275_274 := aM ((by rw [hg]; exact Nat.ne_of_gt (blk_lt (g := gb274) aK) : gb275 ≠ gb274)); replace BK274 := aM (kB gb274 #[.slice A0_0 l0_0.length c0_0, .slice A0_1 l0_1.length c0_1] 31 hb); replace HB := aM (below_step aG hb); clear hb hbox hg) | ((with_reducible refine gate_dst (N := 4) rfl ?_); refine bE 4 (cs := #[.slice none 0 0, .slice none 0 0]) (t := 31) ?_; intro gb276 hg w16 hbox hb; have n0_ := aM (kB gb274 #[.slice A0_0 l0_0.length c0_0, .slice A0_1 l0_1.length c0_1] 31 hb); have n1_ := aM (kB gb275 #[.int .i64 a1_0, .slice A1_1 l1_1.length c1_1] 45 hb); have n2_ := aM (below_step aG hb); have n3_ := aM (hbox); have n4_ := aM ((by rw [hg]; exact (below_size aG) : w.heap.size ≤ gb276)); have n5_ := aM ((by rw [hg]; exact (below_size aG) : w.heap.size ≤ gb276)); have n6_ := aM ((by rw [hg]; exact Nat.ne_of_lt (blk_lt (g := gb274) aK) : gb274 ≠ gb276)); have n7_ := aM ((by rw [hg]; exact Nat.ne_of_gt (blk_lt (g := gb274) aK) : gb276 ≠ gb274)); have n8_ := aM ((by rw [hg]; exact Nat.ne_of_lt (blk_lt (g := gb275) aK) : gb275 ≠ gb276)); have n9_ := aM ((by rw [hg]; exact Nat.ne_of_gt (blk_lt (g := gb275) aK) : gb276 ≠ gb275)); clear BK274; clear BK275; clear HB; have BK274 := n0_; have BK275 := n1_; have HB := n2_; have BK276 := n3_; have GW276 := n4_; have GE276 := n5_; have NB274_276 := n6_; have NB276_274 := n7_; have NB275_276 := n8_; have NB276_275 := n9_; clear n0_ n1_ n2_ n3_ n4_ n5_ n6_ n7_ n8_ n9_; clear hb hbox hg; have hnb17 := NB274_275.out; have hnc17 := NB275_274.out; have hnb18 := NB274_276.out; have hnc18 := NB276_274.out; have hcz19_0 : w16.cell? ⟨gb274, 0, none⟩ = some (.slice A0_0 l0_0.length c0_0) := (blk_cell BK274.out 0).trans rfl; have hcz19_1 : w16.cell? ⟨gb274, 1, none⟩ = some (.slice A0_1 l0_1.length c0_1) := (blk_cell BK274.out 1).trans rfl; have hfz19_0 := blk_frozen BK274.out 0; have hfz19_1 := blk_frozen BK274.out 1) | ((with_reducible refine gate_callee (f := 46) rfl ?_); refine goesL_ (some 9) rfl rfl Try.func46 (by kernel_rfl) rfl #[.agg #[.slice A0_0 l0_0.length c0_0, .slice A0_1 l0_1.length c0_1]] rfl aA ?_; (with_reducible refine (spec_l4Copy.calls k _ _ l0_0 _ _ l0_1 t277 t280 _ ?side1 ?side2 ?side3 ?side4 A3.out).mono ?_); (case side1 => exact aC); (case side2 => exact HC0_0.out); (case side3 => exact aC); (case side4 => exact HC0_1.out); rintro e w20 ⟨v278, v281, rfl, ho0, ho1, hb⟩; refine ⟨_, rfl, ?_⟩; have n0_ := aM (Kd.R_lower (Kd.R_newM (M := fun k_ => (w.heap.size ≤ k_)) ho0 (below_size aG) (fun k_ h_ => h_)) (below_size aG)); have n1_ := aM (Kd.N_lower (Kd.N_mono (ok' := fun k_ => (w.heap.size ≤ k_) ∧ some k_ ≠ (v278 : Value).ownBlock ∧ k_ ≠ gb274 ∧ k_ ≠ gb275 ∧ k_ ≠ gb276) (Kd.S_N (Kd.S_bound (Kd.S_apart' ho1 (Kd.R_typed ho0) (by decide)))) (fun k_ hk_ => ⟨(Nat.le_trans (below_size aG) hk_.2.1), hk_.1.2, (Kd.freshB (g := gb274) aK k_ hk_.2.1), (Kd.freshB (g := gb275) aK k_ hk_.2.1), (Kd.freshB (g := gb276) aK k_ hk_.2.1)⟩)) (below_size aG)); have n2_ := aM (kB gb274 #[.slice A0_0 l0_0.length c0_0, .slice A0_1 l0_1.length c0_1] 31 hb); have n3_ := aM (kB gb275 #[.int .i64 a1_0, .slice A1_1 l1_1.length c1_1] 45 hb); have n4_ := aM (kB gb276 #[.slice none 0 0, .slice none 0 0] 31 hb); have n5_ := aM (below_step aG hb); clear BK274; clear BK275; clear BK276; clear HB; have HO279 := n0_; have HO282 := n1_; have BK274 := n2_; have BK275 := n3_; have BK276 := n4_; have HB := n5_; clear n0_ n1_ n2_ n3_ n4_ n5_; (try clear hb); (try clear hb2); (try clear hk); (try clear hi); (try clear ho0); (try clear ho1)) | ((with_reducible refine gate_dst (N := 6) rfl ?_); refine bE 6 (cs := #[.slice none 0 0, .slice none 0 0]) (t := 31) ?_; intro gb283 hg w21 hbox hb; have n0_ := aM (Kd.R_below (aR HO279) hb); have n1_ := aM (Kd.N_below (Kd.N_elderB (aN HO282) gb283 (Nat.le_of_eq hg.symm)) hb); have n2_ := aM (kB gb274 #[.slice A0_0 l0_0.length c0_0, .slice A0_1 l0_1.length c0_1] 31 hb); have n3_ := aM (kB gb275 #[.int .i64 a1_0, .slice A1_1 l1_1.length c1_1] 45 hb); have n4_ := aM (kB gb276 #[.slice none 0 0, .slice none 0 0] 31 hb); have n5_ := aM (below_step aG hb); have n6_ := aM (hbox); have n7_ := aM ((by rw [hg]; exact (below_size aG) : w.heap.size ≤ gb283)); have n8_ := aM ((by rw [hg]; exact (below_size aG) : w.heap.size ≤ gb283)); have n9_ := aM ((by rw [hg]; exact Nat.ne_of_lt (blk_lt (g := gb274) aK) : gb274 ≠ gb283)); have n10_ := aM ((by rw [hg]; exact Nat.ne_of_gt (blk_lt (g := gb274) aK) : gb283 ≠ gb274)); have n11_ := aM ((by rw [hg]; exact Nat.ne_of_lt (blk_lt (g := gb275) aK) : gb275 ≠ gb283)); have n12_ := aM ((by rw [hg]; exact Nat.ne_of_gt (blk_lt (g := gb275) aK) : gb283 ≠ gb275)); have n13_ := aM ((by rw [hg]; exact Nat.ne_of_lt (blk_lt (g := gb276) aK) : gb276 ≠ gb283)); have n14_ := aM ((by rw [hg]; exact Nat.ne_of_gt (blk_lt (g := gb276) aK) : gb283 ≠ gb276)); clear HO279; clear HO282; clear BK274; clear BK275; clear BK276; clear HB; have HO279 := n0_; have HO282 := n1_; have BK274 := n2_; have BK275 := n3_; have BK276 := n4_; have HB := n5_; have BK283 := n6_; have GW283 := n7_; have GE283 := n8_; have NB274_283 := n9_; have NB283_274 := n10_; have NB275_283 := n11_; have NB283_275 := n12_; have NB276_283 := n13_; have NB283_276 := n14_; clear n0_ n1_ n2_ n3_ n4_ n5_ n6_ n7_ n8_ n9_ n10_ n11_ n12_ n13_ n14_; clear hb hbox hg; obtain ⟨Ao22, co22, eo22⟩ := Kd.R_slice HO279.out; subst eo22; have hnb23 := NB283_274.out; have hnc23 := NB274_283.out; have hnb24 := NB283_275.out; have hnc24 := NB275_283.out; have hnb25 := NB283_276.out; have hnc25 := NB276_283.out; have hcz26_0 : w21.cell? ⟨gb283, 0, none⟩ = some (.slice none 0 0) := (blk_cell BK283.out 0).trans rfl; have hcz26_1 : w21.cell? ⟨gb283, 1, none⟩ = some (.slice none 0 0) := (blk_cell BK283.out 1).trans rfl; have hfz26_0 := blk_frozen BK283.out 0; have hfz26_1 := blk_frozen BK283.out 1; obtain ⟨Ao27, co27, eo27⟩ := Kd.N_slice HO282.out; subst eo27; have hcz28_0 : w21.cell? ⟨gb274, 0, none⟩ = some (.slice A0_0 l0_0.length c0_0) := (blk_cell BK274.out 0).trans rfl; have hcz28_1 : w21.cell? ⟨gb274, 1, none⟩ = some (.slice A0_1 l0_1.length c0_1) := (blk_cell BK274.out 1).trans rfl; have hfz28_0 := blk_frozen BK274.out 0; have hfz28_1 := blk_frozen BK274.out 1; have hnb29 := NB275_276.out; have hnc29 := NB276_275.out; have hcz30_0 : w21.cell? ⟨gb275, 0, none⟩ = some (.int .i64 a1_0) := (blk_cell BK275.out 0).trans rfl; have hcz30_1 : w21.cell? ⟨gb275, 1, none⟩ = some (.slice A1_1 l1_1.length c1_1) := (blk_cell BK275.out 1).trans rfl; have hfz30_0 := blk_frozen BK275.out 0; have hfz30_1 := blk_frozen BK275.out 1) | ((with_reducible refine gate_callee (f := 48) rfl ?_); refine goesL_ (some 12) rfl rfl Try.func48 (by kernel_rfl) rfl #[.agg #[.slice A0_0 l0_0.length c0_0, .slice A0_1 l0_1.length c0_1], .agg #[.int .i64 a1_0, .slice A1_1 l1_1.length c1_1]] rfl aA ?_; (with_reducible refine (spec_ContainsFact.calls k _ _ l0_0 _ _ l0_1 a1_0 _ _ l1_1 true _ ?side1 ?side2 ?side3 ?side4 ?side5 ?side6 A4.out).mono ?_); (case side1 => exact Kd.C_below HR0_0.out aG); (case side2 => exact HC0_0.out); (case side3 => exact Kd.C_below HR0_1.out aG); (case side4 => exact HC0_1.out); (case side5 => exact Kd.C_below HR1_1.out aG); (case side6 => exact HC1_1.out); rintro e w31 ⟨rfl, hb⟩; refine ⟨_, rfl, ?_⟩; replace HO279 := aM (Kd.R_below (by (with_reducible repeat apply pR); exact (rF1 HO279.out BK283.out (.slice Ao22 t277.length co22) (.slice Ao27 t280.length co27))) hb); replace HO282 := aM (Kd.N_below (by (with_reducible repeat apply pN); exact (nF1 gb283 HO282.out (fun _ hk => hk.2) (.slice Ao22 t277.length co22) (.slice Ao27 t280.length co27))) hb); replace BK274 := aM (blk_below (g := gb274) (bF2 NB274_283.out BK274.out) hb); replace BK275 := aM (blk_below (g := gb275) (bF2 NB275_283.out BK275.out) hb); replace BK276 := aM (blk_below (g := gb276) (bF2 NB276_283.out BK276.out) hb); replace BK283 := aM (blk_below (g := gb283) (bP2 BK283.out) hb); replace HB := aM (below_step aG hb); (try clear hb); (try clear hb2); (try clear hk); (try clear hi); have hcz32_0 : w31.cell? ⟨gb274, 0, none⟩ = some (.slice A0_0 l0_0.length c0_0) := (blk_cell BK274.out 0).trans rfl; have hcz32_1 : w31.cell? ⟨gb274, 1, none⟩ = some (.slice A0_1 l0_1.length c0_1) := (blk_cell BK274.out 1).trans rfl; have hfz32_0 := blk_frozen BK274.out 0; have hfz32_1 := blk_frozen BK274.out 1; have hcz33_0 : w31.cell? ⟨gb275, 0, none⟩ = some (.int .i64 a1_0) := (blk_cell BK275.out 0).trans rfl; have hcz33_1 : w31.cell? ⟨gb275, 1, none⟩ = some (.slice A1_1 l1_1.length c1_1) := (blk_cell BK275.out 1).trans rfl; have hfz33_0 := blk_frozen BK275.out 0; have hfz33_1 := blk_frozen BK275.out 1) | ((with_reducible refine gate_callee (f := 53) rfl ?_); refine goesL_ (some 17) rfl rfl Try.func53 (by kernel_rfl) rfl #[.agg #[.slice A0_0 l0_0.length c0_0, .slice A0_1 l0_1.length c0_1], .agg #[.int .i64 a1_0, .slice A1_1 l1_1.length c1_1]] rfl aA ?_; (with_reducible refine (spec_FactIndex.calls k _ _ l0_0 _ _ l0_1 a1_0 _ _ l1_1 t285 _ ?side1 ?side2 ?side3 ?side4 ?side5 ?side6 A6.out).mono ?_); (case side1 => exact aC); (case side2 => exact HC0_0.out); (case side3 => exact aC); (case side4 => exact HC0_1.out); (case side5 => exact aC); (case side6 => exact HC1_1.out); rintro e w34 ⟨rfl, hb⟩; refine ⟨_, rfl, ?_⟩; have n0_ := aM (Kd.R_below (aR HO279) hb); have n1_ := aM (Kd.N_below (aN HO282) hb); have n2_ := aM (kB gb274 #[.slice A0_0 l0_0.length c0_0, .slice A0_1 l0_1.length c0_1] 31 hb); have n3_ := aM (kB gb275 #[.int .i64 a1_0, .slice A1_1 l1_1.length c1_1] 45 hb); have n4_ := aM (kB gb276 #[.slice none 0 0, .slice none 0 0] 31 hb); have n5_ := aM (kB gb283 #[.slice Ao22 t277.length co22, .slice Ao27 t280.length co27] 31 hb); have n6_ := aM (below_step aG hb); clear HO279; clear HO282; clear BK274; clear BK275; clear BK276; clear BK283; clear HB; have HO279 := n0_; have HO282 := n1_; have BK274 := n2_; have BK275 := n3_; have BK276 := n4_; have BK283 := n5_; have HB := n6_; clear n0_ n1_ n2_ n3_ n4_ n5_ n6_; (try clear hb); (try clear hb2); (try clear hk); (try clear hi)))
        replace HO279 := aM (Kd.R_drew HO279.out)
        replace HO282 := aM (Kd.N_drew HO282.out)
        replace BK274 := aM (blk_drew BK274.out)
        replace BK275 := aM (blk_drew BK275.out)
        replace BK276 := aM (blk_drew BK276.out)
        replace BK283 := aM (blk_drew BK283.out)
        replace HB := aM (below_drew1 HB.out)
        have q36 : (t285 : Int) ≤ ((t280.length : Int) : Int) := aD
        obtain ⟨i036, hi036, _, hsz36, _⟩ := info_parts info45
        have hroom36 : t280.length ≤ co27 := (Kd.N_reads' HO282.out).2.1
        have hC36 : Kd.F k45 _ _ Ao27 t280.length t280 := (Kd.V_at (base := w.heap.size) (Kd.N_V HO282.out)).2.2
        have hcut36 := cut_to (P := Try.prog) 29 45 .i64 Try.underlying29 hi036 Ao27 t280.length co27 t285 (aD) q36 hroom36
        have hr36 := Kd.F_take (m := (t285 : Int).toNat) hC36 (by omega)
        have hy36 : y289.length = (t285 : Int).toNat := (by rw [Ny289.out, List.length_take]; omega)
        rw [← Ny289.out] at hr36
        rw [← hy36] at hcut36
        have HO293 := aM (show Kd.V k45 45 _ w.heap.size _ (.slice Ao27 y289.length co27) y289 from Kd.V_mk (by omega) hr36)
        have HC293 := aM (show y289.length ≤ co27 from by omega)
        clear hr36 hC36 hroom36 hi036 hsz36
        have KY36 := aM hy36
        clear hy36
        replace q36 := eq_true q36
        have q37 : ((ji10) : Int) ≤ ((t280.length : Int) : Int) := aD
        obtain ⟨i037, hi037, _, hsz37, _⟩ := info_parts info45
        have hroom37 : t280.length ≤ co27 := (Kd.N_reads' HO282.out).2.1
        have hC37 : Kd.F k45 _ _ Ao27 t280.length t280 := (Kd.V_at (base := w.heap.size) (Kd.N_V HO282.out)).2.2
        have q037 : (0 : Int) ≤ ((ji10) : Int) := aD
        have hcut37 := cut_from (P := Try.prog) 29 45 .i64 Try.underlying29 hi037 2 hsz37 Ao27 t280.length co27 (ji10) q037 q37
        have hr37 := Kd.F_cut (m := ((ji10) : Int).toNat) (c := co27) hC37 (by omega) hroom37
        obtain ⟨A37, hA37⟩ : ∃ A1, A1 = (if co27 = ((ji10) : Int).toNat then Ao27 else (Ao27 : Option Addr).map (·.add (((ji10) : Int).toNat * 2))) := ⟨_, rfl⟩
        obtain ⟨c37, hc37⟩ : ∃ c1, c1 = co27 - ((ji10) : Int).toNat := ⟨_, rfl⟩
        have hy37 : y297.length = t280.length - ((ji10) : Int).toNat := (by rw [Ny297.out, List.length_drop] <;> omega)
        rw [show (t280).drop ((ji10) : Int).toNat = y297 from Ny297.out.symm] at hr37
        replace hr37 : Kd.F k45 _ _ A37 y297.length y297 := (by rw [hA37]; exact hr37)
        rw [← hy37, ← hA37, ← hc37] at hcut37
        have HO301 := aM (show Kd.V k45 45 _ w.heap.size _ (.slice A37 y297.length c37) y297 from Kd.V_mk (by rw [hy37, hc37]; exact Nat.sub_le_sub_right hroom37 _) hr37)
        have HC301 := aM (show y297.length ≤ c37 from by rw [hy37, hc37]; exact Nat.sub_le_sub_right hroom37 _)
        clear hr37 hC37 hroom37 hi037 hsz37 hc37
        have KY37 := aM hy37
        have KA37 := aM hA37
        clear hy37 hA37
        replace q37 := eq_true q37
        refine start_ (n := 14) (S := fun w' => w'.cell? ⟨gb283, 0, none⟩ = some (.slice Ao22 t277.length co22) ∧ w'.cell? ⟨gb283, 1, none⟩ = some (.slice Ao27 t280.length co27)) (ds := [13]) #[false, false, false, false, false, false, false, false, false, false, false, false, false, false] (by kernel_rfl) rfl rfl ⟨(blk_cell BK283.out 0).trans rfl, (blk_cell BK283.out 1).trans rfl⟩ (fun hHeld => ?_); refine with_tabW spec_DeleteFact.tab5 spec_DeleteFact.bits5 (fun HT_ HW_ => ?_)
        generalize w34.drew = w35 at HO279 HO282 BK274 BK275 BK276 BK283 HB HO293 HO301 hHeld ⊢
        refine pU 1 19 ?_
        refine pU 3 21 ?_
        refine pU 6 24 ?_
        refine pU 8 26 ?_
        refine pU 9 27 ?_
        refine tU2 2 20 hHeld ?_
        refine pU 4 22 ?_
        refine tU2 7 25 hHeld ?_
        refine pU 10 28 ?_
        refine oU 0 18 (fun K hK => ?_)
        refine Kd.N_lit_step k45 _ 45 ?hg (N' := 18) ?hd (xs := ([] : List (S45))) (inner := []) (ok := (fun k_ => (w.heap.size ≤ k_) ∧ some k_ ≠ (.slice Ao22 t277.length co22 : Value).ownBlock ∧ some k_ ≠ (.slice Ao27 t280.length co27 : Value).ownBlock ∧ k_ ≠ gb274 ∧ k_ ≠ gb275 ∧ k_ ≠ gb276 ∧ k_ ≠ gb283)) (okp := (fun k_ => (w.heap.size ≤ k_) ∧ some k_ ≠ (.slice Ao22 t277.length co22 : Value).ownBlock ∧ some k_ ≠ (.slice Ao27 t280.length co27 : Value).ownBlock ∧ k_ ≠ gb274 ∧ k_ ≠ gb275 ∧ k_ ≠ gb276 ∧ k_ ≠ gb283)) ?hr ?hp (fun _ hk => hk) ((show ∀ k_, w35.heap.size ≤ k_ → (fun k_ => (w.heap.size ≤ k_) ∧ some k_ ≠ (.slice Ao22 t277.length co22 : Value).ownBlock ∧ some k_ ≠ (.slice Ao27 t280.length co27 : Value).ownBlock ∧ k_ ≠ gb274 ∧ k_ ≠ gb275 ∧ k_ ≠ gb276 ∧ k_ ≠ gb283) k_ from fun k_ hk => ⟨(Nat.le_trans (below_size aG) hk), Kd.fresh' (Kd.R_lt (aR HO279)) k_ hk, Kd.fresh' (Kd.N_lt (aN HO282)) k_ hk, Kd.freshB (g := gb274) aK k_ hk, Kd.freshB (g := gb275) aK k_ hk, Kd.freshB (g := gb276) aK k_ hk, Kd.freshB (g := gb283) aK k_ hk⟩) _ (Nat.le_refl _)) (Below.refl _ _) (Nat.le_refl _) (by simp) ?_; (case hd => rfl); (case hg => rfl); (case hr => first | (go_simp; done) | (go_simp; rfl)); (case hp => exact (Reps.none _ _))
        intro v287 w38 ho39 hb hg_ hnew_
        clear hg_ hnew_
        (first | rw [← Ny286.out] at ho39 | (simp only [Int.reduceToNat] at ho39; rw [← Ny286.out] at ho39))
        have n0_ := aM (Kd.R_below (aR HO279) hb)
        have n1_ := aM (Kd.N_elder' (aN HO282) (Kd.N_base ho39) hb)
        have n2_ := aM (Kd.V_elder' (aV HO293) (Kd.N_base ho39) hb)
        have n3_ := aM (Kd.V_elder' (aV HO301) (Kd.N_base ho39) hb)
        have n4_ := aM (Kd.N_lower ho39 (below_size aG))
        have n5_ := aM (kB gb274 #[.slice A0_0 l0_0.length c0_0, .slice A0_1 l0_1.length c0_1] 31 hb)
        have n6_ := aM (kB gb275 #[.int .i64 a1_0, .slice A1_1 l1_1.length c1_1] 45 hb)
        have n7_ := aM (kB gb276 #[.slice none 0 0, .slice none 0 0] 31 hb)
        have n8_ := aM (kB gb283 #[.slice Ao22 t277.length co22, .slice Ao27 t280.length co27] 31 hb)
        have n9_ := aM (below_step aG hb)
        clear HO279
        clear HO282
        clear HO293
        clear HO301
        clear BK274
        clear BK275
        clear BK276
        clear BK283
        clear HB
        have HO279 := n0_
        have HO282 := n1_
        have HO293 := n2_
        have HO301 := n3_
        have HO288 := n4_
        have BK274 := n5_
        have BK275 := n6_
        have BK276 := n7_
        have BK283 := n8_
        have HB := n9_
        clear n0_ n1_ n2_ n3_ n4_ n5_ n6_ n7_ n8_ n9_
        clear hb ho39
        refine hK.out _ _ ⟨(blk_cell BK283.out 0).trans rfl, (blk_cell BK283.out 1).trans rfl⟩ (fun hHeld => ?_)
        clear hK K
        refine nU 18 ?_
        refine oU 5 23 (fun K hK => ?_)
        refine Kd.N_append_rows_step k45 (w0 := w) w.heap.size (by rfl) (.tmp 18) (.tmp 22) 29 45 (.agg #[(.int .i64 0), (.slice none 0 0)]) 32 rfl Try.underlying29 info45 rfl (by decide) (by omega) v287 y286 y289 _ _ _ (fun k_ => (w.heap.size ≤ k_) ∧ some k_ ≠ (.slice Ao22 t277.length co22 : Value).ownBlock ∧ k_ ≠ gb274 ∧ k_ ≠ gb275 ∧ k_ ≠ gb276 ∧ k_ ≠ gb283) (fun k_ => ((fun k_ => (w.heap.size ≤ k_) ∧ some k_ ≠ (.slice Ao22 t277.length co22 : Value).ownBlock ∧ k_ ≠ gb274 ∧ k_ ≠ gb275 ∧ k_ ≠ gb276 ∧ k_ ≠ gb283)) k_ ∧ some k_ ≠ (v287 : Value).ownBlock) rfl rfl ?aO ?aR (fun _ hk => hk) ?aF ?aB ?aS ?aL ?_
        (case aR => exact (by skip; exact Kd.V_F (Kd.V_mono (ok' := (fun k_ => ((fun k_ => (w.heap.size ≤ k_) ∧ some k_ ≠ (.slice Ao22 t277.length co22 : Value).ownBlock ∧ k_ ≠ gb274 ∧ k_ ≠ gb275 ∧ k_ ≠ gb276 ∧ k_ ≠ gb283)) k_ ∧ some k_ ≠ (v287 : Value).ownBlock)) (HO293.out) (fun k_ hk => ⟨⟨hk.1.1.1, ⟨hk.1.1.2.1, ⟨hk.1.1.2.2.1, ⟨hk.1.1.2.2.2.1, ⟨hk.1.1.2.2.2.2, hk.1.2⟩⟩⟩⟩⟩, hk.2⟩))))
        (case aB => exact aG)
        (case aF => exact (fun k_ hk => ⟨(Nat.le_trans (below_size aG) hk), Kd.fresh' (Kd.R_lt (aR HO279)) k_ hk, Kd.freshB (g := gb274) aK k_ hk, Kd.freshB (g := gb275) aK k_ hk, Kd.freshB (g := gb276) aK k_ hk, Kd.freshB (g := gb283) aK k_ hk⟩))
        (case aO => exact (by (with_reducible repeat apply pN); exact Kd.N_mono HO288.out (fun _ hk => ⟨hk.1, ⟨hk.2.1, ⟨hk.2.2.2.1, ⟨hk.2.2.2.2.1, ⟨hk.2.2.2.2.2.1, hk.2.2.2.2.2.2⟩⟩⟩⟩⟩)))
        (case aS => exact (below_size aG))
        (case aL => have := LMc9.out; omega)
        intro v295 w40 ho hb hg hat
        rw [← Ny294.out] at ho
        have n0_ := aM (blk_grown (g := gb274) aK hg (Kd.N_ne HO288.out BK274.out (by decide)))
        have n1_ := aM (blk_grown (g := gb275) aK hg (Kd.N_away HO288.out (fun _ hk => hk.2.2.2.2.1)))
        have n2_ := aM (blk_grown (g := gb276) aK hg (Kd.N_ne HO288.out BK276.out (by decide)))
        have n3_ := aM (Kd.R_over' (aR HO279) (Kd.N_typed (aN HO288)) (by decide) hg)
        have n4_ := aM (Kd.N_afterv (ok := (fun k_ => (w.heap.size ≤ k_) ∧ some k_ ≠ (.slice Ao22 t277.length co22 : Value).ownBlock ∧ k_ ≠ gb274 ∧ k_ ≠ gb275 ∧ k_ ≠ gb276 ∧ k_ ≠ gb283)) (by (with_reducible repeat apply pN); exact Kd.N_mono HO282.out (fun _ hk => ⟨⟨hk.1.1.1, ⟨hk.1.1.2.1, ⟨hk.1.1.2.2.1, ⟨hk.1.1.2.2.2.1, ⟨hk.1.1.2.2.2.2, hk.1.2⟩⟩⟩⟩⟩, hk.2⟩)) hg hat)
        have n5_ := aM (blk_grown (g := gb283) aK hg (Kd.N_ne HO288.out BK283.out (by decide)))
        have n6_ := aM (Kd.V_afterv (ok := (fun k_ => (w.heap.size ≤ k_) ∧ some k_ ≠ (.slice Ao22 t277.length co22 : Value).ownBlock ∧ k_ ≠ gb274 ∧ k_ ≠ gb275 ∧ k_ ≠ gb276 ∧ k_ ≠ gb283)) (by (with_reducible repeat apply pV); exact Kd.V_mono HO293.out (fun _ hk => ⟨⟨hk.1.1.1, ⟨hk.1.1.2.1, ⟨hk.1.1.2.2.1, ⟨hk.1.1.2.2.2.1, ⟨hk.1.1.2.2.2.2, hk.1.2⟩⟩⟩⟩⟩, hk.2⟩)) hg hat)
        have n7_ := aM (Kd.V_afterv (ok := (fun k_ => (w.heap.size ≤ k_) ∧ some k_ ≠ (.slice Ao22 t277.length co22 : Value).ownBlock ∧ k_ ≠ gb274 ∧ k_ ≠ gb275 ∧ k_ ≠ gb276 ∧ k_ ≠ gb283)) (by (with_reducible repeat apply pV); exact Kd.V_mono HO301.out (fun _ hk => ⟨⟨hk.1.1.1, ⟨hk.1.1.2.1, ⟨hk.1.1.2.2.1, ⟨hk.1.1.2.2.2.1, ⟨hk.1.1.2.2.2.2, hk.1.2⟩⟩⟩⟩⟩, hk.2⟩)) hg hat)
        have n8_ := aM (hb)
        have n9_ := aM (ho)
        clear BK274
        clear BK275
        clear BK276
        clear HO279
        clear HO282
        clear BK283
        clear HO293
        clear HO301
        clear HB
        clear HO288
        have BK274 := n0_
        have BK275 := n1_
        have BK276 := n2_
        have HO279 := n3_
        have HO282 := n4_
        have BK283 := n5_
        have HO293 := n6_
        have HO301 := n7_
        have HB := n8_
        have HO296 := n9_
        clear n0_ n1_ n2_ n3_ n4_ n5_ n6_ n7_ n8_ n9_
        clear ho hb hg hat
        refine hK.out _ _ ⟨(blk_cell BK283.out 0).trans rfl, (blk_cell BK283.out 1).trans rfl⟩ (fun hHeld => ?_)
        clear hK K
        refine nU 23 ?_
        refine oU 11 29 (fun K hK => ?_)
        refine Kd.N_append_rows_step k45 (w0 := w) w.heap.size (by rfl) (.tmp 23) (.tmp 28) 29 45 (.agg #[(.int .i64 0), (.slice none 0 0)]) 32 rfl Try.underlying29 info45 rfl (by decide) (by omega) v295 y294 y297 _ _ _ (fun k_ => (w.heap.size ≤ k_) ∧ some k_ ≠ (.slice Ao22 t277.length co22 : Value).ownBlock ∧ k_ ≠ gb274 ∧ k_ ≠ gb275 ∧ k_ ≠ gb276 ∧ k_ ≠ gb283) (fun k_ => ((fun k_ => (w.heap.size ≤ k_) ∧ some k_ ≠ (.slice Ao22 t277.length co22 : Value).ownBlock ∧ k_ ≠ gb274 ∧ k_ ≠ gb275 ∧ k_ ≠ gb276 ∧ k_ ≠ gb283)) k_ ∧ some k_ ≠ (v295 : Value).ownBlock) rfl rfl ?aO ?aR (fun _ hk => hk) ?aF ?aB ?aS ?aL ?_
        (case aR => exact (by skip; exact Kd.V_F (Kd.V_mono (ok' := (fun k_ => ((fun k_ => (w.heap.size ≤ k_) ∧ some k_ ≠ (.slice Ao22 t277.length co22 : Value).ownBlock ∧ k_ ≠ gb274 ∧ k_ ≠ gb275 ∧ k_ ≠ gb276 ∧ k_ ≠ gb283)) k_ ∧ some k_ ≠ (v295 : Value).ownBlock)) (HO301.out) (fun k_ hk => ⟨⟨hk.1.1, ⟨hk.1.2.1, ⟨hk.1.2.2.1, ⟨hk.1.2.2.2.1, ⟨hk.1.2.2.2.2.1, hk.1.2.2.2.2.2⟩⟩⟩⟩⟩, hk.2⟩))))
        (case aB => exact aG)
        (case aF => exact (fun k_ hk => ⟨(Nat.le_trans (below_size aG) hk), Kd.fresh' (Kd.R_lt (aR HO279)) k_ hk, Kd.freshB (g := gb274) aK k_ hk, Kd.freshB (g := gb275) aK k_ hk, Kd.freshB (g := gb276) aK k_ hk, Kd.freshB (g := gb283) aK k_ hk⟩))
        (case aO => exact (aN HO296))
        (case aS => exact (below_size aG))
        (case aL => have := LMc13.out; omega)
        intro v303 w41 ho hb hg hat
        rw [← Ny302.out] at ho
        have n0_ := aM (blk_grown (g := gb274) aK hg (Kd.N_ne HO296.out BK274.out (by decide)))
        have n1_ := aM (blk_grown (g := gb275) aK hg (Kd.N_away HO296.out (fun _ hk => hk.2.2.2.1)))
        have n2_ := aM (blk_grown (g := gb276) aK hg (Kd.N_ne HO296.out BK276.out (by decide)))
        have n3_ := aM (Kd.R_over' (aR HO279) (Kd.N_typed (aN HO296)) (by decide) hg)
        have n4_ := aM (Kd.N_afterv (ok := (fun k_ => (w.heap.size ≤ k_) ∧ some k_ ≠ (.slice Ao22 t277.length co22 : Value).ownBlock ∧ k_ ≠ gb274 ∧ k_ ≠ gb275 ∧ k_ ≠ gb276 ∧ k_ ≠ gb283)) (aN HO282) hg hat)
        have n5_ := aM (blk_grown (g := gb283) aK hg (Kd.N_ne HO296.out BK283.out (by decide)))
        have n6_ := aM (Kd.V_afterv (ok := (fun k_ => (w.heap.size ≤ k_) ∧ some k_ ≠ (.slice Ao22 t277.length co22 : Value).ownBlock ∧ k_ ≠ gb274 ∧ k_ ≠ gb275 ∧ k_ ≠ gb276 ∧ k_ ≠ gb283)) (aV HO293) hg hat)
        have n7_ := aM (Kd.V_afterv (ok := (fun k_ => (w.heap.size ≤ k_) ∧ some k_ ≠ (.slice Ao22 t277.length co22 : Value).ownBlock ∧ k_ ≠ gb274 ∧ k_ ≠ gb275 ∧ k_ ≠ gb276 ∧ k_ ≠ gb283)) (aV HO301) hg hat)
        have n8_ := aM (hb)
        have n9_ := aM (ho)
        clear BK274
        clear BK275
        clear BK276
        clear HO279
        clear HO282
        clear BK283
        clear HO293
        clear HO301
        clear HB
        clear HO296
        have BK274 := n0_
        have BK275 := n1_
        have BK276 := n2_
        have HO279 := n3_
        have HO282 := n4_
        have BK283 := n5_
        have HO293 := n6_
        have HO301 := n7_
        have HB := n8_
        have HO304 := n9_
        clear n0_ n1_ n2_ n3_ n4_ n5_ n6_ n7_ n8_ n9_
        clear ho hb hg hat
        obtain ⟨Ao42, co42, eo42⟩ := Kd.N_slice HO304.out
        (first | subst eo42 | (injection eo42 with f1_ f2_ f3_; have f4_ := f1_.symm; have f5_ := f3_.symm; clear f1_ f2_ f3_; subst f4_; subst f5_))
        refine hK.out _ _ ⟨(blk_cell BK283.out 0).trans rfl, (blk_cell BK283.out 1).trans rfl⟩ (fun hHeld => ?_)
        clear hK K
        refine nU 29 ?_
        refine pU 12 30 ?_
        refine last_ (i := 13) (N := none) #[true, true, true, true, true, true, true, true, true, true, true, true, true, true] rfl rfl (one_of HT_.out (by kernel_rfl)) (by decide) (fun K hK => ?_)
        have hs43 : w41.cell? ⟨gb283, 1, none⟩ = some (.slice Ao27 t280.length co27) := (blk_cell BK283.out 1).trans rfl
        have hfs43 := blk_frozen BK283.out 1
        have hns43_0 := NB274_283.out
        have hns43_1 := NB275_283.out
        have hns43_2 := NB276_283.out
        have hms43_0 := NB283_274.out
        have hms43_1 := NB283_275.out
        have hms43_2 := NB283_276.out
        refine skip_ (w1 := ?_) (by rfl) rfl ?_ ?_
        rotate_left
        ·go_simp
         rfl
        refine hK.out _ _ ?_
        clear hK K
        refine done_ (done_of HT_.out (by kernel_rfl)) ?_
        have hcz44_0 : w41.cell? ⟨gb283, 0, none⟩ = some (.slice Ao22 t277.length co22) := (blk_cell BK283.out 0).trans rfl
        have hcz44_1 : w41.cell? ⟨gb283, 1, none⟩ = some (.slice Ao27 t280.length co27) := (blk_cell BK283.out 1).trans rfl
        have hfz44_0 := blk_frozen BK283.out 0
        have hfz44_1 := blk_frozen BK283.out 1
        have hcz45_0 : w41.cell? ⟨gb276, 0, none⟩ = some (.slice none 0 0) := (blk_cell BK276.out 0).trans rfl
        have hcz45_1 : w41.cell? ⟨gb276, 1, none⟩ = some (.slice none 0 0) := (blk_cell BK276.out 1).trans rfl
        have hfz45_0 := blk_frozen BK276.out 0
        have hfz45_1 := blk_frozen BK276.out 1
        try go_wp2
        refine bodyPost_ret (results_ct rfl _ _ gb276 31 #[.slice Ao22 t277.length co22, .slice Ao42 y302.length co42] (0, 0) _ rfl (by (with_reducible repeat refine pB ?_); refine blk_put (cs := #[.slice Ao22 t277.length co22, .slice none 0 0]) ?_ 1 _ rfl; (with_reducible repeat refine pB ?_); refine blk_put (cs := #[.slice none 0 0, .slice none 0 0]) ?_ 0 _ rfl; (with_reducible repeat refine pB ?_); refine blk_far ?_ NB276_283.out _; (with_reducible repeat refine pB ?_); exact BK276.out) Try.underlying31 rfl (by kernel_rfl)) rfl ?_
        exact ⟨_, _, by first | rfl | (simp [errW_none, errW_some] <;> rfl) | (simp only [← hji10]; first | rfl | (simp [errW_none, errW_some] <;> rfl)) | (simp [*, errW_none, errW_some] <;> rfl), by (with_reducible repeat apply pR); exact Kd.R_mono (Kd.R_far (p := ⟨gb276, 1, none⟩) (Kd.R_far (p := ⟨gb276, 0, none⟩) (Kd.R_far (p := ⟨gb283, 1, none⟩) (Kd.R_types (Kd.R_types HO279.out BK283.out (by decide)) BK276.out (by decide)) (fun _ hk => hk.1.2) (.slice Ao42 y302.length co42)) (fun _ hk => hk.2) (.slice Ao22 t277.length co22)) (fun _ hk => hk.2) (.slice Ao42 y302.length co42)) (fun _ hk => hk.1.1.1), by (with_reducible repeat apply pN); exact Kd.N_mono (Kd.N_far (p := ⟨gb276, 1, none⟩) (Kd.N_far (p := ⟨gb276, 0, none⟩) (Kd.N_far (p := ⟨gb283, 1, none⟩) (Kd.N_mono (Kd.N_mono HO304.out (fun k_ hk => (⟨hk, hk.2.2.2.2.2⟩ : _ ∧ k_ ≠ gb283))) (fun k_ hk => (⟨hk, hk.1.2.2.2.2.1⟩ : _ ∧ k_ ≠ gb276))) (fun _ hk => hk.1.2) (.slice Ao42 y302.length co42)) (fun _ hk => hk.2) (.slice Ao22 t277.length co22)) (fun _ hk => hk.2) (.slice Ao42 y302.length co42)) (fun _ hk => ⟨hk.1.1.1, hk.1.1.2.1⟩), aG⟩
       ·rw [if_neg c13] at H
        exact absurd H (by simp)
      ·rw [if_neg c12] at H
       exact absurd H (by simp)
     ·rw [if_neg c11] at H
      exact absurd H (by simp)
    ·rw [if_neg c9] at H
     exact absurd H (by simp)
   ·rw [if_neg c8] at H
    exact absurd H (by simp)
  ·rw [if_neg c7] at H
   exact absurd H (by simp)
 ·replace c5 := Bool.eq_false_iff.mpr c5
  subst c5
  have H1 : (some (t277, t280, false)) = some (r1, r2, r3) := by rw [if_neg (show ¬ (false = true) by decide)] at H; exact H
  clear H
  have H := H1
  clear H1
  simp only [Option.some.injEq, Prod.mk.injEq] at H
  obtain ⟨rfl, rfl, rfl⟩ := H
  go_enter Try.func23, Try.ntmps23
  go_wp2_with (first | ((with_reducible refine gate_dst (N := 2) rfl ?_); refine bE 2 (cs := #[.slice A0_0 l0_0.length c0_0, .slice A0_1 l0_1.length c0_1]) (t := 31) ?_; intro gb274 hg w46 hbox hb; have BK274 := aM (hbox); have GW274 := aM ((by rw [hg]; exact (below_size aB) : w.heap.size ≤ gb274)); have GE274 := aM ((by rw [hg]; exact (below_size aB) : w.heap.size ≤ gb274)); replace HB := aM (below_step aB hb); clear hb hbox hg) | ((with_reducible refine gate_dst (N := 3) rfl ?_); refine bE 3 (cs := #[.int .i64 a1_0, .slice A1_1 l1_1.length c1_1]) (t := 45) ?_; intro gb275 hg w47 hbox hb; have BK275 := aM (hbox); have GW275 := aM ((by rw [hg]; exact (below_size aG) : w.heap.size ≤ gb275)); have GE275 := aM ((by rw [hg]; exact (below_size aG) : w.heap.size ≤ gb275)); have NB274_275 := aM ((by rw [hg]; exact Nat.ne_of_lt (blk_lt (g := gb274) aK) : gb274 ≠ gb275)); have NB275_274 := aM ((by rw [hg]; exact Nat.ne_of_gt (blk_lt (g := gb274) aK) : gb275 ≠ gb274)); replace BK274 := aM (kB gb274 #[.slice A0_0 l0_0.length c0_0, .slice A0_1 l0_1.length c0_1] 31 hb); replace HB := aM (below_step aG hb); clear hb hbox hg) | ((with_reducible refine gate_dst (N := 4) rfl ?_); refine bE 4 (cs := #[.slice none 0 0, .slice none 0 0]) (t := 31) ?_; intro gb276 hg w48 hbox hb; have n0_ := aM (kB gb274 #[.slice A0_0 l0_0.length c0_0, .slice A0_1 l0_1.length c0_1] 31 hb); have n1_ := aM (kB gb275 #[.int .i64 a1_0, .slice A1_1 l1_1.length c1_1] 45 hb); have n2_ := aM (below_step aG hb); have n3_ := aM (hbox); have n4_ := aM ((by rw [hg]; exact (below_size aG) : w.heap.size ≤ gb276)); have n5_ := aM ((by rw [hg]; exact (below_size aG) : w.heap.size ≤ gb276)); have n6_ := aM ((by rw [hg]; exact Nat.ne_of_lt (blk_lt (g := gb274) aK) : gb274 ≠ gb276)); have n7_ := aM ((by rw [hg]; exact Nat.ne_of_gt (blk_lt (g := gb274) aK) : gb276 ≠ gb274)); have n8_ := aM ((by rw [hg]; exact Nat.ne_of_lt (blk_lt (g := gb275) aK) : gb275 ≠ gb276)); have n9_ := aM ((by rw [hg]; exact Nat.ne_of_gt (blk_lt (g := gb275) aK) : gb276 ≠ gb275)); clear BK274; clear BK275; clear HB; have BK274 := n0_; have BK275 := n1_; have HB := n2_; have BK276 := n3_; have GW276 := n4_; have GE276 := n5_; have NB274_276 := n6_; have NB276_274 := n7_; have NB275_276 := n8_; have NB276_275 := n9_; clear n0_ n1_ n2_ n3_ n4_ n5_ n6_ n7_ n8_ n9_; clear hb hbox hg; have hnb49 := NB274_275.out; have hnc49 := NB275_274.out; have hnb50 := NB274_276.out; have hnc50 := NB276_274.out; have hcz51_0 : w48.cell? ⟨gb274, 0, none⟩ = some (.slice A0_0 l0_0.length c0_0) := (blk_cell BK274.out 0).trans rfl; have hcz51_1 : w48.cell? ⟨gb274, 1, none⟩ = some (.slice A0_1 l0_1.length c0_1) := (blk_cell BK274.out 1).trans rfl; have hfz51_0 := blk_frozen BK274.out 0; have hfz51_1 := blk_frozen BK274.out 1) | ((with_reducible refine gate_callee (f := 46) rfl ?_); refine goesL_ (some 9) rfl rfl Try.func46 (by kernel_rfl) rfl #[.agg #[.slice A0_0 l0_0.length c0_0, .slice A0_1 l0_1.length c0_1]] rfl aA ?_; (with_reducible refine (spec_l4Copy.calls k _ _ l0_0 _ _ l0_1 t277 t280 _ ?side1 ?side2 ?side3 ?side4 A3.out).mono ?_); (case side1 => exact aC); (case side2 => exact HC0_0.out); (case side3 => exact aC); (case side4 => exact HC0_1.out); rintro e w52 ⟨v278, v281, rfl, ho0, ho1, hb⟩; refine ⟨_, rfl, ?_⟩; have n0_ := aM (Kd.R_lower (Kd.R_newM (M := fun k_ => (w.heap.size ≤ k_)) ho0 (below_size aG) (fun k_ h_ => h_)) (below_size aG)); have n1_ := aM (Kd.N_lower (Kd.N_mono (ok' := fun k_ => (w.heap.size ≤ k_) ∧ some k_ ≠ (v278 : Value).ownBlock ∧ k_ ≠ gb274 ∧ k_ ≠ gb275 ∧ k_ ≠ gb276) (Kd.S_N (Kd.S_bound (Kd.S_apart' ho1 (Kd.R_typed ho0) (by decide)))) (fun k_ hk_ => ⟨(Nat.le_trans (below_size aG) hk_.2.1), hk_.1.2, (Kd.freshB (g := gb274) aK k_ hk_.2.1), (Kd.freshB (g := gb275) aK k_ hk_.2.1), (Kd.freshB (g := gb276) aK k_ hk_.2.1)⟩)) (below_size aG)); have n2_ := aM (kB gb274 #[.slice A0_0 l0_0.length c0_0, .slice A0_1 l0_1.length c0_1] 31 hb); have n3_ := aM (kB gb275 #[.int .i64 a1_0, .slice A1_1 l1_1.length c1_1] 45 hb); have n4_ := aM (kB gb276 #[.slice none 0 0, .slice none 0 0] 31 hb); have n5_ := aM (below_step aG hb); clear BK274; clear BK275; clear BK276; clear HB; have HO279 := n0_; have HO282 := n1_; have BK274 := n2_; have BK275 := n3_; have BK276 := n4_; have HB := n5_; clear n0_ n1_ n2_ n3_ n4_ n5_; (try clear hb); (try clear hb2); (try clear hk); (try clear hi); (try clear ho0); (try clear ho1)) | ((with_reducible refine gate_dst (N := 6) rfl ?_); refine bE 6 (cs := #[.slice none 0 0, .slice none 0 0]) (t := 31) ?_; intro gb283 hg w53 hbox hb; have n0_ := aM (Kd.R_below (aR HO279) hb); have n1_ := aM (Kd.N_below (Kd.N_elderB (aN HO282) gb283 (Nat.le_of_eq hg.symm)) hb); have n2_ := aM (kB gb274 #[.slice A0_0 l0_0.length c0_0, .slice A0_1 l0_1.length c0_1] 31 hb); have n3_ := aM (kB gb275 #[.int .i64 a1_0, .slice A1_1 l1_1.length c1_1] 45 hb); have n4_ := aM (kB gb276 #[.slice none 0 0, .slice none 0 0] 31 hb); have n5_ := aM (below_step aG hb); have n6_ := aM (hbox); have n7_ := aM ((by rw [hg]; exact (below_size aG) : w.heap.size ≤ gb283)); have n8_ := aM ((by rw [hg]; exact (below_size aG) : w.heap.size ≤ gb283)); have n9_ := aM ((by rw [hg]; exact Nat.ne_of_lt (blk_lt (g := gb274) aK) : gb274 ≠ gb283)); have n10_ := aM ((by rw [hg]; exact Nat.ne_of_gt (blk_lt (g := gb274) aK) : gb283 ≠ gb274)); have n11_ := aM ((by rw [hg]; exact Nat.ne_of_lt (blk_lt (g := gb275) aK) : gb275 ≠ gb283)); have n12_ := aM ((by rw [hg]; exact Nat.ne_of_gt (blk_lt (g := gb275) aK) : gb283 ≠ gb275)); have n13_ := aM ((by rw [hg]; exact Nat.ne_of_lt (blk_lt (g := gb276) aK) : gb276 ≠ gb283)); have n14_ := aM ((by rw [hg]; exact Nat.ne_of_gt (blk_lt (g := gb276) aK) : gb283 ≠ gb276)); clear HO279; clear HO282; clear BK274; clear BK275; clear BK276; clear HB; have HO279 := n0_; have HO282 := n1_; have BK274 := n2_; have BK275 := n3_; have BK276 := n4_; have HB := n5_; have BK283 := n6_; have GW283 := n7_; have GE283 := n8_; have NB274_283 := n9_; have NB283_274 := n10_; have NB275_283 := n11_; have NB283_275 := n12_; have NB276_283 := n13_; have NB283_276 := n14_; clear n0_ n1_ n2_ n3_ n4_ n5_ n6_ n7_ n8_ n9_ n10_ n11_ n12_ n13_ n14_; clear hb hbox hg; obtain ⟨Ao54, co54, eo54⟩ := Kd.R_slice HO279.out; subst eo54; have hnb55 := NB283_274.out; have hnc55 := NB274_283.out; have hnb56 := NB283_275.out; have hnc56 := NB275_283.out; have hnb57 := NB283_276.out; have hnc57 := NB276_283.out; have hcz58_0 : w53.cell? ⟨gb283, 0, none⟩ = some (.slice none 0 0) := (blk_cell BK283.out 0).trans rfl; have hcz58_1 : w53.cell? ⟨gb283, 1, none⟩ = some (.slice none 0 0) := (blk_cell BK283.out 1).trans rfl; have hfz58_0 := blk_frozen BK283.out 0; have hfz58_1 := blk_frozen BK283.out 1; obtain ⟨Ao59, co59, eo59⟩ := Kd.N_slice HO282.out; subst eo59; have hcz60_0 : w53.cell? ⟨gb274, 0, none⟩ = some (.slice A0_0 l0_0.length c0_0) := (blk_cell BK274.out 0).trans rfl; have hcz60_1 : w53.cell? ⟨gb274, 1, none⟩ = some (.slice A0_1 l0_1.length c0_1) := (blk_cell BK274.out 1).trans rfl; have hfz60_0 := blk_frozen BK274.out 0; have hfz60_1 := blk_frozen BK274.out 1; have hnb61 := NB275_276.out; have hnc61 := NB276_275.out; have hcz62_0 : w53.cell? ⟨gb275, 0, none⟩ = some (.int .i64 a1_0) := (blk_cell BK275.out 0).trans rfl; have hcz62_1 : w53.cell? ⟨gb275, 1, none⟩ = some (.slice A1_1 l1_1.length c1_1) := (blk_cell BK275.out 1).trans rfl; have hfz62_0 := blk_frozen BK275.out 0; have hfz62_1 := blk_frozen BK275.out 1) | ((with_reducible refine gate_callee (f := 48) rfl ?_); refine goesL_ (some 12) rfl rfl Try.func48 (by kernel_rfl) rfl #[.agg #[.slice A0_0 l0_0.length c0_0, .slice A0_1 l0_1.length c0_1], .agg #[.int .i64 a1_0, .slice A1_1 l1_1.length c1_1]] rfl aA ?_; (with_reducible refine (spec_ContainsFact.calls k _ _ l0_0 _ _ l0_1 a1_0 _ _ l1_1 false _ ?side1 ?side2 ?side3 ?side4 ?side5 ?side6 A4.out).mono ?_); (case side1 => exact Kd.C_below HR0_0.out aG); (case side2 => exact HC0_0.out); (case side3 => exact Kd.C_below HR0_1.out aG); (case side4 => exact HC0_1.out); (case side5 => exact Kd.C_below HR1_1.out aG); (case side6 => exact HC1_1.out); rintro e w63 ⟨rfl, hb⟩; refine ⟨_, rfl, ?_⟩; replace HO279 := aM (Kd.R_below (by (with_reducible repeat apply pR); exact (rF1 HO279.out BK283.out (.slice Ao54 t277.length co54) (.slice Ao59 t280.length co59))) hb); replace HO282 := aM (Kd.N_below (by (with_reducible repeat apply pN); exact (nF1 gb283 HO282.out (fun _ hk => hk.2) (.slice Ao54 t277.length co54) (.slice Ao59 t280.length co59))) hb); replace BK274 := aM (blk_below (g := gb274) (bF2 NB274_283.out BK274.out) hb); replace BK275 := aM (blk_below (g := gb275) (bF2 NB275_283.out BK275.out) hb); replace BK276 := aM (blk_below (g := gb276) (bF2 NB276_283.out BK276.out) hb); replace BK283 := aM (blk_below (g := gb283) (bP2 BK283.out) hb); replace HB := aM (below_step aG hb); (try clear hb); (try clear hb2); (try clear hk); (try clear hi); have hcz64_0 : w63.cell? ⟨gb283, 0, none⟩ = some (.slice Ao54 t277.length co54) := (blk_cell BK283.out 0).trans rfl; have hcz64_1 : w63.cell? ⟨gb283, 1, none⟩ = some (.slice Ao59 t280.length co59) := (blk_cell BK283.out 1).trans rfl; have hfz64_0 := blk_frozen BK283.out 0; have hfz64_1 := blk_frozen BK283.out 1; have hcz65_0 : w63.cell? ⟨gb276, 0, none⟩ = some (.slice none 0 0) := (blk_cell BK276.out 0).trans rfl; have hcz65_1 : w63.cell? ⟨gb276, 1, none⟩ = some (.slice none 0 0) := (blk_cell BK276.out 1).trans rfl; have hfz65_0 := blk_frozen BK276.out 0; have hfz65_1 := blk_frozen BK276.out 1))
  refine bodyPost_ret (results_ct rfl _ _ gb276 31 #[.slice Ao54 t277.length co54, .slice Ao59 t280.length co59] (0, 0) _ rfl (bP2 BK276.out) Try.underlying31 rfl (by kernel_rfl)) rfl ?_
  exact ⟨_, _, aE, by (with_reducible repeat apply pR); exact Kd.R_mono (Kd.R_far (p := ⟨gb276, 1, none⟩) (Kd.R_far (p := ⟨gb276, 0, none⟩) (Kd.R_types HO279.out BK276.out (by decide)) (fun _ hk => hk.2) (.slice Ao54 t277.length co54)) (fun _ hk => hk.2) (.slice Ao59 t280.length co59)) (fun _ hk => hk.1.1), by (with_reducible repeat apply pN); exact Kd.N_mono (Kd.N_far (p := ⟨gb276, 1, none⟩) (Kd.N_far (p := ⟨gb276, 0, none⟩) (Kd.N_mono HO282.out (fun k_ hk => (⟨hk, hk.1.2.2.2.2⟩ : _ ∧ k_ ≠ gb276))) (fun _ hk => hk.2) (.slice Ao54 t277.length co54)) (fun _ hk => hk.2) (.slice Ao59 t280.length co59)) (fun _ hk => ⟨hk.1.1.1, hk.1.1.2.1⟩), aG⟩

/-! ### impl_ContainsFact: function 30 -/
def impl_ContainsFact.f (l0_0 : List (S74)) (l0_1 : List (S45)) (a1_0 : Int) (l1_1 : List Int) : Option (Bool) := (impl_IsValidDatabase.f l0_0 l0_1).bind fun t307 => (if t307 = true then ((impl_FactIndex.f l0_0 l0_1 a1_0 l1_1).bind fun t308 => (some (decide (t308 ≥ 0)))) else (some false))
set_option maxHeartbeats 8000000 in
set_option maxRecDepth 100000 in
theorem impl_ContainsFact.calls (A0_0 : Option Addr) (c0_0 : Nat) (l0_0 : List (S74)) (A0_1 : Option Addr) (c0_1 : Nat) (l0_1 : List (S45)) (a1_0 : Int) (A1_1 : Option Addr) (c1_1 : Nat) (l1_1 : List Int) (r : Bool) (w : World) (hr0_0 : Kd.C k74 w A0_0 l0_0.length l0_0) (hc0_0 : l0_0.length ≤ c0_0) (hr0_1 : Kd.C k45 w A0_1 l0_1.length l0_1) (hc0_1 : l0_1.length ≤ c0_1) (hr1_1 : Kd.C (Kd.int .i64) w A1_1 l1_1.length l1_1) (hc1_1 : l1_1.length ≤ c1_1) (h : impl_ContainsFact.f l0_0 l0_1 a1_0 l1_1 = some r) :
  Calls Try.prog 30 #[.agg #[.slice A0_0 l0_0.length c0_0, .slice A0_1 l0_1.length c0_1], .agg #[.int .i64 a1_0, .slice A1_1 l1_1.length c1_1]] w fun e w' => e = .returned (.bool r) ∧ Below w.heap.size w w' := by
 have hu31 := Try.underlying31
 have hu45 := Try.underlying45
 obtain ⟨W, hW⟩ : ∃ W, (w.alloc (.cells #[.slice A0_0 l0_0.length c0_0, .slice A0_1 l0_1.length c0_1] 31)).alloc (.cells #[.int .i64 a1_0, .slice A1_1 l1_1.length c1_1] 45) = W := ⟨_, rfl⟩
 have q0 := qa (w := W) (p := ⟨w.heap.size, 0, none⟩) (v := .slice A0_0 l0_0.length c0_0) (by subst hW; go_simp)
 have q1 := qa (w := W) (p := ⟨w.heap.size, 1, none⟩) (v := .slice A0_1 l0_1.length c0_1) (by subst hW; go_simp)
 have q2 := qa (w := W) (p := ⟨w.heap.size + 1, 0, none⟩) (v := .int .i64 a1_0) (by subst hW; go_simp)
 have q3 := qa (w := W) (p := ⟨w.heap.size + 1, 1, none⟩) (v := .slice A1_1 l1_1.length c1_1) (by subst hW; go_simp)
 have HB : Below w.heap.size w W := by subst hW; exact zB
 have HW := Below.refl W.heap.size W
 have hb := aM HB
 unfold impl_ContainsFact.f at h
 replace h := bs h; obtain ⟨t307, B0, h⟩ := h
 replace h := ib h; rcases h with ⟨rfl, h⟩ | ⟨rfl, h⟩
 replace h := bs h; obtain ⟨t308, B2, h⟩ := h
 obtain rfl := si h
 rotate_left
 obtain rfl := si h
 rotate_left
 all_goals (go_enter Try.func30, Try.ntmps30; go_wp2_with (first | (go_at_call 27; refine (impl_IsValidDatabase.calls _ _ _ _ _ _ ?_ _ ?_ ?_ ?_ ?_ ?h).mono ?_; (case h => exact zA); (iterate 4 (first | exact zC | exact zA)); rintro e w1 ⟨rfl, hb⟩; replace hb := aM hb; have HW : Below W.heap.size W w1 := zB; have HB : Below w.heap.size w w1 := zB) | (go_at_call 31; refine (impl_FactIndex.calls _ _ _ _ _ _ _ _ _ _ ?_ _ ?_ ?_ ?_ ?_ ?_ ?_ ?h).mono ?_; (case h => exact zA); (iterate 6 (first | exact zC | exact zA)); rintro e w1 ⟨rfl, hb⟩; replace hb := aM hb; have HW : Below W.heap.size W w1 := zB; have HB : Below w.heap.size w w1 := zB)); go_ret; exact zE zB)

/-! ### impl_Fact_54: function 54 -/
/-- Cells behind the elements are written. -/
theorem R_behind {α : Type} {d : Kd α} {e g m c base : Nat} {W : World} {ok : Nat → Prop} {xs : List α} (h : d.R e W base ok (.slice (some ⟨g, 0, none⟩) m c) xs) (o : Nat) (seg : List Value) (ho : m * d.sz ≤ o) (hs : o + seg.length ≤ c * d.sz) :
  d.R e (W.setCells g o seg) base ok (.slice (some ⟨g, 0, none⟩) m c) xs ∧ W.grownBy (W.setCells g o seg) (some g) := by
 obtain ⟨hok, inner, ⟨ho1, ho2⟩, hr⟩ := h
 have hfar : ∀ k, k ≠ g → (W.setCells g o seg).heap[k]? = W.heap[k]? := fun k hk => setCells_far seg _ k hk
 obtain ⟨s1, s2, s3, s4⟩ := setCells_same g seg o W
 refine ⟨⟨hok, inner, ⟨ho1, ?_⟩, hr.imp_ (fun p cs hp => d.M_move (fun k hk => hfar k (fun he => hk.2 (by rw [he]; rfl))) hp)⟩, ⟨s1, s2, s3, by omega, fun k hk hne => hfar k (fun he => hne (by rw [he]))⟩⟩
 rcases ho2 with ⟨hv, _⟩ | ⟨g', cap', cur, hv, hb, hh, hnc', hcm, hcs, ht⟩
 ·cases hv
 injection hv with ha _ hc
 injection ha with ha
 injection ha with hg
 subst hg; subst hc
 obtain ⟨cur', h3, h4, h5⟩ := setCells_row seg o W cur hh (by omega)
 rename_i hl _ _
 refine .inr ⟨g, c, cur', by rw [hl], hb, h3, hnc', hcm, h4.trans hcs, ?_⟩
 rw [hl] at ho
 have hcl : cur.toList.length = c * d.sz := by rw [Array.length_toList]; exact hcs
 rw [h5, List.append_assoc, List.take_append_of_le_length (by rw [List.length_take]; omega), List.take_take, Nat.min_eq_left ho]
 exact ht
def impl_Fact_54.f (l0 : List S45) (a1 a2 : Int) : Option (List S45) := if 0 ≤ a1 ∧ a1 < (l0.length : Int) ∧ a2 = a1 + 1 then some (l0.eraseIdx a1.toNat) else none
set_option maxHeartbeats 4000000 in
set_option maxRecDepth 100000 in
theorem impl_Fact_54.calls (P0_ : Nat → Prop) (u : Value) (l0 : List S45) (a1 a2 : Int) (r1 : List S45) (w0 w : World) (hB : Below w0.heap.size w0 w) (ho : Kd.S k45 45 w w0.heap.size P0_ u l0) (h : impl_Fact_54.f l0 a1 a2 = some r1) :
  Calls Try.prog 54 #[u, .int .i64 a1, .int .i64 a2] w fun e w' => ∃ v0_ : Value, e = .returned v0_ ∧ Kd.S k45 45 w' w0.heap.size P0_ v0_ r1 ∧ w.grownBy w' u.ownBlock ∧ Below w0.heap.size w0 w' := by
 unfold impl_Fact_54.f at h
 by_cases hc : 0 ≤ a1 ∧ a1 < (l0.length : Int) ∧ a2 = a1 + 1
 ·rw [if_pos hc] at h
  obtain rfl := Option.some.inj h
  obtain ⟨h0, h1, rfl⟩ := hc
  obtain ⟨i, rfl⟩ := Int.eq_ofNat_of_zero_le h0
  have hi : i < l0.length := by omega
  rw [Int.toNat_natCast]
  obtain ⟨g, cap, rfl, hgb, hgl, cl, hG⟩ := Kd.S_form ho (by omega)
  obtain ⟨_, hcap, hC⟩ := Kd.S_reads' ho
  have hm : l0.length ≤ 9223372036854775807 := hC.2.1
  have HO := aM ho
  have HB := aM hB
  have HG := aM hG
  have hie : ((i : Int) + 1).toNat = i + 1 := by omega
  have hib : ((i : Int) == (i : Int) + 1) = false := by rw [beq_eq_false_iff_ne]; omega
  have mixed : Try.prog.follows Departure.mixedOrders = true := by kernel_rfl
  have hic : i ≤ cap := by omega
  have hjc : i + 1 ≤ cap := by omega
  have hj0 : (0 : Int) ≤ (i : Int) + 1 := by omega
  have hj1 : (i : Int) + 1 ≤ (l0.length : Int) := by omega
  have hA : (if cap = i + 1 then some (⟨g, 0, none⟩ : Addr) else some ⟨g, (i + 1) * 2, none⟩) = if cap = i + 1 then some ⟨g, 0, none⟩ else (some (⟨g, 0, none⟩ : Addr)).map (·.add ((i + 1) * k45.sz)) := by
   have hz : k45.sz = 2 := rfl
   rw [hz]
   simp [Addr.add]
  clear ho hB hG hC h
  go_enter Try.func54, Try.ntmps54
  go_wp2_with fail
  go_region_law_o (refine Kd.S_delete_step k45 (w0 := w0) w0.heap.size (by rfl) (.tmp 22) (.tmp 25) 29 45 rfl Try.underlying29 (by kernel_rfl) (c := cap) (k := i) (m := l0.length - (i + 1)) (c2 := cap - (i + 1)) (A := if cap = i + 1 then some ⟨g, 0, none⟩ else some ⟨g, (i + 1) * 2, none⟩) (by simp [Act.eval, Act.put]) (by simp [Act.eval, Act.put]; rfl) hA rfl (Kd.S_drew HO.out) hi (below_drew1 HB.out) (by first | omega | exact Nat.le_of_lt (Nat.lt_of_le_of_lt hgb hgl)) ?_; intro w1 hS hb1 hg1)
  have hS1 := aM hS
  have hB1 := aM hb1
  have hG1 := aM hg1
  obtain ⟨cl1, hgc⟩ := Kd.R_typed (Kd.S_R hS) g rfl
  have hcap1 : cl1.size = cap * 2 := by
   obtain ⟨f_, _, inner, ⟨ho1, ho2⟩, hr⟩ := hS
   rcases ho2 with ⟨hv, _⟩ | ⟨g', cap', cur, hv, hb, hh, hnc', hcm, hcs, ht⟩
   ·cases hv
   injection hv with ha _ hc
   injection ha with ha
   injection ha with hg
   subst hg; subst hc
   rw [hh] at hgc
   injection hgc with hgc
   injection hgc with hgc
   subst hgc
   exact hcs
  have hcx : ∀ j, j < 2 → (w1.cell? ⟨g, (l0.length - 1) * 2 + j, none⟩).isSome = true := fun j hj => by
   rw [blk_cell hgc, Array.getElem?_eq_getElem (by omega)]; rfl
  have hfx : ∀ j, j < 2 → w1.frozen? ⟨g, (l0.length - 1) * 2 + j, none⟩ = false := fun j hj => blk_frozen hgc _
  have hzc : (Builtin.zeroCells (Value.agg #[.int .i64 0, .slice none 0 0]).cells 1).toList = [.int .i64 0, .slice none 0 0] := by first | kernel_rfl | (simp [Builtin.zeroCells, Value.cells]; done) | (simp [Builtin.zeroCells, Value.cells]; rfl)
  have hcl : ∀ ty c2, (Builtin.clear_ #[29] ty #[.slice (some ⟨g, (l0.length - 1) * 2, none⟩) (l0.length - (l0.length - 1)) c2]).run Try.prog w1 = .ok (.tuple #[]) (w1.setCells g ((l0.length - 1) * 2) [.int .i64 0, .slice none 0 0]) := fun ty c2 => by
   have hst := run_storeCells_cells (P := Try.prog) g ((l0.length - 1) * 2) [.int .i64 0, .slice none 0 0] 0 w1 (by simpa using hcx) (by simpa using hfx) (by intro v hv; simp at hv; rcases hv with rfl | rfl <;> rfl)
   simp only [Nat.add_zero] at hst
   have hzv := Try.zeroValue45
   rw [show l0.length - (l0.length - 1) = 1 by omega]
   simp only [Builtin.clear_]
   simp [run_underlying Try.underlying29, hzv, hzc, hst]
  obtain ⟨f_, hSf⟩ := hS1.out
  obtain ⟨hS2, hG2⟩ := R_behind hSf ((l0.length - 1) * 2) [.int .i64 0, .slice none 0 0] (Nat.le_refl _) (show (l0.length - 1) * 2 + 2 ≤ cap * 2 by omega)
  have HS2 := aM (show Kd.S k45 45 _ w0.heap.size P0_ _ _ from ⟨f_, hS2⟩)
  have HG2 := aM hG2
  clear hSf hS2 hG2 hS hb1 hg1 hgc hcap1 hcx hfx hS1
  go_wp2
  all_goals go_ret
  all_goals (refine ⟨_, rfl, ?_, ⟨HG2.out.os.trans hG1.out.os, HG2.out.tape.trans hG1.out.tape, HG2.out.output.trans hG1.out.output, Nat.le_trans hG1.out.size HG2.out.size, fun k hk hne => (HG2.out.block k (Nat.lt_of_lt_of_le hk hG1.out.size) hne).trans (hG1.out.block k hk hne)⟩, ?_⟩)
  all_goals first
   | exact hB1.out.grown HG2.out hB1.out.size (fun k hk => by injection hk with hk; subst hk; exact hgb)
   | exact HS2.out
   | (rename_i e_; subst e_; exact HS2.out)
   | (have e_ : cap = i + 1 := (by assumption); subst e_; exact HS2.out)
 ·rw [if_neg hc] at h
  exact absurd h (by simp)


end Go.Proofs.Yteddnlklfjpgoaa.PFnInsertDelete
