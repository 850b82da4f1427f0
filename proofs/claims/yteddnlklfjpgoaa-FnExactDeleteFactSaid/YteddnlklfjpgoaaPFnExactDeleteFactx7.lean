-- Laid by a program of this claim: what the functions come to, some of them proved by hand.
import Derived.Test.YteddnlklfjpgoaaPFnExactDeleteFactx0
import Derived.Test.YteddnlklfjpgoaaPFnExactDeleteFactx4
import Derived.Test.YteddnlklfjpgoaaPFnExactDeleteFactx6
namespace Go.Proofs.Yteddnlklfjpgoaa.PFnExactDeleteFact
open Go.RowKit Go.Proofs.YteddnlklfjpgoaaW.PrintWords Go.Proofs.YteddnlklfjpgoaaW.PrintLast Go.Proofs.YteddnlklfjpgoaaW.PrintMore
attribute [local go_sem] max2_int min2_int max_two min_two max_three min_three max_four min_four   -- for this text's walks alone
set_option linter.unusedVariables false
set_option linter.unusedSimpArgs false

/-! ### spec_DeleteFact: function 23 -/
def spec_DeleteFact.f (k : Nat) (l0_0 : List (S74)) (l0_1 : List (S45)) (a1_0 : Int) (l1_1 : List Int) : Option ((List (S74)) × (List (S45)) × Bool) := (spec_l4Copy.f k l0_0 l0_1).bind fun bt247 => ((spec_ContainsFact.f k l0_0 l0_1 a1_0 l1_1).bind fun t254 => (if t254 = true then ((spec_FactIndex.f k l0_0 l0_1 a1_0 l1_1).bind fun t255 => ((some (([] : List (S45)) : List (S45))).bind fun y256 => (if 0 ≤ t255 then (if t255 ≤ (bt247.2.length : Int) then ((some (bt247.2.take (t255 : Int).toNat : List (S45))).bind fun y259 => (if y256.length + y259.length < 4398046511104 then ((some (y256 ++ y259 : List (S45))).bind fun y264 => (if 0 ≤ (wrap64 (t255 + 1)) then (if (wrap64 (t255 + 1)) ≤ (bt247.2.length : Int) then ((some (bt247.2.drop ((wrap64 (t255 + 1)) : Int).toNat : List (S45))).bind fun y267 => (if y264.length + y267.length < 4398046511104 then (some (bt247.1, (y264 ++ y267), true)) else (none))) else (none)) else (none))) else (none))) else (none)) else (none)))) else (some (bt247.1, bt247.2, false))))
def spec_DeleteFact.T5 : Bool × List (List Nat × List Nat) := (true, [([], []), ([], []), ([1], [1]), ([], []), ([2, 3], [2, 3]), ([0, 4], [0, 4]), ([], []), ([6], [6]), ([], []), ([8], [8]), ([7, 9], [7, 9]), ([5, 10, 5], [5, 10]), ([0, 1, 2, 3, 4, 5, 6, 7, 8, 9, 10, 11], []), ([12, 11, 11, 0, 1, 2, 3, 4, 5, 6, 7, 8, 9, 10, 11], [11, 12])])
def spec_DeleteFact.B5 : List Nat := [0, 0, 2, 0, 14, 31, 0, 64, 0, 256, 960, 2047, 4095, 8191]
theorem spec_DeleteFact.tab5 : rtab .any (opsOf Try.f23 5) = spec_DeleteFact.T5 := by kernel_rfl
theorem spec_DeleteFact.bits5 : waitsOk spec_DeleteFact.T5.2 spec_DeleteFact.B5 = true := by kernel_rfl
set_option maxHeartbeats 8000000 in
set_option maxRecDepth 100000 in
theorem spec_DeleteFact.calls (k : Nat) (A0_0 : Option Addr) (c0_0 : Nat) (l0_0 : List (S74)) (A0_1 : Option Addr) (c0_1 : Nat) (l0_1 : List (S45)) (a1_0 : Int) (A1_1 : Option Addr) (c1_1 : Nat) (l1_1 : List Int) (r1 : List (S74)) (r2 : List (S45)) (r3 : Bool) (w : World) (hr0_0 : Kd.C k74 w A0_0 l0_0.length l0_0) (hc0_0 : l0_0.length ≤ c0_0) (hr0_1 : Kd.C k45 w A0_1 l0_1.length l0_1) (hc0_1 : l0_1.length ≤ c0_1) (hr1_1 : Kd.C (Kd.int .i64) w A1_1 l1_1.length l1_1) (hc1_1 : l1_1.length ≤ c1_1) (h : spec_DeleteFact.f k l0_0 l0_1 a1_0 l1_1 = some (r1, r2, r3)) :
  Calls Try.prog 23 #[.agg #[.slice A0_0 l0_0.length c0_0, .slice A0_1 l0_1.length c0_1], .agg #[.int .i64 a1_0, .slice A1_1 l1_1.length c1_1]] w fun e w' => ∃ v0_ v1_ : Value, e = .returned (.tuple #[.agg #[v0_, v1_], .bool r3]) ∧ Kd.R k74 74 w' w.heap.size (fun k_ => (w.heap.size ≤ k_)) v0_ r1 ∧ Kd.N k45 45 w' w.heap.size (fun k_ => (w.heap.size ≤ k_) ∧ some k_ ≠ (v0_ : Value).ownBlock) v1_ r2 ∧ Below w.heap.size w w' := by
 have hu31 := Try.underlying31
 have hu45 := Try.underlying45
 have HR0_0 := aM hr0_0
 have HC0_0 := aM hc0_0
 clear hr0_0 hc0_0
 have HR0_1 := aM hr0_1
 have HC0_1 := aM hc0_1
 clear hr0_1 hc0_1
 have HR1_1 := aM hr1_1
 have HC1_1 := aM hc1_1
 clear hr1_1 hc1_1
 have HB := aM (Below.refl w.heap.size w)
 have H : ((spec_l4Copy.f k l0_0 l0_1).bind fun bt247 => ((spec_ContainsFact.f k l0_0 l0_1 a1_0 l1_1).bind fun t254 => (if t254 = true then ((spec_FactIndex.f k l0_0 l0_1 a1_0 l1_1).bind fun t255 => ((some (([] : List (S45)) : List (S45))).bind fun y256 => (if 0 ≤ t255 then (if t255 ≤ (bt247.2.length : Int) then ((some (bt247.2.take (t255 : Int).toNat : List (S45))).bind fun y259 => (if y256.length + y259.length < 4398046511104 then ((some (y256 ++ y259 : List (S45))).bind fun y264 => (if 0 ≤ (wrap64 (t255 + 1)) then (if (wrap64 (t255 + 1)) ≤ (bt247.2.length : Int) then ((some (bt247.2.drop ((wrap64 (t255 + 1)) : Int).toNat : List (S45))).bind fun y267 => (if y264.length + y267.length < 4398046511104 then (some (bt247.1, (y264 ++ y267), true)) else (none))) else (none)) else (none))) else (none))) else (none)) else (none)))) else (some (bt247.1, bt247.2, false))))) = some (r1, r2, r3) := h
 clear h
 replace H := Option.bind_eq_some_iff.mp H
 obtain ⟨⟨t247, t250⟩, A30, H⟩ := H
 replace H : ((spec_ContainsFact.f k l0_0 l0_1 a1_0 l1_1).bind fun t254 => (if t254 = true then ((spec_FactIndex.f k l0_0 l0_1 a1_0 l1_1).bind fun t255 => ((some (([] : List (S45)) : List (S45))).bind fun y256 => (if 0 ≤ t255 then (if t255 ≤ (t250.length : Int) then ((some (t250.take (t255 : Int).toNat : List (S45))).bind fun y259 => (if y256.length + y259.length < 4398046511104 then ((some (y256 ++ y259 : List (S45))).bind fun y264 => (if 0 ≤ (wrap64 (t255 + 1)) then (if (wrap64 (t255 + 1)) ≤ (t250.length : Int) then ((some (t250.drop ((wrap64 (t255 + 1)) : Int).toNat : List (S45))).bind fun y267 => (if y264.length + y267.length < 4398046511104 then (some (t247, (y264 ++ y267), true)) else (none))) else (none)) else (none))) else (none))) else (none)) else (none)))) else (some (t247, t250, false)))) = some (r1, r2, r3) := H
 have A3 := aM A30
 clear A30
 replace H := Option.bind_eq_some_iff.mp H
 obtain ⟨t254, A40, H⟩ := H
 replace H : (if t254 = true then ((spec_FactIndex.f k l0_0 l0_1 a1_0 l1_1).bind fun t255 => ((some (([] : List (S45)) : List (S45))).bind fun y256 => (if 0 ≤ t255 then (if t255 ≤ (t250.length : Int) then ((some (t250.take (t255 : Int).toNat : List (S45))).bind fun y259 => (if y256.length + y259.length < 4398046511104 then ((some (y256 ++ y259 : List (S45))).bind fun y264 => (if 0 ≤ (wrap64 (t255 + 1)) then (if (wrap64 (t255 + 1)) ≤ (t250.length : Int) then ((some (t250.drop ((wrap64 (t255 + 1)) : Int).toNat : List (S45))).bind fun y267 => (if y264.length + y267.length < 4398046511104 then (some (t247, (y264 ++ y267), true)) else (none))) else (none)) else (none))) else (none))) else (none)) else (none)))) else (some (t247, t250, false))) = some (r1, r2, r3) := H
 have A4 := aM A40
 clear A40
 by_cases c5 : t254 = true
 ·subst c5
  have H1 : ((spec_FactIndex.f k l0_0 l0_1 a1_0 l1_1).bind fun t255 => ((some (([] : List (S45)) : List (S45))).bind fun y256 => (if 0 ≤ t255 then (if t255 ≤ (t250.length : Int) then ((some (t250.take (t255 : Int).toNat : List (S45))).bind fun y259 => (if y256.length + y259.length < 4398046511104 then ((some (y256 ++ y259 : List (S45))).bind fun y264 => (if 0 ≤ (wrap64 (t255 + 1)) then (if (wrap64 (t255 + 1)) ≤ (t250.length : Int) then ((some (t250.drop ((wrap64 (t255 + 1)) : Int).toNat : List (S45))).bind fun y267 => (if y264.length + y267.length < 4398046511104 then (some (t247, (y264 ++ y267), true)) else (none))) else (none)) else (none))) else (none))) else (none)) else (none)))) = some (r1, r2, r3) := by rw [if_pos rfl] at H; exact H
  clear H
  have H := H1
  clear H1
  replace H := Option.bind_eq_some_iff.mp H
  obtain ⟨t255, A60, H⟩ := H
  replace H : ((some (([] : List (S45)) : List (S45))).bind fun y256 => (if 0 ≤ t255 then (if t255 ≤ (t250.length : Int) then ((some (t250.take (t255 : Int).toNat : List (S45))).bind fun y259 => (if y256.length + y259.length < 4398046511104 then ((some (y256 ++ y259 : List (S45))).bind fun y264 => (if 0 ≤ (wrap64 (t255 + 1)) then (if (wrap64 (t255 + 1)) ≤ (t250.length : Int) then ((some (t250.drop ((wrap64 (t255 + 1)) : Int).toNat : List (S45))).bind fun y267 => (if y264.length + y267.length < 4398046511104 then (some (t247, (y264 ++ y267), true)) else (none))) else (none)) else (none))) else (none))) else (none)) else (none))) = some (r1, r2, r3) := H
  have A6 := aM A60
  clear A60
  obtain ⟨y256, hy256⟩ : ∃ y_ : List (S45), y_ = (([] : List (S45))) := ⟨_, rfl⟩
  replace H : (if 0 ≤ t255 then (if t255 ≤ (t250.length : Int) then ((some (t250.take (t255 : Int).toNat : List (S45))).bind fun y259 => (if y256.length + y259.length < 4398046511104 then ((some (y256 ++ y259 : List (S45))).bind fun y264 => (if 0 ≤ (wrap64 (t255 + 1)) then (if (wrap64 (t255 + 1)) ≤ (t250.length : Int) then ((some (t250.drop ((wrap64 (t255 + 1)) : Int).toNat : List (S45))).bind fun y267 => (if y264.length + y267.length < 4398046511104 then (some (t247, (y264 ++ y267), true)) else (none))) else (none)) else (none))) else (none))) else (none)) else (none)) = some (r1, r2, r3) := by first | (rw [hy256]; with_reducible exact H) | (have H2_ := (Option.bind_some _ _).symm.trans H; rw [hy256]; with_reducible exact H2_) | (have H2_ := (Option.bind_some _ _).symm.trans H; with_reducible exact H2_) | with_reducible exact H | (rw [hy256]; exact H) | exact H
  have Ny256 := aM hy256
  clear hy256
  by_cases c7 : 0 ≤ t255
  ·rw [if_pos c7] at H
   have c7b0 := eq_true c7
   have c7b1 : decide (0 ≤ t255) = true := decide_eq_true c7
   clear c7
   by_cases c8 : t255 ≤ (t250.length : Int)
   ·rw [if_pos c8] at H
    have c8b0 := eq_true c8
    have c8b1 : decide (t255 ≤ (t250.length : Int)) = true := decide_eq_true c8
    clear c8
    obtain ⟨y259, hy259⟩ : ∃ y_ : List (S45), y_ = (t250.take (t255 : Int).toNat) := ⟨_, rfl⟩
    replace H : (if y256.length + y259.length < 4398046511104 then ((some (y256 ++ y259 : List (S45))).bind fun y264 => (if 0 ≤ (wrap64 (t255 + 1)) then (if (wrap64 (t255 + 1)) ≤ (t250.length : Int) then ((some (t250.drop ((wrap64 (t255 + 1)) : Int).toNat : List (S45))).bind fun y267 => (if y264.length + y267.length < 4398046511104 then (some (t247, (y264 ++ y267), true)) else (none))) else (none)) else (none))) else (none)) = some (r1, r2, r3) := by first | (rw [hy259]; with_reducible exact H) | (have H2_ := (Option.bind_some _ _).symm.trans H; rw [hy259]; with_reducible exact H2_) | (have H2_ := (Option.bind_some _ _).symm.trans H; with_reducible exact H2_) | with_reducible exact H | (rw [hy259]; exact H) | exact H
    have Ny259 := aM hy259
    clear hy259
    by_cases c9 : y256.length + y259.length < 4398046511104
    ·rw [if_pos c9] at H
     have LMc9 := aM c9
     clear c9
     obtain ⟨y264, hy264⟩ : ∃ y_ : List (S45), y_ = (y256 ++ y259) := ⟨_, rfl⟩
     replace H : (if 0 ≤ (wrap64 (t255 + 1)) then (if (wrap64 (t255 + 1)) ≤ (t250.length : Int) then ((some (t250.drop ((wrap64 (t255 + 1)) : Int).toNat : List (S45))).bind fun y267 => (if y264.length + y267.length < 4398046511104 then (some (t247, (y264 ++ y267), true)) else (none))) else (none)) else (none)) = some (r1, r2, r3) := by first | (rw [hy264]; with_reducible exact H) | (have H2_ := (Option.bind_some _ _).symm.trans H; rw [hy264]; with_reducible exact H2_) | (have H2_ := (Option.bind_some _ _).symm.trans H; with_reducible exact H2_) | with_reducible exact H | (rw [hy264]; exact H) | exact H
     have Ny264 := aM hy264
     clear hy264
     obtain ⟨ji10, hji10⟩ : ∃ j_ : Int, (wrap64 (t255 + 1)) = j_ := ⟨_, rfl⟩
     replace H : (if 0 ≤ (ji10) then (if (ji10) ≤ (t250.length : Int) then ((some (t250.drop ((ji10) : Int).toNat : List (S45))).bind fun y267 => (if y264.length + y267.length < 4398046511104 then (some (t247, (y264 ++ y267), true)) else (none))) else (none)) else (none)) = some (r1, r2, r3) := by first | (rw [hji10] at H; exact H) | (simp only [hji10] at H ⊢; exact H)
     (try rw [hji10] at A3)
     (try rw [hji10] at A4)
     (try rw [hji10] at A6)
     have hji10w : (IntKind.i64.wrap (t255 + 1)) = ji10 := (i64_w _).trans hji10
     by_cases c11 : 0 ≤ (ji10)
     ·rw [if_pos c11] at H
      have c11b0 := eq_true c11
      have c11b1 : decide (0 ≤ (ji10)) = true := decide_eq_true c11
      clear c11
      by_cases c12 : (ji10) ≤ (t250.length : Int)
      ·rw [if_pos c12] at H
       have c12b0 := eq_true c12
       have c12b1 : decide ((ji10) ≤ (t250.length : Int)) = true := decide_eq_true c12
       clear c12
       obtain ⟨y267, hy267⟩ : ∃ y_ : List (S45), y_ = (t250.drop ((ji10) : Int).toNat) := ⟨_, rfl⟩
       replace H : (if y264.length + y267.length < 4398046511104 then (some (t247, (y264 ++ y267), true)) else (none)) = some (r1, r2, r3) := by first | (rw [hy267]; with_reducible exact H) | (have H2_ := (Option.bind_some _ _).symm.trans H; rw [hy267]; with_reducible exact H2_) | (have H2_ := (Option.bind_some _ _).symm.trans H; with_reducible exact H2_) | with_reducible exact H | (rw [hy267]; exact H) | exact H
       have Ny267 := aM hy267
       clear hy267
       by_cases c13 : y264.length + y267.length < 4398046511104
       ·rw [if_pos c13] at H
        have LMc13 := aM c13
        clear c13
        obtain ⟨y272, hy272⟩ : ∃ y_ : List (S45), y_ = (y264 ++ y267) := ⟨_, rfl⟩
        replace H : (some (t247, y272, true)) = some (r1, r2, r3) := by first | (rw [hy272]; with_reducible exact H) | (have H2_ := (Option.bind_some _ _).symm.trans H; rw [hy272]; with_reducible exact H2_) | (have H2_ := (Option.bind_some _ _).symm.trans H; with_reducible exact H2_) | with_reducible exact H | (rw [hy272]; exact H) | exact H
        have Ny272 := aM hy272
        clear hy272
        simp only [Option.some.injEq, Prod.mk.injEq] at H
        obtain ⟨rfl, rfl, rfl⟩ := H
        go_enter Try.func23, Try.ntmps23
        try go_wp2_with (first | ((with_reducible refine gate_dst (N := 2) rfl ?_); refine box_event ?hg (N := 2) ?hd (cs := #[.slice A0_0 l0_0.length c0_0, .slice A0_1 l0_1.length c0_1]) (t := 31) ?hr ?_; (case hd => rfl); (case hg => rfl); (case hr => first | (go_simp; done) | (go_simp; rfl)); intro gb244 hg w14 hbox hb; have n0_ := aM (below_step aB hb); have n1_ := aM (hbox); have n2_ := aM ((by rw [hg]; exact (below_size aB) : w.heap.size ≤ gb244)); have n3_ := aM ((by rw [hg]; exact (below_size aB) : w.heap.size ≤ gb244)); clear HB; have HB := n0_; have BK244 := n1_; have GW244 := n2_; have GE244 := n3_; clear n0_ n1_ n2_ n3_; clear hb hbox hg) | ((with_reducible refine gate_dst (N := 3) rfl ?_); refine box_event ?hg (N := 3) ?hd (cs := #[.int .i64 a1_0, .slice A1_1 l1_1.length c1_1]) (t := 45) ?hr ?_; (case hd => rfl); (case hg => rfl); (case hr => first | (go_simp; done) | (go_simp; rfl)); intro gb245 hg w15 hbox hb; have n0_ := aM (blk_below (g := gb244) (o := .cells #[.slice A0_0 l0_0.length c0_0, .slice A0_1 l0_1.length c0_1] 31 (0, 0)) aK hb); have n1_ := aM (below_step aG hb); have n2_ := aM (hbox); have n3_ := aM ((by rw [hg]; exact (below_size aG) : w.heap.size ≤ gb245)); have n4_ := aM ((by rw [hg]; exact (below_size aG) : w.heap.size ≤ gb245)); have n5_ := aM ((by rw [hg]; exact Nat.ne_of_lt (blk_lt (g := gb244) (o := .cells #[.slice A0_0 l0_0.length c0_0, .slice A0_1 l0_1.length c0_1] 31 (0, 0)) aK) : gb244 ≠ gb245)); have n6_ := aM ((by rw [hg]; exact Nat.ne_of_gt (blk_lt (g := gb244) (o := .cells #[.slice A0_0 l0_0.length c0_0, .slice A0_1 l0_1.length c0_1] 31 (0, 0)) aK) : gb245 ≠ gb244)); clear BK244; clear HB; have BK244 := n0_; have HB := n1_; have BK245 := n2_; have GW245 := n3_; have GE245 := n4_; have NB244_245 := n5_; have NB245_244 := n6_; clear n0_ n1_ n2_ n3_ n4_ n5_ n6_; clear hb hbox hg) | ((with_reducible refine gate_dst (N := 4) rfl ?_); refine box_event ?hg (N := 4) ?hd (cs := #[.slice none 0 0, .slice none 0 0]) (t := 31) ?hr ?_; (case hd => rfl); (case hg => rfl); (case hr => first | (go_simp; done) | (go_simp; rfl)); intro gb246 hg w16 hbox hb; have n0_ := aM (blk_below (g := gb244) (o := .cells #[.slice A0_0 l0_0.length c0_0, .slice A0_1 l0_1.length c0_1] 31 (0, 0)) aK hb); have n1_ := aM (blk_below (g := gb245) (o := .cells #[.int .i64 a1_0, .slice A1_1 l1_1.length c1_1] 45 (0, 0)) aK hb); have n2_ := aM (below_step aG hb); have n3_ := aM (hbox); have n4_ := aM ((by rw [hg]; exact (below_size aG) : w.heap.size ≤ gb246)); have n5_ := aM ((by rw [hg]; exact (below_size aG) : w.heap.size ≤ gb246)); have n6_ := aM ((by rw [hg]; exact Nat.ne_of_lt (blk_lt (g := gb244) (o := .cells #[.slice A0_0 l0_0.length c0_0, .slice A0_1 l0_1.length c0_1] 31 (0, 0)) aK) : gb244 ≠ gb246)); have n7_ := aM ((by rw [hg]; exact Nat.ne_of_gt (blk_lt (g := gb244) (o := .cells #[.slice A0_0 l0_0.length c0_0, .slice A0_1 l0_1.length c0_1] 31 (0, 0)) aK) : gb246 ≠ gb244)); have n8_ := aM ((by rw [hg]; exact Nat.ne_of_lt (blk_lt (g := gb245) (o := .cells #[.int .i64 a1_0, .slice A1_1 l1_1.length c1_1] 45 (0, 0)) aK) : gb245 ≠ gb246)); have n9_ := aM ((by rw [hg]; exact Nat.ne_of_gt (blk_lt (g := gb245) (o := .cells #[.int .i64 a1_0, .slice A1_1 l1_1.length c1_1] 45 (0, 0)) aK) : gb246 ≠ gb245)); clear BK244; clear BK245; clear HB; have BK244 := n0_; have BK245 := n1_; have HB := n2_; have BK246 := n3_; have GW246 := n4_; have GE246 := n5_; have NB244_246 := n6_; have NB246_244 := n7_; have NB245_246 := n8_; have NB246_245 := n9_; clear n0_ n1_ n2_ n3_ n4_ n5_ n6_ n7_ n8_ n9_; clear hb hbox hg; have hnb17 := NB244_245.out; have hnc17 := NB245_244.out; have hnb18 := NB244_246.out; have hnc18 := NB246_244.out; have hcz19_0 : w16.cell? ⟨gb244, 0, none⟩ = some (.slice A0_0 l0_0.length c0_0) := (blk_cell BK244.out 0).trans rfl; have hcz19_1 : w16.cell? ⟨gb244, 1, none⟩ = some (.slice A0_1 l0_1.length c0_1) := (blk_cell BK244.out 1).trans rfl; have hfz19_0 := blk_frozen BK244.out 0; have hfz19_1 := blk_frozen BK244.out 1) | ((with_reducible refine gate_callee (f := 46) rfl ?_); refine goesL_ (some 9) rfl rfl Try.func46 (by kernel_rfl) rfl #[.agg #[.slice A0_0 l0_0.length c0_0, .slice A0_1 l0_1.length c0_1]] rfl (by (try simp only [List.map_toArray, List.map_cons, List.map_nil]); first | done | rfl | (simp only [List.length_drop, List.length_take]; rfl)) ?_; (with_reducible refine (spec_l4Copy.calls k _ _ l0_0 _ _ l0_1 t247 t250 _ ?side1 ?side2 ?side3 ?side4 A3.out).mono ?_); (case side1 => exact aC); (case side2 => exact HC0_0.out); (case side3 => exact aC); (case side4 => exact HC0_1.out); rintro e w20 ⟨v248, v251, rfl, ho0, ho1, hb⟩; refine ⟨_, rfl, ?_⟩; have n0_ := aM (Kd.R_lower (Kd.R_newM (M := fun k_ => (w.heap.size ≤ k_)) ho0 (below_size aG) (fun k_ h_ => h_)) (below_size aG)); have n1_ := aM (Kd.N_lower (Kd.N_mono (ok' := fun k_ => (w.heap.size ≤ k_) ∧ some k_ ≠ (v248 : Value).ownBlock ∧ k_ ≠ gb244 ∧ k_ ≠ gb245 ∧ k_ ≠ gb246) (Kd.S_N (Kd.S_bound (Kd.S_apart' ho1 (Kd.R_typed ho0) (by decide)))) (fun k_ hk_ => ⟨(Nat.le_trans (below_size aG) hk_.2.1), hk_.1.2, (Kd.freshB (g := gb244) (o := .cells #[.slice A0_0 l0_0.length c0_0, .slice A0_1 l0_1.length c0_1] 31 (0, 0)) aK k_ hk_.2.1), (Kd.freshB (g := gb245) (o := .cells #[.int .i64 a1_0, .slice A1_1 l1_1.length c1_1] 45 (0, 0)) aK k_ hk_.2.1), (Kd.freshB (g := gb246) (o := .cells #[.slice none 0 0, .slice none 0 0] 31 (0, 0)) aK k_ hk_.2.1)⟩)) (below_size aG)); have n2_ := aM (blk_below (g := gb244) (o := .cells #[.slice A0_0 l0_0.length c0_0, .slice A0_1 l0_1.length c0_1] 31 (0, 0)) aK hb); have n3_ := aM (blk_below (g := gb245) (o := .cells #[.int .i64 a1_0, .slice A1_1 l1_1.length c1_1] 45 (0, 0)) aK hb); have n4_ := aM (blk_below (g := gb246) (o := .cells #[.slice none 0 0, .slice none 0 0] 31 (0, 0)) aK hb); have n5_ := aM (below_step aG hb); clear BK244; clear BK245; clear BK246; clear HB; have HO249 := n0_; have HO252 := n1_; have BK244 := n2_; have BK245 := n3_; have BK246 := n4_; have HB := n5_; clear n0_ n1_ n2_ n3_ n4_ n5_; (try clear hb); (try clear hb2); (try clear hk); (try clear hi); (try clear ho0); (try clear ho1)) | ((with_reducible refine gate_dst (N := 6) rfl ?_); refine box_event ?hg (N := 6) ?hd (cs := #[.slice none 0 0, .slice none 0 0]) (t := 31) ?hr ?_; (case hd => rfl); (case hg => rfl); (case hr => first | (go_simp; done) | (go_simp; rfl)); intro gb253 hg w21 hbox hb; have n0_ := aM (Kd.R_below (aR HO249) hb); have n1_ := aM (Kd.N_below (Kd.N_elderB (by (with_reducible repeat (first | apply Kd.N_alloc | apply Kd.N_drewN | apply Kd.N_drew)); exact HO252.out) gb253 (Nat.le_of_eq hg.symm)) hb); have n2_ := aM (blk_below (g := gb244) (o := .cells #[.slice A0_0 l0_0.length c0_0, .slice A0_1 l0_1.length c0_1] 31 (0, 0)) aK hb); have n3_ := aM (blk_below (g := gb245) (o := .cells #[.int .i64 a1_0, .slice A1_1 l1_1.length c1_1] 45 (0, 0)) aK hb); have n4_ := aM (blk_below (g := gb246) (o := .cells #[.slice none 0 0, .slice none 0 0] 31 (0, 0)) aK hb); have n5_ := aM (below_step aG hb); have n6_ := aM (hbox); have n7_ := aM ((by rw [hg]; exact (below_size aG) : w.heap.size ≤ gb253)); have n8_ := aM ((by rw [hg]; exact (below_size aG) : w.heap.size ≤ gb253)); have n9_ := aM ((by rw [hg]; exact Nat.ne_of_lt (blk_lt (g := gb244) (o := .cells #[.slice A0_0 l0_0.length c0_0, .slice A0_1 l0_1.length c0_1] 31 (0, 0)) aK) : gb244 ≠ gb253)); have n10_ := aM ((by rw [hg]; exact Nat.ne_of_gt (blk_lt (g := gb244) (o := .cells #[.slice A0_0 l0_0.length c0_0, .slice A0_1 l0_1.length c0_1] 31 (0, 0)) aK) : gb253 ≠ gb244)); have n11_ := aM ((by rw [hg]; exact Nat.ne_of_lt (blk_lt (g := gb245) (o := .cells #[.int .i64 a1_0, .slice A1_1 l1_1.length c1_1] 45 (0, 0)) aK) : gb245 ≠ gb253)); have n12_ := aM ((by rw [hg]; exact Nat.ne_of_gt (blk_lt (g := gb245) (o := .cells #[.int .i64 a1_0, .slice A1_1 l1_1.length c1_1] 45 (0, 0)) aK) : gb253 ≠ gb245)); have n13_ := aM ((by rw [hg]; exact Nat.ne_of_lt (blk_lt (g := gb246) (o := .cells #[.slice none 0 0, .slice none 0 0] 31 (0, 0)) aK) : gb246 ≠ gb253)); have n14_ := aM ((by rw [hg]; exact Nat.ne_of_gt (blk_lt (g := gb246) (o := .cells #[.slice none 0 0, .slice none 0 0] 31 (0, 0)) aK) : gb253 ≠ gb246)); clear HO249; clear HO252; clear BK244; clear BK245; clear BK246; clear HB; have HO249 := n0_; have HO252 := n1_; have BK244 := n2_; have BK245 := n3_; have BK246 := n4_; have HB := n5_; have BK253 := n6_; have GW253 := n7_; have GE253 := n8_; have NB244_253 := n9_; have NB253_244 := n10_; have NB245_253 := n11_; have NB253_245 := n12_; have NB246_253 := n13_; have NB253_246 := n14_; clear n0_ n1_ n2_ n3_ n4_ n5_ n6_ n7_ n8_ n9_ n10_ n11_ n12_ n13_ n14_; clear hb hbox hg; obtain ⟨Ao22, co22, eo22⟩ := Kd.R_slice HO249.out; subst eo22; have hnb23 := NB253_244.out; have hnc23 := NB244_253.out; have hnb24 := NB253_245.out; have hnc24 := NB245_253.out; have hnb25 := NB253_246.out; have hnc25 := NB246_253.out; have hcz26_0 : w21.cell? ⟨gb253, 0, none⟩ = some (.slice none 0 0) := (blk_cell BK253.out 0).trans rfl; have hcz26_1 : w21.cell? ⟨gb253, 1, none⟩ = some (.slice none 0 0) := (blk_cell BK253.out 1).trans rfl; have hfz26_0 := blk_frozen BK253.out 0; have hfz26_1 := blk_frozen BK253.out 1; obtain ⟨Ao27, co27, eo27⟩ := Kd.N_slice HO252.out; subst eo27; have hcz28_0 : w21.cell? ⟨gb244, 0, none⟩ = some (.slice A0_0 l0_0.length c0_0) := (blk_cell BK244.out 0).trans rfl; have hcz28_1 : w21.cell? ⟨gb244, 1, none⟩ = some (.slice A0_1 l0_1.length c0_1) := (blk_cell BK244.out 1).trans rfl; have hfz28_0 := blk_frozen BK244.out 0; have hfz28_1 := blk_frozen BK244.out 1; have hnb29 := NB245_246.out; have hnc29 := NB246_245.out; have hcz30_0 : w21.cell? ⟨gb245, 0, none⟩ = some (.int .i64 a1_0) := (blk_cell BK245.out 0).trans rfl; have hcz30_1 : w21.cell? ⟨gb245, 1, none⟩ = some (.slice A1_1 l1_1.length c1_1) := (blk_cell BK245.out 1).trans rfl; have hfz30_0 := blk_frozen BK245.out 0; have hfz30_1 := blk_frozen BK245.out 1) | ((with_reducible refine gate_callee (f := 48) rfl ?_); refine goesL_ (some 12) rfl rfl Try.func48 (by kernel_rfl) rfl #[.agg #[.slice A0_0 l0_0.length c0_0, .slice A0_1 l0_1.length c0_1], .agg #[.int .i64 a1_0, .slice A1_1 l1_1.length c1_1]] rfl (by (try simp only [List.map_toArray, List.map_cons, List.map_nil]); first | done | rfl | (simp only [List.length_drop, List.length_take]; rfl)) ?_; (with_reducible refine (spec_ContainsFact.calls k _ _ l0_0 _ _ l0_1 a1_0 _ _ l1_1 true _ ?side1 ?side2 ?side3 ?side4 ?side5 ?side6 A4.out).mono ?_); (case side1 => exact Kd.C_below HR0_0.out aG); (case side2 => exact HC0_0.out); (case side3 => exact Kd.C_below HR0_1.out aG); (case side4 => exact HC0_1.out); (case side5 => exact Kd.C_below HR1_1.out aG); (case side6 => exact HC1_1.out); rintro e w31 ⟨rfl, hb⟩; refine ⟨_, rfl, ?_⟩; have n0_ := aM (Kd.R_below (by (with_reducible repeat (first | apply Kd.R_alloc | apply Kd.R_drewN | apply Kd.R_drew)); exact (Kd.R_mono (Kd.R_far (p := ⟨gb253, 1, none⟩) (Kd.R_far (p := ⟨gb253, 0, none⟩) (Kd.R_types HO249.out BK253.out (by decide)) (fun _ hk => hk.2) (.slice Ao22 t247.length co22)) (fun _ hk => hk.2) (.slice Ao27 t250.length co27)) (fun _ h_ => h_.1))) hb); have n1_ := aM (Kd.N_below (by (with_reducible repeat (first | apply Kd.N_alloc | apply Kd.N_drewN | apply Kd.N_drew)); exact (Kd.N_mono (Kd.N_far (p := ⟨gb253, 1, none⟩) (Kd.N_far (p := ⟨gb253, 0, none⟩) (Kd.N_mono HO252.out (fun k_ hk => (⟨hk, hk.2⟩ : _ ∧ k_ ≠ gb253))) (fun _ hk => hk.2) (.slice Ao22 t247.length co22)) (fun _ hk => hk.2) (.slice Ao27 t250.length co27)) (fun _ h_ => h_.1))) hb); have n2_ := aM (blk_below (g := gb244) (o := .cells #[.slice A0_0 l0_0.length c0_0, .slice A0_1 l0_1.length c0_1] 31 (0, 0)) (by (with_reducible repeat (first | refine blk_drewN ?_ _ | refine blk_drew ?_ | refine blk_alloc ?_ _)); refine blk_far ?_ NB244_253.out _; (with_reducible repeat (first | refine blk_drewN ?_ _ | refine blk_drew ?_ | refine blk_alloc ?_ _)); refine blk_far ?_ NB244_253.out _; (with_reducible repeat (first | refine blk_drewN ?_ _ | refine blk_drew ?_ | refine blk_alloc ?_ _)); exact BK244.out) hb); have n3_ := aM (blk_below (g := gb245) (o := .cells #[.int .i64 a1_0, .slice A1_1 l1_1.length c1_1] 45 (0, 0)) (by (with_reducible repeat (first | refine blk_drewN ?_ _ | refine blk_drew ?_ | refine blk_alloc ?_ _)); refine blk_far ?_ NB245_253.out _; (with_reducible repeat (first | refine blk_drewN ?_ _ | refine blk_drew ?_ | refine blk_alloc ?_ _)); refine blk_far ?_ NB245_253.out _; (with_reducible repeat (first | refine blk_drewN ?_ _ | refine blk_drew ?_ | refine blk_alloc ?_ _)); exact BK245.out) hb); have n4_ := aM (blk_below (g := gb246) (o := .cells #[.slice none 0 0, .slice none 0 0] 31 (0, 0)) (by (with_reducible repeat (first | refine blk_drewN ?_ _ | refine blk_drew ?_ | refine blk_alloc ?_ _)); refine blk_far ?_ NB246_253.out _; (with_reducible repeat (first | refine blk_drewN ?_ _ | refine blk_drew ?_ | refine blk_alloc ?_ _)); refine blk_far ?_ NB246_253.out _; (with_reducible repeat (first | refine blk_drewN ?_ _ | refine blk_drew ?_ | refine blk_alloc ?_ _)); exact BK246.out) hb); have n5_ := aM (blk_below (g := gb253) (o := .cells #[.slice Ao22 t247.length co22, .slice Ao27 t250.length co27] 31 (0, 0)) (by (with_reducible repeat (first | refine blk_drewN ?_ _ | refine blk_drew ?_ | refine blk_alloc ?_ _)); refine blk_put (cs := #[.slice Ao22 t247.length co22, .slice none 0 0]) ?_ 1 _ rfl; (with_reducible repeat (first | refine blk_drewN ?_ _ | refine blk_drew ?_ | refine blk_alloc ?_ _)); refine blk_put (cs := #[.slice none 0 0, .slice none 0 0]) ?_ 0 _ rfl; (with_reducible repeat (first | refine blk_drewN ?_ _ | refine blk_drew ?_ | refine blk_alloc ?_ _)); exact BK253.out) hb); have n6_ := aM (below_step aG hb); clear HO249; clear HO252; clear BK244; clear BK245; clear BK246; clear BK253; clear HB; have HO249 := n0_; have HO252 := n1_; have BK244 := n2_; have BK245 := n3_; have BK246 := n4_; have BK253 := n5_; have HB := n6_; clear n0_ n1_ n2_ n3_ n4_ n5_ n6_; (try clear hb); (try clear hb2); (try clear hk); (try clear hi); have hcz32_0 : w31.cell? ⟨gb244, 0, none⟩ = some (.slice A0_0 l0_0.length c0_0) := (blk_cell BK244.out 0).trans rfl; have hcz32_1 : w31.cell? ⟨gb244, 1, none⟩ = some (.slice A0_1 l0_1.length c0_1) := (blk_cell BK244.out 1).trans rfl; have hfz32_0 := blk_frozen BK244.out 0; have hfz32_1 := blk_frozen BK244.out 1; have hcz33_0 : w31.cell? ⟨gb245, 0, none⟩ = some (.int .i64 a1_0) := (blk_cell BK245.out 0).trans rfl; have hcz33_1 : w31.cell? ⟨gb245, 1, none⟩ = some (.slice A1_1 l1_1.length c1_1) := (blk_cell BK245.out 1).trans rfl; have hfz33_0 := blk_frozen BK245.out 0; have hfz33_1 := blk_frozen BK245.out 1) | ((with_reducible refine gate_callee (f := 53) rfl ?_); refine goesL_ (some 17) rfl rfl Try.func53 (by kernel_rfl) rfl #[.agg #[.slice A0_0 l0_0.length c0_0, .slice A0_1 l0_1.length c0_1], .agg #[.int .i64 a1_0, .slice A1_1 l1_1.length c1_1]] rfl (by (try simp only [List.map_toArray, List.map_cons, List.map_nil]); first | done | rfl | (simp only [List.length_drop, List.length_take]; rfl)) ?_; (with_reducible refine (spec_FactIndex.calls k _ _ l0_0 _ _ l0_1 a1_0 _ _ l1_1 t255 _ ?side1 ?side2 ?side3 ?side4 ?side5 ?side6 A6.out).mono ?_); (case side1 => exact aC); (case side2 => exact HC0_0.out); (case side3 => exact aC); (case side4 => exact HC0_1.out); (case side5 => exact aC); (case side6 => exact HC1_1.out); rintro e w34 ⟨rfl, hb⟩; refine ⟨_, rfl, ?_⟩; have n0_ := aM (Kd.R_below (aR HO249) hb); have n1_ := aM (Kd.N_below (by (with_reducible repeat (first | apply Kd.N_alloc | apply Kd.N_drewN | apply Kd.N_drew)); exact HO252.out) hb); have n2_ := aM (blk_below (g := gb244) (o := .cells #[.slice A0_0 l0_0.length c0_0, .slice A0_1 l0_1.length c0_1] 31 (0, 0)) aK hb); have n3_ := aM (blk_below (g := gb245) (o := .cells #[.int .i64 a1_0, .slice A1_1 l1_1.length c1_1] 45 (0, 0)) aK hb); have n4_ := aM (blk_below (g := gb246) (o := .cells #[.slice none 0 0, .slice none 0 0] 31 (0, 0)) aK hb); have n5_ := aM (blk_below (g := gb253) (o := .cells #[.slice Ao22 t247.length co22, .slice Ao27 t250.length co27] 31 (0, 0)) aK hb); have n6_ := aM (below_step aG hb); clear HO249; clear HO252; clear BK244; clear BK245; clear BK246; clear BK253; clear HB; have HO249 := n0_; have HO252 := n1_; have BK244 := n2_; have BK245 := n3_; have BK246 := n4_; have BK253 := n5_; have HB := n6_; clear n0_ n1_ n2_ n3_ n4_ n5_ n6_; (try clear hb); (try clear hb2); (try clear hk); (try clear hi)))
        have n0_ := aM (Kd.R_drew HO249.out)
        have n1_ := aM (Kd.N_drew HO252.out)
        have n2_ := aM (blk_drew BK244.out)
        have n3_ := aM (blk_drew BK245.out)
        have n4_ := aM (blk_drew BK246.out)
        have n5_ := aM (blk_drew BK253.out)
        have n6_ := aM (below_drew1 HB.out)
        clear HO249
        clear HO252
        clear BK244
        clear BK245
        clear BK246
        clear BK253
        clear HB
        have HO249 := n0_
        have HO252 := n1_
        have BK244 := n2_
        have BK245 := n3_
        have BK246 := n4_
        have BK253 := n5_
        have HB := n6_
        clear n0_ n1_ n2_ n3_ n4_ n5_ n6_
        have q36 : (t255 : Int) ≤ ((t250.length : Int) : Int) := aD
        obtain ⟨i036, hi036, _, hsz36, _⟩ := info_parts info45
        have hroom36 : t250.length ≤ co27 := (Kd.N_reads' HO252.out).2.1
        have hC36 : Kd.F k45 _ _ Ao27 t250.length t250 := (Kd.V_at (base := w.heap.size) (Kd.N_V HO252.out)).2.2
        have hcut36 := cut_to (P := Try.prog) 29 45 .i64 Try.underlying29 hi036 Ao27 t250.length co27 t255 (aD) q36 hroom36
        have hr36 := Kd.F_take (m := (t255 : Int).toNat) hC36 (by omega)
        have hy36 : y259.length = (t255 : Int).toNat := (by rw [Ny259.out, List.length_take]; omega)
        rw [← Ny259.out] at hr36
        rw [← hy36] at hcut36
        have HO263 := aM (show Kd.V k45 45 _ w.heap.size _ (.slice Ao27 y259.length co27) y259 from Kd.V_mk (by omega) hr36)
        have HC263 := aM (show y259.length ≤ co27 from by omega)
        clear hr36 hC36 hroom36 hi036 hsz36
        have KY36 := aM hy36
        clear hy36
        replace q36 := eq_true q36
        have q37 : ((ji10) : Int) ≤ ((t250.length : Int) : Int) := aD
        obtain ⟨i037, hi037, _, hsz37, _⟩ := info_parts info45
        have hroom37 : t250.length ≤ co27 := (Kd.N_reads' HO252.out).2.1
        have hC37 : Kd.F k45 _ _ Ao27 t250.length t250 := (Kd.V_at (base := w.heap.size) (Kd.N_V HO252.out)).2.2
        have q037 : (0 : Int) ≤ ((ji10) : Int) := aD
        have hcut37 := cut_from (P := Try.prog) 29 45 .i64 Try.underlying29 hi037 2 hsz37 Ao27 t250.length co27 (ji10) q037 q37
        have hr37 := Kd.F_cut (m := ((ji10) : Int).toNat) (c := co27) hC37 (by omega) hroom37
        obtain ⟨A37, hA37⟩ : ∃ A1, A1 = (if co27 = ((ji10) : Int).toNat then Ao27 else (Ao27 : Option Addr).map (·.add (((ji10) : Int).toNat * 2))) := ⟨_, rfl⟩
        obtain ⟨c37, hc37⟩ : ∃ c1, c1 = co27 - ((ji10) : Int).toNat := ⟨_, rfl⟩
        have hy37 : y267.length = t250.length - ((ji10) : Int).toNat := (by rw [Ny267.out, List.length_drop] <;> omega)
        rw [show (t250).drop ((ji10) : Int).toNat = y267 from Ny267.out.symm] at hr37
        replace hr37 : Kd.F k45 _ _ A37 y267.length y267 := (by rw [hA37]; exact hr37)
        rw [← hy37, ← hA37, ← hc37] at hcut37
        have HO271 := aM (show Kd.V k45 45 _ w.heap.size _ (.slice A37 y267.length c37) y267 from Kd.V_mk (by rw [hy37, hc37]; exact Nat.sub_le_sub_right hroom37 _) hr37)
        have HC271 := aM (show y267.length ≤ c37 from by rw [hy37, hc37]; exact Nat.sub_le_sub_right hroom37 _)
        clear hr37 hC37 hroom37 hi037 hsz37 hc37
        have KY37 := aM hy37
        have KA37 := aM hA37
        clear hy37 hA37
        replace q37 := eq_true q37
        refine start_ (n := 14) (S := fun w' => w'.cell? ⟨gb253, 0, none⟩ = some (.slice Ao22 t247.length co22) ∧ w'.cell? ⟨gb253, 1, none⟩ = some (.slice Ao27 t250.length co27)) (ds := [13]) #[false, false, false, false, false, false, false, false, false, false, false, false, false, false] (by kernel_rfl) rfl rfl ⟨(blk_cell BK253.out 0).trans rfl, (blk_cell BK253.out 1).trans rfl⟩ (fun hHeld => ?_); refine with_tabW spec_DeleteFact.tab5 spec_DeleteFact.bits5 (fun HT_ HW_ => ?_)
        generalize w34.drew = w35 at HO249 HO252 BK244 BK245 BK246 BK253 HB HO263 HO271 hHeld ⊢
        refine pure_ (i := 1) (N := some 19) (v := ?_) (a' := ?_) #[false, true, false, false, false, false, false, false, false, false, false, false, false, false] rfl rfl (any_of HT_.out (by kernel_rfl)) (fun _ _ _ h => h) (Or.inl ⟨by rfl, ?_⟩) ?_ ?_
        rotate_left
        ·exact aI
        rotate_left
        ·exact aP
        refine pure_ (i := 3) (N := some 21) (v := ?_) (a' := ?_) #[false, true, false, true, false, false, false, false, false, false, false, false, false, false] rfl rfl (any_of HT_.out (by kernel_rfl)) (fun _ _ _ h => h) (Or.inl ⟨by rfl, ?_⟩) ?_ ?_
        rotate_left
        ·exact aI
        rotate_left
        ·exact aP
        refine pure_ (i := 6) (N := some 24) (v := ?_) (a' := ?_) #[false, true, false, true, false, false, true, false, false, false, false, false, false, false] rfl rfl (any_of HT_.out (by kernel_rfl)) (fun _ _ _ h => h) (Or.inl ⟨by rfl, ?_⟩) ?_ ?_
        rotate_left
        ·exact aI
        rotate_left
        ·exact aP
        refine pure_ (i := 8) (N := some 26) (v := ?_) (a' := ?_) #[false, true, false, true, false, false, true, false, true, false, false, false, false, false] rfl rfl (any_of HT_.out (by kernel_rfl)) (fun _ _ _ h => h) (Or.inl ⟨by rfl, ?_⟩) ?_ ?_
        rotate_left
        ·exact aI
        rotate_left
        ·exact aP
        refine pure_ (i := 9) (N := some 27) (v := ?_) (a' := ?_) #[false, true, false, true, false, false, true, false, true, true, false, false, false, false] rfl rfl (any_of HT_.out (by kernel_rfl)) (fun _ _ _ h => h) (Or.inl ⟨by rfl, ?_⟩) ?_ ?_
        rotate_left
        ·exact aI
        rotate_left
        ·exact aP
        refine take_ (i := 2) (N := some 20) (v := ?_) (a' := ?_) #[false, true, true, true, false, false, true, false, true, true, false, false, false, false] rfl rfl (take_ofW HT_.out HW_.out (by kernel_rfl)) (fun _ _ _ h => h) (Or.inl ⟨by rfl, ?_⟩) hHeld ?_ ?_
        rotate_left
        ·rintro w' ⟨s0, s1⟩
         go_simp
         with_reducible rfl
        rotate_left
        ·exact aP
        refine pure_ (i := 4) (N := some 22) (v := ?_) (a' := ?_) #[false, true, true, true, true, false, true, false, true, true, false, false, false, false] rfl rfl (any_of HT_.out (by kernel_rfl)) (fun _ _ _ h => h) (Or.inl ⟨by rfl, ?_⟩) ?_ ?_
        rotate_left
        ·exact aI
        rotate_left
        ·exact aP
        refine take_ (i := 7) (N := some 25) (v := ?_) (a' := ?_) #[false, true, true, true, true, false, true, true, true, true, false, false, false, false] rfl rfl (take_ofW HT_.out HW_.out (by kernel_rfl)) (fun _ _ _ h => h) (Or.inl ⟨by rfl, ?_⟩) hHeld ?_ ?_
        rotate_left
        ·rintro w' ⟨s0, s1⟩
         go_simp
         with_reducible rfl
        rotate_left
        ·exact aP
        refine pure_ (i := 10) (N := some 28) (v := ?_) (a' := ?_) #[false, true, true, true, true, false, true, true, true, true, true, false, false, false] rfl rfl (any_of HT_.out (by kernel_rfl)) (fun _ _ _ h => h) (Or.inl ⟨by rfl, ?_⟩) ?_ ?_
        rotate_left
        ·exact aI
        rotate_left
        ·exact aP
        refine one_ (i := 0) (N := some 18) #[true, true, true, true, true, false, true, true, true, true, true, false, false, false] rfl rfl (one_of HT_.out (by kernel_rfl)) (by decide) (fun K hK => ?_)
        refine Kd.N_lit_step k45 _ 45 ?hg (N' := 18) ?hd (xs := ([] : List (S45))) (inner := []) (ok := (fun k_ => (w.heap.size ≤ k_) ∧ some k_ ≠ (.slice Ao22 t247.length co22 : Value).ownBlock ∧ some k_ ≠ (.slice Ao27 t250.length co27 : Value).ownBlock ∧ k_ ≠ gb244 ∧ k_ ≠ gb245 ∧ k_ ≠ gb246 ∧ k_ ≠ gb253)) (okp := (fun k_ => (w.heap.size ≤ k_) ∧ some k_ ≠ (.slice Ao22 t247.length co22 : Value).ownBlock ∧ some k_ ≠ (.slice Ao27 t250.length co27 : Value).ownBlock ∧ k_ ≠ gb244 ∧ k_ ≠ gb245 ∧ k_ ≠ gb246 ∧ k_ ≠ gb253)) ?hr ?hp (fun _ hk => hk) ((show ∀ k_, w35.heap.size ≤ k_ → (fun k_ => (w.heap.size ≤ k_) ∧ some k_ ≠ (.slice Ao22 t247.length co22 : Value).ownBlock ∧ some k_ ≠ (.slice Ao27 t250.length co27 : Value).ownBlock ∧ k_ ≠ gb244 ∧ k_ ≠ gb245 ∧ k_ ≠ gb246 ∧ k_ ≠ gb253) k_ from fun k_ hk => ⟨(Nat.le_trans (below_size aG) hk), Kd.fresh' (Kd.R_lt (aR HO249)) k_ hk, Kd.fresh' (Kd.N_lt (by (with_reducible repeat (first | apply Kd.N_alloc | apply Kd.N_drewN | apply Kd.N_drew)); exact HO252.out)) k_ hk, Kd.freshB (g := gb244) (o := .cells #[.slice A0_0 l0_0.length c0_0, .slice A0_1 l0_1.length c0_1] 31 (0, 0)) aK k_ hk, Kd.freshB (g := gb245) (o := .cells #[.int .i64 a1_0, .slice A1_1 l1_1.length c1_1] 45 (0, 0)) aK k_ hk, Kd.freshB (g := gb246) (o := .cells #[.slice none 0 0, .slice none 0 0] 31 (0, 0)) aK k_ hk, Kd.freshB (g := gb253) (o := .cells #[.slice Ao22 t247.length co22, .slice Ao27 t250.length co27] 31 (0, 0)) aK k_ hk⟩) _ (Nat.le_refl _)) (Below.refl _ _) (Nat.le_refl _) (by simp) ?_; (case hd => rfl); (case hg => rfl); (case hr => first | (go_simp; done) | (go_simp; rfl)); (case hp => exact (Reps.none _ _))
        intro v257 w38 ho39 hb hg_ hnew_
        clear hg_ hnew_
        (first | rw [← Ny256.out] at ho39 | (simp only [Int.reduceToNat] at ho39; rw [← Ny256.out] at ho39))
        have n0_ := aM (Kd.R_below (aR HO249) hb)
        have n1_ := aM (Kd.N_elder' (by (with_reducible repeat (first | apply Kd.N_alloc | apply Kd.N_drewN | apply Kd.N_drew)); exact HO252.out) (Kd.N_base ho39) hb)
        have n2_ := aM (Kd.V_elder' (by (with_reducible repeat (first | apply Kd.V_alloc | apply Kd.V_drewN | apply Kd.V_drew)); exact HO263.out) (Kd.N_base ho39) hb)
        have n3_ := aM (Kd.V_elder' (by (with_reducible repeat (first | apply Kd.V_alloc | apply Kd.V_drewN | apply Kd.V_drew)); exact HO271.out) (Kd.N_base ho39) hb)
        have n4_ := aM (Kd.N_lower ho39 (below_size aG))
        have n5_ := aM (blk_below (g := gb244) (o := .cells #[.slice A0_0 l0_0.length c0_0, .slice A0_1 l0_1.length c0_1] 31 (0, 0)) aK hb)
        have n6_ := aM (blk_below (g := gb245) (o := .cells #[.int .i64 a1_0, .slice A1_1 l1_1.length c1_1] 45 (0, 0)) aK hb)
        have n7_ := aM (blk_below (g := gb246) (o := .cells #[.slice none 0 0, .slice none 0 0] 31 (0, 0)) aK hb)
        have n8_ := aM (blk_below (g := gb253) (o := .cells #[.slice Ao22 t247.length co22, .slice Ao27 t250.length co27] 31 (0, 0)) aK hb)
        have n9_ := aM (below_step aG hb)
        clear HO249
        clear HO252
        clear HO263
        clear HO271
        clear BK244
        clear BK245
        clear BK246
        clear BK253
        clear HB
        have HO249 := n0_
        have HO252 := n1_
        have HO263 := n2_
        have HO271 := n3_
        have HO258 := n4_
        have BK244 := n5_
        have BK245 := n6_
        have BK246 := n7_
        have BK253 := n8_
        have HB := n9_
        clear n0_ n1_ n2_ n3_ n4_ n5_ n6_ n7_ n8_ n9_
        clear hb ho39
        refine hK.out _ _ ⟨(blk_cell BK253.out 0).trans rfl, (blk_cell BK253.out 1).trans rfl⟩ (fun hHeld => ?_)
        clear hK K
        refine norm_ (a' := ?_) ?_ ?_
        rotate_left
        ·show Act.put _ (some 18) _ = _
         simp only [Act.put, List.setIfInBounds_toArray, List.set_cons_zero, List.set_cons_succ, i64_w, i32_w]
         rfl
        refine one_ (i := 5) (N := some 23) #[true, true, true, true, true, true, true, true, true, true, true, false, false, false] rfl rfl (one_of HT_.out (by kernel_rfl)) (by decide) (fun K hK => ?_)
        refine Kd.N_append_rows_step k45 (w0 := w) w.heap.size (by rfl) (.tmp 18) (.tmp 22) 29 45 (.agg #[(.int .i64 0), (.slice none 0 0)]) 32 rfl Try.underlying29 info45 rfl (by decide) (by omega) v257 y256 y259 _ _ _ (fun k_ => (w.heap.size ≤ k_) ∧ some k_ ≠ (.slice Ao22 t247.length co22 : Value).ownBlock ∧ k_ ≠ gb244 ∧ k_ ≠ gb245 ∧ k_ ≠ gb246 ∧ k_ ≠ gb253) (fun k_ => ((fun k_ => (w.heap.size ≤ k_) ∧ some k_ ≠ (.slice Ao22 t247.length co22 : Value).ownBlock ∧ k_ ≠ gb244 ∧ k_ ≠ gb245 ∧ k_ ≠ gb246 ∧ k_ ≠ gb253)) k_ ∧ some k_ ≠ (v257 : Value).ownBlock) rfl rfl ?aO ?aR (fun _ hk => hk) ?aF ?aB ?aS ?aL ?_
        (case aR => exact (by skip; exact Kd.V_F (Kd.V_mono (ok' := (fun k_ => ((fun k_ => (w.heap.size ≤ k_) ∧ some k_ ≠ (.slice Ao22 t247.length co22 : Value).ownBlock ∧ k_ ≠ gb244 ∧ k_ ≠ gb245 ∧ k_ ≠ gb246 ∧ k_ ≠ gb253)) k_ ∧ some k_ ≠ (v257 : Value).ownBlock)) (HO263.out) (fun k_ hk => ⟨⟨hk.1.1.1, ⟨hk.1.1.2.1, ⟨hk.1.1.2.2.1, ⟨hk.1.1.2.2.2.1, ⟨hk.1.1.2.2.2.2, hk.1.2⟩⟩⟩⟩⟩, hk.2⟩))))
        (case aB => exact aG)
        (case aF => exact (fun k_ hk => ⟨(Nat.le_trans (below_size aG) hk), Kd.fresh' (Kd.R_lt (aR HO249)) k_ hk, Kd.freshB (g := gb244) (o := .cells #[.slice A0_0 l0_0.length c0_0, .slice A0_1 l0_1.length c0_1] 31 (0, 0)) aK k_ hk, Kd.freshB (g := gb245) (o := .cells #[.int .i64 a1_0, .slice A1_1 l1_1.length c1_1] 45 (0, 0)) aK k_ hk, Kd.freshB (g := gb246) (o := .cells #[.slice none 0 0, .slice none 0 0] 31 (0, 0)) aK k_ hk, Kd.freshB (g := gb253) (o := .cells #[.slice Ao22 t247.length co22, .slice Ao27 t250.length co27] 31 (0, 0)) aK k_ hk⟩))
        (case aO => exact (by (with_reducible repeat (first | apply Kd.N_alloc | apply Kd.N_drewN | apply Kd.N_drew)); exact Kd.N_mono HO258.out (fun _ hk => ⟨hk.1, ⟨hk.2.1, ⟨hk.2.2.2.1, ⟨hk.2.2.2.2.1, ⟨hk.2.2.2.2.2.1, hk.2.2.2.2.2.2⟩⟩⟩⟩⟩)))
        (case aS => exact (below_size aG))
        (case aL => have := LMc9.out; omega)
        intro v265 w40 ho hb hg hat
        rw [← Ny264.out] at ho
        have n0_ := aM (blk_grown (g := gb244) (o := .cells #[.slice A0_0 l0_0.length c0_0, .slice A0_1 l0_1.length c0_1] 31 (0, 0)) aK hg (Kd.N_ne HO258.out BK244.out (by decide)))
        have n1_ := aM (blk_grown (g := gb245) (o := .cells #[.int .i64 a1_0, .slice A1_1 l1_1.length c1_1] 45 (0, 0)) aK hg (Kd.N_away HO258.out (fun _ hk => hk.2.2.2.2.1)))
        have n2_ := aM (blk_grown (g := gb246) (o := .cells #[.slice none 0 0, .slice none 0 0] 31 (0, 0)) aK hg (Kd.N_ne HO258.out BK246.out (by decide)))
        have n3_ := aM (Kd.R_over' (aR HO249) (Kd.N_typed (by (with_reducible repeat (first | apply Kd.N_alloc | apply Kd.N_drewN | apply Kd.N_drew)); exact HO258.out)) (by decide) hg)
        have n4_ := aM (Kd.N_afterv (ok := (fun k_ => (w.heap.size ≤ k_) ∧ some k_ ≠ (.slice Ao22 t247.length co22 : Value).ownBlock ∧ k_ ≠ gb244 ∧ k_ ≠ gb245 ∧ k_ ≠ gb246 ∧ k_ ≠ gb253)) (by (with_reducible repeat (first | apply Kd.N_alloc | apply Kd.N_drewN | apply Kd.N_drew)); exact Kd.N_mono HO252.out (fun _ hk => ⟨⟨hk.1.1.1, ⟨hk.1.1.2.1, ⟨hk.1.1.2.2.1, ⟨hk.1.1.2.2.2.1, ⟨hk.1.1.2.2.2.2, hk.1.2⟩⟩⟩⟩⟩, hk.2⟩)) hg hat)
        have n5_ := aM (blk_grown (g := gb253) (o := .cells #[.slice Ao22 t247.length co22, .slice Ao27 t250.length co27] 31 (0, 0)) aK hg (Kd.N_ne HO258.out BK253.out (by decide)))
        have n6_ := aM (Kd.V_afterv (ok := (fun k_ => (w.heap.size ≤ k_) ∧ some k_ ≠ (.slice Ao22 t247.length co22 : Value).ownBlock ∧ k_ ≠ gb244 ∧ k_ ≠ gb245 ∧ k_ ≠ gb246 ∧ k_ ≠ gb253)) (by (with_reducible repeat (first | apply Kd.V_alloc | apply Kd.V_drewN | apply Kd.V_drew)); exact Kd.V_mono HO263.out (fun _ hk => ⟨⟨hk.1.1.1, ⟨hk.1.1.2.1, ⟨hk.1.1.2.2.1, ⟨hk.1.1.2.2.2.1, ⟨hk.1.1.2.2.2.2, hk.1.2⟩⟩⟩⟩⟩, hk.2⟩)) hg hat)
        have n7_ := aM (Kd.V_afterv (ok := (fun k_ => (w.heap.size ≤ k_) ∧ some k_ ≠ (.slice Ao22 t247.length co22 : Value).ownBlock ∧ k_ ≠ gb244 ∧ k_ ≠ gb245 ∧ k_ ≠ gb246 ∧ k_ ≠ gb253)) (by (with_reducible repeat (first | apply Kd.V_alloc | apply Kd.V_drewN | apply Kd.V_drew)); exact Kd.V_mono HO271.out (fun _ hk => ⟨⟨hk.1.1.1, ⟨hk.1.1.2.1, ⟨hk.1.1.2.2.1, ⟨hk.1.1.2.2.2.1, ⟨hk.1.1.2.2.2.2, hk.1.2⟩⟩⟩⟩⟩, hk.2⟩)) hg hat)
        have n8_ := aM (hb)
        have n9_ := aM (ho)
        clear BK244
        clear BK245
        clear BK246
        clear HO249
        clear HO252
        clear BK253
        clear HO263
        clear HO271
        clear HB
        clear HO258
        have BK244 := n0_
        have BK245 := n1_
        have BK246 := n2_
        have HO249 := n3_
        have HO252 := n4_
        have BK253 := n5_
        have HO263 := n6_
        have HO271 := n7_
        have HB := n8_
        have HO266 := n9_
        clear n0_ n1_ n2_ n3_ n4_ n5_ n6_ n7_ n8_ n9_
        clear ho hb hg hat
        refine hK.out _ _ ⟨(blk_cell BK253.out 0).trans rfl, (blk_cell BK253.out 1).trans rfl⟩ (fun hHeld => ?_)
        clear hK K
        refine norm_ (a' := ?_) ?_ ?_
        rotate_left
        ·show Act.put _ (some 23) _ = _
         simp only [Act.put, List.setIfInBounds_toArray, List.set_cons_zero, List.set_cons_succ, i64_w, i32_w]
         rfl
        refine one_ (i := 11) (N := some 29) #[true, true, true, true, true, true, true, true, true, true, true, true, false, false] rfl rfl (one_of HT_.out (by kernel_rfl)) (by decide) (fun K hK => ?_)
        refine Kd.N_append_rows_step k45 (w0 := w) w.heap.size (by rfl) (.tmp 23) (.tmp 28) 29 45 (.agg #[(.int .i64 0), (.slice none 0 0)]) 32 rfl Try.underlying29 info45 rfl (by decide) (by omega) v265 y264 y267 _ _ _ (fun k_ => (w.heap.size ≤ k_) ∧ some k_ ≠ (.slice Ao22 t247.length co22 : Value).ownBlock ∧ k_ ≠ gb244 ∧ k_ ≠ gb245 ∧ k_ ≠ gb246 ∧ k_ ≠ gb253) (fun k_ => ((fun k_ => (w.heap.size ≤ k_) ∧ some k_ ≠ (.slice Ao22 t247.length co22 : Value).ownBlock ∧ k_ ≠ gb244 ∧ k_ ≠ gb245 ∧ k_ ≠ gb246 ∧ k_ ≠ gb253)) k_ ∧ some k_ ≠ (v265 : Value).ownBlock) rfl rfl ?aO ?aR (fun _ hk => hk) ?aF ?aB ?aS ?aL ?_
        (case aR => exact (by skip; exact Kd.V_F (Kd.V_mono (ok' := (fun k_ => ((fun k_ => (w.heap.size ≤ k_) ∧ some k_ ≠ (.slice Ao22 t247.length co22 : Value).ownBlock ∧ k_ ≠ gb244 ∧ k_ ≠ gb245 ∧ k_ ≠ gb246 ∧ k_ ≠ gb253)) k_ ∧ some k_ ≠ (v265 : Value).ownBlock)) (HO271.out) (fun k_ hk => ⟨⟨hk.1.1, ⟨hk.1.2.1, ⟨hk.1.2.2.1, ⟨hk.1.2.2.2.1, ⟨hk.1.2.2.2.2.1, hk.1.2.2.2.2.2⟩⟩⟩⟩⟩, hk.2⟩))))
        (case aB => exact aG)
        (case aF => exact (fun k_ hk => ⟨(Nat.le_trans (below_size aG) hk), Kd.fresh' (Kd.R_lt (aR HO249)) k_ hk, Kd.freshB (g := gb244) (o := .cells #[.slice A0_0 l0_0.length c0_0, .slice A0_1 l0_1.length c0_1] 31 (0, 0)) aK k_ hk, Kd.freshB (g := gb245) (o := .cells #[.int .i64 a1_0, .slice A1_1 l1_1.length c1_1] 45 (0, 0)) aK k_ hk, Kd.freshB (g := gb246) (o := .cells #[.slice none 0 0, .slice none 0 0] 31 (0, 0)) aK k_ hk, Kd.freshB (g := gb253) (o := .cells #[.slice Ao22 t247.length co22, .slice Ao27 t250.length co27] 31 (0, 0)) aK k_ hk⟩))
        (case aO => exact (by (with_reducible repeat (first | apply Kd.N_alloc | apply Kd.N_drewN | apply Kd.N_drew)); exact HO266.out))
        (case aS => exact (below_size aG))
        (case aL => have := LMc13.out; omega)
        intro v273 w41 ho hb hg hat
        rw [← Ny272.out] at ho
        have n0_ := aM (blk_grown (g := gb244) (o := .cells #[.slice A0_0 l0_0.length c0_0, .slice A0_1 l0_1.length c0_1] 31 (0, 0)) aK hg (Kd.N_ne HO266.out BK244.out (by decide)))
        have n1_ := aM (blk_grown (g := gb245) (o := .cells #[.int .i64 a1_0, .slice A1_1 l1_1.length c1_1] 45 (0, 0)) aK hg (Kd.N_away HO266.out (fun _ hk => hk.2.2.2.1)))
        have n2_ := aM (blk_grown (g := gb246) (o := .cells #[.slice none 0 0, .slice none 0 0] 31 (0, 0)) aK hg (Kd.N_ne HO266.out BK246.out (by decide)))
        have n3_ := aM (Kd.R_over' (aR HO249) (Kd.N_typed (by (with_reducible repeat (first | apply Kd.N_alloc | apply Kd.N_drewN | apply Kd.N_drew)); exact HO266.out)) (by decide) hg)
        have n4_ := aM (Kd.N_afterv (ok := (fun k_ => (w.heap.size ≤ k_) ∧ some k_ ≠ (.slice Ao22 t247.length co22 : Value).ownBlock ∧ k_ ≠ gb244 ∧ k_ ≠ gb245 ∧ k_ ≠ gb246 ∧ k_ ≠ gb253)) (by (with_reducible repeat (first | apply Kd.N_alloc | apply Kd.N_drewN | apply Kd.N_drew)); exact HO252.out) hg hat)
        have n5_ := aM (blk_grown (g := gb253) (o := .cells #[.slice Ao22 t247.length co22, .slice Ao27 t250.length co27] 31 (0, 0)) aK hg (Kd.N_ne HO266.out BK253.out (by decide)))
        have n6_ := aM (Kd.V_afterv (ok := (fun k_ => (w.heap.size ≤ k_) ∧ some k_ ≠ (.slice Ao22 t247.length co22 : Value).ownBlock ∧ k_ ≠ gb244 ∧ k_ ≠ gb245 ∧ k_ ≠ gb246 ∧ k_ ≠ gb253)) (by (with_reducible repeat (first | apply Kd.V_alloc | apply Kd.V_drewN | apply Kd.V_drew)); exact HO263.out) hg hat)
        have n7_ := aM (Kd.V_afterv (ok := (fun k_ => (w.heap.size ≤ k_) ∧ some k_ ≠ (.slice Ao22 t247.length co22 : Value).ownBlock ∧ k_ ≠ gb244 ∧ k_ ≠ gb245 ∧ k_ ≠ gb246 ∧ k_ ≠ gb253)) (by (with_reducible repeat (first | apply Kd.V_alloc | apply Kd.V_drewN | apply Kd.V_drew)); exact HO271.out) hg hat)
        have n8_ := aM (hb)
        have n9_ := aM (ho)
        clear BK244
        clear BK245
        clear BK246
        clear HO249
        clear HO252
        clear BK253
        clear HO263
        clear HO271
        clear HB
        clear HO266
        have BK244 := n0_
        have BK245 := n1_
        have BK246 := n2_
        have HO249 := n3_
        have HO252 := n4_
        have BK253 := n5_
        have HO263 := n6_
        have HO271 := n7_
        have HB := n8_
        have HO274 := n9_
        clear n0_ n1_ n2_ n3_ n4_ n5_ n6_ n7_ n8_ n9_
        clear ho hb hg hat
        obtain ⟨Ao42, co42, eo42⟩ := Kd.N_slice HO274.out
        (first | subst eo42 | (injection eo42 with f1_ f2_ f3_; have f4_ := f1_.symm; have f5_ := f3_.symm; clear f1_ f2_ f3_; subst f4_; subst f5_))
        refine hK.out _ _ ⟨(blk_cell BK253.out 0).trans rfl, (blk_cell BK253.out 1).trans rfl⟩ (fun hHeld => ?_)
        clear hK K
        refine norm_ (a' := ?_) ?_ ?_
        rotate_left
        ·show Act.put _ (some 29) _ = _
         simp only [Act.put, List.setIfInBounds_toArray, List.set_cons_zero, List.set_cons_succ, i64_w, i32_w]
         rfl
        refine pure_ (i := 12) (N := some 30) (v := ?_) (a' := ?_) #[true, true, true, true, true, true, true, true, true, true, true, true, true, false] rfl rfl (any_of HT_.out (by kernel_rfl)) (fun _ _ _ h => h) (Or.inl ⟨by rfl, ?_⟩) ?_ ?_
        rotate_left
        ·exact aI
        rotate_left
        ·exact aP
        refine last_ (i := 13) (N := none) #[true, true, true, true, true, true, true, true, true, true, true, true, true, true] rfl rfl (one_of HT_.out (by kernel_rfl)) (by decide) (fun K hK => ?_)
        have hs43 : w41.cell? ⟨gb253, 1, none⟩ = some (.slice Ao27 t250.length co27) := (blk_cell BK253.out 1).trans rfl
        have hfs43 := blk_frozen BK253.out 1
        have hns43_0 := NB244_253.out
        have hns43_1 := NB245_253.out
        have hns43_2 := NB246_253.out
        have hms43_0 := NB253_244.out
        have hms43_1 := NB253_245.out
        have hms43_2 := NB253_246.out
        refine skip_ (w1 := ?_) (by rfl) rfl ?_ ?_
        rotate_left
        ·go_simp
         rfl
        refine hK.out _ _ ?_
        clear hK K
        refine done_ (done_of HT_.out (by kernel_rfl)) ?_
        have hcz44_0 : w41.cell? ⟨gb253, 0, none⟩ = some (.slice Ao22 t247.length co22) := (blk_cell BK253.out 0).trans rfl
        have hcz44_1 : w41.cell? ⟨gb253, 1, none⟩ = some (.slice Ao27 t250.length co27) := (blk_cell BK253.out 1).trans rfl
        have hfz44_0 := blk_frozen BK253.out 0
        have hfz44_1 := blk_frozen BK253.out 1
        have hcz45_0 : w41.cell? ⟨gb246, 0, none⟩ = some (.slice none 0 0) := (blk_cell BK246.out 0).trans rfl
        have hcz45_1 : w41.cell? ⟨gb246, 1, none⟩ = some (.slice none 0 0) := (blk_cell BK246.out 1).trans rfl
        have hfz45_0 := blk_frozen BK246.out 0
        have hfz45_1 := blk_frozen BK246.out 1
        try go_wp2
        refine bodyPost_ret (results_ct rfl _ _ gb246 31 #[.slice Ao22 t247.length co22, .slice Ao42 y272.length co42] (0, 0) _ rfl (by (with_reducible repeat (first | refine blk_drewN ?_ _ | refine blk_drew ?_ | refine blk_alloc ?_ _)); refine blk_put (cs := #[.slice Ao22 t247.length co22, .slice none 0 0]) ?_ 1 _ rfl; (with_reducible repeat (first | refine blk_drewN ?_ _ | refine blk_drew ?_ | refine blk_alloc ?_ _)); refine blk_put (cs := #[.slice none 0 0, .slice none 0 0]) ?_ 0 _ rfl; (with_reducible repeat (first | refine blk_drewN ?_ _ | refine blk_drew ?_ | refine blk_alloc ?_ _)); refine blk_far ?_ NB246_253.out _; (with_reducible repeat (first | refine blk_drewN ?_ _ | refine blk_drew ?_ | refine blk_alloc ?_ _)); exact BK246.out) Try.underlying31 rfl (by kernel_rfl)) rfl ?_
        exact ⟨_, _, by first | rfl | (simp [errW_none, errW_some] <;> rfl) | (simp only [← hji10]; first | rfl | (simp [errW_none, errW_some] <;> rfl)) | (simp [*, errW_none, errW_some] <;> rfl), by (with_reducible repeat (first | apply Kd.R_alloc | apply Kd.R_drewN | apply Kd.R_drew)); exact Kd.R_mono (Kd.R_far (p := ⟨gb246, 1, none⟩) (Kd.R_far (p := ⟨gb246, 0, none⟩) (Kd.R_far (p := ⟨gb253, 1, none⟩) (Kd.R_types (Kd.R_types HO249.out BK253.out (by decide)) BK246.out (by decide)) (fun _ hk => hk.1.2) (.slice Ao42 y272.length co42)) (fun _ hk => hk.2) (.slice Ao22 t247.length co22)) (fun _ hk => hk.2) (.slice Ao42 y272.length co42)) (fun _ hk => hk.1.1.1), by (with_reducible repeat (first | apply Kd.N_alloc | apply Kd.N_drewN | apply Kd.N_drew)); exact Kd.N_mono (Kd.N_far (p := ⟨gb246, 1, none⟩) (Kd.N_far (p := ⟨gb246, 0, none⟩) (Kd.N_far (p := ⟨gb253, 1, none⟩) (Kd.N_mono (Kd.N_mono HO274.out (fun k_ hk => (⟨hk, hk.2.2.2.2.2⟩ : _ ∧ k_ ≠ gb253))) (fun k_ hk => (⟨hk, hk.1.2.2.2.2.1⟩ : _ ∧ k_ ≠ gb246))) (fun _ hk => hk.1.2) (.slice Ao42 y272.length co42)) (fun _ hk => hk.2) (.slice Ao22 t247.length co22)) (fun _ hk => hk.2) (.slice Ao42 y272.length co42)) (fun _ hk => ⟨hk.1.1.1, hk.1.1.2.1⟩), by repeat (first | (with_reducible first | exact HB.out | apply below_alloc | apply pw_below_drewN | apply below_drew1 | refine below_set ?_ GE244.out | refine below_set ?_ GE245.out | refine below_set ?_ GE246.out | refine below_set ?_ GE253.out) | exact HB.out)⟩
       ·rw [if_neg c13] at H
        exact absurd H (by simp)
      ·rw [if_neg c12] at H
       exact absurd H (by simp)
     ·rw [if_neg c11] at H
      exact absurd H (by simp)
    ·rw [if_neg c9] at H
     exact absurd H (by simp)
   ·rw [if_neg c8] at H
    exact absurd H (by simp)
  ·rw [if_neg c7] at H
   exact absurd H (by simp)
 ·replace c5 := Bool.eq_false_iff.mpr c5
  subst c5
  have H1 : (some (t247, t250, false)) = some (r1, r2, r3) := by rw [if_neg (show ¬ (false = true) by decide)] at H; exact H
  clear H
  have H := H1
  clear H1
  simp only [Option.some.injEq, Prod.mk.injEq] at H
  obtain ⟨rfl, rfl, rfl⟩ := H
  go_enter Try.func23, Try.ntmps23
  go_wp2_with (first | ((with_reducible refine gate_dst (N := 2) rfl ?_); refine box_event ?hg (N := 2) ?hd (cs := #[.slice A0_0 l0_0.length c0_0, .slice A0_1 l0_1.length c0_1]) (t := 31) ?hr ?_; (case hd => rfl); (case hg => rfl); (case hr => first | (go_simp; done) | (go_simp; rfl)); intro gb244 hg w46 hbox hb; have n0_ := aM (below_step aB hb); have n1_ := aM (hbox); have n2_ := aM ((by rw [hg]; exact (below_size aB) : w.heap.size ≤ gb244)); have n3_ := aM ((by rw [hg]; exact (below_size aB) : w.heap.size ≤ gb244)); clear HB; have HB := n0_; have BK244 := n1_; have GW244 := n2_; have GE244 := n3_; clear n0_ n1_ n2_ n3_; clear hb hbox hg) | ((with_reducible refine gate_dst (N := 3) rfl ?_); refine box_event ?hg (N := 3) ?hd (cs := #[.int .i64 a1_0, .slice A1_1 l1_1.length c1_1]) (t := 45) ?hr ?_; (case hd => rfl); (case hg => rfl); (case hr => first | (go_simp; done) | (go_simp; rfl)); intro gb245 hg w47 hbox hb; have n0_ := aM (blk_below (g := gb244) (o := .cells #[.slice A0_0 l0_0.length c0_0, .slice A0_1 l0_1.length c0_1] 31 (0, 0)) aK hb); have n1_ := aM (below_step aG hb); have n2_ := aM (hbox); have n3_ := aM ((by rw [hg]; exact (below_size aG) : w.heap.size ≤ gb245)); have n4_ := aM ((by rw [hg]; exact (below_size aG) : w.heap.size ≤ gb245)); have n5_ := aM ((by rw [hg]; exact Nat.ne_of_lt (blk_lt (g := gb244) (o := .cells #[.slice A0_0 l0_0.length c0_0, .slice A0_1 l0_1.length c0_1] 31 (0, 0)) aK) : gb244 ≠ gb245)); have n6_ := aM ((by rw [hg]; exact Nat.ne_of_gt (blk_lt (g := gb244) (o := .cells #[.slice A0_0 l0_0.length c0_0, .slice A0_1 l0_1.length c0_1] 31 (0, 0)) aK) : gb245 ≠ gb244)); clear BK244; clear HB; have BK244 := n0_; have HB := n1_; have BK245 := n2_; have GW245 := n3_; have GE245 := n4_; have NB244_245 := n5_; have NB245_244 := n6_; clear n0_ n1_ n2_ n3_ n4_ n5_ n6_; clear hb hbox hg) | ((with_reducible refine gate_dst (N := 4) rfl ?_); refine box_event ?hg (N := 4) ?hd (cs := #[.slice none 0 0, .slice none 0 0]) (t := 31) ?hr ?_; (case hd => rfl); (case hg => rfl); (case hr => first | (go_simp; done) | (go_simp; rfl)); intro gb246 hg w48 hbox hb; have n0_ := aM (blk_below (g := gb244) (o := .cells #[.slice A0_0 l0_0.length c0_0, .slice A0_1 l0_1.length c0_1] 31 (0, 0)) aK hb); have n1_ := aM (blk_below (g := gb245) (o := .cells #[.int .i64 a1_0, .slice A1_1 l1_1.length c1_1] 45 (0, 0)) aK hb); have n2_ := aM (below_step aG hb); have n3_ := aM (hbox); have n4_ := aM ((by rw [hg]; exact (below_size aG) : w.heap.size ≤ gb246)); have n5_ := aM ((by rw [hg]; exact (below_size aG) : w.heap.size ≤ gb246)); have n6_ := aM ((by rw [hg]; exact Nat.ne_of_lt (blk_lt (g := gb244) (o := .cells #[.slice A0_0 l0_0.length c0_0, .slice A0_1 l0_1.length c0_1] 31 (0, 0)) aK) : gb244 ≠ gb246)); have n7_ := aM ((by rw [hg]; exact Nat.ne_of_gt (blk_lt (g := gb244) (o := .cells #[.slice A0_0 l0_0.length c0_0, .slice A0_1 l0_1.length c0_1] 31 (0, 0)) aK) : gb246 ≠ gb244)); have n8_ := aM ((by rw [hg]; exact Nat.ne_of_lt (blk_lt (g := gb245) (o := .cells #[.int .i64 a1_0, .slice A1_1 l1_1.length c1_1] 45 (0, 0)) aK) : gb245 ≠ gb246)); have n9_ := aM ((by rw [hg]; exact Nat.ne_of_gt (blk_lt (g := gb245) (o := .cells #[.int .i64 a1_0, .slice A1_1 l1_1.length c1_1] 45 (0, 0)) aK) : gb246 ≠ gb245)); clear BK244; clear BK245; clear HB; have BK244 := n0_; have BK245 := n1_; have HB := n2_; have BK246 := n3_; have GW246 := n4_; have GE246 := n5_; have NB244_246 := n6_; have NB246_244 := n7_; have NB245_246 := n8_; have NB246_245 := n9_; clear n0_ n1_ n2_ n3_ n4_ n5_ n6_ n7_ n8_ n9_; clear hb hbox hg; have hnb49 := NB244_245.out; have hnc49 := NB245_244.out; have hnb50 := NB244_246.out; have hnc50 := NB246_244.out; have hcz51_0 : w48.cell? ⟨gb244, 0, none⟩ = some (.slice A0_0 l0_0.length c0_0) := (blk_cell BK244.out 0).trans rfl; have hcz51_1 : w48.cell? ⟨gb244, 1, none⟩ = some (.slice A0_1 l0_1.length c0_1) := (blk_cell BK244.out 1).trans rfl; have hfz51_0 := blk_frozen BK244.out 0; have hfz51_1 := blk_frozen BK244.out 1) | ((with_reducible refine gate_callee (f := 46) rfl ?_); refine goesL_ (some 9) rfl rfl Try.func46 (by kernel_rfl) rfl #[.agg #[.slice A0_0 l0_0.length c0_0, .slice A0_1 l0_1.length c0_1]] rfl (by (try simp only [List.map_toArray, List.map_cons, List.map_nil]); first | done | rfl | (simp only [List.length_drop, List.length_take]; rfl)) ?_; (with_reducible refine (spec_l4Copy.calls k _ _ l0_0 _ _ l0_1 t247 t250 _ ?side1 ?side2 ?side3 ?side4 A3.out).mono ?_); (case side1 => exact aC); (case side2 => exact HC0_0.out); (case side3 => exact aC); (case side4 => exact HC0_1.out); rintro e w52 ⟨v248, v251, rfl, ho0, ho1, hb⟩; refine ⟨_, rfl, ?_⟩; have n0_ := aM (Kd.R_lower (Kd.R_newM (M := fun k_ => (w.heap.size ≤ k_)) ho0 (below_size aG) (fun k_ h_ => h_)) (below_size aG)); have n1_ := aM (Kd.N_lower (Kd.N_mono (ok' := fun k_ => (w.heap.size ≤ k_) ∧ some k_ ≠ (v248 : Value).ownBlock ∧ k_ ≠ gb244 ∧ k_ ≠ gb245 ∧ k_ ≠ gb246) (Kd.S_N (Kd.S_bound (Kd.S_apart' ho1 (Kd.R_typed ho0) (by decide)))) (fun k_ hk_ => ⟨(Nat.le_trans (below_size aG) hk_.2.1), hk_.1.2, (Kd.freshB (g := gb244) (o := .cells #[.slice A0_0 l0_0.length c0_0, .slice A0_1 l0_1.length c0_1] 31 (0, 0)) aK k_ hk_.2.1), (Kd.freshB (g := gb245) (o := .cells #[.int .i64 a1_0, .slice A1_1 l1_1.length c1_1] 45 (0, 0)) aK k_ hk_.2.1), (Kd.freshB (g := gb246) (o := .cells #[.slice none 0 0, .slice none 0 0] 31 (0, 0)) aK k_ hk_.2.1)⟩)) (below_size aG)); have n2_ := aM (blk_below (g := gb244) (o := .cells #[.slice A0_0 l0_0.length c0_0, .slice A0_1 l0_1.length c0_1] 31 (0, 0)) aK hb); have n3_ := aM (blk_below (g := gb245) (o := .cells #[.int .i64 a1_0, .slice A1_1 l1_1.length c1_1] 45 (0, 0)) aK hb); have n4_ := aM (blk_below (g := gb246) (o := .cells #[.slice none 0 0, .slice none 0 0] 31 (0, 0)) aK hb); have n5_ := aM (below_step aG hb); clear BK244; clear BK245; clear BK246; clear HB; have HO249 := n0_; have HO252 := n1_; have BK244 := n2_; have BK245 := n3_; have BK246 := n4_; have HB := n5_; clear n0_ n1_ n2_ n3_ n4_ n5_; (try clear hb); (try clear hb2); (try clear hk); (try clear hi); (try clear ho0); (try clear ho1)) | ((with_reducible refine gate_dst (N := 6) rfl ?_); refine box_event ?hg (N := 6) ?hd (cs := #[.slice none 0 0, .slice none 0 0]) (t := 31) ?hr ?_; (case hd => rfl); (case hg => rfl); (case hr => first | (go_simp; done) | (go_simp; rfl)); intro gb253 hg w53 hbox hb; have n0_ := aM (Kd.R_below (aR HO249) hb); have n1_ := aM (Kd.N_below (Kd.N_elderB (by (with_reducible repeat (first | apply Kd.N_alloc | apply Kd.N_drewN | apply Kd.N_drew)); exact HO252.out) gb253 (Nat.le_of_eq hg.symm)) hb); have n2_ := aM (blk_below (g := gb244) (o := .cells #[.slice A0_0 l0_0.length c0_0, .slice A0_1 l0_1.length c0_1] 31 (0, 0)) aK hb); have n3_ := aM (blk_below (g := gb245) (o := .cells #[.int .i64 a1_0, .slice A1_1 l1_1.length c1_1] 45 (0, 0)) aK hb); have n4_ := aM (blk_below (g := gb246) (o := .cells #[.slice none 0 0, .slice none 0 0] 31 (0, 0)) aK hb); have n5_ := aM (below_step aG hb); have n6_ := aM (hbox); have n7_ := aM ((by rw [hg]; exact (below_size aG) : w.heap.size ≤ gb253)); have n8_ := aM ((by rw [hg]; exact (below_size aG) : w.heap.size ≤ gb253)); have n9_ := aM ((by rw [hg]; exact Nat.ne_of_lt (blk_lt (g := gb244) (o := .cells #[.slice A0_0 l0_0.length c0_0, .slice A0_1 l0_1.length c0_1] 31 (0, 0)) aK) : gb244 ≠ gb253)); have n10_ := aM ((by rw [hg]; exact Nat.ne_of_gt (blk_lt (g := gb244) (o := .cells #[.slice A0_0 l0_0.length c0_0, .slice A0_1 l0_1.length c0_1] 31 (0, 0)) aK) : gb253 ≠ gb244)); have n11_ := aM ((by rw [hg]; exact Nat.ne_of_lt (blk_lt (g := gb245) (o := .cells #[.int .i64 a1_0, .slice A1_1 l1_1.length c1_1] 45 (0, 0)) aK) : gb245 ≠ gb253)); have n12_ := aM ((by rw [hg]; exact Nat.ne_of_gt (blk_lt (g := gb245) (o := .cells #[.int .i64 a1_0, .slice A1_1 l1_1.length c1_1] 45 (0, 0)) aK) : gb253 ≠ gb245)); have n13_ := aM ((by rw [hg]; exact Nat.ne_of_lt (blk_lt (g := gb246) (o := .cells #[.slice none 0 0, .slice none 0 0] 31 (0, 0)) aK) : gb246 ≠ gb253)); have n14_ := aM ((by rw [hg]; exact Nat.ne_of_gt (blk_lt (g := gb246) (o := .cells #[.slice none 0 0, .slice none 0 0] 31 (0, 0)) aK) : gb253 ≠ gb246)); clear HO249; clear HO252; clear BK244; clear BK245; clear BK246; clear HB; have HO249 := n0_; have HO252 := n1_; have BK244 := n2_; have BK245 := n3_; have BK246 := n4_; have HB := n5_; have BK253 := n6_; have GW253 := n7_; have GE253 := n8_; have NB244_253 := n9_; have NB253_244 := n10_; have NB245_253 := n11_; have NB253_245 := n12_; have NB246_253 := n13_; have NB253_246 := n14_; clear n0_ n1_ n2_ n3_ n4_ n5_ n6_ n7_ n8_ n9_ n10_ n11_ n12_ n13_ n14_; clear hb hbox hg; obtain ⟨Ao54, co54, eo54⟩ := Kd.R_slice HO249.out; subst eo54; have hnb55 := NB253_244.out; have hnc55 := NB244_253.out; have hnb56 := NB253_245.out; have hnc56 := NB245_253.out; have hnb57 := NB253_246.out; have hnc57 := NB246_253.out; have hcz58_0 : w53.cell? ⟨gb253, 0, none⟩ = some (.slice none 0 0) := (blk_cell BK253.out 0).trans rfl; have hcz58_1 : w53.cell? ⟨gb253, 1, none⟩ = some (.slice none 0 0) := (blk_cell BK253.out 1).trans rfl; have hfz58_0 := blk_frozen BK253.out 0; have hfz58_1 := blk_frozen BK253.out 1; obtain ⟨Ao59, co59, eo59⟩ := Kd.N_slice HO252.out; subst eo59; have hcz60_0 : w53.cell? ⟨gb244, 0, none⟩ = some (.slice A0_0 l0_0.length c0_0) := (blk_cell BK244.out 0).trans rfl; have hcz60_1 : w53.cell? ⟨gb244, 1, none⟩ = some (.slice A0_1 l0_1.length c0_1) := (blk_cell BK244.out 1).trans rfl; have hfz60_0 := blk_frozen BK244.out 0; have hfz60_1 := blk_frozen BK244.out 1; have hnb61 := NB245_246.out; have hnc61 := NB246_245.out; have hcz62_0 : w53.cell? ⟨gb245, 0, none⟩ = some (.int .i64 a1_0) := (blk_cell BK245.out 0).trans rfl; have hcz62_1 : w53.cell? ⟨gb245, 1, none⟩ = some (.slice A1_1 l1_1.length c1_1) := (blk_cell BK245.out 1).trans rfl; have hfz62_0 := blk_frozen BK245.out 0; have hfz62_1 := blk_frozen BK245.out 1) | ((with_reducible refine gate_callee (f := 48) rfl ?_); refine goesL_ (some 12) rfl rfl Try.func48 (by kernel_rfl) rfl #[.agg #[.slice A0_0 l0_0.length c0_0, .slice A0_1 l0_1.length c0_1], .agg #[.int .i64 a1_0, .slice A1_1 l1_1.length c1_1]] rfl (by (try simp only [List.map_toArray, List.map_cons, List.map_nil]); first | done | rfl | (simp only [List.length_drop, List.length_take]; rfl)) ?_; (with_reducible refine (spec_ContainsFact.calls k _ _ l0_0 _ _ l0_1 a1_0 _ _ l1_1 false _ ?side1 ?side2 ?side3 ?side4 ?side5 ?side6 A4.out).mono ?_); (case side1 => exact Kd.C_below HR0_0.out aG); (case side2 => exact HC0_0.out); (case side3 => exact Kd.C_below HR0_1.out aG); (case side4 => exact HC0_1.out); (case side5 => exact Kd.C_below HR1_1.out aG); (case side6 => exact HC1_1.out); rintro e w63 ⟨rfl, hb⟩; refine ⟨_, rfl, ?_⟩; have n0_ := aM (Kd.R_below (by (with_reducible repeat (first | apply Kd.R_alloc | apply Kd.R_drewN | apply Kd.R_drew)); exact (Kd.R_mono (Kd.R_far (p := ⟨gb253, 1, none⟩) (Kd.R_far (p := ⟨gb253, 0, none⟩) (Kd.R_types HO249.out BK253.out (by decide)) (fun _ hk => hk.2) (.slice Ao54 t247.length co54)) (fun _ hk => hk.2) (.slice Ao59 t250.length co59)) (fun _ h_ => h_.1))) hb); have n1_ := aM (Kd.N_below (by (with_reducible repeat (first | apply Kd.N_alloc | apply Kd.N_drewN | apply Kd.N_drew)); exact (Kd.N_mono (Kd.N_far (p := ⟨gb253, 1, none⟩) (Kd.N_far (p := ⟨gb253, 0, none⟩) (Kd.N_mono HO252.out (fun k_ hk => (⟨hk, hk.2⟩ : _ ∧ k_ ≠ gb253))) (fun _ hk => hk.2) (.slice Ao54 t247.length co54)) (fun _ hk => hk.2) (.slice Ao59 t250.length co59)) (fun _ h_ => h_.1))) hb); have n2_ := aM (blk_below (g := gb244) (o := .cells #[.slice A0_0 l0_0.length c0_0, .slice A0_1 l0_1.length c0_1] 31 (0, 0)) (by (with_reducible repeat (first | refine blk_drewN ?_ _ | refine blk_drew ?_ | refine blk_alloc ?_ _)); refine blk_far ?_ NB244_253.out _; (with_reducible repeat (first | refine blk_drewN ?_ _ | refine blk_drew ?_ | refine blk_alloc ?_ _)); refine blk_far ?_ NB244_253.out _; (with_reducible repeat (first | refine blk_drewN ?_ _ | refine blk_drew ?_ | refine blk_alloc ?_ _)); exact BK244.out) hb); have n3_ := aM (blk_below (g := gb245) (o := .cells #[.int .i64 a1_0, .slice A1_1 l1_1.length c1_1] 45 (0, 0)) (by (with_reducible repeat (first | refine blk_drewN ?_ _ | refine blk_drew ?_ | refine blk_alloc ?_ _)); refine blk_far ?_ NB245_253.out _; (with_reducible repeat (first | refine blk_drewN ?_ _ | refine blk_drew ?_ | refine blk_alloc ?_ _)); refine blk_far ?_ NB245_253.out _; (with_reducible repeat (first | refine blk_drewN ?_ _ | refine blk_drew ?_ | refine blk_alloc ?_ _)); exact BK245.out) hb); have n4_ := aM (blk_below (g := gb246) (o := .cells #[.slice none 0 0, .slice none 0 0] 31 (0, 0)) (by (with_reducible repeat (first | refine blk_drewN ?_ _ | refine blk_drew ?_ | refine blk_alloc ?_ _)); refine blk_far ?_ NB246_253.out _; (with_reducible repeat (first | refine blk_drewN ?_ _ | refine blk_drew ?_ | refine blk_alloc ?_ _)); refine blk_far ?_ NB246_253.out _; (with_reducible repeat (first | refine blk_drewN ?_ _ | refine blk_drew ?_ | refine blk_alloc ?_ _)); exact BK246.out) hb); have n5_ := aM (blk_below (g := gb253) (o := .cells #[.slice Ao54 t247.length co54, .slice Ao59 t250.length co59] 31 (0, 0)) (by (with_reducible repeat (first | refine blk_drewN ?_ _ | refine blk_drew ?_ | refine blk_alloc ?_ _)); refine blk_put (cs := #[.slice Ao54 t247.length co54, .slice none 0 0]) ?_ 1 _ rfl; (with_reducible repeat (first | refine blk_drewN ?_ _ | refine blk_drew ?_ | refine blk_alloc ?_ _)); refine blk_put (cs := #[.slice none 0 0, .slice none 0 0]) ?_ 0 _ rfl; (with_reducible repeat (first | refine blk_drewN ?_ _ | refine blk_drew ?_ | refine blk_alloc ?_ _)); exact BK253.out) hb); have n6_ := aM (below_step aG hb); clear HO249; clear HO252; clear BK244; clear BK245; clear BK246; clear BK253; clear HB; have HO249 := n0_; have HO252 := n1_; have BK244 := n2_; have BK245 := n3_; have BK246 := n4_; have BK253 := n5_; have HB := n6_; clear n0_ n1_ n2_ n3_ n4_ n5_ n6_; (try clear hb); (try clear hb2); (try clear hk); (try clear hi); have hcz64_0 : w63.cell? ⟨gb253, 0, none⟩ = some (.slice Ao54 t247.length co54) := (blk_cell BK253.out 0).trans rfl; have hcz64_1 : w63.cell? ⟨gb253, 1, none⟩ = some (.slice Ao59 t250.length co59) := (blk_cell BK253.out 1).trans rfl; have hfz64_0 := blk_frozen BK253.out 0; have hfz64_1 := blk_frozen BK253.out 1; have hcz65_0 : w63.cell? ⟨gb246, 0, none⟩ = some (.slice none 0 0) := (blk_cell BK246.out 0).trans rfl; have hcz65_1 : w63.cell? ⟨gb246, 1, none⟩ = some (.slice none 0 0) := (blk_cell BK246.out 1).trans rfl; have hfz65_0 := blk_frozen BK246.out 0; have hfz65_1 := blk_frozen BK246.out 1))
  refine bodyPost_ret (results_ct rfl _ _ gb246 31 #[.slice Ao54 t247.length co54, .slice Ao59 t250.length co59] (0, 0) _ rfl (by (with_reducible repeat (first | refine blk_drewN ?_ _ | refine blk_drew ?_ | refine blk_alloc ?_ _)); refine blk_put (cs := #[.slice Ao54 t247.length co54, .slice none 0 0]) ?_ 1 _ rfl; (with_reducible repeat (first | refine blk_drewN ?_ _ | refine blk_drew ?_ | refine blk_alloc ?_ _)); refine blk_put (cs := #[.slice none 0 0, .slice none 0 0]) ?_ 0 _ rfl; (with_reducible repeat (first | refine blk_drewN ?_ _ | refine blk_drew ?_ | refine blk_alloc ?_ _)); exact BK246.out) Try.underlying31 rfl (by kernel_rfl)) rfl ?_
  exact ⟨_, _, by first | rfl | (simp [errW_none, errW_some] <;> rfl) | (simp [*, errW_none, errW_some] <;> rfl), by (with_reducible repeat (first | apply Kd.R_alloc | apply Kd.R_drewN | apply Kd.R_drew)); exact Kd.R_mono (Kd.R_far (p := ⟨gb246, 1, none⟩) (Kd.R_far (p := ⟨gb246, 0, none⟩) (Kd.R_types HO249.out BK246.out (by decide)) (fun _ hk => hk.2) (.slice Ao54 t247.length co54)) (fun _ hk => hk.2) (.slice Ao59 t250.length co59)) (fun _ hk => hk.1.1), by (with_reducible repeat (first | apply Kd.N_alloc | apply Kd.N_drewN | apply Kd.N_drew)); exact Kd.N_mono (Kd.N_far (p := ⟨gb246, 1, none⟩) (Kd.N_far (p := ⟨gb246, 0, none⟩) (Kd.N_mono HO252.out (fun k_ hk => (⟨hk, hk.1.2.2.2.2⟩ : _ ∧ k_ ≠ gb246))) (fun _ hk => hk.2) (.slice Ao54 t247.length co54)) (fun _ hk => hk.2) (.slice Ao59 t250.length co59)) (fun _ hk => ⟨hk.1.1.1, hk.1.1.2.1⟩), by repeat (first | (with_reducible first | exact HB.out | apply below_alloc | apply pw_below_drewN | apply below_drew1 | refine below_set ?_ GE244.out | refine below_set ?_ GE245.out | refine below_set ?_ GE246.out | refine below_set ?_ GE253.out) | exact HB.out)⟩

-- NOT PRINTED: function 87 (slices_IndexFunc_int_int)

-- NOT PRINTED: function 78 (slices_ContainsFunc_int_int)

/-! ### impl_areValues: function 68 -/
/-- No value: what the literal in areValues asks. -/
def noVal (v : Int) : Bool := !(decide (0 ≤ v) && decide (v ≤ 9))
set_option maxHeartbeats 8000000 in
theorem noVal_calls (v : Int) (w : World) : Calls Try.prog 79 #[.int .i64 v] w fun e w' => e = .returned (.bool (noVal v)) ∧ Below w.heap.size w w' := by
 have hw : ∃ b, impl_within.f v 0 9 = some b ∧ b = (decide (0 ≤ v) && decide (v ≤ 9)) := by
  unfold impl_within.f
  by_cases h : 0 ≤ v
  ·exact ⟨_, if_pos h, by simp [h]⟩
  ·exact ⟨_, if_neg h, by simp [h]⟩
 obtain ⟨b, hb, hv⟩ := hw
 have HB := aM hb
 have HV := aM hv
 clear hb hv
 go_enter Try.func79, Try.ntmps79
 go_wp2_with (go_at_call 63; refine (impl_within.calls v 0 9 b _ HB.out).mono ?_; rintro e w' ⟨rfl, ⟨nd, rfl⟩⟩)
 go_ret
 refine ⟨?_, pw_below_drewN (Below.refl _ _) _⟩
 unfold noVal
 rw [← HV.out]
 rfl
/-- The place of the first number of which p holds, counted from i on; -1 if there is none. -/
def idxI (p : Int → Bool) : List Int → Int → Int
 | [], _ => -1
 | x :: xs, i => if p x = true then i else idxI p xs (i + 1)
theorem idxI_hit (p : Int → Bool) : ∀ (l : List Int) (k : Nat) (i : Int), k < l.length → (∀ j, j < k → p (l.getD j 0) = false) → p (l.getD k 0) = true → idxI p l i = i + k
 | [], k, _, h, _, _ => absurd h (Nat.not_lt_zero _)
 | x :: xs, 0, i, _, _, h => by
  have h' : p x = true := h
  simp [idxI, h']
 | x :: xs, k + 1, i, hk, ha, h => by
  have h0 : p x = false := ha 0 (by omega)
  have := idxI_hit p xs k (i + 1) (by simpa using hk) (fun j hj => by simpa using ha (j + 1) (by omega)) (by simpa using h)
  simp only [idxI, h0, Bool.false_eq_true, if_false, this]
  omega
theorem idxI_miss (p : Int → Bool) : ∀ (l : List Int) (i : Int), (∀ j, j < l.length → p (l.getD j 0) = false) → idxI p l i = -1
 | [], _, _ => rfl
 | x :: xs, i, h => by
  have h0 : p x = false := h 0 (by simp)
  simp only [idxI, h0, Bool.false_eq_true, if_false]
  exact idxI_miss p xs (i + 1) fun j hj => by simpa using h (j + 1) (by simpa using hj)
theorem idxI_any (p : Int → Bool) : ∀ (l : List Int) (i : Int), 0 ≤ i → decide (0 ≤ idxI p l i) = l.any p
 | [], _, _ => rfl
 | x :: xs, i, h => by
  by_cases hp : p x = true
  ·simp [idxI, hp, h]
  ·simp only [idxI, if_neg hp, List.any_cons]
   rw [Bool.eq_false_iff.mpr hp, Bool.false_or]
   exact idxI_any p xs (i + 1) (by omega)
set_option maxHeartbeats 8000000 in
set_option maxRecDepth 100000 in
theorem noValIdx_calls (A0 : Option Addr) (c0 : Nat) (l : List Int) (w : World) (hr : Kd.C (Kd.int .i64) w A0 l.length l) :
  Calls Try.prog 87 #[.slice A0 l.length c0, .func (.func 79) #[] #[]] w fun e w' => e = .returned (.int .i64 (idxI noVal l 0)) ∧ Below w.heap.size w w' := by
 have hl : l.length ≤ 9223372036854775807 := hr.2.1
 have HR := aM hr
 clear hr
 go_enter Try.func87, Try.ntmps87
 go_wp2
 go_loopg [5, 8] l.length (fun gg _ s8 wr => ∃ kk : Nat, kk ≤ l.length ∧ l.length - kk ≤ gg ∧ s8 = .int .i64 kk ∧ Aside0 (Below w.heap.size w wr) ∧ Aside0 (∀ j, j < kk → noVal (l.getD j 0) = false))
 case atStart => exact ⟨0, Nat.zero_le _, by omega, rfl, ⟨Below.refl _ _⟩, ⟨fun j hj => absurd hj (Nat.not_lt_zero _)⟩⟩
 case round =>
  obtain ⟨kk, hkk, hg, rfl, BW, HA⟩ := hrel
  by_cases hltk : kk < l.length
  ·have hltz : (kk : Int) < (l.length : Int) := by omega
   obtain ⟨ad, e, h0⟩ := Kd.at_int (Kd.C_below HR.out BW.out) (kk : Int) (by omega) hltz
   rw [Int.toNat_natCast] at h0
   cases e
   have hcall := noVal_calls (rd l (kk : Int)) wr
   have hrd : rd l (kk : Int) = l.getD kk 0 := by unfold rd; rw [Int.toNat_natCast]
   cases hq : noVal (rd l (kk : Int)) with
   | true =>
    rw [hq] at hcall
    have HQ := aM hq
    have HRD := aM hrd
    clear hq hrd
    go_wp2_with (go_at_call 79; refine hcall.mono ?_; rintro e w' ⟨rfl, hb'⟩)
    go_ret
    refine ⟨?_, below_then BW.out BW.out.size hb'⟩
    rw [idxI_hit noVal l kk 0 hltk HA.out (by rw [← HRD.out]; exact HQ.out)]
    simp
   | false =>
    rw [hq] at hcall
    have HQ := aM hq
    have HRD := aM hrd
    clear hq hrd
    go_wp2_with (go_at_call 79; refine hcall.mono ?_; rintro e w' ⟨rfl, hb'⟩)
    go_roundg (l.length - (kk + 1))
    case measure => omega
    case rel =>
     refine ⟨kk + 1, by omega, by omega, by go_num, ⟨below_then BW.out BW.out.size hb'⟩, ⟨fun j hj => ?_⟩⟩
     by_cases e : j = kk
     ·subst e
      rw [← HRD.out]; exact HQ.out
     ·exact HA.out j (by omega)
  ·have hd : decide (kk < l.length) = false := decide_eq_false hltk
   have HK := aM (show l.length ≤ kk by omega)
   clear hltk
   go_wp2
   go_ret
   refine ⟨?_, BW.out⟩
   have HA := fun j (hj : j < l.length) => HA.out j (Nat.lt_of_lt_of_le hj HK.out)
   rw [idxI_miss noVal l 0 HA]
   rfl
set_option maxHeartbeats 8000000 in
theorem noValAny_calls (A0 : Option Addr) (c0 : Nat) (l : List Int) (w : World) (hr : Kd.C (Kd.int .i64) w A0 l.length l) :
  Calls Try.prog 78 #[.slice A0 l.length c0, .func (.func 79) #[] #[]] w fun e w' => e = .returned (.bool (l.any noVal)) ∧ Below w.heap.size w w' := by
 rw [← idxI_any noVal l 0 (Int.le_refl _)]
 have HR := aM hr
 clear hr
 generalize hx : idxI noVal l 0 = x
 have HX := aM hx
 clear hx
 go_enter Try.func78, Try.ntmps78
 go_wp2_with (go_at_call 87; refine (noValIdx_calls A0 c0 l _ HR.out).mono ?_; rw [HX.out]; rintro e w' ⟨rfl, hb'⟩)
 go_ret
 exact ⟨rfl, hb'⟩
def impl_areValues.f (l0 : List Int) : Option Bool := some (!l0.any noVal)
set_option maxHeartbeats 8000000 in
set_option maxRecDepth 100000 in
theorem impl_areValues.calls (A0 : Option Addr) (c0 : Nat) (l0 : List Int) (r : Bool) (w : World) (hr0 : Kd.C (Kd.int .i64) w A0 l0.length l0) (hc0 : l0.length ≤ c0) (h : impl_areValues.f l0 = some r) :
  Calls Try.prog 68 #[.slice A0 l0.length c0] w fun e w' => e = .returned (.bool r) ∧ Below w.heap.size w w' := by
 obtain rfl := Option.some.inj h
 have HR := aM hr0
 clear hr0 h
 generalize hx : l0.any noVal = x
 have HX := aM hx
 clear hx
 go_enter Try.func68, Try.ntmps68
 go_wp2_with (go_at_call 78; refine (noValAny_calls A0 c0 l0 _ HR.out).mono ?_; rw [HX.out]; rintro e w' ⟨rfl, hb'⟩)
 go_ret
 exact ⟨rfl, hb'⟩


end Go.Proofs.Yteddnlklfjpgoaa.PFnExactDeleteFact
