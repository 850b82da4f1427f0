-- Laid by a program of this claim: what the functions come to, some of them proved by hand.
import Derived.Test.YtbdeimhlohhhiaaPFnBlocksx0
import Derived.Test.YtbdeimhlohhhiaaPFnBlocksx1
import Derived.Test.YtbdeimhlohhhiaaPFnBlocksx2
import Derived.Test.YtbdeimhlohhhiaaPFnBlocksx10
import Derived.Test.YtbdeimhlohhhiaaPFnBlocksx14
import Derived.Test.YtbdeimhlohhhiaaPFnBlocksx15
namespace Go.Proofs.Ytbdeimhlohhhiaa.PFnBlocks
open Go.RowKit Go.Proofs.YtbdeimhlohhhiaaW.PrintWords Go.Proofs.YtbdeimhlohhhiaaW.PrintLast Go.Proofs.YtbdeimhlohhhiaaW.PrintMore
attribute [local go_sem] max2_int min2_int max_two min_two max_three min_three max_four min_four   -- for this text's walks alone
set_option linter.unusedVariables false
set_option linter.unusedSimpArgs false

/-! ### laws_FnBlocks: function 3 -/
mutual
def laws_FnBlocks.l0 : Nat → List (List Int) → Int → Int → Int → List (S70) → List (S35) → Option (Bool)
 | 0, _, _, _, _, _, _ => none
 | k + 1, x4, x5, x6, x7, x515000, x515001 => if x7 < (x4.length : Int) then (if 0 ≤ x7 then (if ((rd_L4 x4 x7).length : Int) > 1 then (laws_FnBlocks.j1 k x4 (wrap64 (x5 + ((rd_L4 x4 x7).length : Int))) (wrap64 (x6 + ((rd_L4 x4 x7).length : Int))) x7 x515000 x515001) else (laws_FnBlocks.j1 k x4 (wrap64 (x5 + ((rd_L4 x4 x7).length : Int))) x6 x7 x515000 x515001)) else (none)) else ((impl_BlockSizes.f k x515000 x515001).bind fun t519 => (if x5 = (x515001.length : Int) then (if (t519.length : Int) = (x4.length : Int) then ((impl_ConflictingFacts.f k x515000 x515001).bind fun t522 => (if (t522.length : Int) = x6 then ((impl_IsConsistent.f k x515000 x515001).bind fun t525 => (some (t525 == (x6 == 0)))) else (some false))) else (some false)) else (some false)))
def laws_FnBlocks.j1 : Nat → List (List Int) → Int → Int → Int → List (S70) → List (S35) → Option (Bool)
 | 0, _, _, _, _, _, _ => none
 | k + 1, x4, x5, x6, x7, x515000, x515001 => laws_FnBlocks.l1 k x4 x5 x6 x7 0 x515000 x515001
def laws_FnBlocks.l1 : Nat → List (List Int) → Int → Int → Int → Int → List (S70) → List (S35) → Option (Bool)
 | 0, _, _, _, _, _, _, _ => none
 | k + 1, x4, x5, x6, x7, x8, x515000, x515001 => if 0 ≤ x7 then (if x7 < (x4.length : Int) then (if x8 < ((rd_L4 x4 x7).length : Int) then (if 0 ≤ x8 then (if (rd (rd_L4 x4 x7) x8) < 0 then (some false) else (if (rd (rd_L4 x4 x7) x8) ≥ (x515001.length : Int) then (some false) else (if 0 < ((rd_L4 x4 x7).length : Int) then (if 0 ≤ (rd (rd_L4 x4 x7) 0) then (if (rd (rd_L4 x4 x7) 0) < (x515001.length : Int) then (if 0 ≤ (rd (rd_L4 x4 x7) x8) then (if (rd (rd_L4 x4 x7) x8) < (x515001.length : Int) then ((spec_HaveSameKey.f k x515000 ((rd_T35 x515001 (rd (rd_L4 x4 x7) 0)).f0) ((rd_T35 x515001 (rd (rd_L4 x4 x7) 0)).f1) ((rd_T35 x515001 (rd (rd_L4 x4 x7) x8)).f0) ((rd_T35 x515001 (rd (rd_L4 x4 x7) x8)).f1)).bind fun t540 => (if t540 = true then ((impl_BlockOf.f k x515000 x515001 (rd (rd_L4 x4 x7) x8)).bind fun t543 => ((laws_sameInts.f k t543 (rd_L4 x4 x7)).bind fun t547 => (if t547 = true then (laws_FnBlocks.l1 k x4 x5 x6 x7 (wrap64 (x8 + 1)) x515000 x515001) else (some false)))) else (some false))) else (none)) else (none)) else (none)) else (none)) else (none)))) else (none)) else (laws_FnBlocks.l0 k x4 x5 x6 (wrap64 (x7 + 1)) x515000 x515001)) else (none)) else (none)
end
def laws_FnBlocks.f (k : Nat) (l0 : List Int) : Option (Bool) := (laws_big.f l0).bind fun t507 => (if t507 = true then (some true) else ((spec_DrawBlocks.f k l0).bind fun bt508 => ((impl_Blocks.f k bt508.1 bt508.2).bind fun t515 => ((spec_IsValidDatabase.f k bt508.1 bt508.2).bind fun t518 => (if t518 = true then (laws_FnBlocks.l0 k t515 0 0 0 bt508.1 bt508.2) else (some ((t515.length : Int) == 0)))))))
def laws_FnBlocks.T18 : Bool × List (List Nat × List Nat) := (true, [([], []), ([], []), ([0, 1], [0, 1]), ([2], [2]), ([], []), ([3, 4], [3, 4]), ([5], [5]), ([6], [6]), ([7], [7]), ([8], [8]), ([8], [8]), ([9, 10, 8], [8, 9, 10]), ([11, 8], [8, 11]), ([8], [8]), ([12, 13, 8], [8, 12, 13]), ([14, 8], [8, 14]), ([8], [8]), ([16, 8], [8, 16]), ([17, 8], [8, 17]), ([15, 18, 8], [8, 15, 18]), ([8, 19], [8, 19]), ([20, 8], [20]), ([21], [21]), ([22, 21], [21, 22]), ([21], [21]), ([24, 21], [21, 24]), ([21], [21]), ([21], [21]), ([26, 27, 21], [21, 26, 27]), ([28, 21], [21, 28]), ([29, 21], [21, 29]), ([30, 21], [21, 30]), ([25, 31, 21], [21, 25, 31]), ([32, 21], [21, 32]), ([21], [21]), ([34, 21], [21, 34]), ([21], [21]), ([21], [21]), ([36, 37, 21], [21, 36, 37]), ([38, 21], [21, 38]), ([21], [21]), ([39, 40, 21], [21, 39, 40]), ([41, 21], [21, 41]), ([35, 42, 21], [21, 35, 42]), ([43, 21], [21, 43]), ([23, 33, 44, 21, 21], [21, 23, 33, 44]), ([45, 21], [21, 45]), ([21, 46], [21, 46]), ([47, 45], [47]), ([48], [48]), ([48], [48]), ([48], [48]), ([50, 51, 48], [48, 50, 51]), ([52, 48], [48, 52]), ([48], [48]), ([53, 54, 48], [48, 53, 54]), ([55, 48], [48, 55]), ([49, 56, 48, 48], [48, 49, 56]), ([48], [48]), ([48], [48]), ([58, 59, 48], [48, 58, 59]), ([60, 48], [48, 60]), ([57, 61, 57, 48], [48, 57, 61]), ([62, 48], [48, 62]), ([48, 63], [48, 63])])
def laws_FnBlocks.B18 : List Nat := [0, 0, 3, 7, 0, 31, 63, 127, 255, 511, 511, 2047, 4095, 511, 16383, 32767, 511, 66047, 197119, 524287, 1048575, 2097151, 4194303, 8388607, 4194303, 20971519, 4194303, 4194303, 205520895, 473956351, 1010827263, 2084569087, 4282384383, 8577351679, 4194303, 17184063487, 4194303, 4194303, 206162624511, 481040531455, 4194303, 2130307973119, 4329331228671, 8778917347327, 17575010369535, 35184372088831, 70368744177663, 140737488355327, 281474976710655, 562949953421311, 562949953421311, 562949953421311, 3940649673949183, 8444249301319679, 562949953421311, 35465847065542655, 71494644084506623, 144115188075855871, 562949953421311, 562949953421311, 865254078408556543, 2018175583015403519, 4611686018427387903, 9223372036854775807, 18446744073709551615]
theorem laws_FnBlocks.tab18 : rtab .any (opsOf Try.f3 18) = laws_FnBlocks.T18 := by kernel_rfl
theorem laws_FnBlocks.bits18 : waitsOk laws_FnBlocks.T18.2 laws_FnBlocks.B18 = true := by kernel_rfl
set_option maxHeartbeats 8000000 in
set_option maxRecDepth 100000 in
theorem laws_FnBlocks.calls (k : Nat) (A0 : Option Addr) (c0 : Nat) (l0 : List Int) (r : Bool) (w : World) (hr0 : Kd.C (Kd.int .u8) w A0 l0.length l0) (hc0 : l0.length ≤ c0) (h : laws_FnBlocks.f k l0 = some r) (hr_ : r = true) :
  Calls Try.prog 3 #[.slice A0 l0.length c0] w fun e w' => e = .returned (.bool r) ∧ Below w.heap.size w w' := by
 have HRT_ := aM hr_
 clear hr_
 have hu27 := Try.underlying27
 have hu35 := Try.underlying35
 have HR0 := aM hr0
 have HC0 := aM hc0
 clear hr0 hc0
 have HB := aM (Below.refl w.heap.size w)
 have H : ((laws_big.f l0).bind fun t507 => (if t507 = true then (some true) else ((spec_DrawBlocks.f k l0).bind fun bt508 => ((impl_Blocks.f k bt508.1 bt508.2).bind fun t515 => ((spec_IsValidDatabase.f k bt508.1 bt508.2).bind fun t518 => (if t518 = true then (laws_FnBlocks.l0 k t515 0 0 0 bt508.1 bt508.2) else (some ((t515.length : Int) == 0)))))))) = some r := h
 clear h
 replace H := bM H
 obtain ⟨t507, A20, H⟩ := H
 have A2 := aM A20
 clear A20
 by_cases c3 : t507 = true
 ·subst c3
  replace H := iT H
  obtain rfl := Option.some.inj H
  go_enter Try.func3, Try.ntmps3
  go_wp2_with (first | ((with_reducible refine gate_callee (f := 7) rfl ?_); refine goesL_ (some 11) rfl rfl Try.func7 (by kernel_rfl) rfl #[.slice A0 l0.length c0] rfl aA ?_; (with_reducible refine (laws_big.calls _ _ l0 true _ ?side1 ?side2 A2.out).mono ?_); (case side1 => repeat (first | exact HR0.out | (with_reducible refine Kd.C_alloc ?_ _) | (with_reducible refine Kd.C_drewN ?_ _) | (with_reducible refine Kd.C_drew ?_))); (case side2 => exact HC0.out); rintro e w' ⟨rfl, ⟨nd, rfl⟩⟩; refine ⟨_, rfl, ?_⟩))
  go_ret
  exact ⟨aE, aB⟩
 ·replace c3 := Bool.eq_false_iff.mpr c3
  subst c3
  have H1 : ((spec_DrawBlocks.f k l0).bind fun bt508 => ((impl_Blocks.f k bt508.1 bt508.2).bind fun t515 => ((spec_IsValidDatabase.f k bt508.1 bt508.2).bind fun t518 => (if t518 = true then (laws_FnBlocks.l0 k t515 0 0 0 bt508.1 bt508.2) else (some ((t515.length : Int) == 0)))))) = some r := by rw [if_neg (show ¬ (false = true) by decide)] at H; exact H
  clear H
  have H := H1
  clear H1
  replace H := bM H
  obtain ⟨⟨t508, t511⟩, A40, H⟩ := H
  dsimp only at H
  have A4 := aM A40
  clear A40
  replace H := bM H
  obtain ⟨t515, A50, H⟩ := H
  have A5 := aM A50
  clear A50
  replace H := bM H
  obtain ⟨t518, A60, H⟩ := H
  have A6 := aM A60
  clear A60
  by_cases c7 : t518 = true
  ·subst c7
   replace H := iT H
   have H' := aM H
   clear H
   go_enter Try.func3, Try.ntmps3
   go_wp2_with (first | ((with_reducible refine gate_callee (f := 7) rfl ?_); refine goesL_ (some 11) rfl rfl Try.func7 (by kernel_rfl) rfl #[.slice A0 l0.length c0] rfl aA ?_; (with_reducible refine (laws_big.calls _ _ l0 false _ ?side1 ?side2 A2.out).mono ?_); (case side1 => repeat (first | exact HR0.out | (with_reducible refine Kd.C_alloc ?_ _) | (with_reducible refine Kd.C_drewN ?_ _) | (with_reducible refine Kd.C_drew ?_))); (case side2 => exact HC0.out); rintro e w' ⟨rfl, ⟨nd, rfl⟩⟩; refine ⟨_, rfl, ?_⟩) | ((with_reducible refine gate_callee (f := 8) rfl ?_); refine goesL_ (some 13) rfl rfl Try.func8 (by kernel_rfl) rfl #[.slice A0 l0.length c0] rfl aA ?_; (with_reducible refine (spec_DrawBlocks.calls k _ _ l0 t508 t511 _ ?side1 ?side2 A4.out).mono ?_); (case side1 => repeat (first | exact HR0.out | (with_reducible refine Kd.C_alloc ?_ _) | (with_reducible refine Kd.C_drewN ?_ _) | (with_reducible refine Kd.C_drew ?_))); (case side2 => exact HC0.out); rintro e w8 ⟨v509, v512, rfl, ho0, ho1, hb⟩; refine ⟨_, rfl, ?_⟩; have HO510 := aM (Kd.R_lower (Kd.R_mono (ok' := fun k_ => True) ho0 (fun _ hk_ => trivial)) (below_size aB)); have HO513 := aM (Kd.N_lower (Kd.N_mono (ok' := fun k_ => some k_ ≠ (v509 : Value).ownBlock) ho1 (fun k_ hk_ => hk_.2)) (below_size aB)); replace HB := aM (below_step aB hb); (try clear hb); (try clear hb2); (try clear hk); (try clear hi); (try clear ho0); (try clear ho1)) | ((with_reducible refine gate_dst (N := 3) rfl ?_); (try (refine gate_guard (by rfl) ?_; dsimp only)); refine bE 3 (cs := #[.slice none 0 0, .slice none 0 0]) (t := 27) ?_; intro gb514 hg w9 hbox hb; have BK514 := aM (hbox); have GW514 := aM ((by rw [hg]; exact (below_size aB) : w.heap.size ≤ gb514)); have GE514 := aM ((by rw [hg]; exact (below_size aB) : w.heap.size ≤ gb514)); replace HO510 := aM (Kd.R_below (aR HO510) hb); replace HO513 := aM (Kd.N_below (Kd.N_elderB (aN HO513) gb514 (Nat.le_of_eq hg.symm)) hb); replace HB := aM (below_step aB hb); clear hb hbox hg; obtain ⟨Ao10, co10, eo10⟩ := Kd.R_slice HO510.out; subst eo10; have hcz11_0 : w9.cell? ⟨gb514, 0, none⟩ = some (.slice none 0 0) := (blk_cell BK514.out 0).trans rfl; have hcz11_1 : w9.cell? ⟨gb514, 1, none⟩ = some (.slice none 0 0) := (blk_cell BK514.out 1).trans rfl; have hfz11_0 := blk_frozen BK514.out 0; have hfz11_1 := blk_frozen BK514.out 1; obtain ⟨Ao12, co12, eo12⟩ := Kd.N_slice HO513.out; subst eo12) | ((with_reducible refine gate_callee (f := 9) rfl ?_); refine goesL_ (some 15) rfl rfl Try.func9 (by kernel_rfl) rfl #[.agg #[.slice Ao10 t508.length co10, .slice Ao12 t511.length co12]] rfl aA ?_; (with_reducible refine (impl_Blocks.calls k _ _ t508 _ _ t511 t515 _ ?side1 ?side2 ?side3 ?side4 A5.out).mono ?_); (case side1 => refine (Kd.R_reads' (e := 70) (base := w.heap.size) (ok := fun k_ => True) (n := t508.length) (c := co10) ?_).2.2; exact (by (with_reducible repeat (first | apply Kd.R_alloc | apply Kd.R_drewN | apply Kd.R_drew)); exact (Kd.R_mono (Kd.R_far (p := ⟨gb514, 1, none⟩) (Kd.R_far (p := ⟨gb514, 0, none⟩) (Kd.R_types HO510.out BK514.out (by decide)) (fun _ hk => hk.2) (.slice Ao10 t508.length co10)) (fun _ hk => hk.2) (.slice Ao12 t511.length co12)) (fun _ h_ => h_.1)))); (case side2 => exact (Kd.R_reads' HO510.out).2.1); (case side3 => refine (Kd.N_reads' (e := 35) (base := w.heap.size) (ok := fun k_ => (some k_ ≠ (.slice Ao10 t508.length co10 : Value).ownBlock ∧ k_ ≠ gb514)) (n := t511.length) (c := co12) ?_).2.2; exact (by (with_reducible repeat (first | apply Kd.N_alloc | apply Kd.N_drewN | apply Kd.N_drew)); exact (Kd.N_mono (Kd.N_far (p := ⟨gb514, 1, none⟩) (Kd.N_far (p := ⟨gb514, 0, none⟩) (Kd.N_mono HO513.out (fun k_ hk => (⟨hk, hk.2⟩ : _ ∧ k_ ≠ gb514))) (fun _ hk => hk.2) (.slice Ao10 t508.length co10)) (fun _ hk => hk.2) (.slice Ao12 t511.length co12)) (fun _ h_ => h_.1)))); (case side4 => exact (Kd.N_reads' HO513.out).2.1); rintro e w13 ⟨v516, rfl, ho0, hb⟩; refine ⟨_, rfl, ?_⟩; have HO517 := aM (Kd.N_lower (Kd.N_mono (ok' := fun k_ => some k_ ≠ (.slice Ao10 t508.length co10 : Value).ownBlock ∧ some k_ ≠ (.slice Ao12 t511.length co12 : Value).ownBlock ∧ k_ ≠ gb514) (Kd.S_N (Kd.S_bound ho0)) (fun k_ hk_ => ⟨(Kd.fresh' (Kd.R_lt (by (with_reducible repeat (first | apply Kd.R_alloc | apply Kd.R_drewN | apply Kd.R_drew)); exact (Kd.R_mono (Kd.R_far (p := ⟨gb514, 1, none⟩) (Kd.R_far (p := ⟨gb514, 0, none⟩) (Kd.R_types HO510.out BK514.out (by decide)) (fun _ hk => hk.2) (.slice Ao10 t508.length co10)) (fun _ hk => hk.2) (.slice Ao12 t511.length co12)) (fun _ h_ => h_.1)))) k_ hk_.2.1), (Kd.fresh' (Kd.N_lt (by (with_reducible repeat (first | apply Kd.N_alloc | apply Kd.N_drewN | apply Kd.N_drew)); exact (Kd.N_mono (Kd.N_far (p := ⟨gb514, 1, none⟩) (Kd.N_far (p := ⟨gb514, 0, none⟩) (Kd.N_mono HO513.out (fun k_ hk => (⟨hk, hk.2⟩ : _ ∧ k_ ≠ gb514))) (fun _ hk => hk.2) (.slice Ao10 t508.length co10)) (fun _ hk => hk.2) (.slice Ao12 t511.length co12)) (fun _ h_ => h_.1)))) k_ hk_.2.1), (Kd.freshB (g := gb514) (o := .cells #[.slice Ao10 t508.length co10, .slice Ao12 t511.length co12] 27 (0, 0)) (by (with_reducible repeat (first | refine blk_drewN ?_ _ | refine blk_drew ?_ | refine blk_alloc ?_ _)); refine blk_put (cs := #[.slice Ao10 t508.length co10, .slice none 0 0]) ?_ 1 _ rfl; (with_reducible repeat (first | refine blk_drewN ?_ _ | refine blk_drew ?_ | refine blk_alloc ?_ _)); refine blk_put (cs := #[.slice none 0 0, .slice none 0 0]) ?_ 0 _ rfl; (with_reducible repeat (first | refine blk_drewN ?_ _ | refine blk_drew ?_ | refine blk_alloc ?_ _)); exact BK514.out) k_ hk_.2.1)⟩)) (below_size aG)); replace HO510 := aM (Kd.R_below (by (with_reducible repeat (first | apply Kd.R_alloc | apply Kd.R_drewN | apply Kd.R_drew)); exact (Kd.R_mono (Kd.R_far (p := ⟨gb514, 1, none⟩) (Kd.R_far (p := ⟨gb514, 0, none⟩) (Kd.R_types HO510.out BK514.out (by decide)) (fun _ hk => hk.2) (.slice Ao10 t508.length co10)) (fun _ hk => hk.2) (.slice Ao12 t511.length co12)) (fun _ h_ => h_.1))) hb); replace HO513 := aM (Kd.N_elder' (by (with_reducible repeat (first | apply Kd.N_alloc | apply Kd.N_drewN | apply Kd.N_drew)); exact (Kd.N_mono (Kd.N_far (p := ⟨gb514, 1, none⟩) (Kd.N_far (p := ⟨gb514, 0, none⟩) (Kd.N_mono HO513.out (fun k_ hk => (⟨hk, hk.2⟩ : _ ∧ k_ ≠ gb514))) (fun _ hk => hk.2) (.slice Ao10 t508.length co10)) (fun _ hk => hk.2) (.slice Ao12 t511.length co12)) (fun _ h_ => h_.1))) (by first | exact Kd.N_base ho0 | exact Kd.R_base (Kd.S_R ho0)) hb); replace BK514 := aM (blk_below (g := gb514) (o := .cells #[.slice Ao10 t508.length co10, .slice Ao12 t511.length co12] 27 (0, 0)) (by (with_reducible repeat (first | refine blk_drewN ?_ _ | refine blk_drew ?_ | refine blk_alloc ?_ _)); refine blk_put (cs := #[.slice Ao10 t508.length co10, .slice none 0 0]) ?_ 1 _ rfl; (with_reducible repeat (first | refine blk_drewN ?_ _ | refine blk_drew ?_ | refine blk_alloc ?_ _)); refine blk_put (cs := #[.slice none 0 0, .slice none 0 0]) ?_ 0 _ rfl; (with_reducible repeat (first | refine blk_drewN ?_ _ | refine blk_drew ?_ | refine blk_alloc ?_ _)); exact BK514.out) hb); replace HB := aM (below_step aG hb); (try clear hb); (try clear hb2); (try clear hk); (try clear hi); (try clear ho0); have hcz14_0 : w13.cell? ⟨gb514, 0, none⟩ = some (.slice Ao10 t508.length co10) := (blk_cell BK514.out 0).trans rfl; have hcz14_1 : w13.cell? ⟨gb514, 1, none⟩ = some (.slice Ao12 t511.length co12) := (blk_cell BK514.out 1).trans rfl; have hfz14_0 := blk_frozen BK514.out 0; have hfz14_1 := blk_frozen BK514.out 1) | ((with_reducible refine gate_callee (f := 10) rfl ?_); refine goesL_ (some 17) rfl rfl Try.func10 (by kernel_rfl) rfl #[.agg #[.slice Ao10 t508.length co10, .slice Ao12 t511.length co12]] rfl aA ?_; (with_reducible refine (spec_IsValidDatabase.calls k _ _ t508 _ _ t511 true _ ?side1 ?side2 ?side3 ?side4 A6.out).mono ?_); (case side1 => repeat (first | exact (Kd.R_reads' HO510.out).2.2 | (with_reducible refine Kd.C_alloc ?_ _) | (with_reducible refine Kd.C_drewN ?_ _) | (with_reducible refine Kd.C_drew ?_))); (case side2 => exact (Kd.R_reads' HO510.out).2.1); (case side3 => repeat (first | exact (Kd.N_reads' HO513.out).2.2 | (with_reducible refine Kd.C_alloc ?_ _) | (with_reducible refine Kd.C_drewN ?_ _) | (with_reducible refine Kd.C_drew ?_))); (case side4 => exact (Kd.N_reads' HO513.out).2.1); rintro e w15 ⟨rfl, hb⟩; refine ⟨_, rfl, ?_⟩; replace HO510 := aM (Kd.R_below (aR HO510) hb); replace HO513 := aM (Kd.N_below (aN HO513) hb); replace HO517 := aM (Kd.N_below (aN HO517) hb); replace BK514 := aM (blk_below (g := gb514) (o := .cells #[.slice Ao10 t508.length co10, .slice Ao12 t511.length co12] 27 (0, 0)) aK hb); replace HB := aM (below_step aG hb); (try clear hb); (try clear hb2); (try clear hk); (try clear hi)))
   go_loopg [5, 6, 7] k (fun kq v5 v6 v7 w' => ∃ (x5_1 : Int) (x6_1 : Int) (x7_1 : Int), v5 = .int .i64 x5_1 ∧ v6 = .int .i64 x6_1 ∧ v7 = .int .i64 x7_1 ∧ Aside0 (laws_FnBlocks.l0 kq t515 x5_1 x6_1 x7_1 t508 t511 = some r) ∧ Aside0 (kq ≤ k) ∧ Aside0 (Kd.N (Kd.slice 3 (Kd.int .i64)) 32 w' w.heap.size (fun k_ => some k_ ≠ ((.slice Ao10 t508.length co10) : Value).ownBlock ∧ some k_ ≠ ((.slice Ao12 t511.length co12) : Value).ownBlock ∧ k_ ≠ gb514) v516 t515) ∧ Aside0 (Kd.R k70 70 w' w.heap.size (fun _ => True) (.slice Ao10 t508.length co10) t508) ∧ Aside0 (Kd.N k35 35 w' w.heap.size (fun k_ => some k_ ≠ (v516 : Value).ownBlock ∧ some k_ ≠ ((.slice Ao10 t508.length co10) : Value).ownBlock ∧ k_ ≠ gb514) (.slice Ao12 t511.length co12) t511) ∧ Aside0 (w'.heap[gb514]? = some (.cells #[(.slice Ao10 t508.length co10), (.slice Ao12 t511.length co12)] 27 (0, 0))) ∧ Aside0 (Below w.heap.size w w'))
   case atStart => exact ⟨(0), (0), (0), aX, aX, aX, H', ⟨Nat.le_refl _⟩, ⟨aN HO517⟩, ⟨aR HO510⟩, ⟨by (with_reducible repeat (first | apply Kd.N_alloc | apply Kd.N_drewN | apply Kd.N_drew)); exact Kd.N_mono HO513.out (fun _ hk => ⟨hk.2, ⟨hk.1.1, hk.1.2⟩⟩)⟩, ⟨aK⟩, ⟨aG⟩⟩
   case round =>
    clear H'
    try clear c1
    try clear p2
    try clear c3
    try clear c7
    try clear c8
    try clear c9
    try clear c10
    try clear hcz11_0
    try clear hcz11_1
    try clear hcz14_0
    try clear hcz14_1
    try clear hfz11_0
    try clear hfz11_1
    try clear hfz14_0
    try clear hfz14_1
    obtain ⟨x5_1, x6_1, x7_1, rfl, rfl, rfl, HA, HK1, HO_4, HO_515000, HO_515001, BK514, HB⟩ := hrel
    cases gk with
    | zero => exact absurd HA.out (by simp [laws_FnBlocks.l0])
    | succ k1 =>
     have H := HA.out
     clear HA
     simp only [laws_FnBlocks.l0] at H
     by_cases c16 : x7_1 < (t515.length : Int)
     ·rw [if_pos c16] at H
      have c16b0 : decide (x7_1 < (t515.length : Int)) = true := decide_eq_true c16
      clear c16
      by_cases c17 : 0 ≤ x7_1
      ·rw [if_pos c17] at H
       have c17b0 : decide (0 ≤ x7_1) = true := decide_eq_true c17
       clear c17
       have HC18 := aM H
       clear H
       obtain ⟨Ao19, co19, eo19⟩ := Kd.N_slice HO_4.out
       subst eo19
       have p526 : 0 ≤ (x7_1 : Int) := aD
       have q526 : x7_1 < (t515.length : Int) := aD
       obtain ⟨ad526, A526_0, c526_0, e526, hx526_0, hl526_0, hi526_0⟩ := at_L4 (Kd.N_reads' HO_4.out).2.2 x7_1 p526 q526
       cases e526
       obtain ⟨ce526, hce526, hMe526, hcc526⟩ := Kd.N_get HO_4.out [] x7_1 p526 (by first | exact q526 | exact aD | (have e_ := (Kd.N_reads' HO_4.out).1; omega))
       obtain ⟨ua526_0, uc526_0, rfl, ul526_0, ge526_0⟩ := Kd.FK_slice_open hMe526
       have hv526_0 := hcc526 0 _ rfl
       rw [Nat.add_zero, show ((Kd.slice 3 (Kd.int .i64))).sz = 1 from rfl, Nat.mul_one] at hv526_0
       replace hv526_0 := Option.some.inj (hv526_0.symm.trans hx526_0)
       injection hv526_0 with hva_ hvn_ hvc_
       rw [hva_] at ge526_0
       rw [hvc_] at ul526_0
       have HL526_0 := aM (show Kd.V (Kd.int .i64) 3 _ w.heap.size _ _ (rd_L4 t515 x7_1) from Kd.V_mk ul526_0 ge526_0)
       clear hva_ hvn_ hvc_ ge526_0 ul526_0
       clear hcc526 hce526
       have HR526_0 := aM hi526_0
       have HC526_0 := aM hl526_0
       clear hi526_0 hl526_0
       replace p526 := eq_true p526
       replace q526 := eq_true q526
       have p527 : 0 ≤ (x7_1 : Int) := aD
       have q527 : x7_1 < (t515.length : Int) := aD
       obtain ⟨ad527, A527_0, c527_0, e527, hx527_0, hl527_0, hi527_0⟩ := at_L4 (Kd.N_reads' HO_4.out).2.2 x7_1 p527 q527
       obtain rfl : ad526 = ad527 := (by injection e527)
       obtain ⟨ce527, hce527, hMe527, hcc527⟩ := Kd.N_get HO_4.out [] x7_1 p527 (by first | exact q527 | exact aD | (have e_ := (Kd.N_reads' HO_4.out).1; omega))
       obtain ⟨ua527_0, uc527_0, rfl, ul527_0, ge527_0⟩ := Kd.FK_slice_open hMe527
       have hv527_0 := hcc527 0 _ rfl
       rw [Nat.add_zero, show ((Kd.slice 3 (Kd.int .i64))).sz = 1 from rfl, Nat.mul_one] at hv527_0
       replace hv527_0 := Option.some.inj (hv527_0.symm.trans hx527_0)
       injection hv527_0 with hva_ hvn_ hvc_
       rw [hva_] at ge527_0
       rw [hvc_] at ul527_0
       have HL527_0 := aM (show Kd.V (Kd.int .i64) 3 _ w.heap.size _ _ (rd_L4 t515 x7_1) from Kd.V_mk ul527_0 ge527_0)
       clear hva_ hvn_ hvc_ ge527_0 ul527_0
       clear hcc527 hce527
       have HR527_0 := aM hi527_0
       have HC527_0 := aM hl527_0
       clear hi527_0 hl527_0
       replace p527 := eq_true p527
       replace q527 := eq_true q527
       have ea_ := Option.some.inj (hx526_0.symm.trans hx527_0)
       injection ea_ with ea_ en_ ec_
       subst ea_
       subst ec_
       clear en_
       go_upto_if 40 with (fail)
       go_cut [6] (fun v6 wc => ∃ (kq : Nat) (x6_17 : Int), v6 = .int .i64 x6_17 ∧ Aside0 (laws_FnBlocks.j1 kq t515 (wrap64 (x5_1 + ((rd_L4 t515 x7_1).length : Int))) x6_17 x7_1 t508 t511 = some r) ∧ Aside0 (kq ≤ k1) ∧ Aside0 (Kd.N (Kd.slice 3 (Kd.int .i64)) 32 wc w.heap.size (fun k_ => some k_ ≠ ((.slice Ao10 t508.length co10) : Value).ownBlock ∧ some k_ ≠ ((.slice Ao12 t511.length co12) : Value).ownBlock ∧ k_ ≠ gb514) (.slice (some ad526) t515.length co19) t515) ∧ Aside0 (Kd.R k70 70 wc w.heap.size (fun _ => True) (.slice Ao10 t508.length co10) t508) ∧ Aside0 (Kd.N k35 35 wc w.heap.size (fun k_ => some k_ ≠ ((.slice (some ad526) t515.length co19) : Value).ownBlock ∧ some k_ ≠ ((.slice Ao10 t508.length co10) : Value).ownBlock ∧ k_ ≠ gb514) (.slice Ao12 t511.length co12) t511) ∧ Aside0 (wc.heap[gb514]? = some (.cells #[(.slice Ao10 t508.length co10), (.slice Ao12 t511.length co12)] 27 (0, 0))) ∧ Aside0 (Kd.C (Kd.int .i64) wc A526_0 (rd_L4 t515 x7_1).length (rd_L4 t515 x7_1)) ∧ Aside0 (Kd.C (Kd.int .i64) wc A526_0 (rd_L4 t515 x7_1).length (rd_L4 t515 x7_1)) ∧ Aside0 (Below w.heap.size w wc))
       case first =>
        have H := HC18.out
        clear HC18
        by_cases c20 : ((rd_L4 t515 x7_1).length : Int) > 1
        ·rw [if_pos c20] at H
         have c20b0 : decide (1 < ((rd_L4 t515 x7_1).length : Int)) = true := decide_eq_true c20
         have c20b1 : decide (1 < (rd_L4 t515 x7_1).length) = true := decide_eq_true (by omega)
         clear c20
         (first | rw [c20b0] | (simp only [i64_w, i32_w]; rw [c20b0]) | skip)
         have H' := aM H
         clear H
         have p528 : 0 ≤ (x7_1 : Int) := aD
         have q528 : x7_1 < (t515.length : Int) := aD
         obtain ⟨ad528, A528_0, c528_0, e528, hx528_0, hl528_0, hi528_0⟩ := at_L4 (Kd.N_reads' HO_4.out).2.2 x7_1 p528 q528
         obtain rfl : ad526 = ad528 := (by injection e528)
         obtain ⟨ce528, hce528, hMe528, hcc528⟩ := Kd.N_get HO_4.out [] x7_1 p528 (by first | exact q528 | exact aD | (have e_ := (Kd.N_reads' HO_4.out).1; omega))
         obtain ⟨ua528_0, uc528_0, rfl, ul528_0, ge528_0⟩ := Kd.FK_slice_open hMe528
         have hv528_0 := hcc528 0 _ rfl
         rw [Nat.add_zero, show ((Kd.slice 3 (Kd.int .i64))).sz = 1 from rfl, Nat.mul_one] at hv528_0
         replace hv528_0 := Option.some.inj (hv528_0.symm.trans hx528_0)
         injection hv528_0 with hva_ hvn_ hvc_
         rw [hva_] at ge528_0
         rw [hvc_] at ul528_0
         have HL528_0 := aM (show Kd.V (Kd.int .i64) 3 _ w.heap.size _ _ (rd_L4 t515 x7_1) from Kd.V_mk ul528_0 ge528_0)
         clear hva_ hvn_ hvc_ ge528_0 ul528_0
         clear hcc528 hce528
         have HR528_0 := aM hi528_0
         have HC528_0 := aM hl528_0
         clear hi528_0 hl528_0
         replace p528 := eq_true p528
         replace q528 := eq_true q528
         go_wp2
         go_meet
         case rel => exact ⟨_, (wrap64 (x6_1 + ((rd_L4 t515 x7_1).length : Int))), aX, H', ⟨by have := HK1.out; first | omega | exact Nat.le_refl _⟩, ⟨aN HO_4⟩, ⟨aR HO_515000⟩, ⟨aN HO_515001⟩, ⟨aK⟩, ⟨by repeat (first | (with_reducible exact HR526_0.out) | (with_reducible refine Kd.C_alloc ?_ _) | (with_reducible refine Kd.C_drewN ?_ _) | (with_reducible refine Kd.C_drew ?_) | exact HR526_0.out)⟩, ⟨by repeat (first | (with_reducible exact HR527_0.out) | (with_reducible refine Kd.C_alloc ?_ _) | (with_reducible refine Kd.C_drewN ?_ _) | (with_reducible refine Kd.C_drew ?_) | exact HR527_0.out)⟩, ⟨aG⟩⟩
        ·rw [if_neg c20] at H
         have c20b0 : decide (1 < ((rd_L4 t515 x7_1).length : Int)) = false := decide_eq_false c20
         have c20b1 : decide (1 < (rd_L4 t515 x7_1).length) = false := decide_eq_false (by omega)
         clear c20
         (first | rw [c20b0] | (simp only [i64_w, i32_w]; rw [c20b0]) | skip)
         have H' := aM H
         clear H
         go_wp2
         go_meet
         case rel => exact ⟨_, (x6_1), aX, H', ⟨by have := HK1.out; first | omega | exact Nat.le_refl _⟩, ⟨aN HO_4⟩, ⟨aR HO_515000⟩, ⟨aN HO_515001⟩, ⟨aK⟩, ⟨by repeat (first | (with_reducible exact HR526_0.out) | (with_reducible refine Kd.C_alloc ?_ _) | (with_reducible refine Kd.C_drewN ?_ _) | (with_reducible refine Kd.C_drew ?_) | exact HR526_0.out)⟩, ⟨by repeat (first | (with_reducible exact HR527_0.out) | (with_reducible refine Kd.C_alloc ?_ _) | (with_reducible refine Kd.C_drewN ?_ _) | (with_reducible refine Kd.C_drew ?_) | exact HR527_0.out)⟩, ⟨aG⟩⟩
       case rest =>
        clear HC18
        try clear c1
        try clear c2
        try clear p2
        try clear c3
        try clear c5
        try clear p5
        try clear q5
        try clear hx5
        try clear p6
        try clear c7
        try clear c8
        try clear c9
        try clear c10
        try clear c16
        try clear c16b0
        try clear c17
        try clear c17b0
        try clear c20
        try clear c20b0
        try clear c20b1
        try clear hcz11_0
        try clear hcz11_1
        try clear hcz14_0
        try clear hcz14_1
        try clear hfz11_0
        try clear hfz11_1
        try clear hfz14_0
        try clear hfz14_1
        try clear hx526_0
        try clear hx527_0
        try clear hx528_0
        try clear p2
        try clear p526
        try clear p527
        try clear p528
        try clear q526
        try clear q527
        try clear q528
        obtain ⟨kq, x6_17, rfl, HA, HJ17, HO_4, HO_515000, HO_515001, BK514, HR526_0, HR527_0, HB⟩ := hcut
        cases kq with
        | zero => exact absurd HA.out (by simp [laws_FnBlocks.j1])
        | succ kj17 =>
         have H := HA.out
         clear HA
         simp only [laws_FnBlocks.j1] at H
         have H' := aM H
         clear H
         go_wp2
         go_loopg [8] kj17 (fun kq v8 w' => ∃ (x8_3 : Int), v8 = .int .i64 x8_3 ∧ Aside0 (laws_FnBlocks.l1 kq t515 (wrap64 (x5_1 + ((rd_L4 t515 x7_1).length : Int))) x6_17 x7_1 x8_3 t508 t511 = some r) ∧ Aside0 (kq ≤ kj17) ∧ Aside0 (Kd.N (Kd.slice 3 (Kd.int .i64)) 32 w' w.heap.size (fun k_ => some k_ ≠ ((.slice Ao10 t508.length co10) : Value).ownBlock ∧ some k_ ≠ ((.slice Ao12 t511.length co12) : Value).ownBlock ∧ k_ ≠ gb514) (.slice (some ad526) t515.length co19) t515) ∧ Aside0 (Kd.R k70 70 w' w.heap.size (fun _ => True) (.slice Ao10 t508.length co10) t508) ∧ Aside0 (Kd.N k35 35 w' w.heap.size (fun k_ => some k_ ≠ ((.slice (some ad526) t515.length co19) : Value).ownBlock ∧ some k_ ≠ ((.slice Ao10 t508.length co10) : Value).ownBlock ∧ k_ ≠ gb514) (.slice Ao12 t511.length co12) t511) ∧ Aside0 (w'.heap[gb514]? = some (.cells #[(.slice Ao10 t508.length co10), (.slice Ao12 t511.length co12)] 27 (0, 0))) ∧ Aside0 (Kd.C (Kd.int .i64) w' A526_0 (rd_L4 t515 x7_1).length (rd_L4 t515 x7_1)) ∧ Aside0 (Kd.C (Kd.int .i64) w' A526_0 (rd_L4 t515 x7_1).length (rd_L4 t515 x7_1)) ∧ Aside0 (Below w.heap.size w w'))
         case atStart => exact ⟨(0), aX, H', ⟨Nat.le_refl _⟩, ⟨aN HO_4⟩, ⟨aR HO_515000⟩, ⟨aN HO_515001⟩, ⟨aK⟩, ⟨by repeat (first | (with_reducible exact HR526_0.out) | (with_reducible refine Kd.C_alloc ?_ _) | (with_reducible refine Kd.C_drewN ?_ _) | (with_reducible refine Kd.C_drew ?_) | exact HR526_0.out)⟩, ⟨by repeat (first | (with_reducible exact HR527_0.out) | (with_reducible refine Kd.C_alloc ?_ _) | (with_reducible refine Kd.C_drewN ?_ _) | (with_reducible refine Kd.C_drew ?_) | exact HR527_0.out)⟩, ⟨aG⟩⟩
         case round =>
          clear H'
          try clear c1
          try clear c2
          try clear p2
          try clear c3
          try clear c5
          try clear p5
          try clear q5
          try clear hx5
          try clear p6
          try clear c7
          try clear c8
          try clear c9
          try clear c10
          try clear c16
          try clear c16b0
          try clear c17
          try clear c17b0
          try clear c20
          try clear c20b0
          try clear c20b1
          try clear hcz11_0
          try clear hcz11_1
          try clear hcz14_0
          try clear hcz14_1
          try clear hfz11_0
          try clear hfz11_1
          try clear hfz14_0
          try clear hfz14_1
          try clear hx526_0
          try clear hx527_0
          try clear hx528_0
          try clear p2
          try clear p5
          try clear p526
          try clear p527
          try clear p528
          try clear p6
          try clear q5
          try clear q526
          try clear q527
          try clear q528
          obtain ⟨x8_3, rfl, HA, HK3, HO_4, HO_515000, HO_515001, BK514, HR526_0, HR527_0, HB⟩ := hrel
          cases gk with
          | zero => exact absurd HA.out (by simp [laws_FnBlocks.l1])
          | succ k3 =>
           have H := HA.out
           clear HA
           simp only [laws_FnBlocks.l1] at H
           by_cases c21 : 0 ≤ x7_1
           ·rw [if_pos c21] at H
            have c21b0 : decide (0 ≤ x7_1) = true := decide_eq_true c21
            clear c21
            by_cases c22 : x7_1 < (t515.length : Int)
            ·rw [if_pos c22] at H
             have c22b0 : decide (x7_1 < (t515.length : Int)) = true := decide_eq_true c22
             clear c22
             by_cases c23 : x8_3 < ((rd_L4 t515 x7_1).length : Int)
             ·rw [if_pos c23] at H
              have c23b0 : decide (x8_3 < ((rd_L4 t515 x7_1).length : Int)) = true := decide_eq_true c23
              clear c23
              by_cases c24 : 0 ≤ x8_3
              ·rw [if_pos c24] at H
               have c24b0 : decide (0 ≤ x8_3) = true := decide_eq_true c24
               clear c24
               by_cases c25 : (rd (rd_L4 t515 x7_1) x8_3) < 0
               ·rw [if_pos c25] at H
                have c25b0 : decide ((rd (rd_L4 t515 x7_1) x8_3) < 0) = true := decide_eq_true c25
                clear c25
                exact absurd (Option.some.inj (H.trans (congrArg some HRT_.out))) (by decide)
               ·rw [if_neg c25] at H
                have c25b0 : decide ((rd (rd_L4 t515 x7_1) x8_3) < 0) = false := decide_eq_false c25
                clear c25
                by_cases c26 : (rd (rd_L4 t515 x7_1) x8_3) ≥ (t511.length : Int)
                ·rw [if_pos c26] at H
                 have c26b0 : decide ((t511.length : Int) ≤ (rd (rd_L4 t515 x7_1) x8_3)) = true := decide_eq_true c26
                 clear c26
                 exact absurd (Option.some.inj (H.trans (congrArg some HRT_.out))) (by decide)
                ·rw [if_neg c26] at H
                 have c26b0 : decide ((t511.length : Int) ≤ (rd (rd_L4 t515 x7_1) x8_3)) = false := decide_eq_false c26
                 clear c26
                 by_cases c27 : 0 < ((rd_L4 t515 x7_1).length : Int)
                 ·rw [if_pos c27] at H
                  have c27b0 : decide (0 < ((rd_L4 t515 x7_1).length : Int)) = true := decide_eq_true c27
                  have c27b1 : decide (0 < (rd_L4 t515 x7_1).length) = true := decide_eq_true (by omega)
                  clear c27
                  by_cases c28 : 0 ≤ (rd (rd_L4 t515 x7_1) 0)
                  ·rw [if_pos c28] at H
                   have c28b0 : decide (0 ≤ (rd (rd_L4 t515 x7_1) 0)) = true := decide_eq_true c28
                   clear c28
                   by_cases c29 : (rd (rd_L4 t515 x7_1) 0) < (t511.length : Int)
                   ·rw [if_pos c29] at H
                    have c29b0 : decide ((rd (rd_L4 t515 x7_1) 0) < (t511.length : Int)) = true := decide_eq_true c29
                    clear c29
                    by_cases c30 : 0 ≤ (rd (rd_L4 t515 x7_1) x8_3)
                    ·rw [if_pos c30] at H
                     have c30b0 : decide (0 ≤ (rd (rd_L4 t515 x7_1) x8_3)) = true := decide_eq_true c30
                     clear c30
                     by_cases c31 : (rd (rd_L4 t515 x7_1) x8_3) < (t511.length : Int)
                     ·rw [if_pos c31] at H
                      have c31b0 : decide ((rd (rd_L4 t515 x7_1) x8_3) < (t511.length : Int)) = true := decide_eq_true c31
                      clear c31
                      replace H := bM H
                      obtain ⟨t540, A320, H⟩ := H
                      have A32 := aM A320
                      clear A320
                      by_cases c33 : t540 = true
                      ·subst c33
                       replace H := iT H
                       replace H := bM H
                       obtain ⟨t543, A340, H⟩ := H
                       have A34 := aM A340
                       clear A340
                       replace H := bM H
                       obtain ⟨t547, A350, H⟩ := H
                       have A35 := aM A350
                       clear A350
                       by_cases c36 : t547 = true
                       ·subst c36
                        replace H := iT H
                        have H' := aM H
                        clear H
                        have p529 : 0 ≤ (x7_1 : Int) := aD
                        have q529 : x7_1 < (t515.length : Int) := aD
                        obtain ⟨ad529, A529_0, c529_0, e529, hx529_0, hl529_0, hi529_0⟩ := at_L4 (Kd.N_reads' HO_4.out).2.2 x7_1 p529 q529
                        obtain rfl : ad526 = ad529 := (by injection e529)
                        obtain ⟨ce529, hce529, hMe529, hcc529⟩ := Kd.N_get HO_4.out [] x7_1 p529 (by first | exact q529 | exact aD | (have e_ := (Kd.N_reads' HO_4.out).1; omega))
                        obtain ⟨ua529_0, uc529_0, rfl, ul529_0, ge529_0⟩ := Kd.FK_slice_open hMe529
                        have hv529_0 := hcc529 0 _ rfl
                        rw [Nat.add_zero, show ((Kd.slice 3 (Kd.int .i64))).sz = 1 from rfl, Nat.mul_one] at hv529_0
                        replace hv529_0 := Option.some.inj (hv529_0.symm.trans hx529_0)
                        injection hv529_0 with hva_ hvn_ hvc_
                        rw [hva_] at ge529_0
                        rw [hvc_] at ul529_0
                        have HL529_0 := aM (show Kd.V (Kd.int .i64) 3 _ w.heap.size _ _ (rd_L4 t515 x7_1) from Kd.V_mk ul529_0 ge529_0)
                        clear hva_ hvn_ hvc_ ge529_0 ul529_0
                        clear hcc529 hce529
                        have HR529_0 := aM hi529_0
                        have HC529_0 := aM hl529_0
                        clear hi529_0 hl529_0
                        replace p529 := eq_true p529
                        replace q529 := eq_true q529
                        try go_wp2
                        replace HO_4 := aM (Kd.N_drew HO_4.out)
                        replace HO_515000 := aM (Kd.R_drew HO_515000.out)
                        replace HO_515001 := aM (Kd.N_drew HO_515001.out)
                        replace HL529_0 := aM (Kd.V_drew HL529_0.out)
                        replace BK514 := aM (blk_drew BK514.out)
                        replace HR526_0 := aM (Kd.C_drew HR526_0.out)
                        replace HR527_0 := aM (Kd.C_drew HR527_0.out)
                        replace HR529_0 := aM (Kd.C_drew HR529_0.out)
                        replace HB := aM (below_drew1 HB.out)
                        have p530 : 0 ≤ (x7_1 : Int) := aD
                        have q530 : x7_1 < (t515.length : Int) := aD
                        obtain ⟨ad530, A530_0, c530_0, e530, hx530_0, hl530_0, hi530_0⟩ := at_L4 (Kd.N_reads' HO_4.out).2.2 x7_1 p530 q530
                        obtain rfl : ad526 = ad530 := (by injection e530)
                        obtain ⟨ce530, hce530, hMe530, hcc530⟩ := Kd.N_get HO_4.out [] x7_1 p530 (by first | exact q530 | exact aD | (have e_ := (Kd.N_reads' HO_4.out).1; omega))
                        obtain ⟨ua530_0, uc530_0, rfl, ul530_0, ge530_0⟩ := Kd.FK_slice_open hMe530
                        have hv530_0 := hcc530 0 _ rfl
                        rw [Nat.add_zero, show ((Kd.slice 3 (Kd.int .i64))).sz = 1 from rfl, Nat.mul_one] at hv530_0
                        replace hv530_0 := Option.some.inj (hv530_0.symm.trans hx530_0)
                        injection hv530_0 with hva_ hvn_ hvc_
                        rw [hva_] at ge530_0
                        rw [hvc_] at ul530_0
                        have HL530_0 := aM (show Kd.V (Kd.int .i64) 3 _ w.heap.size _ _ (rd_L4 t515 x7_1) from Kd.V_mk ul530_0 ge530_0)
                        clear hva_ hvn_ hvc_ ge530_0 ul530_0
                        clear hcc530 hce530
                        have HR530_0 := aM hi530_0
                        have HC530_0 := aM hl530_0
                        clear hi530_0 hl530_0
                        replace p530 := eq_true p530
                        replace q530 := eq_true q530
                        have p531 : 0 ≤ (x8_3 : Int) := aD
                        have q531 : x8_3 < ((rd_L4 t515 x7_1).length : Int) := aD
                        obtain ⟨ad531, e531, hx531_0⟩ := Kd.at_int (by repeat (first | (with_reducible exact HR530_0.out) | (with_reducible refine Kd.C_alloc ?_ _) | (with_reducible refine Kd.C_drewN ?_ _) | (with_reducible refine Kd.C_drew ?_) | exact HR530_0.out)) x8_3 p531 q531
                        cases e531
                        replace p531 := eq_true p531
                        replace q531 := eq_true q531
                        have p532 : 0 ≤ (x7_1 : Int) := aD
                        have q532 : x7_1 < (t515.length : Int) := aD
                        obtain ⟨ad532, A532_0, c532_0, e532, hx532_0, hl532_0, hi532_0⟩ := at_L4 (Kd.N_reads' HO_4.out).2.2 x7_1 p532 q532
                        obtain rfl : ad526 = ad532 := (by injection e532)
                        obtain ⟨ce532, hce532, hMe532, hcc532⟩ := Kd.N_get HO_4.out [] x7_1 p532 (by first | exact q532 | exact aD | (have e_ := (Kd.N_reads' HO_4.out).1; omega))
                        obtain ⟨ua532_0, uc532_0, rfl, ul532_0, ge532_0⟩ := Kd.FK_slice_open hMe532
                        have hv532_0 := hcc532 0 _ rfl
                        rw [Nat.add_zero, show ((Kd.slice 3 (Kd.int .i64))).sz = 1 from rfl, Nat.mul_one] at hv532_0
                        replace hv532_0 := Option.some.inj (hv532_0.symm.trans hx532_0)
                        injection hv532_0 with hva_ hvn_ hvc_
                        rw [hva_] at ge532_0
                        rw [hvc_] at ul532_0
                        have HL532_0 := aM (show Kd.V (Kd.int .i64) 3 _ w.heap.size _ _ (rd_L4 t515 x7_1) from Kd.V_mk ul532_0 ge532_0)
                        clear hva_ hvn_ hvc_ ge532_0 ul532_0
                        clear hcc532 hce532
                        have HR532_0 := aM hi532_0
                        have HC532_0 := aM hl532_0
                        clear hi532_0 hl532_0
                        replace p532 := eq_true p532
                        replace q532 := eq_true q532
                        have ea_ := Option.some.inj (hx530_0.symm.trans hx532_0)
                        injection ea_ with ea_ en_ ec_
                        subst ea_
                        subst ec_
                        clear en_
                        have p533 : 0 ≤ (x8_3 : Int) := aD
                        have q533 : x8_3 < ((rd_L4 t515 x7_1).length : Int) := aD
                        obtain ⟨ad533, e533, hx533_0⟩ := Kd.at_int (by repeat (first | (with_reducible exact HR532_0.out) | (with_reducible refine Kd.C_alloc ?_ _) | (with_reducible refine Kd.C_drewN ?_ _) | (with_reducible refine Kd.C_drew ?_) | exact HR532_0.out)) x8_3 p533 q533
                        cases e533
                        replace p533 := eq_true p533
                        replace q533 := eq_true q533
                        have p534 : 0 ≤ (x7_1 : Int) := aD
                        have q534 : x7_1 < (t515.length : Int) := aD
                        obtain ⟨ad534, A534_0, c534_0, e534, hx534_0, hl534_0, hi534_0⟩ := at_L4 (Kd.N_reads' HO_4.out).2.2 x7_1 p534 q534
                        obtain rfl : ad526 = ad534 := (by injection e534)
                        obtain ⟨ce534, hce534, hMe534, hcc534⟩ := Kd.N_get HO_4.out [] x7_1 p534 (by first | exact q534 | exact aD | (have e_ := (Kd.N_reads' HO_4.out).1; omega))
                        obtain ⟨ua534_0, uc534_0, rfl, ul534_0, ge534_0⟩ := Kd.FK_slice_open hMe534
                        have hv534_0 := hcc534 0 _ rfl
                        rw [Nat.add_zero, show ((Kd.slice 3 (Kd.int .i64))).sz = 1 from rfl, Nat.mul_one] at hv534_0
                        replace hv534_0 := Option.some.inj (hv534_0.symm.trans hx534_0)
                        injection hv534_0 with hva_ hvn_ hvc_
                        rw [hva_] at ge534_0
                        rw [hvc_] at ul534_0
                        have HL534_0 := aM (show Kd.V (Kd.int .i64) 3 _ w.heap.size _ _ (rd_L4 t515 x7_1) from Kd.V_mk ul534_0 ge534_0)
                        clear hva_ hvn_ hvc_ ge534_0 ul534_0
                        clear hcc534 hce534
                        have HR534_0 := aM hi534_0
                        have HC534_0 := aM hl534_0
                        clear hi534_0 hl534_0
                        replace p534 := eq_true p534
                        replace q534 := eq_true q534
                        have ea_ := Option.some.inj (hx530_0.symm.trans hx534_0)
                        injection ea_ with ea_ en_ ec_
                        subst ea_
                        subst ec_
                        clear en_
                        have p535 : 0 ≤ (0 : Int) := (by omega)
                        have q535 : 0 < ((rd_L4 t515 x7_1).length : Int) := aD
                        obtain ⟨ad535, e535, hx535_0⟩ := Kd.at_int (by repeat (first | (with_reducible exact HR534_0.out) | (with_reducible refine Kd.C_alloc ?_ _) | (with_reducible refine Kd.C_drewN ?_ _) | (with_reducible refine Kd.C_drew ?_) | exact HR534_0.out)) 0 p535 q535
                        cases e535
                        have qi535 : (0 < (rd_L4 t515 x7_1).length) = True := eq_true (by omega)
                        (try rw [show ((0 : Int)).toNat = 0 from rfl] at hx535_0)
                        (try rw [Addr.add_zero'] at hx535_0)
                        replace p535 := eq_true p535
                        replace q535 := eq_true q535
                        have p536 : 0 ≤ ((rd (rd_L4 t515 x7_1) 0) : Int) := aD
                        have q536 : (rd (rd_L4 t515 x7_1) 0) < (t511.length : Int) := aD
                        obtain ⟨ad536, A536_1, c536_1, e536, hx536_0, hx536_1, hl536_1, hi536_1⟩ := at_T35 (Kd.N_reads' HO_515001.out).2.2 (rd (rd_L4 t515 x7_1) 0) p536 q536
                        cases e536
                        obtain ⟨ce536, hce536, hMe536, hcc536⟩ := Kd.N_get HO_515001.out z35 (rd (rd_L4 t515 x7_1) 0) p536 (by first | exact q536 | exact aD | (have e_ := (Kd.N_reads' HO_515001.out).1; omega))
                        obtain ⟨ua536_1, uc536_1, rfl, ul536_1, ge536_1⟩ := k35_openF hMe536
                        have hv536_1 := hcc536 1 _ rfl
                        rw [add_field _ _ 1 (by omega)] at hv536_1
                        replace hv536_1 := Option.some.inj (hv536_1.symm.trans hx536_1)
                        injection hv536_1 with hva_ hvn_ hvc_
                        rw [hva_] at ge536_1
                        rw [hvc_] at ul536_1
                        have HL536_1 := aM (show Kd.V (Kd.int .i64) 3 _ w.heap.size _ _ ((rd_T35 t511 (rd (rd_L4 t515 x7_1) 0)).f1) from Kd.V_mk ul536_1 ge536_1)
                        clear hva_ hvn_ hvc_ ge536_1 ul536_1
                        clear hcc536 hce536
                        have HR536_1 := aM hi536_1
                        have HC536_1 := aM hl536_1
                        clear hi536_1 hl536_1
                        replace p536 := eq_true p536
                        replace q536 := eq_true q536
                        have p537 : 0 ≤ (x7_1 : Int) := aD
                        have q537 : x7_1 < (t515.length : Int) := aD
                        obtain ⟨ad537, A537_0, c537_0, e537, hx537_0, hl537_0, hi537_0⟩ := at_L4 (Kd.N_reads' HO_4.out).2.2 x7_1 p537 q537
                        obtain rfl : ad526 = ad537 := (by injection e537)
                        obtain ⟨ce537, hce537, hMe537, hcc537⟩ := Kd.N_get HO_4.out [] x7_1 p537 (by first | exact q537 | exact aD | (have e_ := (Kd.N_reads' HO_4.out).1; omega))
                        obtain ⟨ua537_0, uc537_0, rfl, ul537_0, ge537_0⟩ := Kd.FK_slice_open hMe537
                        have hv537_0 := hcc537 0 _ rfl
                        rw [Nat.add_zero, show ((Kd.slice 3 (Kd.int .i64))).sz = 1 from rfl, Nat.mul_one] at hv537_0
                        replace hv537_0 := Option.some.inj (hv537_0.symm.trans hx537_0)
                        injection hv537_0 with hva_ hvn_ hvc_
                        rw [hva_] at ge537_0
                        rw [hvc_] at ul537_0
                        have HL537_0 := aM (show Kd.V (Kd.int .i64) 3 _ w.heap.size _ _ (rd_L4 t515 x7_1) from Kd.V_mk ul537_0 ge537_0)
                        clear hva_ hvn_ hvc_ ge537_0 ul537_0
                        clear hcc537 hce537
                        have HR537_0 := aM hi537_0
                        have HC537_0 := aM hl537_0
                        clear hi537_0 hl537_0
                        replace p537 := eq_true p537
                        replace q537 := eq_true q537
                        have ea_ := Option.some.inj (hx530_0.symm.trans hx537_0)
                        injection ea_ with ea_ en_ ec_
                        subst ea_
                        subst ec_
                        clear en_
                        have p538 : 0 ≤ (x8_3 : Int) := aD
                        have q538 : x8_3 < ((rd_L4 t515 x7_1).length : Int) := aD
                        obtain ⟨ad538, e538, hx538_0⟩ := Kd.at_int (by repeat (first | (with_reducible exact HR537_0.out) | (with_reducible refine Kd.C_alloc ?_ _) | (with_reducible refine Kd.C_drewN ?_ _) | (with_reducible refine Kd.C_drew ?_) | exact HR537_0.out)) x8_3 p538 q538
                        cases e538
                        replace p538 := eq_true p538
                        replace q538 := eq_true q538
                        have p539 : 0 ≤ ((rd (rd_L4 t515 x7_1) x8_3) : Int) := aD
                        have q539 : (rd (rd_L4 t515 x7_1) x8_3) < (t511.length : Int) := aD
                        obtain ⟨ad539, A539_1, c539_1, e539, hx539_0, hx539_1, hl539_1, hi539_1⟩ := at_T35 (Kd.N_reads' HO_515001.out).2.2 (rd (rd_L4 t515 x7_1) x8_3) p539 q539
                        obtain rfl : ad536 = ad539 := (by injection e539)
                        obtain ⟨ce539, hce539, hMe539, hcc539⟩ := Kd.N_get HO_515001.out z35 (rd (rd_L4 t515 x7_1) x8_3) p539 (by first | exact q539 | exact aD | (have e_ := (Kd.N_reads' HO_515001.out).1; omega))
                        obtain ⟨ua539_1, uc539_1, rfl, ul539_1, ge539_1⟩ := k35_openF hMe539
                        have hv539_1 := hcc539 1 _ rfl
                        rw [add_field _ _ 1 (by omega)] at hv539_1
                        replace hv539_1 := Option.some.inj (hv539_1.symm.trans hx539_1)
                        injection hv539_1 with hva_ hvn_ hvc_
                        rw [hva_] at ge539_1
                        rw [hvc_] at ul539_1
                        have HL539_1 := aM (show Kd.V (Kd.int .i64) 3 _ w.heap.size _ _ ((rd_T35 t511 (rd (rd_L4 t515 x7_1) x8_3)).f1) from Kd.V_mk ul539_1 ge539_1)
                        clear hva_ hvn_ hvc_ ge539_1 ul539_1
                        clear hcc539 hce539
                        have HR539_1 := aM hi539_1
                        have HC539_1 := aM hl539_1
                        clear hi539_1 hl539_1
                        replace p539 := eq_true p539
                        replace q539 := eq_true q539
                        have p541 : 0 ≤ (x7_1 : Int) := aD
                        have q541 : x7_1 < (t515.length : Int) := aD
                        obtain ⟨ad541, A541_0, c541_0, e541, hx541_0, hl541_0, hi541_0⟩ := at_L4 (Kd.N_reads' HO_4.out).2.2 x7_1 p541 q541
                        obtain rfl : ad526 = ad541 := (by injection e541)
                        obtain ⟨ce541, hce541, hMe541, hcc541⟩ := Kd.N_get HO_4.out [] x7_1 p541 (by first | exact q541 | exact aD | (have e_ := (Kd.N_reads' HO_4.out).1; omega))
                        obtain ⟨ua541_0, uc541_0, rfl, ul541_0, ge541_0⟩ := Kd.FK_slice_open hMe541
                        have hv541_0 := hcc541 0 _ rfl
                        rw [Nat.add_zero, show ((Kd.slice 3 (Kd.int .i64))).sz = 1 from rfl, Nat.mul_one] at hv541_0
                        replace hv541_0 := Option.some.inj (hv541_0.symm.trans hx541_0)
                        injection hv541_0 with hva_ hvn_ hvc_
                        rw [hva_] at ge541_0
                        rw [hvc_] at ul541_0
                        have HL541_0 := aM (show Kd.V (Kd.int .i64) 3 _ w.heap.size _ _ (rd_L4 t515 x7_1) from Kd.V_mk ul541_0 ge541_0)
                        clear hva_ hvn_ hvc_ ge541_0 ul541_0
                        clear hcc541 hce541
                        have HR541_0 := aM hi541_0
                        have HC541_0 := aM hl541_0
                        clear hi541_0 hl541_0
                        replace p541 := eq_true p541
                        replace q541 := eq_true q541
                        have ea_ := Option.some.inj (hx530_0.symm.trans hx541_0)
                        injection ea_ with ea_ en_ ec_
                        subst ea_
                        subst ec_
                        clear en_
                        have p546 : 0 ≤ (x7_1 : Int) := aD
                        have q546 : x7_1 < (t515.length : Int) := aD
                        obtain ⟨ad546, A546_0, c546_0, e546, hx546_0, hl546_0, hi546_0⟩ := at_L4 (Kd.N_reads' HO_4.out).2.2 x7_1 p546 q546
                        obtain rfl : ad526 = ad546 := (by injection e546)
                        obtain ⟨ce546, hce546, hMe546, hcc546⟩ := Kd.N_get HO_4.out [] x7_1 p546 (by first | exact q546 | exact aD | (have e_ := (Kd.N_reads' HO_4.out).1; omega))
                        obtain ⟨ua546_0, uc546_0, rfl, ul546_0, ge546_0⟩ := Kd.FK_slice_open hMe546
                        have hv546_0 := hcc546 0 _ rfl
                        rw [Nat.add_zero, show ((Kd.slice 3 (Kd.int .i64))).sz = 1 from rfl, Nat.mul_one] at hv546_0
                        replace hv546_0 := Option.some.inj (hv546_0.symm.trans hx546_0)
                        injection hv546_0 with hva_ hvn_ hvc_
                        rw [hva_] at ge546_0
                        rw [hvc_] at ul546_0
                        have HL546_0 := aM (show Kd.V (Kd.int .i64) 3 _ w.heap.size _ _ (rd_L4 t515 x7_1) from Kd.V_mk ul546_0 ge546_0)
                        clear hva_ hvn_ hvc_ ge546_0 ul546_0
                        clear hcc546 hce546
                        have HR546_0 := aM hi546_0
                        have HC546_0 := aM hl546_0
                        clear hi546_0 hl546_0
                        replace p546 := eq_true p546
                        replace q546 := eq_true q546
                        have ea_ := Option.some.inj (hx530_0.symm.trans hx546_0)
                        injection ea_ with ea_ en_ ec_
                        subst ea_
                        subst ec_
                        clear en_
                        have p542 : 0 ≤ (x8_3 : Int) := aD
                        have q542 : x8_3 < ((rd_L4 t515 x7_1).length : Int) := aD
                        obtain ⟨ad542, e542, hx542_0⟩ := Kd.at_int (by repeat (first | (with_reducible exact HR541_0.out) | (with_reducible refine Kd.C_alloc ?_ _) | (with_reducible refine Kd.C_drewN ?_ _) | (with_reducible refine Kd.C_drew ?_) | exact HR541_0.out)) x8_3 p542 q542
                        cases e542
                        refine start_ (n := 65) (S := fun w' => w'.cell? ⟨gb514, 0, none⟩ = some (.slice Ao10 t508.length co10) ∧ w'.cell? ⟨gb514, 1, none⟩ = some (.slice (some ad536) t511.length co12) ∧ w'.cell? (ad526.add (x7_1).toNat) = some (.slice (some ad531) (rd_L4 t515 x7_1).length c530_0) ∧ w'.cell? (ad531.add (x8_3).toNat) = some (.int .i64 (rd (rd_L4 t515 x7_1) x8_3)) ∧ w'.cell? (ad526.add (x7_1).toNat) = some (.slice (some ad531) (rd_L4 t515 x7_1).length c530_0) ∧ w'.cell? (ad531.add (x8_3).toNat) = some (.int .i64 (rd (rd_L4 t515 x7_1) x8_3)) ∧ w'.cell? (ad526.add (x7_1).toNat) = some (.slice (some ad531) (rd_L4 t515 x7_1).length c530_0) ∧ w'.cell? ad531 = some (.int .i64 (rd (rd_L4 t515 x7_1) 0)) ∧ w'.cell? (ad536.add (((rd (rd_L4 t515 x7_1) 0)).toNat * 2)) = some (.int .i64 ((rd_T35 t511 (rd (rd_L4 t515 x7_1) 0)).f0)) ∧ w'.cell? ⟨(ad536.add (((rd (rd_L4 t515 x7_1) 0)).toNat * 2)).block, (ad536.add (((rd (rd_L4 t515 x7_1) 0)).toNat * 2)).off + 1, none⟩ = some (.slice A536_1 ((rd_T35 t511 (rd (rd_L4 t515 x7_1) 0)).f1).length c536_1) ∧ w'.cell? (ad526.add (x7_1).toNat) = some (.slice (some ad531) (rd_L4 t515 x7_1).length c530_0) ∧ w'.cell? (ad531.add (x8_3).toNat) = some (.int .i64 (rd (rd_L4 t515 x7_1) x8_3)) ∧ w'.cell? (ad536.add (((rd (rd_L4 t515 x7_1) x8_3)).toNat * 2)) = some (.int .i64 ((rd_T35 t511 (rd (rd_L4 t515 x7_1) x8_3)).f0)) ∧ w'.cell? ⟨(ad536.add (((rd (rd_L4 t515 x7_1) x8_3)).toNat * 2)).block, (ad536.add (((rd (rd_L4 t515 x7_1) x8_3)).toNat * 2)).off + 1, none⟩ = some (.slice A539_1 ((rd_T35 t511 (rd (rd_L4 t515 x7_1) x8_3)).f1).length c539_1) ∧ w'.cell? (ad526.add (x7_1).toNat) = some (.slice (some ad531) (rd_L4 t515 x7_1).length c530_0) ∧ w'.cell? (ad531.add (x8_3).toNat) = some (.int .i64 (rd (rd_L4 t515 x7_1) x8_3)) ∧ w'.cell? (ad526.add (x7_1).toNat) = some (.slice (some ad531) (rd_L4 t515 x7_1).length c530_0)) (ds := []) #[false, false, false, false, false, false, false, false, false, false, false, false, false, false, false, false, false, false, false, false, false, false, false, false, false, false, false, false, false, false, false, false, false, false, false, false, false, false, false, false, false, false, false, false, false, false, false, false, false, false, false, false, false, false, false, false, false, false, false, false, false, false, false, false, false] (by kernel_rfl) rfl rfl ⟨(blk_cell BK514.out 0).trans rfl, (blk_cell BK514.out 1).trans rfl, hx530_0, hx531_0, hx532_0, hx533_0, hx534_0, hx535_0, hx536_0, hx536_1, hx537_0, hx538_0, hx539_0, hx539_1, hx541_0, hx542_0, hx546_0⟩ (fun hHeld => ?_); refine with_tabW laws_FnBlocks.tab18 laws_FnBlocks.bits18 (fun HT_ HW_ => ?_)
                        clear hx542_0
                        generalize wr.drew = w37 at HO_4 HO_515000 HO_515001 HL529_0 BK514 HR526_0 HR527_0 HR529_0 HB HL530_0 HL532_0 HL534_0 HL536_1 HL537_0 HL539_1 HL541_0 HL546_0 HR530_0 HR532_0 HR534_0 HR536_1 HR537_0 HR539_1 HR541_0 HR546_0 hx530_0 hx531_0 hx532_0 hx533_0 hx534_0 hx535_0 hx536_0 hx536_1 hx537_0 hx538_0 hx539_0 hx539_1 hx541_0 hx546_0 hHeld ⊢
                        refine pU 0 57 ?_
                        refine pU 1 58 ?_
                        refine pU 2 59 ?_
                        refine pU 4 61 ?_
                        refine take_ (i := 3) (N := some 60) (v := ?_) (a' := ?_) #[true, true, true, true, true, false, false, false, false, false, false, false, false, false, false, false, false, false, false, false, false, false, false, false, false, false, false, false, false, false, false, false, false, false, false, false, false, false, false, false, false, false, false, false, false, false, false, false, false, false, false, false, false, false, false, false, false, false, false, false, false, false, false, false, false] rfl rfl (take_ofW HT_.out HW_.out (by kernel_rfl)) (fun _ _ _ h => h) (Or.inl ⟨by rfl, ?_⟩) hHeld ?_ ?_
                        rotate_left
                        ·rintro w' ⟨s0, s1, s2, s3, s4, s5, s6, s7, s8, s9, s10, s11, s12, s13, s14, s15, s16⟩
                         go_simp
                         with_reducible rfl
                        rotate_left
                        ·exact aP
                        refine pU 5 62 ?_
                        refine take_ (i := 6) (N := some 63) (v := ?_) (a' := ?_) #[true, true, true, true, true, true, true, false, false, false, false, false, false, false, false, false, false, false, false, false, false, false, false, false, false, false, false, false, false, false, false, false, false, false, false, false, false, false, false, false, false, false, false, false, false, false, false, false, false, false, false, false, false, false, false, false, false, false, false, false, false, false, false, false, false] rfl rfl (take_ofW HT_.out HW_.out (by kernel_rfl)) (fun _ _ _ h => h) (Or.inl ⟨by rfl, ?_⟩) hHeld ?_ ?_
                        rotate_left
                        ·rintro w' ⟨s0, s1, s2, s3, s4, s5, s6, s7, s8, s9, s10, s11, s12, s13, s14, s15, s16⟩
                         go_simp
                         with_reducible rfl
                        rotate_left
                        ·exact aP
                        refine pU 7 64 ?_
                        refine pU 8 65 ?_
                        refine pU 9 66 ?_
                        refine pU 10 67 ?_
                        refine pU 11 68 ?_
                        refine pU 13 70 ?_
                        refine pU 16 73 ?_
                        refine take_ (i := 12) (N := some 69) (v := ?_) (a' := ?_) #[true, true, true, true, true, true, true, true, true, true, true, true, true, true, false, false, true, false, false, false, false, false, false, false, false, false, false, false, false, false, false, false, false, false, false, false, false, false, false, false, false, false, false, false, false, false, false, false, false, false, false, false, false, false, false, false, false, false, false, false, false, false, false, false, false] rfl rfl (take_ofW HT_.out HW_.out (by kernel_rfl)) (fun _ _ _ h => h) (Or.inl ⟨by rfl, ?_⟩) hHeld ?_ ?_
                        rotate_left
                        ·rintro w' ⟨s0, s1, s2, s3, s4, s5, s6, s7, s8, s9, s10, s11, s12, s13, s14, s15, s16⟩
                         go_simp
                         with_reducible rfl
                        rotate_left
                        ·exact aP
                        refine pU 14 71 ?_
                        refine take_ (i := 15) (N := some 72) (v := ?_) (a' := ?_) #[true, true, true, true, true, true, true, true, true, true, true, true, true, true, true, true, true, false, false, false, false, false, false, false, false, false, false, false, false, false, false, false, false, false, false, false, false, false, false, false, false, false, false, false, false, false, false, false, false, false, false, false, false, false, false, false, false, false, false, false, false, false, false, false, false] rfl rfl (take_ofW HT_.out HW_.out (by kernel_rfl)) (fun _ _ _ h => h) (Or.inl ⟨by rfl, ?_⟩) hHeld ?_ ?_
                        rotate_left
                        ·rintro w' ⟨s0, s1, s2, s3, s4, s5, s6, s7, s8, s9, s10, s11, s12, s13, s14, s15, s16⟩
                         go_simp
                         with_reducible rfl
                        rotate_left
                        ·exact aP
                        refine take_ (i := 17) (N := some 74) (v := ?_) (a' := ?_) #[true, true, true, true, true, true, true, true, true, true, true, true, true, true, true, true, true, true, false, false, false, false, false, false, false, false, false, false, false, false, false, false, false, false, false, false, false, false, false, false, false, false, false, false, false, false, false, false, false, false, false, false, false, false, false, false, false, false, false, false, false, false, false, false, false] rfl rfl (take_ofW HT_.out HW_.out (by kernel_rfl)) (fun _ _ _ h => h) (Or.inl ⟨by rfl, ?_⟩) hHeld ?_ ?_
                        rotate_left
                        ·rintro w' ⟨s0, s1, s2, s3, s4, s5, s6, s7, s8, s9, s10, s11, s12, s13, s14, s15, s16⟩
                         go_simp
                         with_reducible rfl
                        rotate_left
                        ·exact aP
                        refine pU 18 75 ?_
                        refine pU 19 76 ?_
                        refine pU 20 77 ?_
                        refine pU 21 78 ?_
                        refine pU 22 79 ?_
                        refine pU 24 81 ?_
                        refine pU 26 83 ?_
                        refine pU 27 84 ?_
                        refine pU 28 85 ?_
                        refine pU 34 91 ?_
                        refine pU 36 93 ?_
                        refine pU 37 94 ?_
                        refine pU 38 95 ?_
                        refine pU 40 97 ?_
                        refine take_ (i := 23) (N := some 80) (v := ?_) (a' := ?_) #[true, true, true, true, true, true, true, true, true, true, true, true, true, true, true, true, true, true, true, true, true, true, true, true, true, false, true, true, true, false, false, false, false, false, true, false, true, true, true, false, true, false, false, false, false, false, false, false, false, false, false, false, false, false, false, false, false, false, false, false, false, false, false, false, false] rfl rfl (take_ofW HT_.out HW_.out (by kernel_rfl)) (fun _ _ _ h => h) (Or.inl ⟨by rfl, ?_⟩) hHeld ?_ ?_
                        rotate_left
                        ·rintro w' ⟨s0, s1, s2, s3, s4, s5, s6, s7, s8, s9, s10, s11, s12, s13, s14, s15, s16⟩
                         go_simp
                         with_reducible rfl
                        rotate_left
                        ·exact aP
                        refine take_ (i := 25) (N := some 82) (v := ?_) (a' := ?_) #[true, true, true, true, true, true, true, true, true, true, true, true, true, true, true, true, true, true, true, true, true, true, true, true, true, true, true, true, true, false, false, false, false, false, true, false, true, true, true, false, true, false, false, false, false, false, false, false, false, false, false, false, false, false, false, false, false, false, false, false, false, false, false, false, false] rfl rfl (take_ofW HT_.out HW_.out (by kernel_rfl)) (fun _ _ _ h => h) (Or.inl ⟨by rfl, ?_⟩) hHeld ?_ ?_
                        rotate_left
                        ·rintro w' ⟨s0, s1, s2, s3, s4, s5, s6, s7, s8, s9, s10, s11, s12, s13, s14, s15, s16⟩
                         go_simp
                         with_reducible rfl
                        rotate_left
                        ·exact aP
                        refine take_ (i := 29) (N := some 86) (v := ?_) (a' := ?_) #[true, true, true, true, true, true, true, true, true, true, true, true, true, true, true, true, true, true, true, true, true, true, true, true, true, true, true, true, true, true, false, false, false, false, true, false, true, true, true, false, true, false, false, false, false, false, false, false, false, false, false, false, false, false, false, false, false, false, false, false, false, false, false, false, false] rfl rfl (take_ofW HT_.out HW_.out (by kernel_rfl)) (fun _ _ _ h => h) (Or.inl ⟨by rfl, ?_⟩) hHeld ?_ ?_
                        rotate_left
                        ·rintro w' ⟨s0, s1, s2, s3, s4, s5, s6, s7, s8, s9, s10, s11, s12, s13, s14, s15, s16⟩
                         go_simp
                         with_reducible rfl
                        rotate_left
                        ·exact aP
                        refine pU 30 87 ?_
                        refine take_ (i := 31) (N := some 88) (v := ?_) (a' := ?_) #[true, true, true, true, true, true, true, true, true, true, true, true, true, true, true, true, true, true, true, true, true, true, true, true, true, true, true, true, true, true, true, true, false, false, true, false, true, true, true, false, true, false, false, false, false, false, false, false, false, false, false, false, false, false, false, false, false, false, false, false, false, false, false, false, false] rfl rfl (take_ofW HT_.out HW_.out (by kernel_rfl)) (fun _ _ _ h => h) (Or.inl ⟨by rfl, ?_⟩) hHeld ?_ ?_
                        rotate_left
                        ·rintro w' ⟨s0, s1, s2, s3, s4, s5, s6, s7, s8, s9, s10, s11, s12, s13, s14, s15, s16⟩
                         go_simp
                         with_reducible rfl
                        rotate_left
                        ·exact aP
                        refine pU 32 89 ?_
                        refine take_ (i := 33) (N := some 90) (v := ?_) (a' := ?_) #[true, true, true, true, true, true, true, true, true, true, true, true, true, true, true, true, true, true, true, true, true, true, true, true, true, true, true, true, true, true, true, true, true, true, true, false, true, true, true, false, true, false, false, false, false, false, false, false, false, false, false, false, false, false, false, false, false, false, false, false, false, false, false, false, false] rfl rfl (take_ofW HT_.out HW_.out (by kernel_rfl)) (fun _ _ _ h => h) (Or.inl ⟨by rfl, ?_⟩) hHeld ?_ ?_
                        rotate_left
                        ·rintro w' ⟨s0, s1, s2, s3, s4, s5, s6, s7, s8, s9, s10, s11, s12, s13, s14, s15, s16⟩
                         go_simp
                         with_reducible rfl
                        rotate_left
                        ·exact aP
                        refine take_ (i := 35) (N := some 92) (v := ?_) (a' := ?_) #[true, true, true, true, true, true, true, true, true, true, true, true, true, true, true, true, true, true, true, true, true, true, true, true, true, true, true, true, true, true, true, true, true, true, true, true, true, true, true, false, true, false, false, false, false, false, false, false, false, false, false, false, false, false, false, false, false, false, false, false, false, false, false, false, false] rfl rfl (take_ofW HT_.out HW_.out (by kernel_rfl)) (fun _ _ _ h => h) (Or.inl ⟨by rfl, ?_⟩) hHeld ?_ ?_
                        rotate_left
                        ·rintro w' ⟨s0, s1, s2, s3, s4, s5, s6, s7, s8, s9, s10, s11, s12, s13, s14, s15, s16⟩
                         go_simp
                         with_reducible rfl
                        rotate_left
                        ·exact aP
                        refine take_ (i := 39) (N := some 96) (v := ?_) (a' := ?_) #[true, true, true, true, true, true, true, true, true, true, true, true, true, true, true, true, true, true, true, true, true, true, true, true, true, true, true, true, true, true, true, true, true, true, true, true, true, true, true, true, true, false, false, false, false, false, false, false, false, false, false, false, false, false, false, false, false, false, false, false, false, false, false, false, false] rfl rfl (take_ofW HT_.out HW_.out (by kernel_rfl)) (fun _ _ _ h => h) (Or.inl ⟨by rfl, ?_⟩) hHeld ?_ ?_
                        rotate_left
                        ·rintro w' ⟨s0, s1, s2, s3, s4, s5, s6, s7, s8, s9, s10, s11, s12, s13, s14, s15, s16⟩
                         go_simp
                         with_reducible rfl
                        rotate_left
                        ·exact aP
                        refine pU 41 98 ?_
                        refine take_ (i := 42) (N := some 99) (v := ?_) (a' := ?_) #[true, true, true, true, true, true, true, true, true, true, true, true, true, true, true, true, true, true, true, true, true, true, true, true, true, true, true, true, true, true, true, true, true, true, true, true, true, true, true, true, true, true, true, false, false, false, false, false, false, false, false, false, false, false, false, false, false, false, false, false, false, false, false, false, false] rfl rfl (take_ofW HT_.out HW_.out (by kernel_rfl)) (fun _ _ _ h => h) (Or.inl ⟨by rfl, ?_⟩) hHeld ?_ ?_
                        rotate_left
                        ·rintro w' ⟨s0, s1, s2, s3, s4, s5, s6, s7, s8, s9, s10, s11, s12, s13, s14, s15, s16⟩
                         go_simp
                         with_reducible rfl
                        rotate_left
                        ·exact aP
                        refine pU 43 100 ?_
                        refine take_ (i := 44) (N := some 101) (v := ?_) (a' := ?_) #[true, true, true, true, true, true, true, true, true, true, true, true, true, true, true, true, true, true, true, true, true, true, true, true, true, true, true, true, true, true, true, true, true, true, true, true, true, true, true, true, true, true, true, true, true, false, false, false, false, false, false, false, false, false, false, false, false, false, false, false, false, false, false, false, false] rfl rfl (take_ofW HT_.out HW_.out (by kernel_rfl)) (fun _ _ _ h => h) (Or.inl ⟨by rfl, ?_⟩) hHeld ?_ ?_
                        rotate_left
                        ·rintro w' ⟨s0, s1, s2, s3, s4, s5, s6, s7, s8, s9, s10, s11, s12, s13, s14, s15, s16⟩
                         go_simp
                         with_reducible rfl
                        rotate_left
                        ·exact aP
                        refine oU 45 102 (fun K hK => ?_)
                        refine goes_ Try.func11 (by kernel_rfl) rfl #[.slice Ao10 t508.length co10, .agg #[.int .i64 ((rd_T35 t511 (rd (rd_L4 t515 x7_1) 0)).f0), .slice A536_1 ((rd_T35 t511 (rd (rd_L4 t515 x7_1) 0)).f1).length c536_1], .agg #[.int .i64 ((rd_T35 t511 (rd (rd_L4 t515 x7_1) x8_3)).f0), .slice A539_1 ((rd_T35 t511 (rd (rd_L4 t515 x7_1) x8_3)).f1).length c539_1]] (by rfl) rfl rfl aA ?_
                        with_reducible refine (spec_HaveSameKey.calls k3 _ _ t508 ((rd_T35 t511 (rd (rd_L4 t515 x7_1) 0)).f0) _ _ ((rd_T35 t511 (rd (rd_L4 t515 x7_1) 0)).f1) ((rd_T35 t511 (rd (rd_L4 t515 x7_1) x8_3)).f0) _ _ ((rd_T35 t511 (rd (rd_L4 t515 x7_1) x8_3)).f1) true _ ?side1 ?side2 ?side3 ?side4 ?side5 ?side6 A32.out).mono ?_
                        (case side1 => repeat (first | exact (Kd.R_reads' HO_515000.out).2.2 | (with_reducible refine Kd.C_alloc ?_ _) | (with_reducible refine Kd.C_drewN ?_ _) | (with_reducible refine Kd.C_drew ?_)))
                        (case side2 => exact (Kd.R_reads' HO_515000.out).2.1)
                        (case side3 => repeat (first | exact (by repeat (first | (with_reducible exact HR536_1.out) | (with_reducible refine Kd.C_alloc ?_ _) | (with_reducible refine Kd.C_drewN ?_ _) | (with_reducible refine Kd.C_drew ?_) | exact HR536_1.out)) | (with_reducible refine Kd.C_alloc ?_ _) | (with_reducible refine Kd.C_drewN ?_ _) | (with_reducible refine Kd.C_drew ?_)))
                        (case side4 => exact HC536_1.out)
                        (case side5 => repeat (first | exact (by repeat (first | (with_reducible exact HR539_1.out) | (with_reducible refine Kd.C_alloc ?_ _) | (with_reducible refine Kd.C_drewN ?_ _) | (with_reducible refine Kd.C_drew ?_) | exact HR539_1.out)) | (with_reducible refine Kd.C_alloc ?_ _) | (with_reducible refine Kd.C_drewN ?_ _) | (with_reducible refine Kd.C_drew ?_)))
                        (case side6 => exact HC539_1.out)
                        rintro e w38 ⟨rfl, hb⟩
                        have HS2_ := (hb.cell (World.block_lt_of_cell? _ _ (hHeld.2.2.1))).trans (hHeld.2.2.1)
                        have HS3_ := (hb.cell (World.block_lt_of_cell? _ _ (hHeld.2.2.2.1))).trans (hHeld.2.2.2.1)
                        have HS4_ := (hb.cell (World.block_lt_of_cell? _ _ (hHeld.2.2.2.2.1))).trans (hHeld.2.2.2.2.1)
                        have HS5_ := (hb.cell (World.block_lt_of_cell? _ _ (hHeld.2.2.2.2.2.1))).trans (hHeld.2.2.2.2.2.1)
                        have HS6_ := (hb.cell (World.block_lt_of_cell? _ _ (hHeld.2.2.2.2.2.2.1))).trans (hHeld.2.2.2.2.2.2.1)
                        have HS7_ := (hb.cell (World.block_lt_of_cell? _ _ (hHeld.2.2.2.2.2.2.2.1))).trans (hHeld.2.2.2.2.2.2.2.1)
                        have HS8_ := (hb.cell (World.block_lt_of_cell? _ _ (hHeld.2.2.2.2.2.2.2.2.1))).trans (hHeld.2.2.2.2.2.2.2.2.1)
                        have HS9_ := (hb.cell (World.block_lt_of_cell? _ _ (hHeld.2.2.2.2.2.2.2.2.2.1))).trans (hHeld.2.2.2.2.2.2.2.2.2.1)
                        have HS10_ := (hb.cell (World.block_lt_of_cell? _ _ (hHeld.2.2.2.2.2.2.2.2.2.2.1))).trans (hHeld.2.2.2.2.2.2.2.2.2.2.1)
                        have HS11_ := (hb.cell (World.block_lt_of_cell? _ _ (hHeld.2.2.2.2.2.2.2.2.2.2.2.1))).trans (hHeld.2.2.2.2.2.2.2.2.2.2.2.1)
                        have HS12_ := (hb.cell (World.block_lt_of_cell? _ _ (hHeld.2.2.2.2.2.2.2.2.2.2.2.2.1))).trans (hHeld.2.2.2.2.2.2.2.2.2.2.2.2.1)
                        have HS13_ := (hb.cell (World.block_lt_of_cell? _ _ (hHeld.2.2.2.2.2.2.2.2.2.2.2.2.2.1))).trans (hHeld.2.2.2.2.2.2.2.2.2.2.2.2.2.1)
                        have HS14_ := (hb.cell (World.block_lt_of_cell? _ _ (hHeld.2.2.2.2.2.2.2.2.2.2.2.2.2.2.1))).trans (hHeld.2.2.2.2.2.2.2.2.2.2.2.2.2.2.1)
                        have HS15_ := (hb.cell (World.block_lt_of_cell? _ _ (hHeld.2.2.2.2.2.2.2.2.2.2.2.2.2.2.2.1))).trans (hHeld.2.2.2.2.2.2.2.2.2.2.2.2.2.2.2.1)
                        have HS16_ := (hb.cell (World.block_lt_of_cell? _ _ (hHeld.2.2.2.2.2.2.2.2.2.2.2.2.2.2.2.2))).trans (hHeld.2.2.2.2.2.2.2.2.2.2.2.2.2.2.2.2)
                        refine ⟨_, rfl, ?_⟩
                        replace HO_4 := aM (Kd.N_below (aN HO_4) hb)
                        replace HO_515000 := aM (Kd.R_below (aR HO_515000) hb)
                        replace HO_515001 := aM (Kd.N_below (aN HO_515001) hb)
                        replace HL529_0 := aM (Kd.V_below (aV HL529_0) hb)
                        replace HL530_0 := aM (Kd.V_below (aV HL530_0) hb)
                        replace HL532_0 := aM (Kd.V_below (aV HL532_0) hb)
                        replace HL534_0 := aM (Kd.V_below (aV HL534_0) hb)
                        replace HL536_1 := aM (Kd.V_below (aV HL536_1) hb)
                        replace HL537_0 := aM (Kd.V_below (aV HL537_0) hb)
                        replace HL539_1 := aM (Kd.V_below (aV HL539_1) hb)
                        replace HL541_0 := aM (Kd.V_below (aV HL541_0) hb)
                        replace HL546_0 := aM (Kd.V_below (aV HL546_0) hb)
                        replace BK514 := aM (blk_below (g := gb514) (o := .cells #[.slice Ao10 t508.length co10, .slice (some ad536) t511.length co12] 27 (0, 0)) aK hb)
                        replace HR526_0 := aM (Kd.C_below (by repeat (first | (with_reducible exact HR526_0.out) | (with_reducible refine Kd.C_alloc ?_ _) | (with_reducible refine Kd.C_drewN ?_ _) | (with_reducible refine Kd.C_drew ?_) | exact HR526_0.out)) hb)
                        replace HR527_0 := aM (Kd.C_below (by repeat (first | (with_reducible exact HR527_0.out) | (with_reducible refine Kd.C_alloc ?_ _) | (with_reducible refine Kd.C_drewN ?_ _) | (with_reducible refine Kd.C_drew ?_) | exact HR527_0.out)) hb)
                        replace HR529_0 := aM (Kd.C_below (by repeat (first | (with_reducible exact HR529_0.out) | (with_reducible refine Kd.C_alloc ?_ _) | (with_reducible refine Kd.C_drewN ?_ _) | (with_reducible refine Kd.C_drew ?_) | exact HR529_0.out)) hb)
                        replace HR530_0 := aM (Kd.C_below (by repeat (first | (with_reducible exact HR530_0.out) | (with_reducible refine Kd.C_alloc ?_ _) | (with_reducible refine Kd.C_drewN ?_ _) | (with_reducible refine Kd.C_drew ?_) | exact HR530_0.out)) hb)
                        replace HR532_0 := aM (Kd.C_below (by repeat (first | (with_reducible exact HR532_0.out) | (with_reducible refine Kd.C_alloc ?_ _) | (with_reducible refine Kd.C_drewN ?_ _) | (with_reducible refine Kd.C_drew ?_) | exact HR532_0.out)) hb)
                        replace HR534_0 := aM (Kd.C_below (by repeat (first | (with_reducible exact HR534_0.out) | (with_reducible refine Kd.C_alloc ?_ _) | (with_reducible refine Kd.C_drewN ?_ _) | (with_reducible refine Kd.C_drew ?_) | exact HR534_0.out)) hb)
                        replace HR536_1 := aM (Kd.C_below (by repeat (first | (with_reducible exact HR536_1.out) | (with_reducible refine Kd.C_alloc ?_ _) | (with_reducible refine Kd.C_drewN ?_ _) | (with_reducible refine Kd.C_drew ?_) | exact HR536_1.out)) hb)
                        replace HR537_0 := aM (Kd.C_below (by repeat (first | (with_reducible exact HR537_0.out) | (with_reducible refine Kd.C_alloc ?_ _) | (with_reducible refine Kd.C_drewN ?_ _) | (with_reducible refine Kd.C_drew ?_) | exact HR537_0.out)) hb)
                        replace HR539_1 := aM (Kd.C_below (by repeat (first | (with_reducible exact HR539_1.out) | (with_reducible refine Kd.C_alloc ?_ _) | (with_reducible refine Kd.C_drewN ?_ _) | (with_reducible refine Kd.C_drew ?_) | exact HR539_1.out)) hb)
                        replace HR541_0 := aM (Kd.C_below (by repeat (first | (with_reducible exact HR541_0.out) | (with_reducible refine Kd.C_alloc ?_ _) | (with_reducible refine Kd.C_drewN ?_ _) | (with_reducible refine Kd.C_drew ?_) | exact HR541_0.out)) hb)
                        replace HR546_0 := aM (Kd.C_below (by repeat (first | (with_reducible exact HR546_0.out) | (with_reducible refine Kd.C_alloc ?_ _) | (with_reducible refine Kd.C_drewN ?_ _) | (with_reducible refine Kd.C_drew ?_) | exact HR546_0.out)) hb)
                        replace HB := aM (below_step aG hb)
                        (try clear hb)
                        (try clear hb2)
                        (try clear hk)
                        (try clear hi)
                        have hx542_0 := HS15_
                        replace p542 := eq_true p542
                        replace q542 := eq_true q542
                        refine hK.out _ _ ⟨(blk_cell BK514.out 0).trans rfl, (blk_cell BK514.out 1).trans rfl, HS2_, HS3_, HS4_, HS5_, HS6_, HS7_, HS8_, HS9_, HS10_, HS11_, HS12_, HS13_, HS14_, HS15_, HS16_⟩ (fun hHeld => ?_)
                        clear hK K
                        refine nU 102 ?_
                        refine pU 46 103 ?_
                        refine pU 47 104 ?_
                        refine pU 48 105 ?_
                        refine pU 50 107 ?_
                        refine pU 51 108 ?_
                        refine pU 52 109 ?_
                        refine pU 54 111 ?_
                        refine pU 58 115 ?_
                        refine pU 59 116 ?_
                        refine pU 60 117 ?_
                        refine take_ (i := 49) (N := some 106) (v := ?_) (a' := ?_) #[true, true, true, true, true, true, true, true, true, true, true, true, true, true, true, true, true, true, true, true, true, true, true, true, true, true, true, true, true, true, true, true, true, true, true, true, true, true, true, true, true, true, true, true, true, true, true, true, true, true, true, true, true, false, true, false, false, false, true, true, true, false, false, false, false] rfl rfl (take_ofW HT_.out HW_.out (by kernel_rfl)) (fun _ _ _ h => h) (Or.inl ⟨by rfl, ?_⟩) hHeld ?_ ?_
                        rotate_left
                        ·rintro w' ⟨s0, s1, s2, s3, s4, s5, s6, s7, s8, s9, s10, s11, s12, s13, s14, s15, s16⟩
                         go_simp
                         with_reducible rfl
                        rotate_left
                        ·exact aP
                        refine take_ (i := 53) (N := some 110) (v := ?_) (a' := ?_) #[true, true, true, true, true, true, true, true, true, true, true, true, true, true, true, true, true, true, true, true, true, true, true, true, true, true, true, true, true, true, true, true, true, true, true, true, true, true, true, true, true, true, true, true, true, true, true, true, true, true, true, true, true, true, true, false, false, false, true, true, true, false, false, false, false] rfl rfl (take_ofW HT_.out HW_.out (by kernel_rfl)) (fun _ _ _ h => h) (Or.inl ⟨by rfl, ?_⟩) hHeld ?_ ?_
                        rotate_left
                        ·rintro w' ⟨s0, s1, s2, s3, s4, s5, s6, s7, s8, s9, s10, s11, s12, s13, s14, s15, s16⟩
                         go_simp
                         with_reducible rfl
                        rotate_left
                        ·exact aP
                        refine pU 55 112 ?_
                        refine take_ (i := 56) (N := some 113) (v := ?_) (a' := ?_) #[true, true, true, true, true, true, true, true, true, true, true, true, true, true, true, true, true, true, true, true, true, true, true, true, true, true, true, true, true, true, true, true, true, true, true, true, true, true, true, true, true, true, true, true, true, true, true, true, true, true, true, true, true, true, true, true, true, false, true, true, true, false, false, false, false] rfl rfl (take_ofW HT_.out HW_.out (by kernel_rfl)) (fun _ _ _ h => h) (Or.inl ⟨by rfl, ?_⟩) hHeld ?_ ?_
                        rotate_left
                        ·rintro w' ⟨s0, s1, s2, s3, s4, s5, s6, s7, s8, s9, s10, s11, s12, s13, s14, s15, s16⟩
                         go_simp
                         with_reducible rfl
                        rotate_left
                        ·exact aP
                        refine take_ (i := 61) (N := some 118) (v := ?_) (a' := ?_) #[true, true, true, true, true, true, true, true, true, true, true, true, true, true, true, true, true, true, true, true, true, true, true, true, true, true, true, true, true, true, true, true, true, true, true, true, true, true, true, true, true, true, true, true, true, true, true, true, true, true, true, true, true, true, true, true, true, false, true, true, true, true, false, false, false] rfl rfl (take_ofW HT_.out HW_.out (by kernel_rfl)) (fun _ _ _ h => h) (Or.inl ⟨by rfl, ?_⟩) hHeld ?_ ?_
                        rotate_left
                        ·rintro w' ⟨s0, s1, s2, s3, s4, s5, s6, s7, s8, s9, s10, s11, s12, s13, s14, s15, s16⟩
                         go_simp
                         with_reducible rfl
                        rotate_left
                        ·exact aP
                        refine oU 57 114 (fun K hK => ?_)
                        refine goes_ Try.func13 (by kernel_rfl) rfl #[.agg #[.slice Ao10 t508.length co10, .slice (some ad536) t511.length co12], .int .i64 (rd (rd_L4 t515 x7_1) x8_3)] (by rfl) rfl rfl aA ?_
                        with_reducible refine (impl_BlockOf.calls k3 _ _ t508 _ _ t511 (rd (rd_L4 t515 x7_1) x8_3) t543 _ ?side1 ?side2 ?side3 ?side4 A34.out).mono ?_
                        (case side1 => repeat (first | exact (Kd.R_reads' HO_515000.out).2.2 | (with_reducible refine Kd.C_alloc ?_ _) | (with_reducible refine Kd.C_drewN ?_ _) | (with_reducible refine Kd.C_drew ?_)))
                        (case side2 => exact (Kd.R_reads' HO_515000.out).2.1)
                        (case side3 => repeat (first | exact (Kd.N_reads' HO_515001.out).2.2 | (with_reducible refine Kd.C_alloc ?_ _) | (with_reducible refine Kd.C_drewN ?_ _) | (with_reducible refine Kd.C_drew ?_)))
                        (case side4 => exact (Kd.N_reads' HO_515001.out).2.1)
                        rintro e w39 ⟨v544, rfl, ho0, hb⟩
                        have HS2_ := (hb.cell (World.block_lt_of_cell? _ _ (hHeld.2.2.1))).trans (hHeld.2.2.1)
                        have HS3_ := (hb.cell (World.block_lt_of_cell? _ _ (hHeld.2.2.2.1))).trans (hHeld.2.2.2.1)
                        have HS4_ := (hb.cell (World.block_lt_of_cell? _ _ (hHeld.2.2.2.2.1))).trans (hHeld.2.2.2.2.1)
                        have HS5_ := (hb.cell (World.block_lt_of_cell? _ _ (hHeld.2.2.2.2.2.1))).trans (hHeld.2.2.2.2.2.1)
                        have HS6_ := (hb.cell (World.block_lt_of_cell? _ _ (hHeld.2.2.2.2.2.2.1))).trans (hHeld.2.2.2.2.2.2.1)
                        have HS7_ := (hb.cell (World.block_lt_of_cell? _ _ (hHeld.2.2.2.2.2.2.2.1))).trans (hHeld.2.2.2.2.2.2.2.1)
                        have HS8_ := (hb.cell (World.block_lt_of_cell? _ _ (hHeld.2.2.2.2.2.2.2.2.1))).trans (hHeld.2.2.2.2.2.2.2.2.1)
                        have HS9_ := (hb.cell (World.block_lt_of_cell? _ _ (hHeld.2.2.2.2.2.2.2.2.2.1))).trans (hHeld.2.2.2.2.2.2.2.2.2.1)
                        have HS10_ := (hb.cell (World.block_lt_of_cell? _ _ (hHeld.2.2.2.2.2.2.2.2.2.2.1))).trans (hHeld.2.2.2.2.2.2.2.2.2.2.1)
                        have HS11_ := (hb.cell (World.block_lt_of_cell? _ _ (hHeld.2.2.2.2.2.2.2.2.2.2.2.1))).trans (hHeld.2.2.2.2.2.2.2.2.2.2.2.1)
                        have HS12_ := (hb.cell (World.block_lt_of_cell? _ _ (hHeld.2.2.2.2.2.2.2.2.2.2.2.2.1))).trans (hHeld.2.2.2.2.2.2.2.2.2.2.2.2.1)
                        have HS13_ := (hb.cell (World.block_lt_of_cell? _ _ (hHeld.2.2.2.2.2.2.2.2.2.2.2.2.2.1))).trans (hHeld.2.2.2.2.2.2.2.2.2.2.2.2.2.1)
                        have HS14_ := (hb.cell (World.block_lt_of_cell? _ _ (hHeld.2.2.2.2.2.2.2.2.2.2.2.2.2.2.1))).trans (hHeld.2.2.2.2.2.2.2.2.2.2.2.2.2.2.1)
                        have HS15_ := (hb.cell (World.block_lt_of_cell? _ _ (hHeld.2.2.2.2.2.2.2.2.2.2.2.2.2.2.2.1))).trans (hHeld.2.2.2.2.2.2.2.2.2.2.2.2.2.2.2.1)
                        have HS16_ := (hb.cell (World.block_lt_of_cell? _ _ (hHeld.2.2.2.2.2.2.2.2.2.2.2.2.2.2.2.2))).trans (hHeld.2.2.2.2.2.2.2.2.2.2.2.2.2.2.2.2)
                        refine ⟨_, rfl, ?_⟩
                        have HO545 := aM (Kd.R_lower ho0 (below_size aG))
                        replace HO_4 := aM (Kd.N_elder' (aN HO_4) (Kd.R_base ho0) hb)
                        replace HO_515000 := aM (Kd.R_below (aR HO_515000) hb)
                        replace HO_515001 := aM (Kd.N_elder' (aN HO_515001) (Kd.R_base ho0) hb)
                        replace HL529_0 := aM (Kd.V_elder' (aV HL529_0) (Kd.R_base ho0) hb)
                        replace HL530_0 := aM (Kd.V_elder' (aV HL530_0) (Kd.R_base ho0) hb)
                        replace HL532_0 := aM (Kd.V_elder' (aV HL532_0) (Kd.R_base ho0) hb)
                        replace HL534_0 := aM (Kd.V_elder' (aV HL534_0) (Kd.R_base ho0) hb)
                        replace HL536_1 := aM (Kd.V_elder' (aV HL536_1) (Kd.R_base ho0) hb)
                        replace HL537_0 := aM (Kd.V_elder' (aV HL537_0) (Kd.R_base ho0) hb)
                        replace HL539_1 := aM (Kd.V_elder' (aV HL539_1) (Kd.R_base ho0) hb)
                        replace HL541_0 := aM (Kd.V_elder' (aV HL541_0) (Kd.R_base ho0) hb)
                        replace HL546_0 := aM (Kd.V_elder' (aV HL546_0) (Kd.R_base ho0) hb)
                        replace BK514 := aM (blk_below (g := gb514) (o := .cells #[.slice Ao10 t508.length co10, .slice (some ad536) t511.length co12] 27 (0, 0)) aK hb)
                        replace HR526_0 := aM (Kd.C_below (by repeat (first | (with_reducible exact HR526_0.out) | (with_reducible refine Kd.C_alloc ?_ _) | (with_reducible refine Kd.C_drewN ?_ _) | (with_reducible refine Kd.C_drew ?_) | exact HR526_0.out)) hb)
                        replace HR527_0 := aM (Kd.C_below (by repeat (first | (with_reducible exact HR527_0.out) | (with_reducible refine Kd.C_alloc ?_ _) | (with_reducible refine Kd.C_drewN ?_ _) | (with_reducible refine Kd.C_drew ?_) | exact HR527_0.out)) hb)
                        replace HR529_0 := aM (Kd.C_below (by repeat (first | (with_reducible exact HR529_0.out) | (with_reducible refine Kd.C_alloc ?_ _) | (with_reducible refine Kd.C_drewN ?_ _) | (with_reducible refine Kd.C_drew ?_) | exact HR529_0.out)) hb)
                        replace HR530_0 := aM (Kd.C_below (by repeat (first | (with_reducible exact HR530_0.out) | (with_reducible refine Kd.C_alloc ?_ _) | (with_reducible refine Kd.C_drewN ?_ _) | (with_reducible refine Kd.C_drew ?_) | exact HR530_0.out)) hb)
                        replace HR532_0 := aM (Kd.C_below (by repeat (first | (with_reducible exact HR532_0.out) | (with_reducible refine Kd.C_alloc ?_ _) | (with_reducible refine Kd.C_drewN ?_ _) | (with_reducible refine Kd.C_drew ?_) | exact HR532_0.out)) hb)
                        replace HR534_0 := aM (Kd.C_below (by repeat (first | (with_reducible exact HR534_0.out) | (with_reducible refine Kd.C_alloc ?_ _) | (with_reducible refine Kd.C_drewN ?_ _) | (with_reducible refine Kd.C_drew ?_) | exact HR534_0.out)) hb)
                        replace HR536_1 := aM (Kd.C_below (by repeat (first | (with_reducible exact HR536_1.out) | (with_reducible refine Kd.C_alloc ?_ _) | (with_reducible refine Kd.C_drewN ?_ _) | (with_reducible refine Kd.C_drew ?_) | exact HR536_1.out)) hb)
                        replace HR537_0 := aM (Kd.C_below (by repeat (first | (with_reducible exact HR537_0.out) | (with_reducible refine Kd.C_alloc ?_ _) | (with_reducible refine Kd.C_drewN ?_ _) | (with_reducible refine Kd.C_drew ?_) | exact HR537_0.out)) hb)
                        replace HR539_1 := aM (Kd.C_below (by repeat (first | (with_reducible exact HR539_1.out) | (with_reducible refine Kd.C_alloc ?_ _) | (with_reducible refine Kd.C_drewN ?_ _) | (with_reducible refine Kd.C_drew ?_) | exact HR539_1.out)) hb)
                        replace HR541_0 := aM (Kd.C_below (by repeat (first | (with_reducible exact HR541_0.out) | (with_reducible refine Kd.C_alloc ?_ _) | (with_reducible refine Kd.C_drewN ?_ _) | (with_reducible refine Kd.C_drew ?_) | exact HR541_0.out)) hb)
                        replace HR546_0 := aM (Kd.C_below (by repeat (first | (with_reducible exact HR546_0.out) | (with_reducible refine Kd.C_alloc ?_ _) | (with_reducible refine Kd.C_drewN ?_ _) | (with_reducible refine Kd.C_drew ?_) | exact HR546_0.out)) hb)
                        replace HB := aM (below_step aG hb)
                        (try clear hb)
                        (try clear hb2)
                        (try clear hk)
                        (try clear hi)
                        (try clear ho0)
                        obtain ⟨Ao40, co40, eo40⟩ := Kd.R_slice HO545.out
                        (first | subst eo40 | (injection eo40 with f1_ f2_ f3_; have f4_ := f1_.symm; have f5_ := f3_.symm; clear f1_ f2_ f3_; subst f4_; subst f5_))
                        refine hK.out _ _ ⟨(blk_cell BK514.out 0).trans rfl, (blk_cell BK514.out 1).trans rfl, HS2_, HS3_, HS4_, HS5_, HS6_, HS7_, HS8_, HS9_, HS10_, HS11_, HS12_, HS13_, HS14_, HS15_, HS16_⟩ (fun hHeld => ?_)
                        clear hK K
                        refine nU 114 ?_
                        refine oU 62 119 (fun K hK => ?_)
                        refine goes_ Try.func12 (by kernel_rfl) rfl #[.slice Ao40 t543.length co40, .slice (some ad531) (rd_L4 t515 x7_1).length c530_0] (by rfl) rfl rfl aA ?_
                        with_reducible refine (laws_sameInts.calls k3 _ _ t543 _ _ (rd_L4 t515 x7_1) true _ ?side1 ?side2 ?side3 ?side4 A35.out).mono ?_
                        (case side1 => repeat (first | exact (Kd.R_reads' HO545.out).2.2 | (with_reducible refine Kd.C_alloc ?_ _) | (with_reducible refine Kd.C_drewN ?_ _) | (with_reducible refine Kd.C_drew ?_)))
                        (case side2 => exact (Kd.R_reads' HO545.out).2.1)
                        (case side3 => repeat (first | exact (by repeat (first | (with_reducible exact HR546_0.out) | (with_reducible refine Kd.C_alloc ?_ _) | (with_reducible refine Kd.C_drewN ?_ _) | (with_reducible refine Kd.C_drew ?_) | exact HR546_0.out)) | (with_reducible refine Kd.C_alloc ?_ _) | (with_reducible refine Kd.C_drewN ?_ _) | (with_reducible refine Kd.C_drew ?_)))
                        (case side4 => exact HC546_0.out)
                        rintro e w' ⟨rfl, ⟨nd, rfl⟩⟩
                        refine ⟨_, rfl, ?_⟩
                        refine hK.out _ _ ⟨(blk_cell BK514.out 0).trans rfl, (blk_cell BK514.out 1).trans rfl, hHeld.2.2.1, hHeld.2.2.2.1, hHeld.2.2.2.2.1, hHeld.2.2.2.2.2.1, hHeld.2.2.2.2.2.2.1, hHeld.2.2.2.2.2.2.2.1, hHeld.2.2.2.2.2.2.2.2.1, hHeld.2.2.2.2.2.2.2.2.2.1, hHeld.2.2.2.2.2.2.2.2.2.2.1, hHeld.2.2.2.2.2.2.2.2.2.2.2.1, hHeld.2.2.2.2.2.2.2.2.2.2.2.2.1, hHeld.2.2.2.2.2.2.2.2.2.2.2.2.2.1, hHeld.2.2.2.2.2.2.2.2.2.2.2.2.2.2.1, hHeld.2.2.2.2.2.2.2.2.2.2.2.2.2.2.2.1, hHeld.2.2.2.2.2.2.2.2.2.2.2.2.2.2.2.2⟩ (fun hHeld => ?_)
                        clear hK K
                        refine nU 119 ?_
                        refine pU 63 120 ?_
                        refine pU 64 121 ?_
                        refine done_ (done_of HT_.out (by kernel_rfl)) ?_
                        try go_wp2
                        go_roundg k3
                        case measure => have := HK1.out; have := HJ17.out; have := HK3.out; omega
                        case rel => exact ⟨(wrap64 (x8_3 + 1)), aX, H', ⟨by have := HK1.out; have := HJ17.out; have := HK3.out; omega⟩, ⟨by (with_reducible repeat (first | apply Kd.N_alloc | apply Kd.N_drewN | apply Kd.N_drew)); exact Kd.N_mono HO_4.out (fun _ hk => ⟨hk.1.1, ⟨hk.1.2.1, hk.1.2.2⟩⟩)⟩, ⟨aR HO_515000⟩, ⟨by (with_reducible repeat (first | apply Kd.N_alloc | apply Kd.N_drewN | apply Kd.N_drew)); exact Kd.N_mono HO_515001.out (fun _ hk => ⟨hk.1.1, ⟨hk.1.2.1, hk.1.2.2⟩⟩)⟩, ⟨aK⟩, ⟨by repeat (first | (with_reducible exact HR526_0.out) | (with_reducible refine Kd.C_alloc ?_ _) | (with_reducible refine Kd.C_drewN ?_ _) | (with_reducible refine Kd.C_drew ?_) | exact HR526_0.out)⟩, ⟨by repeat (first | (with_reducible exact HR527_0.out) | (with_reducible refine Kd.C_alloc ?_ _) | (with_reducible refine Kd.C_drewN ?_ _) | (with_reducible refine Kd.C_drew ?_) | exact HR527_0.out)⟩, ⟨aG⟩⟩
                       ·replace c36 := Bool.eq_false_iff.mpr c36
                        subst c36
                        have H1 : (some false) = some r := by rw [if_neg (show ¬ (false = true) by decide)] at H; exact H
                        clear H
                        have H := H1
                        clear H1
                        exact absurd (Option.some.inj (H.trans (congrArg some HRT_.out))) (by decide)
                      ·replace c33 := Bool.eq_false_iff.mpr c33
                       subst c33
                       have H1 : (some false) = some r := by rw [if_neg (show ¬ (false = true) by decide)] at H; exact H
                       clear H
                       have H := H1
                       clear H1
                       exact absurd (Option.some.inj (H.trans (congrArg some HRT_.out))) (by decide)
                     ·rw [if_neg c31] at H
                      exact absurd H (by simp)
                    ·rw [if_neg c30] at H
                     exact absurd H (by simp)
                   ·rw [if_neg c29] at H
                    exact absurd H (by simp)
                  ·rw [if_neg c28] at H
                   exact absurd H (by simp)
                 ·rw [if_neg c27] at H
                  exact absurd H (by simp)
              ·rw [if_neg c24] at H
               exact absurd H (by simp)
             ·rw [if_neg c23] at H
              have c23b0 : decide (x8_3 < ((rd_L4 t515 x7_1).length : Int)) = false := decide_eq_false c23
              clear c23
              have H' := aM H
              clear H
              have p529 : 0 ≤ (x7_1 : Int) := aD
              have q529 : x7_1 < (t515.length : Int) := aD
              obtain ⟨ad529, A529_0, c529_0, e529, hx529_0, hl529_0, hi529_0⟩ := at_L4 (Kd.N_reads' HO_4.out).2.2 x7_1 p529 q529
              obtain rfl : ad526 = ad529 := (by injection e529)
              obtain ⟨ce529, hce529, hMe529, hcc529⟩ := Kd.N_get HO_4.out [] x7_1 p529 (by first | exact q529 | exact aD | (have e_ := (Kd.N_reads' HO_4.out).1; omega))
              obtain ⟨ua529_0, uc529_0, rfl, ul529_0, ge529_0⟩ := Kd.FK_slice_open hMe529
              have hv529_0 := hcc529 0 _ rfl
              rw [Nat.add_zero, show ((Kd.slice 3 (Kd.int .i64))).sz = 1 from rfl, Nat.mul_one] at hv529_0
              replace hv529_0 := Option.some.inj (hv529_0.symm.trans hx529_0)
              injection hv529_0 with hva_ hvn_ hvc_
              rw [hva_] at ge529_0
              rw [hvc_] at ul529_0
              have HL529_0 := aM (show Kd.V (Kd.int .i64) 3 _ w.heap.size _ _ (rd_L4 t515 x7_1) from Kd.V_mk ul529_0 ge529_0)
              clear hva_ hvn_ hvc_ ge529_0 ul529_0
              clear hcc529 hce529
              have HR529_0 := aM hi529_0
              have HC529_0 := aM hl529_0
              clear hi529_0 hl529_0
              replace p529 := eq_true p529
              replace q529 := eq_true q529
              go_wp2
              go_roundg k3
              case measure => have := HK1.out; have := HJ17.out; have := HK3.out; omega
              case rel => exact ⟨((wrap64 (x5_1 + ((rd_L4 t515 x7_1).length : Int)))), (x6_17), (wrap64 (x7_1 + 1)), aX, aX, aX, H', ⟨by have := HK1.out; have := HJ17.out; have := HK3.out; omega⟩, ⟨aN HO_4⟩, ⟨aR HO_515000⟩, ⟨aN HO_515001⟩, ⟨aK⟩, ⟨aG⟩⟩
            ·rw [if_neg c22] at H
             exact absurd H (by simp)
           ·rw [if_neg c21] at H
            exact absurd H (by simp)
      ·rw [if_neg c17] at H
       exact absurd H (by simp)
     ·rw [if_neg c16] at H
      have c16b0 : decide (x7_1 < (t515.length : Int)) = false := decide_eq_false c16
      clear c16
      replace H := bM H
      obtain ⟨t519, A410, H⟩ := H
      have A41 := aM A410
      clear A410
      by_cases c42 : x5_1 = (t511.length : Int)
      ·rw [if_pos c42] at H
       have c42b0 : (x5_1 == (t511.length : Int)) = true := beq_iff_eq.mpr c42
       have c42b1 : (x5_1 != (t511.length : Int)) = false := bne_eq_false_iff_eq.mpr c42
       clear c42
       by_cases c43 : (t519.length : Int) = (t515.length : Int)
       ·rw [if_pos c43] at H
        have c43b0 : ((t519.length : Int) == (t515.length : Int)) = true := beq_iff_eq.mpr c43
        have c43b1 : ((t519.length : Int) != (t515.length : Int)) = false := bne_eq_false_iff_eq.mpr c43
        have c43b2 : (t519.length == t515.length) = true := by first | simpa using c43 | (simp at c43 ⊢; omega)
        clear c43
        replace H := bM H
        obtain ⟨t522, A440, H⟩ := H
        have A44 := aM A440
        clear A440
        by_cases c45 : (t522.length : Int) = x6_1
        ·rw [if_pos c45] at H
         have c45b0 : ((t522.length : Int) == x6_1) = true := beq_iff_eq.mpr c45
         have c45b1 : ((t522.length : Int) != x6_1) = false := bne_eq_false_iff_eq.mpr c45
         clear c45
         replace H := bM H
         obtain ⟨t525, A460, H⟩ := H
         have A46 := aM A460
         clear A460
         obtain rfl := Option.some.inj H
         obtain ⟨Ao47, co47, eo47⟩ := Kd.N_slice HO_4.out
         subst eo47
         have hcz48_0 : wr.cell? ⟨gb514, 0, none⟩ = some (.slice Ao10 t508.length co10) := (blk_cell BK514.out 0).trans rfl
         have hcz48_1 : wr.cell? ⟨gb514, 1, none⟩ = some (.slice Ao12 t511.length co12) := (blk_cell BK514.out 1).trans rfl
         have hfz48_0 := blk_frozen BK514.out 0
         have hfz48_1 := blk_frozen BK514.out 1
         go_wp2_with (first | ((with_reducible refine gate_callee (f := 14) rfl ?_); refine goesL_ (some 123) rfl rfl Try.func14 (by kernel_rfl) rfl #[.agg #[.slice Ao10 t508.length co10, .slice Ao12 t511.length co12]] rfl aA ?_; (with_reducible refine (impl_BlockSizes.calls k1 _ _ t508 _ _ t511 t519 _ ?side1 ?side2 ?side3 ?side4 A41.out).mono ?_); (case side1 => repeat (first | exact (Kd.R_reads' HO_515000.out).2.2 | (with_reducible refine Kd.C_alloc ?_ _) | (with_reducible refine Kd.C_drewN ?_ _) | (with_reducible refine Kd.C_drew ?_))); (case side2 => exact (Kd.R_reads' HO_515000.out).2.1); (case side3 => repeat (first | exact (Kd.N_reads' HO_515001.out).2.2 | (with_reducible refine Kd.C_alloc ?_ _) | (with_reducible refine Kd.C_drewN ?_ _) | (with_reducible refine Kd.C_drew ?_))); (case side4 => exact (Kd.N_reads' HO_515001.out).2.1); rintro e w49 ⟨v520, rfl, ho0, hb⟩; refine ⟨_, rfl, ?_⟩; have HO521 := aM (Kd.R_lower ho0 (below_size aG)); replace HO_4 := aM (Kd.N_elder' (aN HO_4) (Kd.R_base ho0) hb); replace HO_515000 := aM (Kd.R_below (aR HO_515000) hb); replace HO_515001 := aM (Kd.N_elder' (aN HO_515001) (Kd.R_base ho0) hb); replace BK514 := aM (blk_below (g := gb514) (o := .cells #[.slice Ao10 t508.length co10, .slice Ao12 t511.length co12] 27 (0, 0)) aK hb); replace HB := aM (below_step aG hb); (try clear hb); (try clear hb2); (try clear hk); (try clear hi); (try clear ho0); have hcz50_0 : w49.cell? ⟨gb514, 0, none⟩ = some (.slice Ao10 t508.length co10) := (blk_cell BK514.out 0).trans rfl; have hcz50_1 : w49.cell? ⟨gb514, 1, none⟩ = some (.slice Ao12 t511.length co12) := (blk_cell BK514.out 1).trans rfl; have hfz50_0 := blk_frozen BK514.out 0; have hfz50_1 := blk_frozen BK514.out 1; obtain ⟨Ao51, co51, eo51⟩ := Kd.R_slice HO521.out; subst eo51) | (go_at_call 15; (with_reducible refine (impl_ConflictingFacts.calls k1 _ _ t508 _ _ t511 t522 _ ?side1 ?side2 ?side3 ?side4 A44.out).mono ?_); (case side1 => repeat (first | exact (Kd.R_reads' HO_515000.out).2.2 | (with_reducible refine Kd.C_alloc ?_ _) | (with_reducible refine Kd.C_drewN ?_ _) | (with_reducible refine Kd.C_drew ?_))); (case side2 => exact (Kd.R_reads' HO_515000.out).2.1); (case side3 => repeat (first | exact (Kd.N_reads' HO_515001.out).2.2 | (with_reducible refine Kd.C_alloc ?_ _) | (with_reducible refine Kd.C_drewN ?_ _) | (with_reducible refine Kd.C_drew ?_))); (case side4 => exact (Kd.N_reads' HO_515001.out).2.1); rintro e w52 ⟨v523, rfl, ho0, hb⟩; have HO524 := aM (Kd.R_lower (Kd.R_new' ho0 (Kd.R_lt (aR HO521))) (below_size aG)); replace HO_4 := aM (Kd.N_elder' (aN HO_4) (Kd.R_base ho0) hb); replace HO_515000 := aM (Kd.R_below (aR HO_515000) hb); replace HO_515001 := aM (Kd.N_elder' (aN HO_515001) (Kd.R_base ho0) hb); replace HO521 := aM (Kd.R_elder' (aR HO521) (Kd.R_base ho0) hb); replace BK514 := aM (blk_below (g := gb514) (o := .cells #[.slice Ao10 t508.length co10, .slice Ao12 t511.length co12] 27 (0, 0)) aK hb); replace HB := aM (below_step aG hb); (try clear hb); (try clear hb2); (try clear hk); (try clear hi); (try clear ho0); obtain ⟨Ao53, co53, eo53⟩ := Kd.R_slice HO524.out; subst eo53; have hcz54_0 : w52.cell? ⟨gb514, 0, none⟩ = some (.slice Ao10 t508.length co10) := (blk_cell BK514.out 0).trans rfl; have hcz54_1 : w52.cell? ⟨gb514, 1, none⟩ = some (.slice Ao12 t511.length co12) := (blk_cell BK514.out 1).trans rfl; have hfz54_0 := blk_frozen BK514.out 0; have hfz54_1 := blk_frozen BK514.out 1) | (go_at_call 16; (with_reducible refine (impl_IsConsistent.calls k1 _ _ t508 _ _ t511 t525 _ ?side1 ?side2 ?side3 ?side4 A46.out).mono ?_); (case side1 => repeat (first | exact (Kd.R_reads' HO_515000.out).2.2 | (with_reducible refine Kd.C_alloc ?_ _) | (with_reducible refine Kd.C_drewN ?_ _) | (with_reducible refine Kd.C_drew ?_))); (case side2 => exact (Kd.R_reads' HO_515000.out).2.1); (case side3 => repeat (first | exact (Kd.N_reads' HO_515001.out).2.2 | (with_reducible refine Kd.C_alloc ?_ _) | (with_reducible refine Kd.C_drewN ?_ _) | (with_reducible refine Kd.C_drew ?_))); (case side4 => exact (Kd.N_reads' HO_515001.out).2.1); rintro e w55 ⟨rfl, hb⟩; replace HO_4 := aM (Kd.N_below (aN HO_4) hb); replace HO_515000 := aM (Kd.R_below (aR HO_515000) hb); replace HO_515001 := aM (Kd.N_below (aN HO_515001) hb); replace HO521 := aM (Kd.R_below (aR HO521) hb); replace HO524 := aM (Kd.R_below (aR HO524) hb); replace BK514 := aM (blk_below (g := gb514) (o := .cells #[.slice Ao10 t508.length co10, .slice Ao12 t511.length co12] 27 (0, 0)) aK hb); replace HB := aM (below_step aG hb); (try clear hb); (try clear hb2); (try clear hk); (try clear hi)))
         go_ret
         exact ⟨aE, aG⟩
        ·rw [if_neg c45] at H
         have c45b0 : ((t522.length : Int) == x6_1) = false := beq_eq_false_iff_ne.mpr c45
         have c45b1 : ((t522.length : Int) != x6_1) = true := bne_iff_ne.mpr c45
         exact absurd (Option.some.inj (H.trans (congrArg some HRT_.out))) (by decide)
       ·rw [if_neg c43] at H
        have c43b0 : ((t519.length : Int) == (t515.length : Int)) = false := beq_eq_false_iff_ne.mpr c43
        have c43b1 : ((t519.length : Int) != (t515.length : Int)) = true := bne_iff_ne.mpr c43
        have c43b2 : (t519.length == t515.length) = false := by first | simpa using c43 | (simp at c43 ⊢; omega)
        exact absurd (Option.some.inj (H.trans (congrArg some HRT_.out))) (by decide)
      ·rw [if_neg c42] at H
       have c42b0 : (x5_1 == (t511.length : Int)) = false := beq_eq_false_iff_ne.mpr c42
       have c42b1 : (x5_1 != (t511.length : Int)) = true := bne_iff_ne.mpr c42
       exact absurd (Option.some.inj (H.trans (congrArg some HRT_.out))) (by decide)
  ·replace c7 := Bool.eq_false_iff.mpr c7
   subst c7
   have H1 : (some ((t515.length : Int) == 0)) = some r := by rw [if_neg (show ¬ (false = true) by decide)] at H; exact H
   clear H
   have H := H1
   clear H1
   obtain rfl := Option.some.inj H
   go_enter Try.func3, Try.ntmps3
   go_wp2_with (first | ((with_reducible refine gate_callee (f := 7) rfl ?_); refine goesL_ (some 11) rfl rfl Try.func7 (by kernel_rfl) rfl #[.slice A0 l0.length c0] rfl aA ?_; (with_reducible refine (laws_big.calls _ _ l0 false _ ?side1 ?side2 A2.out).mono ?_); (case side1 => repeat (first | exact HR0.out | (with_reducible refine Kd.C_alloc ?_ _) | (with_reducible refine Kd.C_drewN ?_ _) | (with_reducible refine Kd.C_drew ?_))); (case side2 => exact HC0.out); rintro e w' ⟨rfl, ⟨nd, rfl⟩⟩; refine ⟨_, rfl, ?_⟩) | ((with_reducible refine gate_callee (f := 8) rfl ?_); refine goesL_ (some 13) rfl rfl Try.func8 (by kernel_rfl) rfl #[.slice A0 l0.length c0] rfl aA ?_; (with_reducible refine (spec_DrawBlocks.calls k _ _ l0 t508 t511 _ ?side1 ?side2 A4.out).mono ?_); (case side1 => repeat (first | exact HR0.out | (with_reducible refine Kd.C_alloc ?_ _) | (with_reducible refine Kd.C_drewN ?_ _) | (with_reducible refine Kd.C_drew ?_))); (case side2 => exact HC0.out); rintro e w56 ⟨v509, v512, rfl, ho0, ho1, hb⟩; refine ⟨_, rfl, ?_⟩; have HO510 := aM (Kd.R_lower (Kd.R_mono (ok' := fun k_ => True) ho0 (fun _ hk_ => trivial)) (below_size aB)); have HO513 := aM (Kd.N_lower (Kd.N_mono (ok' := fun k_ => some k_ ≠ (v509 : Value).ownBlock) ho1 (fun k_ hk_ => hk_.2)) (below_size aB)); replace HB := aM (below_step aB hb); (try clear hb); (try clear hb2); (try clear hk); (try clear hi); (try clear ho0); (try clear ho1)) | ((with_reducible refine gate_dst (N := 3) rfl ?_); (try (refine gate_guard (by rfl) ?_; dsimp only)); refine bE 3 (cs := #[.slice none 0 0, .slice none 0 0]) (t := 27) ?_; intro gb514 hg w57 hbox hb; have BK514 := aM (hbox); have GW514 := aM ((by rw [hg]; exact (below_size aB) : w.heap.size ≤ gb514)); have GE514 := aM ((by rw [hg]; exact (below_size aB) : w.heap.size ≤ gb514)); replace HO510 := aM (Kd.R_below (aR HO510) hb); replace HO513 := aM (Kd.N_below (Kd.N_elderB (aN HO513) gb514 (Nat.le_of_eq hg.symm)) hb); replace HB := aM (below_step aB hb); clear hb hbox hg; obtain ⟨Ao58, co58, eo58⟩ := Kd.R_slice HO510.out; subst eo58; have hcz59_0 : w57.cell? ⟨gb514, 0, none⟩ = some (.slice none 0 0) := (blk_cell BK514.out 0).trans rfl; have hcz59_1 : w57.cell? ⟨gb514, 1, none⟩ = some (.slice none 0 0) := (blk_cell BK514.out 1).trans rfl; have hfz59_0 := blk_frozen BK514.out 0; have hfz59_1 := blk_frozen BK514.out 1; obtain ⟨Ao60, co60, eo60⟩ := Kd.N_slice HO513.out; subst eo60) | ((with_reducible refine gate_callee (f := 9) rfl ?_); refine goesL_ (some 15) rfl rfl Try.func9 (by kernel_rfl) rfl #[.agg #[.slice Ao58 t508.length co58, .slice Ao60 t511.length co60]] rfl aA ?_; (with_reducible refine (impl_Blocks.calls k _ _ t508 _ _ t511 t515 _ ?side1 ?side2 ?side3 ?side4 A5.out).mono ?_); (case side1 => refine (Kd.R_reads' (e := 70) (base := w.heap.size) (ok := fun k_ => True) (n := t508.length) (c := co58) ?_).2.2; exact (by (with_reducible repeat (first | apply Kd.R_alloc | apply Kd.R_drewN | apply Kd.R_drew)); exact (Kd.R_mono (Kd.R_far (p := ⟨gb514, 1, none⟩) (Kd.R_far (p := ⟨gb514, 0, none⟩) (Kd.R_types HO510.out BK514.out (by decide)) (fun _ hk => hk.2) (.slice Ao58 t508.length co58)) (fun _ hk => hk.2) (.slice Ao60 t511.length co60)) (fun _ h_ => h_.1)))); (case side2 => exact (Kd.R_reads' HO510.out).2.1); (case side3 => refine (Kd.N_reads' (e := 35) (base := w.heap.size) (ok := fun k_ => (some k_ ≠ (.slice Ao58 t508.length co58 : Value).ownBlock ∧ k_ ≠ gb514)) (n := t511.length) (c := co60) ?_).2.2; exact (by (with_reducible repeat (first | apply Kd.N_alloc | apply Kd.N_drewN | apply Kd.N_drew)); exact (Kd.N_mono (Kd.N_far (p := ⟨gb514, 1, none⟩) (Kd.N_far (p := ⟨gb514, 0, none⟩) (Kd.N_mono HO513.out (fun k_ hk => (⟨hk, hk.2⟩ : _ ∧ k_ ≠ gb514))) (fun _ hk => hk.2) (.slice Ao58 t508.length co58)) (fun _ hk => hk.2) (.slice Ao60 t511.length co60)) (fun _ h_ => h_.1)))); (case side4 => exact (Kd.N_reads' HO513.out).2.1); rintro e w61 ⟨v516, rfl, ho0, hb⟩; refine ⟨_, rfl, ?_⟩; have HO517 := aM (Kd.N_lower (Kd.N_mono (ok' := fun k_ => some k_ ≠ (.slice Ao58 t508.length co58 : Value).ownBlock ∧ some k_ ≠ (.slice Ao60 t511.length co60 : Value).ownBlock ∧ k_ ≠ gb514) (Kd.S_N (Kd.S_bound ho0)) (fun k_ hk_ => ⟨(Kd.fresh' (Kd.R_lt (by (with_reducible repeat (first | apply Kd.R_alloc | apply Kd.R_drewN | apply Kd.R_drew)); exact (Kd.R_mono (Kd.R_far (p := ⟨gb514, 1, none⟩) (Kd.R_far (p := ⟨gb514, 0, none⟩) (Kd.R_types HO510.out BK514.out (by decide)) (fun _ hk => hk.2) (.slice Ao58 t508.length co58)) (fun _ hk => hk.2) (.slice Ao60 t511.length co60)) (fun _ h_ => h_.1)))) k_ hk_.2.1), (Kd.fresh' (Kd.N_lt (by (with_reducible repeat (first | apply Kd.N_alloc | apply Kd.N_drewN | apply Kd.N_drew)); exact (Kd.N_mono (Kd.N_far (p := ⟨gb514, 1, none⟩) (Kd.N_far (p := ⟨gb514, 0, none⟩) (Kd.N_mono HO513.out (fun k_ hk => (⟨hk, hk.2⟩ : _ ∧ k_ ≠ gb514))) (fun _ hk => hk.2) (.slice Ao58 t508.length co58)) (fun _ hk => hk.2) (.slice Ao60 t511.length co60)) (fun _ h_ => h_.1)))) k_ hk_.2.1), (Kd.freshB (g := gb514) (o := .cells #[.slice Ao58 t508.length co58, .slice Ao60 t511.length co60] 27 (0, 0)) (by (with_reducible repeat (first | refine blk_drewN ?_ _ | refine blk_drew ?_ | refine blk_alloc ?_ _)); refine blk_put (cs := #[.slice Ao58 t508.length co58, .slice none 0 0]) ?_ 1 _ rfl; (with_reducible repeat (first | refine blk_drewN ?_ _ | refine blk_drew ?_ | refine blk_alloc ?_ _)); refine blk_put (cs := #[.slice none 0 0, .slice none 0 0]) ?_ 0 _ rfl; (with_reducible repeat (first | refine blk_drewN ?_ _ | refine blk_drew ?_ | refine blk_alloc ?_ _)); exact BK514.out) k_ hk_.2.1)⟩)) (below_size aG)); replace HO510 := aM (Kd.R_below (by (with_reducible repeat (first | apply Kd.R_alloc | apply Kd.R_drewN | apply Kd.R_drew)); exact (Kd.R_mono (Kd.R_far (p := ⟨gb514, 1, none⟩) (Kd.R_far (p := ⟨gb514, 0, none⟩) (Kd.R_types HO510.out BK514.out (by decide)) (fun _ hk => hk.2) (.slice Ao58 t508.length co58)) (fun _ hk => hk.2) (.slice Ao60 t511.length co60)) (fun _ h_ => h_.1))) hb); replace HO513 := aM (Kd.N_elder' (by (with_reducible repeat (first | apply Kd.N_alloc | apply Kd.N_drewN | apply Kd.N_drew)); exact (Kd.N_mono (Kd.N_far (p := ⟨gb514, 1, none⟩) (Kd.N_far (p := ⟨gb514, 0, none⟩) (Kd.N_mono HO513.out (fun k_ hk => (⟨hk, hk.2⟩ : _ ∧ k_ ≠ gb514))) (fun _ hk => hk.2) (.slice Ao58 t508.length co58)) (fun _ hk => hk.2) (.slice Ao60 t511.length co60)) (fun _ h_ => h_.1))) (by first | exact Kd.N_base ho0 | exact Kd.R_base (Kd.S_R ho0)) hb); replace BK514 := aM (blk_below (g := gb514) (o := .cells #[.slice Ao58 t508.length co58, .slice Ao60 t511.length co60] 27 (0, 0)) (by (with_reducible repeat (first | refine blk_drewN ?_ _ | refine blk_drew ?_ | refine blk_alloc ?_ _)); refine blk_put (cs := #[.slice Ao58 t508.length co58, .slice none 0 0]) ?_ 1 _ rfl; (with_reducible repeat (first | refine blk_drewN ?_ _ | refine blk_drew ?_ | refine blk_alloc ?_ _)); refine blk_put (cs := #[.slice none 0 0, .slice none 0 0]) ?_ 0 _ rfl; (with_reducible repeat (first | refine blk_drewN ?_ _ | refine blk_drew ?_ | refine blk_alloc ?_ _)); exact BK514.out) hb); replace HB := aM (below_step aG hb); (try clear hb); (try clear hb2); (try clear hk); (try clear hi); (try clear ho0); have hcz62_0 : w61.cell? ⟨gb514, 0, none⟩ = some (.slice Ao58 t508.length co58) := (blk_cell BK514.out 0).trans rfl; have hcz62_1 : w61.cell? ⟨gb514, 1, none⟩ = some (.slice Ao60 t511.length co60) := (blk_cell BK514.out 1).trans rfl; have hfz62_0 := blk_frozen BK514.out 0; have hfz62_1 := blk_frozen BK514.out 1) | ((with_reducible refine gate_callee (f := 10) rfl ?_); refine goesL_ (some 17) rfl rfl Try.func10 (by kernel_rfl) rfl #[.agg #[.slice Ao58 t508.length co58, .slice Ao60 t511.length co60]] rfl aA ?_; (with_reducible refine (spec_IsValidDatabase.calls k _ _ t508 _ _ t511 false _ ?side1 ?side2 ?side3 ?side4 A6.out).mono ?_); (case side1 => repeat (first | exact (Kd.R_reads' HO510.out).2.2 | (with_reducible refine Kd.C_alloc ?_ _) | (with_reducible refine Kd.C_drewN ?_ _) | (with_reducible refine Kd.C_drew ?_))); (case side2 => exact (Kd.R_reads' HO510.out).2.1); (case side3 => repeat (first | exact (Kd.N_reads' HO513.out).2.2 | (with_reducible refine Kd.C_alloc ?_ _) | (with_reducible refine Kd.C_drewN ?_ _) | (with_reducible refine Kd.C_drew ?_))); (case side4 => exact (Kd.N_reads' HO513.out).2.1); rintro e w63 ⟨rfl, hb⟩; refine ⟨_, rfl, ?_⟩; replace HO510 := aM (Kd.R_below (aR HO510) hb); replace HO513 := aM (Kd.N_below (aN HO513) hb); replace HO517 := aM (Kd.N_below (aN HO517) hb); replace BK514 := aM (blk_below (g := gb514) (o := .cells #[.slice Ao58 t508.length co58, .slice Ao60 t511.length co60] 27 (0, 0)) aK hb); replace HB := aM (below_step aG hb); (try clear hb); (try clear hb2); (try clear hk); (try clear hi); obtain ⟨Ao64, co64, eo64⟩ := Kd.N_slice HO517.out; subst eo64))
   go_ret
   exact ⟨aE, aG⟩

/-- THE ONE PURE STATEMENT of laws_FnBlocks: yours. -/
def laws_FnBlocks.Pure : Prop := ∀ (l0 : List Int), l0.length ≤ maxLen → l0.length * 1 ≤ 140737488351232 → (∀ x ∈ l0, (Lit.int .u8 x).wf = true) → ∃ k, laws_FnBlocks.f k l0 = some true
theorem laws_FnBlocks.walk (P : laws_FnBlocks.Pure) (a0 : Option Addr) (len0 cap0 : Nat) (z0 : List Int) (w : World) (w0 : (a0 = none ∧ len0 = 0 ∧ cap0 = 0 ∧ z0 = []) ∨ ∃ x, a0 = some x ∧ len0 ≤ cap0 ∧ cap0 ≤ maxLen ∧ z0.length = cap0 ∧ (∀ i, i < z0.length → w.cell? (x.add i) = some (.int .u8 (z0.getD i 0))) ∧ ∀ n ∈ z0, (Lit.int .u8 n).wf = true) (y0 : len0 * 1 ≤ 140737488351232) :
  Calls Try.prog 3 #[.slice a0 len0 cap0] w fun e w' => e = .returned (.bool true) ∧ Below w.heap.size w w' := by
 obtain ⟨l0, rfl, hr0, hm0, hw0, hc0⟩ := ReadsInt.ofRowC w0
 obtain ⟨k, h⟩ := P l0 hm0 y0 hw0
 refine (laws_FnBlocks.calls k _ _ l0 true w (Kd.C_of_reads (d := (0 : Int)) (h1 := fun _ => rfl) hr0) hc0 h rfl).mono ?_
 rintro e w' ⟨rfl, hd⟩
 exact ⟨rfl, hd⟩

end Go.Proofs.Ytbdeimhlohhhiaa.PFnBlocks
