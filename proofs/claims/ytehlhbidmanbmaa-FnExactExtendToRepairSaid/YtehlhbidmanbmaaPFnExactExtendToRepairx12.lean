-- Laid by a program of this claim: what the functions come to, some of them proved by hand.
import Derived.Test.YtehlhbidmanbmaaPFnExactExtendToRepairx0
import Derived.Test.YtehlhbidmanbmaaPFnExactExtendToRepairx3
namespace Go.Proofs.Ytehlhbidmanbmaa.PFnExactExtendToRepair
open Go.RowKit Go.Proofs.YtehlhbidmanbmaaW.PrintWords Go.Proofs.YtehlhbidmanbmaaW.PrintLast Go.Proofs.YtehlhbidmanbmaaW.PrintMore
attribute [local go_sem] max2_int min2_int max_two min_two max_three min_three max_four min_four   -- for this text's walks alone
set_option linter.unusedVariables false
set_option linter.unusedSimpArgs false

/-! ### impl_areIndices: function 70 -/
def impl_areIndices.l0 : Nat → List Int → Int → List Int → Int → Int → Option (Bool)
 | 0, _, _, _, _, _ => none
 | k + 1, x0, x1, x7, x8, x9 => if x9 < x8 then (if 0 ≤ x9 then (if x9 < (x7.length : Int) then ((impl_within.f (rd x7 x9) 0 (wrap64 (x1 - 1))).bind fun t392 => (if t392 = true then (if x9 > 0 then (if 0 ≤ (wrap64 (x9 - 1)) then (if (wrap64 (x9 - 1)) < (x0.length : Int) then (if (rd x0 (wrap64 (x9 - 1))) ≥ (rd x7 x9) then (some false) else (impl_areIndices.l0 k x0 x1 x7 x8 (wrap64 (x9 + 1)))) else (none)) else (none)) else (impl_areIndices.l0 k x0 x1 x7 x8 (wrap64 (x9 + 1)))) else (some false))) else (none)) else (none)) else (some true)
def impl_areIndices.f (k : Nat) (l0 : List Int) (a1 : Int) : Option (Bool) := impl_areIndices.l0 k l0 a1 l0 (l0.length : Int) 0
set_option maxHeartbeats 8000000 in
set_option maxRecDepth 100000 in
theorem impl_areIndices.calls (k : Nat) (A0 : Option Addr) (c0 : Nat) (l0 : List Int) (a1 : Int) (r : Bool) (w : World) (hr0 : Kd.C (Kd.int .i64) w A0 l0.length l0) (hc0 : l0.length ≤ c0) (h : impl_areIndices.f k l0 a1 = some r) :
  Calls Try.prog 70 #[.slice A0 l0.length c0, .int .i64 a1] w fun e w' => e = .returned (.bool r) ∧ Drawn0 w w' := by
 unfold impl_areIndices.f at h
 ·go_enter Try.func70, Try.ntmps70
  go_wp2_with (first | (go_at_call 86; refine (impl_within.calls _ _ _ ?_ _ ?h).mono ?_; (case h => exact zA); rintro e w1 ⟨rfl, hb⟩; have hd := hb; replace hb := hb.below; replace hb := aM hb; have HB : Below w.heap.size w w1 := zB))
  go_loopg [9] k (fun kq v9 w' => ∃ (x9_0 : Int), v9 = .int .i64 x9_0 ∧ impl_areIndices.l0 kq l0 a1 l0 (l0.length : Int) x9_0 = some r ∧ Drawn0 w w')
  case atStart => exact ⟨_, zR, zA, zD⟩
  case round =>
   clear h
   obtain ⟨x9_0, rfl, h, hb⟩ := hrel
   have hd := hb
   replace hb := hb.below
   replace hb := aM hb
   have HB : Below w.heap.size w wr := zB
   rcases gk with _ | kk0
   exact absurd h (by simp [impl_areIndices.l0])
   simp only [impl_areIndices.l0] at h
   replace h := il h; rcases h with ⟨c1, c1a, h⟩ | ⟨c1, c1a, h⟩
   replace h := ie h; rcases h with ⟨c2, c2a, h⟩ | ⟨c2, c2a, h⟩
   replace h := il h; rcases h with ⟨c3, c3a, h⟩ | ⟨c3, c3a, h⟩
   replace h := bs h; obtain ⟨t392, B4, h⟩ := h
   replace h := ib h; rcases h with ⟨rfl, h⟩ | ⟨rfl, h⟩
   replace h := ig h; rcases h with ⟨c6, c6a, h⟩ | ⟨c6, c6a, h⟩
   replace h := ie h; rcases h with ⟨c7, c7a, h⟩ | ⟨c7, c7a, h⟩
   replace h := il h; rcases h with ⟨c8, c8a, h⟩ | ⟨c8, c8a, h⟩
   replace h := ih h; rcases h with ⟨c9, c9a, h⟩ | ⟨c9, c9a, h⟩
   obtain rfl := si h
   obtain ⟨ad391, e391, hx391_0⟩ := Kd.at_int hr0 (x9_0 : Int) aD aD
   have p391 := eq_true (aD : 0 ≤ (x9_0 : Int))
   have q391 := eq_true (aD : x9_0 < (l0.length : Int))
   cases e391
   replace hx391_0 := qa hx391_0
   obtain ⟨ad393, e393, hx393_0⟩ := Kd.at_int hr0 ((wrap64 (x9_0 - 1)) : Int) aD aD
   have p393 := eq_true (aD : 0 ≤ ((wrap64 (x9_0 - 1)) : Int))
   have q393 := eq_true (aD : (wrap64 (x9_0 - 1)) < (l0.length : Int))
   cases e393
   replace hx393_0 := qa hx393_0
   rotate_left
   obtain ⟨kf, hkf⟩ : ∃ kf, kf = kk0 := ⟨_, rfl⟩; rw [← hkf] at h
   obtain ⟨ad391, e391, hx391_0⟩ := Kd.at_int hr0 (x9_0 : Int) aD aD
   have p391 := eq_true (aD : 0 ≤ (x9_0 : Int))
   have q391 := eq_true (aD : x9_0 < (l0.length : Int))
   cases e391
   replace hx391_0 := qa hx391_0
   obtain ⟨ad393, e393, hx393_0⟩ := Kd.at_int hr0 ((wrap64 (x9_0 - 1)) : Int) aD aD
   have p393 := eq_true (aD : 0 ≤ ((wrap64 (x9_0 - 1)) : Int))
   have q393 := eq_true (aD : (wrap64 (x9_0 - 1)) < (l0.length : Int))
   cases e393
   replace hx393_0 := qa hx393_0
   rotate_left
   exact absurd h (by simp)
   exact absurd h (by simp)
   obtain ⟨kf, hkf⟩ : ∃ kf, kf = kk0 := ⟨_, rfl⟩; rw [← hkf] at h
   obtain ⟨ad391, e391, hx391_0⟩ := Kd.at_int hr0 (x9_0 : Int) aD aD
   have p391 := eq_true (aD : 0 ≤ (x9_0 : Int))
   have q391 := eq_true (aD : x9_0 < (l0.length : Int))
   cases e391
   replace hx391_0 := qa hx391_0
   rotate_left
   obtain rfl := si h
   obtain ⟨ad391, e391, hx391_0⟩ := Kd.at_int hr0 (x9_0 : Int) aD aD
   have p391 := eq_true (aD : 0 ≤ (x9_0 : Int))
   have q391 := eq_true (aD : x9_0 < (l0.length : Int))
   cases e391
   replace hx391_0 := qa hx391_0
   rotate_left
   exact absurd h (by simp)
   exact absurd h (by simp)
   obtain rfl := si h
   rotate_left
   all_goals (go_wp2_with (first | (go_at_call 86; refine (impl_within.calls _ _ _ ?_ _ ?h).mono ?_; (case h => exact zA); rintro e w1 ⟨rfl, hb⟩; have hd := hb; replace hb := hb.below; replace hb := aM hb; have HB : Below w.heap.size w w1 := zB)); first | (go_ret; exact zE zD) | (go_roundg kf; (case measure => omega); (case rel => exact ⟨_, zR, zA, zD⟩)))

/-! ### impl_copyDatabase: function 71 -/
def impl_copyDatabase.l0 : Nat → List (S50) → Int → Int → List (S86) → List (S50) → Option ((List (S86)) × (List (S50)))
 | 0, _, _, _, _, _ => none
 | k + 1, x13, x14, x15, x406000, x406001 => if x15 < x14 then (if 0 ≤ x15 then (if x15 < (x13.length : Int) then ((some (([] : List Int) : List Int)).bind fun y408 => (if y408.length + ((rd_T50 x13 x15).f1).length < 17592186044416 then (if x406001.length < 4398046511104 then (impl_copyDatabase.l0 k x13 x14 (wrap64 (x15 + 1)) x406000 (x406001 ++ [(⟨(rd_T50 x13 x15).f0, (y408 ++ ((rd_T50 x13 x15).f1))⟩ : S50)])) else (none)) else (none))) else (none)) else (none)) else (some (x406000, x406001))
def impl_copyDatabase.f (k : Nat) (l0_0 : List (S86)) (l0_1 : List (S50)) : Option ((List (S86)) × (List (S50))) := (some (([] : List (S86)) : List (S86))).bind fun y396 => (if y396.length + l0_0.length < 4398046511104 then (impl_copyDatabase.l0 k l0_1 (l0_1.length : Int) 0 (y396 ++ l0_0) (([] : List (S50)))) else (none))
def impl_copyDatabase.T5 : Bool × List (List Nat × List Nat) := (true, [([], []), ([0], [0]), ([], []), ([2], [2]), ([], []), ([], []), ([5], [5]), ([4, 6], [4, 6]), ([3, 7], [3, 7]), ([8], [8]), ([1, 9, 7], [1, 9]), ([0, 1, 2, 3, 4, 5, 6, 7, 8, 9, 10], []), ([11, 10, 10, 0, 1, 2, 3, 4, 5, 6, 7, 8, 9, 10], [10, 11])])
def impl_copyDatabase.B5 : List Nat := [0, 1, 0, 4, 0, 0, 32, 112, 252, 508, 1023, 2047, 4095]
theorem impl_copyDatabase.tab5 : rtab .any (opsOf Try.f71 5) = impl_copyDatabase.T5 := by kernel_rfl
theorem impl_copyDatabase.bits5 : waitsOk impl_copyDatabase.T5.2 impl_copyDatabase.B5 = true := by kernel_rfl
set_option maxHeartbeats 8000000 in
set_option maxRecDepth 100000 in
theorem impl_copyDatabase.calls (k : Nat) (A0_0 : Option Addr) (c0_0 : Nat) (l0_0 : List (S86)) (A0_1 : Option Addr) (c0_1 : Nat) (l0_1 : List (S50)) (r1 : List (S86)) (r2 : List (S50)) (w : World) (hr0_0 : Kd.C k86 w A0_0 l0_0.length l0_0) (hc0_0 : l0_0.length ≤ c0_0) (hr0_1 : Kd.C k50 w A0_1 l0_1.length l0_1) (hc0_1 : l0_1.length ≤ c0_1) (h : impl_copyDatabase.f k l0_0 l0_1 = some (r1, r2)) :
  Calls Try.prog 71 #[.agg #[.slice A0_0 l0_0.length c0_0, .slice A0_1 l0_1.length c0_1]] w fun e w' => ∃ v0_ v1_ : Value, e = .returned (.agg #[v0_, v1_]) ∧ Kd.R k86 86 w' w.heap.size (fun _ => True) v0_ r1 ∧ Kd.S k50 50 w' w.heap.size (fun _ => True) v1_ r2 ∧ Below w.heap.size w w' := by
 have hu32 := Try.underlying32
 have hu50 := Try.underlying50
 have HR0_0 := aM hr0_0
 have HC0_0 := aM hc0_0
 clear hr0_0 hc0_0
 have HR0_1 := aM hr0_1
 have HC0_1 := aM hc0_1
 clear hr0_1 hc0_1
 have HB := aM (Below.refl w.heap.size w)
 have H : ((some (([] : List (S86)) : List (S86))).bind fun y396 => (if y396.length + l0_0.length < 4398046511104 then (impl_copyDatabase.l0 k l0_1 (l0_1.length : Int) 0 (y396 ++ l0_0) (([] : List (S50)))) else (none))) = some (r1, r2) := h
 clear h
 obtain ⟨y396, hy396⟩ : ∃ y_ : List (S86), y_ = (([] : List (S86))) := ⟨_, rfl⟩
 replace H : (if y396.length + l0_0.length < 4398046511104 then (impl_copyDatabase.l0 k l0_1 (l0_1.length : Int) 0 (y396 ++ l0_0) (([] : List (S50)))) else (none)) = some (r1, r2) := by first | (rw [hy396]; with_reducible exact H) | (have H2_ := (Option.bind_some _ _).symm.trans H; rw [hy396]; with_reducible exact H2_) | (have H2_ := (Option.bind_some _ _).symm.trans H; with_reducible exact H2_) | with_reducible exact H | (rw [hy396]; exact H) | exact H
 have Ny396 := aM hy396
 clear hy396
 by_cases c2 : y396.length + l0_0.length < 4398046511104
 ·rw [if_pos c2] at H
  have LMc2 := aM c2
  clear c2
  obtain ⟨y399, hy399⟩ : ∃ y_ : List (S86), y_ = (y396 ++ l0_0) := ⟨_, rfl⟩
  replace H : (impl_copyDatabase.l0 k l0_1 (l0_1.length : Int) 0 y399 (([] : List (S50)))) = some (r1, r2) := by first | (rw [hy399]; with_reducible exact H) | (have H2_ := (Option.bind_some _ _).symm.trans H; rw [hy399]; with_reducible exact H2_) | (have H2_ := (Option.bind_some _ _).symm.trans H; with_reducible exact H2_) | with_reducible exact H | (rw [hy399]; exact H) | exact H
  have Ny399 := aM hy399
  clear hy399
  obtain ⟨y402, hy402⟩ : ∃ y_ : List (S50), y_ = (([] : List (S50))) := ⟨_, rfl⟩
  replace H : (impl_copyDatabase.l0 k l0_1 (l0_1.length : Int) 0 y399 y402) = some (r1, r2) := by first | (rw [hy402]; with_reducible exact H) | (have H2_ := (Option.bind_some _ _).symm.trans H; rw [hy402]; with_reducible exact H2_) | (have H2_ := (Option.bind_some _ _).symm.trans H; with_reducible exact H2_) | with_reducible exact H | (rw [hy402]; exact H) | exact H
  have Ny402 := aM hy402
  clear hy402
  have H' := aM H
  clear H
  go_enter Try.func71, Try.ntmps71
  go_wp2_with (first | ((with_reducible refine gate_dst (N := 1) rfl ?_); refine box_event ?hg (N := 1) ?hd (cs := #[.slice A0_0 l0_0.length c0_0, .slice A0_1 l0_1.length c0_1]) (t := 32) ?hr ?_; (case hd => rfl); (case hg => rfl); (case hr => first | (go_simp; done) | (go_simp; rfl)); intro gb394 hg w3 hbox hb; have n0_ := aM (below_step aB hb); have n1_ := aM (hbox); have n2_ := aM ((by rw [hg]; exact (below_size aB) : w.heap.size ≤ gb394)); have n3_ := aM ((by rw [hg]; exact (below_size aB) : w.heap.size ≤ gb394)); clear HB; have HB := n0_; have BK394 := n1_; have GW394 := n2_; have GE394 := n3_; clear n0_ n1_ n2_ n3_; clear hb hbox hg) | ((with_reducible refine gate_dst (N := 2) rfl ?_); refine box_event ?hg (N := 2) ?hd (cs := #[.slice none 0 0, .slice none 0 0]) (t := 32) ?hr ?_; (case hd => rfl); (case hg => rfl); (case hr => first | (go_simp; done) | (go_simp; rfl)); intro gb395 hg w4 hbox hb; have n0_ := aM (blk_below (g := gb394) (o := .cells #[.slice A0_0 l0_0.length c0_0, .slice A0_1 l0_1.length c0_1] 32 (0, 0)) aK hb); have n1_ := aM (below_step aG hb); have n2_ := aM (hbox); have n3_ := aM ((by rw [hg]; exact (below_size aG) : w.heap.size ≤ gb395)); have n4_ := aM ((by rw [hg]; exact (below_size aG) : w.heap.size ≤ gb395)); have n5_ := aM ((by rw [hg]; exact Nat.ne_of_lt (blk_lt (g := gb394) (o := .cells #[.slice A0_0 l0_0.length c0_0, .slice A0_1 l0_1.length c0_1] 32 (0, 0)) aK) : gb394 ≠ gb395)); have n6_ := aM ((by rw [hg]; exact Nat.ne_of_gt (blk_lt (g := gb394) (o := .cells #[.slice A0_0 l0_0.length c0_0, .slice A0_1 l0_1.length c0_1] 32 (0, 0)) aK) : gb395 ≠ gb394)); clear BK394; clear HB; have BK394 := n0_; have HB := n1_; have BK395 := n2_; have GW395 := n3_; have GE395 := n4_; have NB394_395 := n5_; have NB395_394 := n6_; clear n0_ n1_ n2_ n3_ n4_ n5_ n6_; clear hb hbox hg) | ((with_reducible refine gate_dst (N := 6) rfl ?_); refine Kd.R_lit k86 _ 86 ?hg (N := 6) ?hd (xs := ([] : List (S86))) (inner := []) (ok := fun _ => True) (okp := fun _ => True) ?hr ?hp (fun _ hk => hk) trivial (Below.refl _ _) (Nat.le_refl _) (by simp) ?_; (case hd => rfl); (case hg => rfl); (case hr => first | (go_simp; done) | (go_simp; rfl)); (case hp => exact (Reps.none _ _)); intro v397 w5 ho6 hb hg_ hnew_; clear hg_ hnew_; (first | rw [← Ny396.out] at ho6 | (simp only [Int.reduceToNat] at ho6; rw [← Ny396.out] at ho6)); have n0_ := aM (Kd.R_lower ho6 (below_size aG)); have n1_ := aM (blk_below (g := gb394) (o := .cells #[.slice A0_0 l0_0.length c0_0, .slice A0_1 l0_1.length c0_1] 32 (0, 0)) aK hb); have n2_ := aM (blk_below (g := gb395) (o := .cells #[.slice none 0 0, .slice none 0 0] 32 (0, 0)) aK hb); have n3_ := aM (below_step aG hb); clear BK394; clear BK395; clear HB; have HO398 := n0_; have BK394 := n1_; have BK395 := n2_; have HB := n3_; clear n0_ n1_ n2_ n3_; clear hb ho6; have hnb7 := NB394_395.out; have hnc7 := NB395_394.out; have hcz8_0 : w5.cell? ⟨gb394, 0, none⟩ = some (.slice A0_0 l0_0.length c0_0) := (blk_cell BK394.out 0).trans rfl; have hcz8_1 : w5.cell? ⟨gb394, 1, none⟩ = some (.slice A0_1 l0_1.length c0_1) := (blk_cell BK394.out 1).trans rfl; have hfz8_0 := blk_frozen BK394.out 0; have hfz8_1 := blk_frozen BK394.out 1) | ((with_reducible refine gate_builtin (b := .append) (xs := #[.tmp 6, .tmp 8]) rfl ?_); at_builtin; refine Kd.R_append_rows k86 (w0 := w) w.heap.size rfl (.tmp 6) (.tmp 8) 29 86 (.agg #[(.string ⟨#[]⟩), (.int .i64 0), (.int .i64 0)]) 32 rfl Try.underlying29 info86 rfl (by decide) (by omega) v397 y396 l0_0 _ _ _ (fun _ => True) (fun _ => False) rfl rfl ?aO ?aR (fun _ _ h => h) (fun _ h => h.elim) ?aF ?aB ?aS ?aL ?_; (case aR => exact aC); (case aB => exact aG); (case aF => exact (fun _ _ => trivial)); (case aO => exact (aR HO398)); (case aS => exact (below_size aG)); (case aL => have := LMc2.out; omega); intro v400 w9 ho hb hg hat; rw [← Ny399.out] at ho; have n0_ := aM (blk_grown (g := gb394) (o := .cells #[.slice A0_0 l0_0.length c0_0, .slice A0_1 l0_1.length c0_1] 32 (0, 0)) aK hg (Kd.R_ne HO398.out BK394.out (by decide))); have n1_ := aM (blk_grown (g := gb395) (o := .cells #[.slice none 0 0, .slice none 0 0] 32 (0, 0)) aK hg (Kd.R_ne HO398.out BK395.out (by decide))); have n2_ := aM (hb); have n3_ := aM (ho); clear BK394; clear BK395; clear HB; clear HO398; have BK394 := n0_; have BK395 := n1_; have HB := n2_; have HO401 := n3_; clear n0_ n1_ n2_ n3_; clear ho hb hg hat) | ((with_reducible refine gate_dst (N := 10) rfl ?_); refine Kd.S_lit k50 _ 50 ?hg (N := 10) ?hd (xs := ([] : List (S50))) (inner := []) (ok := fun _ => True) (okp := fun _ => True) ?hr ?hp (fun _ hk => hk) trivial (Below.refl _ _) (Nat.le_refl _) (by simp) ?_; (case hd => rfl); (case hg => rfl); (case hr => first | (go_simp; done) | (go_simp; rfl)); (case hp => exact (Reps.none _ _)); intro v403 w10 ho11 hb hg_ hnew_; clear hg_ hnew_; (first | rw [← Ny402.out] at ho11 | (simp only [Int.reduceToNat] at ho11; rw [← Ny402.out] at ho11)); have n0_ := aM (Kd.R_below (aR HO401) hb); have n1_ := aM (Kd.S_lower ho11 (below_size aG)); have n2_ := aM (blk_below (g := gb394) (o := .cells #[.slice A0_0 l0_0.length c0_0, .slice A0_1 l0_1.length c0_1] 32 (0, 0)) aK hb); have n3_ := aM (blk_below (g := gb395) (o := .cells #[.slice none 0 0, .slice none 0 0] 32 (0, 0)) aK hb); have n4_ := aM (below_step aG hb); clear HO401; clear BK394; clear BK395; clear HB; have HO401 := n0_; have HO404 := n1_; have BK394 := n2_; have BK395 := n3_; have HB := n4_; clear n0_ n1_ n2_ n3_ n4_; clear hb ho11; obtain ⟨Ao12, co12, eo12⟩ := Kd.S_slice HO404.out; subst eo12; obtain ⟨Ao13, co13, eo13⟩ := Kd.R_slice HO401.out; subst eo13) | ((with_reducible refine gate_dst (N := 3) rfl ?_); refine box_event ?hg (N := 3) ?hd (cs := #[.slice none 0 0, .slice none 0 0]) (t := 32) ?hr ?_; (case hd => rfl); (case hg => rfl); (case hr => first | (go_simp; done) | (go_simp; rfl)); intro gb405 hg w14 hbox hb; have n0_ := aM (Kd.R_below (aR HO401) hb); have n1_ := aM (Kd.S_below (aS HO404) hb); have n2_ := aM (blk_below (g := gb394) (o := .cells #[.slice A0_0 l0_0.length c0_0, .slice A0_1 l0_1.length c0_1] 32 (0, 0)) aK hb); have n3_ := aM (blk_below (g := gb395) (o := .cells #[.slice none 0 0, .slice none 0 0] 32 (0, 0)) aK hb); have n4_ := aM (below_step aG hb); have n5_ := aM (hbox); have n6_ := aM ((by rw [hg]; exact (below_size aG) : w.heap.size ≤ gb405)); have n7_ := aM ((by rw [hg]; exact (below_size aG) : w.heap.size ≤ gb405)); have n8_ := aM ((by rw [hg]; exact Nat.ne_of_lt (blk_lt (g := gb394) (o := .cells #[.slice A0_0 l0_0.length c0_0, .slice A0_1 l0_1.length c0_1] 32 (0, 0)) aK) : gb394 ≠ gb405)); have n9_ := aM ((by rw [hg]; exact Nat.ne_of_gt (blk_lt (g := gb394) (o := .cells #[.slice A0_0 l0_0.length c0_0, .slice A0_1 l0_1.length c0_1] 32 (0, 0)) aK) : gb405 ≠ gb394)); have n10_ := aM ((by rw [hg]; exact Nat.ne_of_lt (blk_lt (g := gb395) (o := .cells #[.slice none 0 0, .slice none 0 0] 32 (0, 0)) aK) : gb395 ≠ gb405)); have n11_ := aM ((by rw [hg]; exact Nat.ne_of_gt (blk_lt (g := gb395) (o := .cells #[.slice none 0 0, .slice none 0 0] 32 (0, 0)) aK) : gb405 ≠ gb395)); clear HO401; clear HO404; clear BK394; clear BK395; clear HB; have HO401 := n0_; have HO404 := n1_; have BK394 := n2_; have BK395 := n3_; have HB := n4_; have BK405 := n5_; have GW405 := n6_; have GE405 := n7_; have NB394_405 := n8_; have NB405_394 := n9_; have NB395_405 := n10_; have NB405_395 := n11_; clear n0_ n1_ n2_ n3_ n4_ n5_ n6_ n7_ n8_ n9_ n10_ n11_; clear hb hbox hg; have hnb15 := NB405_394.out; have hnc15 := NB394_405.out; have hnb16 := NB405_395.out; have hnc16 := NB395_405.out; have hcz17_0 : w14.cell? ⟨gb405, 0, none⟩ = some (.slice none 0 0) := (blk_cell BK405.out 0).trans rfl; have hcz17_1 : w14.cell? ⟨gb405, 1, none⟩ = some (.slice none 0 0) := (blk_cell BK405.out 1).trans rfl; have hfz17_0 := blk_frozen BK405.out 0; have hfz17_1 := blk_frozen BK405.out 1; have hcz18_0 : w14.cell? ⟨gb394, 0, none⟩ = some (.slice A0_0 l0_0.length c0_0) := (blk_cell BK394.out 0).trans rfl; have hcz18_1 : w14.cell? ⟨gb394, 1, none⟩ = some (.slice A0_1 l0_1.length c0_1) := (blk_cell BK394.out 1).trans rfl; have hfz18_0 := blk_frozen BK394.out 0; have hfz18_1 := blk_frozen BK394.out 1))
  go_loopg [15] k (fun kq v15 w' => ∃ (x15_1 : Int) (x406001_1 : List (S50)) (u406001 : Value), v15 = .int .i64 x15_1 ∧ Aside0 (impl_copyDatabase.l0 kq l0_1 (l0_1.length : Int) x15_1 y399 x406001_1 = some (r1, r2)) ∧ Aside0 (kq ≤ k) ∧ Aside0 (Kd.R k86 86 w' w.heap.size (fun _ => True) (.slice Ao13 y399.length co13) y399) ∧ Aside0 (Kd.S k50 50 w' w.heap.size (fun _ => True) u406001 x406001_1) ∧ Aside0 (w'.heap[gb394]? = some (.cells #[(.slice A0_0 l0_0.length c0_0), (.slice A0_1 l0_1.length c0_1)] 32 (0, 0))) ∧ Aside0 (w'.heap[gb395]? = some (.cells #[(.slice none 0 0), (.slice none 0 0)] 32 (0, 0))) ∧ Aside0 (w'.heap[gb405]? = some (.cells #[(.slice Ao13 y399.length co13), u406001] 32 (0, 0))) ∧ Aside0 (Below w.heap.size w w'))
  case atStart => exact ⟨(0), (y402), (.slice Ao12 y402.length co12), (by first | rfl | (simp; done) | (simp [*]; done)), H', ⟨Nat.le_refl _⟩, ⟨by (with_reducible repeat (first | apply Kd.R_alloc | apply Kd.R_drewN | apply Kd.R_drew)); exact Kd.R_mono (Kd.R_far (p := ⟨gb405, 1, none⟩) (Kd.R_far (p := ⟨gb405, 0, none⟩) (Kd.R_types HO401.out BK405.out (by decide)) (fun _ hk => hk.2) (.slice Ao13 y399.length co13)) (fun _ hk => hk.2) (.slice Ao12 y402.length co12)) (fun _ hk => trivial)⟩, ⟨by (with_reducible repeat (first | apply Kd.S_alloc | apply Kd.S_drewN | apply Kd.S_drew)); exact Kd.S_mono (Kd.S_far (p := ⟨gb405, 1, none⟩) (Kd.S_far (p := ⟨gb405, 0, none⟩) (Kd.S_types HO404.out BK405.out (by decide)) (fun _ hk => hk.2) (.slice Ao13 y399.length co13)) (fun _ hk => hk.2) (.slice Ao12 y402.length co12)) (fun _ hk => trivial)⟩, ⟨by (with_reducible repeat (first | refine blk_drewN ?_ _ | refine blk_drew ?_ | refine blk_alloc ?_ _)); refine blk_far ?_ NB394_405.out _; (with_reducible repeat (first | refine blk_drewN ?_ _ | refine blk_drew ?_ | refine blk_alloc ?_ _)); refine blk_far ?_ NB394_405.out _; (with_reducible repeat (first | refine blk_drewN ?_ _ | refine blk_drew ?_ | refine blk_alloc ?_ _)); exact BK394.out⟩, ⟨by (with_reducible repeat (first | refine blk_drewN ?_ _ | refine blk_drew ?_ | refine blk_alloc ?_ _)); refine blk_far ?_ NB395_405.out _; (with_reducible repeat (first | refine blk_drewN ?_ _ | refine blk_drew ?_ | refine blk_alloc ?_ _)); refine blk_far ?_ NB395_405.out _; (with_reducible repeat (first | refine blk_drewN ?_ _ | refine blk_drew ?_ | refine blk_alloc ?_ _)); exact BK395.out⟩, ⟨by (with_reducible repeat (first | refine blk_drewN ?_ _ | refine blk_drew ?_ | refine blk_alloc ?_ _)); refine blk_put (cs := #[.slice Ao13 y399.length co13, .slice none 0 0]) ?_ 1 _ rfl; (with_reducible repeat (first | refine blk_drewN ?_ _ | refine blk_drew ?_ | refine blk_alloc ?_ _)); refine blk_put (cs := #[.slice none 0 0, .slice none 0 0]) ?_ 0 _ rfl; (with_reducible repeat (first | refine blk_drewN ?_ _ | refine blk_drew ?_ | refine blk_alloc ?_ _)); exact BK405.out⟩, ⟨by repeat (first | (with_reducible first | exact HB.out | apply below_alloc | apply pw_below_drewN | apply below_drew1 | refine below_set ?_ GE394.out | refine below_set ?_ GE395.out | refine below_set ?_ GE405.out) | exact HB.out)⟩⟩
  case round =>
   clear H'
   try clear c1
   try clear c2
   try clear p2
   try clear c7
   try clear c15
   try clear c16
   try clear hcz17_0
   try clear hcz17_1
   try clear hcz18_0
   try clear hcz18_1
   try clear hcz8_0
   try clear hcz8_1
   try clear hfz17_0
   try clear hfz17_1
   try clear hfz18_0
   try clear hfz18_1
   try clear hfz8_0
   try clear hfz8_1
   obtain ⟨x15_1, x406001_1, u406001, rfl, HA, HK1, HO_406000, HO_406001, BK394, BK395, BK405, HB⟩ := hrel
   cases gk with
   | zero => exact absurd HA.out (by simp [impl_copyDatabase.l0])
   | succ k1 =>
    have H := HA.out
    clear HA
    simp only [impl_copyDatabase.l0] at H
    by_cases c19 : x15_1 < (l0_1.length : Int)
    ·rw [if_pos c19] at H
     have c19b0 : decide (x15_1 < (l0_1.length : Int)) = true := decide_eq_true c19
     clear c19
     by_cases c20 : 0 ≤ x15_1
     ·rw [if_pos c20] at H
      have c20b0 : decide (0 ≤ x15_1) = true := decide_eq_true c20
      clear c20
      by_cases c21 : x15_1 < (l0_1.length : Int)
      ·rw [if_pos c21] at H
       have c21b0 : decide (x15_1 < (l0_1.length : Int)) = true := decide_eq_true c21
       clear c21
       obtain ⟨y408, hy408⟩ : ∃ y_ : List Int, y_ = (([] : List Int)) := ⟨_, rfl⟩
       replace H : (if y408.length + ((rd_T50 l0_1 x15_1).f1).length < 17592186044416 then (if x406001_1.length < 4398046511104 then (impl_copyDatabase.l0 k1 l0_1 (l0_1.length : Int) (wrap64 (x15_1 + 1)) y399 (x406001_1 ++ [(⟨(rd_T50 l0_1 x15_1).f0, (y408 ++ ((rd_T50 l0_1 x15_1).f1))⟩ : S50)])) else (none)) else (none)) = some (r1, r2) := by first | (rw [hy408]; with_reducible exact H) | (have H2_ := (Option.bind_some _ _).symm.trans H; rw [hy408]; with_reducible exact H2_) | (have H2_ := (Option.bind_some _ _).symm.trans H; with_reducible exact H2_) | with_reducible exact H | (rw [hy408]; exact H) | exact H
       have Ny408 := aM hy408
       clear hy408
       by_cases c22 : y408.length + ((rd_T50 l0_1 x15_1).f1).length < 17592186044416
       ·rw [if_pos c22] at H
        have LMc22 := aM c22
        clear c22
        obtain ⟨y411, hy411⟩ : ∃ y_ : List Int, y_ = (y408 ++ ((rd_T50 l0_1 x15_1).f1)) := ⟨_, rfl⟩
        replace H : (if x406001_1.length < 4398046511104 then (impl_copyDatabase.l0 k1 l0_1 (l0_1.length : Int) (wrap64 (x15_1 + 1)) y399 (x406001_1 ++ [(⟨(rd_T50 l0_1 x15_1).f0, y411⟩ : S50)])) else (none)) = some (r1, r2) := by first | (rw [hy411]; with_reducible exact H) | (have H2_ := (Option.bind_some _ _).symm.trans H; rw [hy411]; with_reducible exact H2_) | (have H2_ := (Option.bind_some _ _).symm.trans H; with_reducible exact H2_) | with_reducible exact H | (rw [hy411]; exact H) | exact H
        have Ny411 := aM hy411
        clear hy411
        by_cases c23 : x406001_1.length < 4398046511104
        ·rw [if_pos c23] at H
         have LMc23 := aM c23
         clear c23
         obtain ⟨y414, hy414⟩ : ∃ y_ : List (S50), y_ = (x406001_1 ++ [(⟨(rd_T50 l0_1 x15_1).f0, y411⟩ : S50)]) := ⟨_, rfl⟩
         replace H : (impl_copyDatabase.l0 k1 l0_1 (l0_1.length : Int) (wrap64 (x15_1 + 1)) y399 y414) = some (r1, r2) := by first | (rw [hy414]; with_reducible exact H) | (have H2_ := (Option.bind_some _ _).symm.trans H; rw [hy414]; with_reducible exact H2_) | (have H2_ := (Option.bind_some _ _).symm.trans H; with_reducible exact H2_) | with_reducible exact H | (rw [hy414]; exact H) | exact H
         have Ny414 := aM hy414
         clear hy414
         have H' := aM H
         clear H
         have p406 : 0 ≤ (x15_1 : Int) := aD
         have q406 : x15_1 < (l0_1.length : Int) := aD
         obtain ⟨ad406, A406_1, c406_1, e406, hx406_0, hx406_1, hl406_1, hi406_1⟩ := at_T50 HR0_1.out x15_1 p406 q406
         cases e406
         replace hx406_0 := (HB.out.cell (World.block_lt_of_cell? w _ hx406_0)).trans hx406_0
         replace hx406_1 := (HB.out.cell (World.block_lt_of_cell? w _ hx406_1)).trans hx406_1
         have HR406_1 := aM hi406_1
         have HC406_1 := aM hl406_1
         clear hi406_1 hl406_1
         replace p406 := eq_true p406
         replace q406 := eq_true q406
         try go_wp2_with (first | ((with_reducible refine gate_dst (N := 5) rfl ?_); refine box_event ?hg (N := 5) ?hd (cs := #[.int .i64 0, .slice none 0 0]) (t := 50) ?hr ?_; (case hd => rfl); (case hg => rfl); (case hr => first | (go_simp; done) | (go_simp; rfl)); intro gb407 hg w24 hbox hb; have n0_ := aM (Kd.R_below (aR HO_406000) hb); have n1_ := aM (Kd.S_below (Kd.S_elderB (aS HO_406001) gb407 (Nat.le_of_eq hg.symm)) hb); have n2_ := aM (blk_below (g := gb394) (o := .cells #[.slice A0_0 l0_0.length c0_0, .slice (some ad406) l0_1.length c0_1] 32 (0, 0)) aK hb); have n3_ := aM (blk_below (g := gb395) (o := .cells #[.slice none 0 0, .slice none 0 0] 32 (0, 0)) aK hb); have n4_ := aM (blk_below (g := gb405) (o := .cells #[.slice Ao13 y399.length co13, u406001] 32 (0, 0)) aK hb); have n5_ := aM (below_step aG hb); have n6_ := aM (hbox); have n7_ := aM ((by rw [hg]; exact (below_size aG) : w.heap.size ≤ gb407)); have n8_ := aM ((by rw [hg]; exact (below_size aG) : w.heap.size ≤ gb407)); have n9_ := aM ((by rw [hg]; exact Nat.ne_of_lt (blk_lt (g := gb394) (o := .cells #[.slice A0_0 l0_0.length c0_0, .slice (some ad406) l0_1.length c0_1] 32 (0, 0)) aK) : gb394 ≠ gb407)); have n10_ := aM ((by rw [hg]; exact Nat.ne_of_gt (blk_lt (g := gb394) (o := .cells #[.slice A0_0 l0_0.length c0_0, .slice (some ad406) l0_1.length c0_1] 32 (0, 0)) aK) : gb407 ≠ gb394)); have n11_ := aM ((by rw [hg]; exact Nat.ne_of_lt (blk_lt (g := gb395) (o := .cells #[.slice none 0 0, .slice none 0 0] 32 (0, 0)) aK) : gb395 ≠ gb407)); have n12_ := aM ((by rw [hg]; exact Nat.ne_of_gt (blk_lt (g := gb395) (o := .cells #[.slice none 0 0, .slice none 0 0] 32 (0, 0)) aK) : gb407 ≠ gb395)); have n13_ := aM ((by rw [hg]; exact Nat.ne_of_lt (blk_lt (g := gb405) (o := .cells #[.slice Ao13 y399.length co13, u406001] 32 (0, 0)) aK) : gb405 ≠ gb407)); have n14_ := aM ((by rw [hg]; exact Nat.ne_of_gt (blk_lt (g := gb405) (o := .cells #[.slice Ao13 y399.length co13, u406001] 32 (0, 0)) aK) : gb407 ≠ gb405)); clear HO_406000; clear HO_406001; clear BK394; clear BK395; clear BK405; clear HB; have HO_406000 := n0_; have HO_406001 := n1_; have BK394 := n2_; have BK395 := n3_; have BK405 := n4_; have HB := n5_; have BK407 := n6_; have GW407 := n7_; have GE407 := n8_; have NB394_407 := n9_; have NB407_394 := n10_; have NB395_407 := n11_; have NB407_395 := n12_; have NB405_407 := n13_; have NB407_405 := n14_; clear n0_ n1_ n2_ n3_ n4_ n5_ n6_ n7_ n8_ n9_ n10_ n11_ n12_ n13_ n14_; clear hb hbox hg; have hnb25 := NB407_394.out; have hnc25 := NB394_407.out; have hnb26 := NB407_395.out; have hnc26 := NB395_407.out; have hnb27 := NB407_405.out; have hnc27 := NB405_407.out; have hcz28_0 : w24.cell? ⟨gb407, 0, none⟩ = some (.int .i64 0) := (blk_cell BK407.out 0).trans rfl; have hcz28_1 : w24.cell? ⟨gb407, 1, none⟩ = some (.slice none 0 0) := (blk_cell BK407.out 1).trans rfl; have hfz28_0 := blk_frozen BK407.out 0; have hfz28_1 := blk_frozen BK407.out 1))
         have n0_ : Aside0 (Kd.R k86 86 ((w24.setCell ⟨gb407, 0, none⟩ (.int .i64 ((rd_T50 l0_1 x15_1).f0))).setCell ⟨gb407, 1, none⟩ (.slice A406_1 ((rd_T50 l0_1 x15_1).f1).length c406_1)) w.heap.size (fun _ => True) (.slice Ao13 y399.length co13) y399) := ⟨by (with_reducible repeat (first | apply Kd.R_alloc | apply Kd.R_drewN | apply Kd.R_drew)); exact Kd.R_mono (Kd.R_far (p := ⟨gb407, 1, none⟩) (Kd.R_far (p := ⟨gb407, 0, none⟩) (Kd.R_types HO_406000.out BK407.out (by decide)) (fun _ hk => hk.2) (.int .i64 ((rd_T50 l0_1 x15_1).f0))) (fun _ hk => hk.2) (.slice A406_1 ((rd_T50 l0_1 x15_1).f1).length c406_1)) (fun _ hk => trivial)⟩
         have n1_ : Aside0 (Kd.S k50 50 ((w24.setCell ⟨gb407, 0, none⟩ (.int .i64 ((rd_T50 l0_1 x15_1).f0))).setCell ⟨gb407, 1, none⟩ (.slice A406_1 ((rd_T50 l0_1 x15_1).f1).length c406_1)) w.heap.size (fun k_ => k_ ≠ gb407) u406001 x406001_1) := ⟨by (with_reducible repeat (first | apply Kd.S_alloc | apply Kd.S_drewN | apply Kd.S_drew)); exact Kd.S_mono (Kd.S_far (p := ⟨gb407, 1, none⟩) (Kd.S_far (p := ⟨gb407, 0, none⟩) (Kd.S_mono HO_406001.out (fun k_ hk => (⟨hk, hk.2⟩ : _ ∧ k_ ≠ gb407))) (fun _ hk => hk.2) (.int .i64 ((rd_T50 l0_1 x15_1).f0))) (fun _ hk => hk.2) (.slice A406_1 ((rd_T50 l0_1 x15_1).f1).length c406_1)) (fun _ hk => hk.1.2)⟩
         have n2_ : Aside0 (((w24.setCell ⟨gb407, 0, none⟩ (.int .i64 ((rd_T50 l0_1 x15_1).f0))).setCell ⟨gb407, 1, none⟩ (.slice A406_1 ((rd_T50 l0_1 x15_1).f1).length c406_1)).heap[gb394]? = some (.cells #[.slice A0_0 l0_0.length c0_0, .slice (some ad406) l0_1.length c0_1] 32 (0, 0))) := ⟨by (with_reducible repeat (first | refine blk_drewN ?_ _ | refine blk_drew ?_ | refine blk_alloc ?_ _)); refine blk_far ?_ NB394_407.out _; (with_reducible repeat (first | refine blk_drewN ?_ _ | refine blk_drew ?_ | refine blk_alloc ?_ _)); refine blk_far ?_ NB394_407.out _; (with_reducible repeat (first | refine blk_drewN ?_ _ | refine blk_drew ?_ | refine blk_alloc ?_ _)); exact BK394.out⟩
         have n3_ : Aside0 (((w24.setCell ⟨gb407, 0, none⟩ (.int .i64 ((rd_T50 l0_1 x15_1).f0))).setCell ⟨gb407, 1, none⟩ (.slice A406_1 ((rd_T50 l0_1 x15_1).f1).length c406_1)).heap[gb395]? = some (.cells #[.slice none 0 0, .slice none 0 0] 32 (0, 0))) := ⟨by (with_reducible repeat (first | refine blk_drewN ?_ _ | refine blk_drew ?_ | refine blk_alloc ?_ _)); refine blk_far ?_ NB395_407.out _; (with_reducible repeat (first | refine blk_drewN ?_ _ | refine blk_drew ?_ | refine blk_alloc ?_ _)); refine blk_far ?_ NB395_407.out _; (with_reducible repeat (first | refine blk_drewN ?_ _ | refine blk_drew ?_ | refine blk_alloc ?_ _)); exact BK395.out⟩
         have n4_ : Aside0 (((w24.setCell ⟨gb407, 0, none⟩ (.int .i64 ((rd_T50 l0_1 x15_1).f0))).setCell ⟨gb407, 1, none⟩ (.slice A406_1 ((rd_T50 l0_1 x15_1).f1).length c406_1)).heap[gb405]? = some (.cells #[.slice Ao13 y399.length co13, u406001] 32 (0, 0))) := ⟨by (with_reducible repeat (first | refine blk_drewN ?_ _ | refine blk_drew ?_ | refine blk_alloc ?_ _)); refine blk_far ?_ NB405_407.out _; (with_reducible repeat (first | refine blk_drewN ?_ _ | refine blk_drew ?_ | refine blk_alloc ?_ _)); refine blk_far ?_ NB405_407.out _; (with_reducible repeat (first | refine blk_drewN ?_ _ | refine blk_drew ?_ | refine blk_alloc ?_ _)); exact BK405.out⟩
         have n5_ : Aside0 (((w24.setCell ⟨gb407, 0, none⟩ (.int .i64 ((rd_T50 l0_1 x15_1).f0))).setCell ⟨gb407, 1, none⟩ (.slice A406_1 ((rd_T50 l0_1 x15_1).f1).length c406_1)).heap[gb407]? = some (.cells #[.int .i64 ((rd_T50 l0_1 x15_1).f0), .slice A406_1 ((rd_T50 l0_1 x15_1).f1).length c406_1] 50 (0, 0))) := ⟨by (with_reducible repeat (first | refine blk_drewN ?_ _ | refine blk_drew ?_ | refine blk_alloc ?_ _)); refine blk_put (cs := #[.int .i64 ((rd_T50 l0_1 x15_1).f0), .slice none 0 0]) ?_ 1 _ rfl; (with_reducible repeat (first | refine blk_drewN ?_ _ | refine blk_drew ?_ | refine blk_alloc ?_ _)); refine blk_put (cs := #[.int .i64 0, .slice none 0 0]) ?_ 0 _ rfl; (with_reducible repeat (first | refine blk_drewN ?_ _ | refine blk_drew ?_ | refine blk_alloc ?_ _)); exact BK407.out⟩
         have n6_ : Aside0 (Below w.heap.size w ((w24.setCell ⟨gb407, 0, none⟩ (.int .i64 ((rd_T50 l0_1 x15_1).f0))).setCell ⟨gb407, 1, none⟩ (.slice A406_1 ((rd_T50 l0_1 x15_1).f1).length c406_1))) := ⟨by repeat (first | (with_reducible first | exact HB.out | apply below_alloc | apply pw_below_drewN | apply below_drew1 | refine below_set ?_ GE394.out | refine below_set ?_ GE395.out | refine below_set ?_ GE405.out | refine below_set ?_ GE407.out) | exact HB.out)⟩
         (try clear HO_406000)
         (try clear HO_406001)
         (try clear BK394)
         (try clear BK395)
         (try clear BK405)
         (try clear BK407)
         (try clear HB)
         generalize ((w24.setCell ⟨gb407, 0, none⟩ (.int .i64 ((rd_T50 l0_1 x15_1).f0))).setCell ⟨gb407, 1, none⟩ (.slice A406_1 ((rd_T50 l0_1 x15_1).f1).length c406_1)) = w29 at n0_ n1_ n2_ n3_ n4_ n5_ n6_ ⊢
         have HO_406000 := n0_
         have HO_406001 := n1_
         have BK394 := n2_
         have BK395 := n3_
         have BK405 := n4_
         have BK407 := n5_
         have HB := n6_
         clear n0_ n1_ n2_ n3_ n4_ n5_ n6_
         have n0_ := aM (Kd.R_drew HO_406000.out)
         have n1_ := aM (Kd.S_drew HO_406001.out)
         have n2_ := aM (blk_drew BK394.out)
         have n3_ := aM (blk_drew BK395.out)
         have n4_ := aM (blk_drew BK405.out)
         have n5_ := aM (blk_drew BK407.out)
         have n6_ := aM (below_drew1 HB.out)
         clear HO_406000
         clear HO_406001
         clear BK394
         clear BK395
         clear BK405
         clear BK407
         clear HB
         have HO_406000 := n0_
         have HO_406001 := n1_
         have BK394 := n2_
         have BK395 := n3_
         have BK405 := n4_
         have BK407 := n5_
         have HB := n6_
         clear n0_ n1_ n2_ n3_ n4_ n5_ n6_
         refine start_ (n := 13) (S := fun w' => w'.cell? ⟨gb405, 0, none⟩ = some (.slice Ao13 y399.length co13) ∧ w'.cell? ⟨gb405, 1, none⟩ = some (u406001) ∧ w'.cell? ⟨gb407, 0, none⟩ = some (.int .i64 ((rd_T50 l0_1 x15_1).f0)) ∧ w'.cell? ⟨gb407, 1, none⟩ = some (.slice A406_1 ((rd_T50 l0_1 x15_1).f1).length c406_1)) (ds := [12]) #[false, false, false, false, false, false, false, false, false, false, false, false, false] (by kernel_rfl) rfl rfl ⟨(blk_cell BK405.out 0).trans rfl, (blk_cell BK405.out 1).trans rfl, (blk_cell BK407.out 0).trans rfl, (blk_cell BK407.out 1).trans rfl⟩ (fun hHeld => ?_); refine with_tabW impl_copyDatabase.tab5 impl_copyDatabase.bits5 (fun HT_ HW_ => ?_)
         generalize w29.drew = w30 at HO_406000 HO_406001 BK394 BK395 BK405 BK407 HB hHeld ⊢
         refine pure_ (i := 0) (N := some 19) (v := ?_) (a' := ?_) #[true, false, false, false, false, false, false, false, false, false, false, false, false] rfl rfl (any_of HT_.out (by kernel_rfl)) (fun _ _ _ h => h) (Or.inl ⟨by rfl, ?_⟩) ?_ ?_
         rotate_left
         ·exact aI
         rotate_left
         ·exact aP
         refine pure_ (i := 2) (N := some 21) (v := ?_) (a' := ?_) #[true, false, true, false, false, false, false, false, false, false, false, false, false] rfl rfl (any_of HT_.out (by kernel_rfl)) (fun _ _ _ h => h) (Or.inl ⟨by rfl, ?_⟩) ?_ ?_
         rotate_left
         ·exact aI
         rotate_left
         ·exact aP
         refine pure_ (i := 5) (N := some 24) (v := ?_) (a' := ?_) #[true, false, true, false, false, true, false, false, false, false, false, false, false] rfl rfl (any_of HT_.out (by kernel_rfl)) (fun _ _ _ h => h) (Or.inl ⟨by rfl, ?_⟩) ?_ ?_
         rotate_left
         ·exact aI
         rotate_left
         ·exact aP
         refine take_ (i := 1) (N := some 20) (v := ?_) (a' := ?_) #[true, true, true, false, false, true, false, false, false, false, false, false, false] rfl rfl (take_ofW HT_.out HW_.out (by kernel_rfl)) (fun _ _ _ h => h) (Or.inl ⟨by rfl, ?_⟩) hHeld ?_ ?_
         rotate_left
         ·rintro w' ⟨s0, s1, s2, s3⟩
          go_simp
          with_reducible rfl
         rotate_left
         ·exact aP
         refine take_ (i := 3) (N := some 22) (v := ?_) (a' := ?_) #[true, true, true, true, false, true, false, false, false, false, false, false, false] rfl rfl (take_ofW HT_.out HW_.out (by kernel_rfl)) (fun _ _ _ h => h) (Or.inl ⟨by rfl, ?_⟩) hHeld ?_ ?_
         rotate_left
         ·rintro w' ⟨s0, s1, s2, s3⟩
          go_simp
          with_reducible rfl
         rotate_left
         ·exact aP
         refine take_ (i := 6) (N := some 25) (v := ?_) (a' := ?_) #[true, true, true, true, false, true, true, false, false, false, false, false, false] rfl rfl (take_ofW HT_.out HW_.out (by kernel_rfl)) (fun _ _ _ h => h) (Or.inl ⟨by rfl, ?_⟩) hHeld ?_ ?_
         rotate_left
         ·rintro w' ⟨s0, s1, s2, s3⟩
          go_simp
          with_reducible rfl
         rotate_left
         ·exact aP
         refine one_ (i := 4) (N := some 23) #[true, true, true, true, true, true, true, false, false, false, false, false, false] rfl rfl (one_of HT_.out (by kernel_rfl)) (by decide) (fun K hK => ?_)
         refine Kd.R_lit_step (Kd.int .i64) _ 3 ?hg (N := 23) ?hd (xs := ([] : List Int)) (inner := []) (ok := fun _ => True) (okp := fun _ => True) ?hr ?hp (fun _ hk => hk) trivial (Below.refl _ _) (Nat.le_refl _) (by simp) ?_; (case hd => rfl); (case hg => rfl); (case hr => first | (go_simp; done) | (go_simp; rfl)); (case hp => exact (Reps.none _ _))
         intro v409 w31 ho32 hb hg_ hnew_
         clear hg_ hnew_
         (first | rw [← Ny408.out] at ho32 | (simp only [Int.reduceToNat] at ho32; rw [← Ny408.out] at ho32))
         have n0_ := aM (Kd.R_below (aR HO_406000) hb)
         have n1_ := aM (Kd.S_elder' (aS HO_406001) (Kd.R_base ho32) hb)
         have n2_ := aM (Kd.R_lower ho32 (below_size aG))
         have n3_ := aM (blk_below (g := gb394) (o := .cells #[.slice A0_0 l0_0.length c0_0, .slice (some ad406) l0_1.length c0_1] 32 (0, 0)) aK hb)
         have n4_ := aM (blk_below (g := gb395) (o := .cells #[.slice none 0 0, .slice none 0 0] 32 (0, 0)) aK hb)
         have n5_ := aM (blk_below (g := gb405) (o := .cells #[.slice Ao13 y399.length co13, u406001] 32 (0, 0)) aK hb)
         have n6_ := aM (blk_below (g := gb407) (o := .cells #[.int .i64 ((rd_T50 l0_1 x15_1).f0), .slice A406_1 ((rd_T50 l0_1 x15_1).f1).length c406_1] 50 (0, 0)) aK hb)
         have n7_ := aM (below_step aG hb)
         clear HO_406000
         clear HO_406001
         clear BK394
         clear BK395
         clear BK405
         clear BK407
         clear HB
         have HO_406000 := n0_
         have HO_406001 := n1_
         have HO410 := n2_
         have BK394 := n3_
         have BK395 := n4_
         have BK405 := n5_
         have BK407 := n6_
         have HB := n7_
         clear n0_ n1_ n2_ n3_ n4_ n5_ n6_ n7_
         clear hb ho32
         refine hK.out _ _ ⟨(blk_cell BK405.out 0).trans rfl, (blk_cell BK405.out 1).trans rfl, (blk_cell BK407.out 0).trans rfl, (blk_cell BK407.out 1).trans rfl⟩ (fun hHeld => ?_)
         clear hK K
         refine norm_ (a' := ?_) ?_ ?_
         rotate_left
         ·show Act.put _ (some 23) _ = _
          simp only [Act.put, List.setIfInBounds_toArray, List.set_cons_zero, List.set_cons_succ, i64_w, i32_w]
          rfl
         refine one_ (i := 7) (N := some 26) #[true, true, true, true, true, true, true, true, false, false, false, false, false] rfl rfl (one_of HT_.out (by kernel_rfl)) (by decide) (fun K hK => ?_)
         refine Kd.R_append_rows_step (Kd.int .i64) (w0 := w) w.heap.size (by rfl) (.tmp 23) (.tmp 25) 26 3 (.int .i64 0) 8 rfl Try.underlying26 info3 rfl (by decide) (by omega) v409 y408 ((rd_T50 l0_1 x15_1).f1) _ _ _ (fun _ => True) (fun _ => False) rfl rfl ?aO ?aR (fun _ _ h => h) (fun _ h => h.elim) ?aF ?aB ?aS ?aL ?_
         (case aR => exact aC)
         (case aB => exact aG)
         (case aF => exact (fun _ _ => trivial))
         (case aO => exact (aR HO410))
         (case aS => exact (below_size aG))
         (case aL => have := LMc22.out; omega)
         intro v412 w33 ho hb hg hat
         rw [← Ny411.out] at ho
         have n0_ := aM (Kd.R_over' (aR HO_406000) (Kd.R_typed (aR HO410)) (by decide) hg)
         have n1_ := aM (Kd.S_after (ok := (fun k_ => k_ ≠ gb407)) (aS HO_406001) hg hat)
         have n2_ := aM (blk_grown (g := gb394) (o := .cells #[.slice A0_0 l0_0.length c0_0, .slice (some ad406) l0_1.length c0_1] 32 (0, 0)) aK hg (Kd.R_ne HO410.out BK394.out (by decide)))
         have n3_ := aM (blk_grown (g := gb395) (o := .cells #[.slice none 0 0, .slice none 0 0] 32 (0, 0)) aK hg (Kd.R_ne HO410.out BK395.out (by decide)))
         have n4_ := aM (blk_grown (g := gb405) (o := .cells #[.slice Ao13 y399.length co13, u406001] 32 (0, 0)) aK hg (Kd.R_ne HO410.out BK405.out (by decide)))
         have n5_ := aM (blk_grown (g := gb407) (o := .cells #[.int .i64 ((rd_T50 l0_1 x15_1).f0), .slice A406_1 ((rd_T50 l0_1 x15_1).f1).length c406_1] 50 (0, 0)) aK hg (Kd.R_ne HO410.out BK407.out (by decide)))
         have n6_ := aM (hb)
         have n7_ := aM (ho)
         clear HO_406000
         clear HO_406001
         clear BK394
         clear BK395
         clear BK405
         clear BK407
         clear HB
         clear HO410
         have HO_406000 := n0_
         have HO_406001 := n1_
         have BK394 := n2_
         have BK395 := n3_
         have BK405 := n4_
         have BK407 := n5_
         have HB := n6_
         have HO413 := n7_
         clear n0_ n1_ n2_ n3_ n4_ n5_ n6_ n7_
         clear ho hb hg hat
         obtain ⟨Ao34, co34, eo34⟩ := Kd.R_slice HO413.out
         (first | subst eo34 | (injection eo34 with f1_ f2_ f3_; have f4_ := f1_.symm; have f5_ := f3_.symm; clear f1_ f2_ f3_; subst f4_; subst f5_))
         refine hK.out _ _ ⟨(blk_cell BK405.out 0).trans rfl, (blk_cell BK405.out 1).trans rfl, (blk_cell BK407.out 0).trans rfl, (blk_cell BK407.out 1).trans rfl⟩ (fun hHeld => ?_)
         clear hK K
         refine norm_ (a' := ?_) ?_ ?_
         rotate_left
         ·show Act.put _ (some 26) _ = _
          simp only [Act.put, List.setIfInBounds_toArray, List.set_cons_zero, List.set_cons_succ, i64_w, i32_w]
          rfl
         refine pure_ (i := 8) (N := some 27) (v := ?_) (a' := ?_) #[true, true, true, true, true, true, true, true, true, false, false, false, false] rfl rfl (any_of HT_.out (by kernel_rfl)) (fun _ _ _ h => h) (Or.inl ⟨by rfl, ?_⟩) ?_ ?_
         rotate_left
         ·exact aI
         rotate_left
         ·exact aP
         refine one_ (i := 9) (N := some 28) #[true, true, true, true, true, true, true, true, true, true, false, false, false] rfl rfl (one_of HT_.out (by kernel_rfl)) (by decide) (fun K hK => ?_)
         refine value_ (w1 := ?_) (v := ?_) (by rfl) rfl ?_ ?_
         rotate_left 2
         ·go_simp
          constructor
          ·rfl
          ·rfl
         refine hK.out _ _ ⟨(blk_cell (blk_alloc BK405.out _) 0).trans rfl, (blk_cell (blk_alloc BK405.out _) 1).trans rfl, (blk_cell (blk_alloc BK407.out _) 0).trans rfl, (blk_cell (blk_alloc BK407.out _) 1).trans rfl⟩ (fun hHeld => ?_)
         clear hK K
         refine norm_ (a' := ?_) ?_ ?_
         rotate_left
         ·show Act.put _ (some 28) _ = _
          simp only [Act.put, List.setIfInBounds_toArray, List.set_cons_zero, List.set_cons_succ, i64_w, i32_w]
          rfl
         refine one_ (i := 10) (N := some 29) #[true, true, true, true, true, true, true, true, true, true, true, false, false] rfl rfl (one_of HT_.out (by kernel_rfl)) (by decide) (fun K hK => ?_)
         refine Kd.S_append_step k50 (w0 := w) w.heap.size (by rfl) (.tmp 20) (.tmp 28) 30 50 (.agg #[(.int .i64 0), (.slice none 0 0)]) 32 rfl Try.underlying30 info50 rfl (by decide) (by omega) u406001 x406001_1 (⟨(rd_T50 l0_1 x15_1).f0, y411⟩ : S50) [.int .i64 ((rd_T50 l0_1 x15_1).f0), .slice Ao34 y411.length co34] (fun k_ => k_ ≠ gb407) (fun k_ => some k_ = (.slice Ao34 y411.length co34 : Value).ownBlock) rfl rfl ?aP (fun k_ hk_ => ((Kd.R_mono (ok' := fun k_ => ((fun k_ => k_ ≠ gb407)) k_ ∧ some k_ ≠ (u406001 : Value).ownBlock) (Kd.R_types (Kd.R_apart' (HO413.out) (Kd.S_typed HO_406001.out) (by decide)) BK407.out (by decide)) (fun k_ hk => ⟨hk.2, hk.1.2⟩))).1 k_ hk_.symm) ?aF ?aO ?aB ?aS ?aL ?_
         (case aP => exact k50_mkM _ _ _ (⟨(rd_T50 l0_1 x15_1).f0, y411⟩ : S50) (Kd.R_mono (Kd.R_tight rfl (Kd.R_mono (ok' := fun k_ => ((fun k_ => k_ ≠ gb407)) k_ ∧ some k_ ≠ (u406001 : Value).ownBlock) (Kd.R_types (Kd.R_apart' (HO413.out) (Kd.S_typed HO_406001.out) (by decide)) BK407.out (by decide)) (fun k_ hk => ⟨hk.2, hk.1.2⟩))) (fun _ h_ => h_)))
         (case aB => exact aG)
         (case aF => exact (fun k_ hk => Kd.freshB (g := gb407) (o := .cells #[.int .i64 ((rd_T50 l0_1 x15_1).f0), .slice A406_1 ((rd_T50 l0_1 x15_1).f1).length c406_1] 50 (0, 0)) aK k_ hk))
         (case aO => exact (by (with_reducible repeat (first | apply Kd.S_alloc | apply Kd.S_drewN | apply Kd.S_drew)); exact Kd.S_mono HO_406001.out (fun k_ hk => ⟨hk.1, fun e_ => hk.2 e_⟩)))
         (case aS => exact (below_size aG))
         (case aL => have := LMc23.out; omega)
         intro v415 w35 ho hb hg hat
         rw [← Ny414.out] at ho
         have n0_ := aM (Kd.R_over' (aR HO_406000) (Kd.S_typed (aS HO_406001)) (by decide) hg)
         have n1_ := aM (blk_grown (g := gb394) (o := .cells #[.slice A0_0 l0_0.length c0_0, .slice (some ad406) l0_1.length c0_1] 32 (0, 0)) aK hg (Kd.S_ne HO_406001.out BK394.out (by decide)))
         have n2_ := aM (blk_grown (g := gb395) (o := .cells #[.slice none 0 0, .slice none 0 0] 32 (0, 0)) aK hg (Kd.S_ne HO_406001.out BK395.out (by decide)))
         have n3_ := aM (blk_grown (g := gb405) (o := .cells #[.slice Ao13 y399.length co13, u406001] 32 (0, 0)) aK hg (Kd.S_ne HO_406001.out BK405.out (by decide)))
         have n4_ := aM (blk_grown (g := gb407) (o := .cells #[.int .i64 ((rd_T50 l0_1 x15_1).f0), .slice A406_1 ((rd_T50 l0_1 x15_1).f1).length c406_1] 50 (0, 0)) aK hg (Kd.S_away HO_406001.out (fun _ hk => hk.1)))
         have n5_ := aM (hb)
         have n6_ := aM (ho)
         clear HO_406000
         clear BK394
         clear BK395
         clear BK405
         clear BK407
         clear HB
         clear HO_406001
         clear HO413
         have HO_406000 := n0_
         have BK394 := n1_
         have BK395 := n2_
         have BK405 := n3_
         have BK407 := n4_
         have HB := n5_
         have HO416 := n6_
         clear n0_ n1_ n2_ n3_ n4_ n5_ n6_
         clear ho hb hg hat
         obtain ⟨Ao36, co36, eo36⟩ := Kd.S_slice HO416.out
         (first | subst eo36 | (injection eo36 with f1_ f2_ f3_; have f4_ := f1_.symm; have f5_ := f3_.symm; clear f1_ f2_ f3_; subst f4_; subst f5_))
         refine hK.out _ _ ⟨(blk_cell BK405.out 0).trans rfl, (blk_cell BK405.out 1).trans rfl, (blk_cell BK407.out 0).trans rfl, (blk_cell BK407.out 1).trans rfl⟩ (fun hHeld => ?_)
         clear hK K
         refine norm_ (a' := ?_) ?_ ?_
         rotate_left
         ·show Act.put _ (some 29) _ = _
          simp only [Act.put, List.setIfInBounds_toArray, List.set_cons_zero, List.set_cons_succ, i64_w, i32_w]
          rfl
         refine pure_ (i := 11) (N := some 30) (v := ?_) (a' := ?_) #[true, true, true, true, true, true, true, true, true, true, true, true, false] rfl rfl (any_of HT_.out (by kernel_rfl)) (fun _ _ _ h => h) (Or.inl ⟨by rfl, ?_⟩) ?_ ?_
         rotate_left
         ·exact aI
         rotate_left
         ·exact aP
         refine last_ (i := 12) (N := none) #[true, true, true, true, true, true, true, true, true, true, true, true, true] rfl rfl (one_of HT_.out (by kernel_rfl)) (by decide) (fun K hK => ?_)
         have hs37 : w35.cell? ⟨gb405, 1, none⟩ = some (u406001) := (blk_cell BK405.out 1).trans rfl
         have hfs37 := blk_frozen BK405.out 1
         have hns37_0 := NB394_405.out
         have hns37_1 := NB395_405.out
         have hns37_3 := NB407_405.out
         have hms37_0 := NB405_394.out
         have hms37_1 := NB405_395.out
         have hms37_3 := NB405_407.out
         refine skip_ (w1 := ?_) (by rfl) rfl ?_ ?_
         rotate_left
         ·go_simp
          rfl
         refine hK.out _ _ ?_
         clear hK K
         refine done_ (done_of HT_.out (by kernel_rfl)) ?_
         try go_wp2
         go_roundg k1
         case measure => have := HK1.out; omega
         case rel => exact ⟨(wrap64 (x15_1 + 1)), (y414), (.slice Ao36 y414.length co36), (by first | rfl | (simp; done) | (simp [*]; done)), H', ⟨by have := HK1.out; omega⟩, ⟨by (with_reducible repeat (first | apply Kd.R_alloc | apply Kd.R_drewN | apply Kd.R_drew)); exact Kd.R_mono (Kd.R_far (p := ⟨gb405, 1, none⟩) (Kd.R_types HO_406000.out BK405.out (by decide)) (fun _ hk => hk.2) (.slice Ao36 y414.length co36)) (fun _ hk => trivial)⟩, ⟨by (with_reducible repeat (first | apply Kd.S_alloc | apply Kd.S_drewN | apply Kd.S_drew)); exact Kd.S_mono (Kd.S_far (p := ⟨gb405, 1, none⟩) (Kd.S_types HO416.out BK405.out (by decide)) (fun _ hk => hk.2) (.slice Ao36 y414.length co36)) (fun _ hk => trivial)⟩, ⟨by (with_reducible repeat (first | refine blk_drewN ?_ _ | refine blk_drew ?_ | refine blk_alloc ?_ _)); refine blk_far ?_ NB394_405.out _; (with_reducible repeat (first | refine blk_drewN ?_ _ | refine blk_drew ?_ | refine blk_alloc ?_ _)); exact BK394.out⟩, ⟨by (with_reducible repeat (first | refine blk_drewN ?_ _ | refine blk_drew ?_ | refine blk_alloc ?_ _)); refine blk_far ?_ NB395_405.out _; (with_reducible repeat (first | refine blk_drewN ?_ _ | refine blk_drew ?_ | refine blk_alloc ?_ _)); exact BK395.out⟩, ⟨by (with_reducible repeat (first | refine blk_drewN ?_ _ | refine blk_drew ?_ | refine blk_alloc ?_ _)); refine blk_put (cs := #[.slice Ao13 y399.length co13, u406001]) ?_ 1 _ rfl; (with_reducible repeat (first | refine blk_drewN ?_ _ | refine blk_drew ?_ | refine blk_alloc ?_ _)); exact BK405.out⟩, ⟨by repeat (first | (with_reducible first | exact HB.out | apply below_alloc | apply pw_below_drewN | apply below_drew1 | refine below_set ?_ GE394.out | refine below_set ?_ GE395.out | refine below_set ?_ GE405.out | refine below_set ?_ GE407.out) | exact HB.out)⟩⟩
        ·rw [if_neg c23] at H
         exact absurd H (by simp)
       ·rw [if_neg c22] at H
        exact absurd H (by simp)
      ·rw [if_neg c21] at H
       exact absurd H (by simp)
     ·rw [if_neg c20] at H
      exact absurd H (by simp)
    ·rw [if_neg c19] at H
     have c19b0 : decide (x15_1 < (l0_1.length : Int)) = false := decide_eq_false c19
     clear c19
     simp only [Option.some.injEq, Prod.mk.injEq] at H
     obtain ⟨rfl, rfl⟩ := H
     have hnb38 := NB405_394.out
     have hnc38 := NB394_405.out
     have hnb39 := NB405_395.out
     have hnc39 := NB395_405.out
     have hcz40_0 : wr.cell? ⟨gb405, 0, none⟩ = some (.slice Ao13 y399.length co13) := (blk_cell BK405.out 0).trans rfl
     have hcz40_1 : wr.cell? ⟨gb405, 1, none⟩ = some (u406001) := (blk_cell BK405.out 1).trans rfl
     have hfz40_0 := blk_frozen BK405.out 0
     have hfz40_1 := blk_frozen BK405.out 1
     have hnb41 := NB395_394.out
     have hnc41 := NB394_395.out
     have hcz42_0 : wr.cell? ⟨gb395, 0, none⟩ = some (.slice none 0 0) := (blk_cell BK395.out 0).trans rfl
     have hcz42_1 : wr.cell? ⟨gb395, 1, none⟩ = some (.slice none 0 0) := (blk_cell BK395.out 1).trans rfl
     have hfz42_0 := blk_frozen BK395.out 0
     have hfz42_1 := blk_frozen BK395.out 1
     obtain ⟨Ao43, co43, eo43⟩ := Kd.S_slice HO_406001.out
     subst eo43
     go_wp2
     refine bodyPost_ret (results_cell_row rfl _ _ gb395 32 #[.slice Ao13 y399.length co13, .slice Ao43 x406001_1.length co43] (0, 0) _ rfl (by (with_reducible repeat (first | refine blk_drewN ?_ _ | refine blk_drew ?_ | refine blk_alloc ?_ _)); refine blk_put (cs := #[.slice Ao13 y399.length co13, .slice none 0 0]) ?_ 1 _ rfl; (with_reducible repeat (first | refine blk_drewN ?_ _ | refine blk_drew ?_ | refine blk_alloc ?_ _)); refine blk_put (cs := #[.slice none 0 0, .slice none 0 0]) ?_ 0 _ rfl; (with_reducible repeat (first | refine blk_drewN ?_ _ | refine blk_drew ?_ | refine blk_alloc ?_ _)); exact BK395.out) Try.underlying32 rfl (by kernel_rfl)) rfl ?_
     exact ⟨_, _, by first | rfl | (simp [errW_none, errW_some] <;> rfl) | (simp [*, errW_none, errW_some] <;> rfl), by (with_reducible repeat (first | apply Kd.R_alloc | apply Kd.R_drewN | apply Kd.R_drew)); exact Kd.R_mono (Kd.R_far (p := ⟨gb395, 1, none⟩) (Kd.R_far (p := ⟨gb395, 0, none⟩) (Kd.R_types HO_406000.out BK395.out (by decide)) (fun _ hk => hk.2) (.slice Ao13 y399.length co13)) (fun _ hk => hk.2) (.slice Ao43 x406001_1.length co43)) (fun _ hk => trivial), by (with_reducible repeat (first | apply Kd.S_alloc | apply Kd.S_drewN | apply Kd.S_drew)); exact Kd.S_mono (Kd.S_far (p := ⟨gb395, 1, none⟩) (Kd.S_far (p := ⟨gb395, 0, none⟩) (Kd.S_types HO_406001.out BK395.out (by decide)) (fun _ hk => hk.2) (.slice Ao13 y399.length co13)) (fun _ hk => hk.2) (.slice Ao43 x406001_1.length co43)) (fun _ hk => trivial), by repeat (first | (with_reducible first | exact HB.out | apply below_alloc | apply pw_below_drewN | apply below_drew1 | refine below_set ?_ GE394.out | refine below_set ?_ GE395.out | refine below_set ?_ GE405.out) | exact HB.out)⟩
 ·rw [if_neg c2] at H
  exact absurd H (by simp)

end Go.Proofs.Ytehlhbidmanbmaa.PFnExactExtendToRepair
