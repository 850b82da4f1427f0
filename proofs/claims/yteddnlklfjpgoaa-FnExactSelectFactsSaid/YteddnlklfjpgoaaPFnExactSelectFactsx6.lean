-- Laid by a program of this claim: what the functions come to, some of them proved by hand.
import Derived.Test.YteddnlklfjpgoaaPFnExactSelectFactsx0
import Derived.Test.YteddnlklfjpgoaaPFnExactSelectFactsx1
namespace Go.Proofs.Yteddnlklfjpgoaa.PFnExactSelectFacts
open Go.RowKit Go.Proofs.YteddnlklfjpgoaaW.PrintWords Go.Proofs.YteddnlklfjpgoaaW.PrintLast Go.Proofs.YteddnlklfjpgoaaW.PrintMore
attribute [local go_sem] max2_int min2_int max_two min_two max_three min_three max_four min_four   -- for this text's walks alone
set_option linter.unusedVariables false
set_option linter.unusedSimpArgs false

/-! ### impl_areIndices: function 37 -/
def impl_areIndices.l0 : Nat → List Int → Int → List Int → Int → Int → Option (Bool)
 | 0, _, _, _, _, _ => none
 | k + 1, x0, x1, x7, x8, x9 => if x9 < x8 then (if 0 ≤ x9 then (if x9 < (x7.length : Int) then ((impl_within.f (rd x7 x9) 0 (wrap64 (x1 - 1))).bind fun t219 => (if t219 = true then (if x9 > 0 then (if 0 ≤ (wrap64 (x9 - 1)) then (if (wrap64 (x9 - 1)) < (x0.length : Int) then (if (rd x0 (wrap64 (x9 - 1))) ≥ (rd x7 x9) then (some false) else (impl_areIndices.l0 k x0 x1 x7 x8 (wrap64 (x9 + 1)))) else (none)) else (none)) else (impl_areIndices.l0 k x0 x1 x7 x8 (wrap64 (x9 + 1)))) else (some false))) else (none)) else (none)) else (some true)
def impl_areIndices.f (k : Nat) (l0 : List Int) (a1 : Int) : Option (Bool) := impl_areIndices.l0 k l0 a1 l0 (l0.length : Int) 0
set_option maxHeartbeats 8000000 in
set_option maxRecDepth 100000 in
theorem impl_areIndices.calls (k : Nat) (A0 : Option Addr) (c0 : Nat) (l0 : List Int) (a1 : Int) (r : Bool) (w : World) (hr0 : Kd.C (Kd.int .i64) w A0 l0.length l0) (hc0 : l0.length ≤ c0) (h : impl_areIndices.f k l0 a1 = some r) :
  Calls Try.prog 37 #[.slice A0 l0.length c0, .int .i64 a1] w fun e w' => e = .returned (.bool r) ∧ Drawn0 w w' := by
 unfold impl_areIndices.f at h
 ·go_enter Try.func37, Try.ntmps37
  go_wp2_with (first | (go_at_call 63; refine (impl_within.calls _ _ _ ?_ _ ?h).mono ?_; (case h => exact zA); rintro e w1 ⟨rfl, hb⟩; have hd := hb; replace hb := hb.below; replace hb := aM hb; have HB : Below w.heap.size w w1 := zB))
  go_loopg [9] k (fun kq v9 w' => ∃ (x9_0 : Int), v9 = .int .i64 x9_0 ∧ impl_areIndices.l0 kq l0 a1 l0 (l0.length : Int) x9_0 = some r ∧ Drawn0 w w')
  case atStart => exact ⟨_, zR, zA, zD⟩
  case round =>
   clear h
   obtain ⟨x9_0, rfl, h, hb⟩ := hrel
   have hd := hb
   replace hb := hb.below
   replace hb := aM hb
   have HB : Below w.heap.size w wr := zB
   rcases gk with _ | kk0
   exact absurd h (by simp [impl_areIndices.l0])
   simp only [impl_areIndices.l0] at h
   replace h := il h; rcases h with ⟨c1, c1a, h⟩ | ⟨c1, c1a, h⟩
   replace h := ie h; rcases h with ⟨c2, c2a, h⟩ | ⟨c2, c2a, h⟩
   replace h := il h; rcases h with ⟨c3, c3a, h⟩ | ⟨c3, c3a, h⟩
   replace h := bs h; obtain ⟨t219, B4, h⟩ := h
   replace h := ib h; rcases h with ⟨rfl, h⟩ | ⟨rfl, h⟩
   replace h := ig h; rcases h with ⟨c6, c6a, h⟩ | ⟨c6, c6a, h⟩
   replace h := ie h; rcases h with ⟨c7, c7a, h⟩ | ⟨c7, c7a, h⟩
   replace h := il h; rcases h with ⟨c8, c8a, h⟩ | ⟨c8, c8a, h⟩
   replace h := ih h; rcases h with ⟨c9, c9a, h⟩ | ⟨c9, c9a, h⟩
   obtain rfl := si h
   obtain ⟨ad218, e218, hx218_0⟩ := Kd.at_int hr0 (x9_0 : Int) aD aD
   have p218 := eq_true (aD : 0 ≤ (x9_0 : Int))
   have q218 := eq_true (aD : x9_0 < (l0.length : Int))
   cases e218
   replace hx218_0 := qa hx218_0
   obtain ⟨ad220, e220, hx220_0⟩ := Kd.at_int hr0 ((wrap64 (x9_0 - 1)) : Int) aD aD
   have p220 := eq_true (aD : 0 ≤ ((wrap64 (x9_0 - 1)) : Int))
   have q220 := eq_true (aD : (wrap64 (x9_0 - 1)) < (l0.length : Int))
   cases e220
   replace hx220_0 := qa hx220_0
   rotate_left
   obtain ⟨kf, hkf⟩ : ∃ kf, kf = kk0 := ⟨_, rfl⟩; rw [← hkf] at h
   obtain ⟨ad218, e218, hx218_0⟩ := Kd.at_int hr0 (x9_0 : Int) aD aD
   have p218 := eq_true (aD : 0 ≤ (x9_0 : Int))
   have q218 := eq_true (aD : x9_0 < (l0.length : Int))
   cases e218
   replace hx218_0 := qa hx218_0
   obtain ⟨ad220, e220, hx220_0⟩ := Kd.at_int hr0 ((wrap64 (x9_0 - 1)) : Int) aD aD
   have p220 := eq_true (aD : 0 ≤ ((wrap64 (x9_0 - 1)) : Int))
   have q220 := eq_true (aD : (wrap64 (x9_0 - 1)) < (l0.length : Int))
   cases e220
   replace hx220_0 := qa hx220_0
   rotate_left
   exact absurd h (by simp)
   exact absurd h (by simp)
   obtain ⟨kf, hkf⟩ : ∃ kf, kf = kk0 := ⟨_, rfl⟩; rw [← hkf] at h
   obtain ⟨ad218, e218, hx218_0⟩ := Kd.at_int hr0 (x9_0 : Int) aD aD
   have p218 := eq_true (aD : 0 ≤ (x9_0 : Int))
   have q218 := eq_true (aD : x9_0 < (l0.length : Int))
   cases e218
   replace hx218_0 := qa hx218_0
   rotate_left
   obtain rfl := si h
   obtain ⟨ad218, e218, hx218_0⟩ := Kd.at_int hr0 (x9_0 : Int) aD aD
   have p218 := eq_true (aD : 0 ≤ (x9_0 : Int))
   have q218 := eq_true (aD : x9_0 < (l0.length : Int))
   cases e218
   replace hx218_0 := qa hx218_0
   rotate_left
   exact absurd h (by simp)
   exact absurd h (by simp)
   obtain rfl := si h
   rotate_left
   all_goals (go_wp2_with (first | (go_at_call 63; refine (impl_within.calls _ _ _ ?_ _ ?h).mono ?_; (case h => exact zA); rintro e w1 ⟨rfl, hb⟩; have hd := hb; replace hb := hb.below; replace hb := aM hb; have HB : Below w.heap.size w w1 := zB)); first | (go_ret; exact zE zD) | (go_roundg kf; (case measure => omega); (case rel => exact ⟨_, zR, zA, zD⟩)))

/-! ### impl_copyDatabase: function 38 -/
def impl_copyDatabase.l0 : Nat → List (S45) → Int → Int → List (S74) → List (S45) → Option ((List (S74)) × (List (S45)))
 | 0, _, _, _, _, _ => none
 | k + 1, x13, x14, x15, x233000, x233001 => if x15 < x14 then (if 0 ≤ x15 then (if x15 < (x13.length : Int) then ((some (([] : List Int) : List Int)).bind fun y235 => (if y235.length + ((rd_T45 x13 x15).f1).length < 17592186044416 then (if x233001.length < 4398046511104 then (impl_copyDatabase.l0 k x13 x14 (wrap64 (x15 + 1)) x233000 (x233001 ++ [(⟨(rd_T45 x13 x15).f0, (y235 ++ ((rd_T45 x13 x15).f1))⟩ : S45)])) else (none)) else (none))) else (none)) else (none)) else (some (x233000, x233001))
def impl_copyDatabase.f (k : Nat) (l0_0 : List (S74)) (l0_1 : List (S45)) : Option ((List (S74)) × (List (S45))) := (some (([] : List (S74)) : List (S74))).bind fun y223 => (if y223.length + l0_0.length < 4398046511104 then (impl_copyDatabase.l0 k l0_1 (l0_1.length : Int) 0 (y223 ++ l0_0) (([] : List (S45)))) else (none))
def impl_copyDatabase.T5 : Bool × List (List Nat × List Nat) := (true, [([], []), ([0], [0]), ([], []), ([2], [2]), ([], []), ([], []), ([5], [5]), ([4, 6], [4, 6]), ([3, 7], [3, 7]), ([8], [8]), ([1, 9, 7], [1, 9]), ([0, 1, 2, 3, 4, 5, 6, 7, 8, 9, 10], []), ([11, 10, 10, 0, 1, 2, 3, 4, 5, 6, 7, 8, 9, 10], [10, 11])])
def impl_copyDatabase.B5 : List Nat := [0, 1, 0, 4, 0, 0, 32, 112, 252, 508, 1023, 2047, 4095]
theorem impl_copyDatabase.tab5 : rtab .any (opsOf Try.f38 5) = impl_copyDatabase.T5 := by kernel_rfl
theorem impl_copyDatabase.bits5 : waitsOk impl_copyDatabase.T5.2 impl_copyDatabase.B5 = true := by kernel_rfl
set_option maxHeartbeats 8000000 in
set_option maxRecDepth 100000 in
theorem impl_copyDatabase.calls (k : Nat) (A0_0 : Option Addr) (c0_0 : Nat) (l0_0 : List (S74)) (A0_1 : Option Addr) (c0_1 : Nat) (l0_1 : List (S45)) (r1 : List (S74)) (r2 : List (S45)) (w : World) (hr0_0 : Kd.C k74 w A0_0 l0_0.length l0_0) (hc0_0 : l0_0.length ≤ c0_0) (hr0_1 : Kd.C k45 w A0_1 l0_1.length l0_1) (hc0_1 : l0_1.length ≤ c0_1) (h : impl_copyDatabase.f k l0_0 l0_1 = some (r1, r2)) :
  Calls Try.prog 38 #[.agg #[.slice A0_0 l0_0.length c0_0, .slice A0_1 l0_1.length c0_1]] w fun e w' => ∃ v0_ v1_ : Value, e = .returned (.agg #[v0_, v1_]) ∧ Kd.R k74 74 w' w.heap.size (fun _ => True) v0_ r1 ∧ Kd.S k45 45 w' w.heap.size (fun _ => True) v1_ r2 ∧ Below w.heap.size w w' := by
 have hu31 := Try.underlying31
 have hu45 := Try.underlying45
 have HR0_0 := aM hr0_0
 have HC0_0 := aM hc0_0
 clear hr0_0 hc0_0
 have HR0_1 := aM hr0_1
 have HC0_1 := aM hc0_1
 clear hr0_1 hc0_1
 have HB := aM (Below.refl w.heap.size w)
 have H : ((some (([] : List (S74)) : List (S74))).bind fun y223 => (if y223.length + l0_0.length < 4398046511104 then (impl_copyDatabase.l0 k l0_1 (l0_1.length : Int) 0 (y223 ++ l0_0) (([] : List (S45)))) else (none))) = some (r1, r2) := h
 clear h
 obtain ⟨y223, hy223⟩ : ∃ y_ : List (S74), y_ = (([] : List (S74))) := ⟨_, rfl⟩
 replace H : (if y223.length + l0_0.length < 4398046511104 then (impl_copyDatabase.l0 k l0_1 (l0_1.length : Int) 0 (y223 ++ l0_0) (([] : List (S45)))) else (none)) = some (r1, r2) := by first | (rw [hy223]; with_reducible exact H) | (have H2_ := (Option.bind_some _ _).symm.trans H; rw [hy223]; with_reducible exact H2_) | (have H2_ := (Option.bind_some _ _).symm.trans H; with_reducible exact H2_) | with_reducible exact H | (rw [hy223]; exact H) | exact H
 have Ny223 := aM hy223
 clear hy223
 by_cases c2 : y223.length + l0_0.length < 4398046511104
 ·rw [if_pos c2] at H
  have LMc2 := aM c2
  clear c2
  obtain ⟨y226, hy226⟩ : ∃ y_ : List (S74), y_ = (y223 ++ l0_0) := ⟨_, rfl⟩
  replace H : (impl_copyDatabase.l0 k l0_1 (l0_1.length : Int) 0 y226 (([] : List (S45)))) = some (r1, r2) := by first | (rw [hy226]; with_reducible exact H) | (have H2_ := (Option.bind_some _ _).symm.trans H; rw [hy226]; with_reducible exact H2_) | (have H2_ := (Option.bind_some _ _).symm.trans H; with_reducible exact H2_) | with_reducible exact H | (rw [hy226]; exact H) | exact H
  have Ny226 := aM hy226
  clear hy226
  obtain ⟨y229, hy229⟩ : ∃ y_ : List (S45), y_ = (([] : List (S45))) := ⟨_, rfl⟩
  replace H : (impl_copyDatabase.l0 k l0_1 (l0_1.length : Int) 0 y226 y229) = some (r1, r2) := by first | (rw [hy229]; with_reducible exact H) | (have H2_ := (Option.bind_some _ _).symm.trans H; rw [hy229]; with_reducible exact H2_) | (have H2_ := (Option.bind_some _ _).symm.trans H; with_reducible exact H2_) | with_reducible exact H | (rw [hy229]; exact H) | exact H
  have Ny229 := aM hy229
  clear hy229
  have H' := aM H
  clear H
  go_enter Try.func38, Try.ntmps38
  go_wp2_with (first | ((with_reducible refine gate_dst (N := 1) rfl ?_); refine box_event ?hg (N := 1) ?hd (cs := #[.slice A0_0 l0_0.length c0_0, .slice A0_1 l0_1.length c0_1]) (t := 31) ?hr ?_; (case hd => rfl); (case hg => rfl); (case hr => first | (go_simp; done) | (go_simp; rfl)); intro gb221 hg w3 hbox hb; have n0_ := aM (below_step aB hb); have n1_ := aM (hbox); have n2_ := aM ((by rw [hg]; exact (below_size aB) : w.heap.size ≤ gb221)); have n3_ := aM ((by rw [hg]; exact (below_size aB) : w.heap.size ≤ gb221)); clear HB; have HB := n0_; have BK221 := n1_; have GW221 := n2_; have GE221 := n3_; clear n0_ n1_ n2_ n3_; clear hb hbox hg) | ((with_reducible refine gate_dst (N := 2) rfl ?_); refine box_event ?hg (N := 2) ?hd (cs := #[.slice none 0 0, .slice none 0 0]) (t := 31) ?hr ?_; (case hd => rfl); (case hg => rfl); (case hr => first | (go_simp; done) | (go_simp; rfl)); intro gb222 hg w4 hbox hb; have n0_ := aM (blk_below (g := gb221) (o := .cells #[.slice A0_0 l0_0.length c0_0, .slice A0_1 l0_1.length c0_1] 31 (0, 0)) aK hb); have n1_ := aM (below_step aG hb); have n2_ := aM (hbox); have n3_ := aM ((by rw [hg]; exact (below_size aG) : w.heap.size ≤ gb222)); have n4_ := aM ((by rw [hg]; exact (below_size aG) : w.heap.size ≤ gb222)); have n5_ := aM ((by rw [hg]; exact Nat.ne_of_lt (blk_lt (g := gb221) (o := .cells #[.slice A0_0 l0_0.length c0_0, .slice A0_1 l0_1.length c0_1] 31 (0, 0)) aK) : gb221 ≠ gb222)); have n6_ := aM ((by rw [hg]; exact Nat.ne_of_gt (blk_lt (g := gb221) (o := .cells #[.slice A0_0 l0_0.length c0_0, .slice A0_1 l0_1.length c0_1] 31 (0, 0)) aK) : gb222 ≠ gb221)); clear BK221; clear HB; have BK221 := n0_; have HB := n1_; have BK222 := n2_; have GW222 := n3_; have GE222 := n4_; have NB221_222 := n5_; have NB222_221 := n6_; clear n0_ n1_ n2_ n3_ n4_ n5_ n6_; clear hb hbox hg) | ((with_reducible refine gate_dst (N := 6) rfl ?_); refine Kd.R_lit k74 _ 74 ?hg (N := 6) ?hd (xs := ([] : List (S74))) (inner := []) (ok := fun _ => True) (okp := fun _ => True) ?hr ?hp (fun _ hk => hk) trivial (Below.refl _ _) (Nat.le_refl _) (by simp) ?_; (case hd => rfl); (case hg => rfl); (case hr => first | (go_simp; done) | (go_simp; rfl)); (case hp => exact (Reps.none _ _)); intro v224 w5 ho6 hb hg_ hnew_; clear hg_ hnew_; (first | rw [← Ny223.out] at ho6 | (simp only [Int.reduceToNat] at ho6; rw [← Ny223.out] at ho6)); have n0_ := aM (Kd.R_lower ho6 (below_size aG)); have n1_ := aM (blk_below (g := gb221) (o := .cells #[.slice A0_0 l0_0.length c0_0, .slice A0_1 l0_1.length c0_1] 31 (0, 0)) aK hb); have n2_ := aM (blk_below (g := gb222) (o := .cells #[.slice none 0 0, .slice none 0 0] 31 (0, 0)) aK hb); have n3_ := aM (below_step aG hb); clear BK221; clear BK222; clear HB; have HO225 := n0_; have BK221 := n1_; have BK222 := n2_; have HB := n3_; clear n0_ n1_ n2_ n3_; clear hb ho6; have hnb7 := NB221_222.out; have hnc7 := NB222_221.out; have hcz8_0 : w5.cell? ⟨gb221, 0, none⟩ = some (.slice A0_0 l0_0.length c0_0) := (blk_cell BK221.out 0).trans rfl; have hcz8_1 : w5.cell? ⟨gb221, 1, none⟩ = some (.slice A0_1 l0_1.length c0_1) := (blk_cell BK221.out 1).trans rfl; have hfz8_0 := blk_frozen BK221.out 0; have hfz8_1 := blk_frozen BK221.out 1) | ((with_reducible refine gate_builtin (b := .append) (xs := #[.tmp 6, .tmp 8]) rfl ?_); at_builtin; refine Kd.R_append_rows k74 (w0 := w) w.heap.size rfl (.tmp 6) (.tmp 8) 28 74 (.agg #[(.string ⟨#[]⟩), (.int .i64 0), (.int .i64 0)]) 32 rfl Try.underlying28 info74 rfl (by decide) (by omega) v224 y223 l0_0 _ _ _ (fun _ => True) (fun _ => False) rfl rfl ?aO ?aR (fun _ _ h => h) (fun _ h => h.elim) ?aF ?aB ?aS ?aL ?_; (case aR => exact aC); (case aB => exact aG); (case aF => exact (fun _ _ => trivial)); (case aO => exact (aR HO225)); (case aS => exact (below_size aG)); (case aL => have := LMc2.out; omega); intro v227 w9 ho hb hg hat; rw [← Ny226.out] at ho; have n0_ := aM (blk_grown (g := gb221) (o := .cells #[.slice A0_0 l0_0.length c0_0, .slice A0_1 l0_1.length c0_1] 31 (0, 0)) aK hg (Kd.R_ne HO225.out BK221.out (by decide))); have n1_ := aM (blk_grown (g := gb222) (o := .cells #[.slice none 0 0, .slice none 0 0] 31 (0, 0)) aK hg (Kd.R_ne HO225.out BK222.out (by decide))); have n2_ := aM (hb); have n3_ := aM (ho); clear BK221; clear BK222; clear HB; clear HO225; have BK221 := n0_; have BK222 := n1_; have HB := n2_; have HO228 := n3_; clear n0_ n1_ n2_ n3_; clear ho hb hg hat) | ((with_reducible refine gate_dst (N := 10) rfl ?_); refine Kd.S_lit k45 _ 45 ?hg (N := 10) ?hd (xs := ([] : List (S45))) (inner := []) (ok := fun _ => True) (okp := fun _ => True) ?hr ?hp (fun _ hk => hk) trivial (Below.refl _ _) (Nat.le_refl _) (by simp) ?_; (case hd => rfl); (case hg => rfl); (case hr => first | (go_simp; done) | (go_simp; rfl)); (case hp => exact (Reps.none _ _)); intro v230 w10 ho11 hb hg_ hnew_; clear hg_ hnew_; (first | rw [← Ny229.out] at ho11 | (simp only [Int.reduceToNat] at ho11; rw [← Ny229.out] at ho11)); have n0_ := aM (Kd.R_below (aR HO228) hb); have n1_ := aM (Kd.S_lower ho11 (below_size aG)); have n2_ := aM (blk_below (g := gb221) (o := .cells #[.slice A0_0 l0_0.length c0_0, .slice A0_1 l0_1.length c0_1] 31 (0, 0)) aK hb); have n3_ := aM (blk_below (g := gb222) (o := .cells #[.slice none 0 0, .slice none 0 0] 31 (0, 0)) aK hb); have n4_ := aM (below_step aG hb); clear HO228; clear BK221; clear BK222; clear HB; have HO228 := n0_; have HO231 := n1_; have BK221 := n2_; have BK222 := n3_; have HB := n4_; clear n0_ n1_ n2_ n3_ n4_; clear hb ho11; obtain ⟨Ao12, co12, eo12⟩ := Kd.S_slice HO231.out; subst eo12; obtain ⟨Ao13, co13, eo13⟩ := Kd.R_slice HO228.out; subst eo13) | ((with_reducible refine gate_dst (N := 3) rfl ?_); refine box_event ?hg (N := 3) ?hd (cs := #[.slice none 0 0, .slice none 0 0]) (t := 31) ?hr ?_; (case hd => rfl); (case hg => rfl); (case hr => first | (go_simp; done) | (go_simp; rfl)); intro gb232 hg w14 hbox hb; have n0_ := aM (Kd.R_below (aR HO228) hb); have n1_ := aM (Kd.S_below (aS HO231) hb); have n2_ := aM (blk_below (g := gb221) (o := .cells #[.slice A0_0 l0_0.length c0_0, .slice A0_1 l0_1.length c0_1] 31 (0, 0)) aK hb); have n3_ := aM (blk_below (g := gb222) (o := .cells #[.slice none 0 0, .slice none 0 0] 31 (0, 0)) aK hb); have n4_ := aM (below_step aG hb); have n5_ := aM (hbox); have n6_ := aM ((by rw [hg]; exact (below_size aG) : w.heap.size ≤ gb232)); have n7_ := aM ((by rw [hg]; exact (below_size aG) : w.heap.size ≤ gb232)); have n8_ := aM ((by rw [hg]; exact Nat.ne_of_lt (blk_lt (g := gb221) (o := .cells #[.slice A0_0 l0_0.length c0_0, .slice A0_1 l0_1.length c0_1] 31 (0, 0)) aK) : gb221 ≠ gb232)); have n9_ := aM ((by rw [hg]; exact Nat.ne_of_gt (blk_lt (g := gb221) (o := .cells #[.slice A0_0 l0_0.length c0_0, .slice A0_1 l0_1.length c0_1] 31 (0, 0)) aK) : gb232 ≠ gb221)); have n10_ := aM ((by rw [hg]; exact Nat.ne_of_lt (blk_lt (g := gb222) (o := .cells #[.slice none 0 0, .slice none 0 0] 31 (0, 0)) aK) : gb222 ≠ gb232)); have n11_ := aM ((by rw [hg]; exact Nat.ne_of_gt (blk_lt (g := gb222) (o := .cells #[.slice none 0 0, .slice none 0 0] 31 (0, 0)) aK) : gb232 ≠ gb222)); clear HO228; clear HO231; clear BK221; clear BK222; clear HB; have HO228 := n0_; have HO231 := n1_; have BK221 := n2_; have BK222 := n3_; have HB := n4_; have BK232 := n5_; have GW232 := n6_; have GE232 := n7_; have NB221_232 := n8_; have NB232_221 := n9_; have NB222_232 := n10_; have NB232_222 := n11_; clear n0_ n1_ n2_ n3_ n4_ n5_ n6_ n7_ n8_ n9_ n10_ n11_; clear hb hbox hg; have hnb15 := NB232_221.out; have hnc15 := NB221_232.out; have hnb16 := NB232_222.out; have hnc16 := NB222_232.out; have hcz17_0 : w14.cell? ⟨gb232, 0, none⟩ = some (.slice none 0 0) := (blk_cell BK232.out 0).trans rfl; have hcz17_1 : w14.cell? ⟨gb232, 1, none⟩ = some (.slice none 0 0) := (blk_cell BK232.out 1).trans rfl; have hfz17_0 := blk_frozen BK232.out 0; have hfz17_1 := blk_frozen BK232.out 1; have hcz18_0 : w14.cell? ⟨gb221, 0, none⟩ = some (.slice A0_0 l0_0.length c0_0) := (blk_cell BK221.out 0).trans rfl; have hcz18_1 : w14.cell? ⟨gb221, 1, none⟩ = some (.slice A0_1 l0_1.length c0_1) := (blk_cell BK221.out 1).trans rfl; have hfz18_0 := blk_frozen BK221.out 0; have hfz18_1 := blk_frozen BK221.out 1))
  go_loopg [15] k (fun kq v15 w' => ∃ (x15_1 : Int) (x233001_1 : List (S45)) (u233001 : Value), v15 = .int .i64 x15_1 ∧ Aside0 (impl_copyDatabase.l0 kq l0_1 (l0_1.length : Int) x15_1 y226 x233001_1 = some (r1, r2)) ∧ Aside0 (kq ≤ k) ∧ Aside0 (Kd.R k74 74 w' w.heap.size (fun _ => True) (.slice Ao13 y226.length co13) y226) ∧ Aside0 (Kd.S k45 45 w' w.heap.size (fun _ => True) u233001 x233001_1) ∧ Aside0 (w'.heap[gb221]? = some (.cells #[(.slice A0_0 l0_0.length c0_0), (.slice A0_1 l0_1.length c0_1)] 31 (0, 0))) ∧ Aside0 (w'.heap[gb222]? = some (.cells #[(.slice none 0 0), (.slice none 0 0)] 31 (0, 0))) ∧ Aside0 (w'.heap[gb232]? = some (.cells #[(.slice Ao13 y226.length co13), u233001] 31 (0, 0))) ∧ Aside0 (Below w.heap.size w w'))
  case atStart => exact ⟨(0), (y229), (.slice Ao12 y229.length co12), (by first | rfl | (simp; done) | (simp [*]; done)), H', ⟨Nat.le_refl _⟩, ⟨by (with_reducible repeat (first | apply Kd.R_alloc | apply Kd.R_drewN | apply Kd.R_drew)); exact Kd.R_mono (Kd.R_far (p := ⟨gb232, 1, none⟩) (Kd.R_far (p := ⟨gb232, 0, none⟩) (Kd.R_types HO228.out BK232.out (by decide)) (fun _ hk => hk.2) (.slice Ao13 y226.length co13)) (fun _ hk => hk.2) (.slice Ao12 y229.length co12)) (fun _ hk => trivial)⟩, ⟨by (with_reducible repeat (first | apply Kd.S_alloc | apply Kd.S_drewN | apply Kd.S_drew)); exact Kd.S_mono (Kd.S_far (p := ⟨gb232, 1, none⟩) (Kd.S_far (p := ⟨gb232, 0, none⟩) (Kd.S_types HO231.out BK232.out (by decide)) (fun _ hk => hk.2) (.slice Ao13 y226.length co13)) (fun _ hk => hk.2) (.slice Ao12 y229.length co12)) (fun _ hk => trivial)⟩, ⟨by (with_reducible repeat (first | refine blk_drewN ?_ _ | refine blk_drew ?_ | refine blk_alloc ?_ _)); refine blk_far ?_ NB221_232.out _; (with_reducible repeat (first | refine blk_drewN ?_ _ | refine blk_drew ?_ | refine blk_alloc ?_ _)); refine blk_far ?_ NB221_232.out _; (with_reducible repeat (first | refine blk_drewN ?_ _ | refine blk_drew ?_ | refine blk_alloc ?_ _)); exact BK221.out⟩, ⟨by (with_reducible repeat (first | refine blk_drewN ?_ _ | refine blk_drew ?_ | refine blk_alloc ?_ _)); refine blk_far ?_ NB222_232.out _; (with_reducible repeat (first | refine blk_drewN ?_ _ | refine blk_drew ?_ | refine blk_alloc ?_ _)); refine blk_far ?_ NB222_232.out _; (with_reducible repeat (first | refine blk_drewN ?_ _ | refine blk_drew ?_ | refine blk_alloc ?_ _)); exact BK222.out⟩, ⟨by (with_reducible repeat (first | refine blk_drewN ?_ _ | refine blk_drew ?_ | refine blk_alloc ?_ _)); refine blk_put (cs := #[.slice Ao13 y226.length co13, .slice none 0 0]) ?_ 1 _ rfl; (with_reducible repeat (first | refine blk_drewN ?_ _ | refine blk_drew ?_ | refine blk_alloc ?_ _)); refine blk_put (cs := #[.slice none 0 0, .slice none 0 0]) ?_ 0 _ rfl; (with_reducible repeat (first | refine blk_drewN ?_ _ | refine blk_drew ?_ | refine blk_alloc ?_ _)); exact BK232.out⟩, ⟨by repeat (first | (with_reducible first | exact HB.out | apply below_alloc | apply pw_below_drewN | apply below_drew1 | refine below_set ?_ GE221.out | refine below_set ?_ GE222.out | refine below_set ?_ GE232.out) | exact HB.out)⟩⟩
  case round =>
   clear H'
   try clear c1
   try clear c2
   try clear p2
   try clear c3
   try clear c7
   try clear c15
   try clear c16
   try clear hcz17_0
   try clear hcz17_1
   try clear hcz18_0
   try clear hcz18_1
   try clear hcz8_0
   try clear hcz8_1
   try clear hfz17_0
   try clear hfz17_1
   try clear hfz18_0
   try clear hfz18_1
   try clear hfz8_0
   try clear hfz8_1
   obtain ⟨x15_1, x233001_1, u233001, rfl, HA, HK1, HO_233000, HO_233001, BK221, BK222, BK232, HB⟩ := hrel
   cases gk with
   | zero => exact absurd HA.out (by simp [impl_copyDatabase.l0])
   | succ k1 =>
    have H := HA.out
    clear HA
    simp only [impl_copyDatabase.l0] at H
    by_cases c19 : x15_1 < (l0_1.length : Int)
    ·rw [if_pos c19] at H
     have c19b0 : decide (x15_1 < (l0_1.length : Int)) = true := decide_eq_true c19
     clear c19
     by_cases c20 : 0 ≤ x15_1
     ·rw [if_pos c20] at H
      have c20b0 : decide (0 ≤ x15_1) = true := decide_eq_true c20
      clear c20
      by_cases c21 : x15_1 < (l0_1.length : Int)
      ·rw [if_pos c21] at H
       have c21b0 : decide (x15_1 < (l0_1.length : Int)) = true := decide_eq_true c21
       clear c21
       obtain ⟨y235, hy235⟩ : ∃ y_ : List Int, y_ = (([] : List Int)) := ⟨_, rfl⟩
       replace H : (if y235.length + ((rd_T45 l0_1 x15_1).f1).length < 17592186044416 then (if x233001_1.length < 4398046511104 then (impl_copyDatabase.l0 k1 l0_1 (l0_1.length : Int) (wrap64 (x15_1 + 1)) y226 (x233001_1 ++ [(⟨(rd_T45 l0_1 x15_1).f0, (y235 ++ ((rd_T45 l0_1 x15_1).f1))⟩ : S45)])) else (none)) else (none)) = some (r1, r2) := by first | (rw [hy235]; with_reducible exact H) | (have H2_ := (Option.bind_some _ _).symm.trans H; rw [hy235]; with_reducible exact H2_) | (have H2_ := (Option.bind_some _ _).symm.trans H; with_reducible exact H2_) | with_reducible exact H | (rw [hy235]; exact H) | exact H
       have Ny235 := aM hy235
       clear hy235
       by_cases c22 : y235.length + ((rd_T45 l0_1 x15_1).f1).length < 17592186044416
       ·rw [if_pos c22] at H
        have LMc22 := aM c22
        clear c22
        obtain ⟨y238, hy238⟩ : ∃ y_ : List Int, y_ = (y235 ++ ((rd_T45 l0_1 x15_1).f1)) := ⟨_, rfl⟩
        replace H : (if x233001_1.length < 4398046511104 then (impl_copyDatabase.l0 k1 l0_1 (l0_1.length : Int) (wrap64 (x15_1 + 1)) y226 (x233001_1 ++ [(⟨(rd_T45 l0_1 x15_1).f0, y238⟩ : S45)])) else (none)) = some (r1, r2) := by first | (rw [hy238]; with_reducible exact H) | (have H2_ := (Option.bind_some _ _).symm.trans H; rw [hy238]; with_reducible exact H2_) | (have H2_ := (Option.bind_some _ _).symm.trans H; with_reducible exact H2_) | with_reducible exact H | (rw [hy238]; exact H) | exact H
        have Ny238 := aM hy238
        clear hy238
        by_cases c23 : x233001_1.length < 4398046511104
        ·rw [if_pos c23] at H
         have LMc23 := aM c23
         clear c23
         obtain ⟨y241, hy241⟩ : ∃ y_ : List (S45), y_ = (x233001_1 ++ [(⟨(rd_T45 l0_1 x15_1).f0, y238⟩ : S45)]) := ⟨_, rfl⟩
         replace H : (impl_copyDatabase.l0 k1 l0_1 (l0_1.length : Int) (wrap64 (x15_1 + 1)) y226 y241) = some (r1, r2) := by first | (rw [hy241]; with_reducible exact H) | (have H2_ := (Option.bind_some _ _).symm.trans H; rw [hy241]; with_reducible exact H2_) | (have H2_ := (Option.bind_some _ _).symm.trans H; with_reducible exact H2_) | with_reducible exact H | (rw [hy241]; exact H) | exact H
         have Ny241 := aM hy241
         clear hy241
         have H' := aM H
         clear H
         have p233 : 0 ≤ (x15_1 : Int) := aD
         have q233 : x15_1 < (l0_1.length : Int) := aD
         obtain ⟨ad233, A233_1, c233_1, e233, hx233_0, hx233_1, hl233_1, hi233_1⟩ := at_T45 HR0_1.out x15_1 p233 q233
         cases e233
         replace hx233_0 := (HB.out.cell (World.block_lt_of_cell? w _ hx233_0)).trans hx233_0
         replace hx233_1 := (HB.out.cell (World.block_lt_of_cell? w _ hx233_1)).trans hx233_1
         have HR233_1 := aM hi233_1
         have HC233_1 := aM hl233_1
         clear hi233_1 hl233_1
         replace p233 := eq_true p233
         replace q233 := eq_true q233
         try go_wp2_with (first | ((with_reducible refine gate_dst (N := 5) rfl ?_); refine box_event ?hg (N := 5) ?hd (cs := #[.int .i64 0, .slice none 0 0]) (t := 45) ?hr ?_; (case hd => rfl); (case hg => rfl); (case hr => first | (go_simp; done) | (go_simp; rfl)); intro gb234 hg w24 hbox hb; have n0_ := aM (Kd.R_below (aR HO_233000) hb); have n1_ := aM (Kd.S_below (Kd.S_elderB (aS HO_233001) gb234 (Nat.le_of_eq hg.symm)) hb); have n2_ := aM (blk_below (g := gb221) (o := .cells #[.slice A0_0 l0_0.length c0_0, .slice (some ad233) l0_1.length c0_1] 31 (0, 0)) aK hb); have n3_ := aM (blk_below (g := gb222) (o := .cells #[.slice none 0 0, .slice none 0 0] 31 (0, 0)) aK hb); have n4_ := aM (blk_below (g := gb232) (o := .cells #[.slice Ao13 y226.length co13, u233001] 31 (0, 0)) aK hb); have n5_ := aM (below_step aG hb); have n6_ := aM (hbox); have n7_ := aM ((by rw [hg]; exact (below_size aG) : w.heap.size ≤ gb234)); have n8_ := aM ((by rw [hg]; exact (below_size aG) : w.heap.size ≤ gb234)); have n9_ := aM ((by rw [hg]; exact Nat.ne_of_lt (blk_lt (g := gb221) (o := .cells #[.slice A0_0 l0_0.length c0_0, .slice (some ad233) l0_1.length c0_1] 31 (0, 0)) aK) : gb221 ≠ gb234)); have n10_ := aM ((by rw [hg]; exact Nat.ne_of_gt (blk_lt (g := gb221) (o := .cells #[.slice A0_0 l0_0.length c0_0, .slice (some ad233) l0_1.length c0_1] 31 (0, 0)) aK) : gb234 ≠ gb221)); have n11_ := aM ((by rw [hg]; exact Nat.ne_of_lt (blk_lt (g := gb222) (o := .cells #[.slice none 0 0, .slice none 0 0] 31 (0, 0)) aK) : gb222 ≠ gb234)); have n12_ := aM ((by rw [hg]; exact Nat.ne_of_gt (blk_lt (g := gb222) (o := .cells #[.slice none 0 0, .slice none 0 0] 31 (0, 0)) aK) : gb234 ≠ gb222)); have n13_ := aM ((by rw [hg]; exact Nat.ne_of_lt (blk_lt (g := gb232) (o := .cells #[.slice Ao13 y226.length co13, u233001] 31 (0, 0)) aK) : gb232 ≠ gb234)); have n14_ := aM ((by rw [hg]; exact Nat.ne_of_gt (blk_lt (g := gb232) (o := .cells #[.slice Ao13 y226.length co13, u233001] 31 (0, 0)) aK) : gb234 ≠ gb232)); clear HO_233000; clear HO_233001; clear BK221; clear BK222; clear BK232; clear HB; have HO_233000 := n0_; have HO_233001 := n1_; have BK221 := n2_; have BK222 := n3_; have BK232 := n4_; have HB := n5_; have BK234 := n6_; have GW234 := n7_; have GE234 := n8_; have NB221_234 := n9_; have NB234_221 := n10_; have NB222_234 := n11_; have NB234_222 := n12_; have NB232_234 := n13_; have NB234_232 := n14_; clear n0_ n1_ n2_ n3_ n4_ n5_ n6_ n7_ n8_ n9_ n10_ n11_ n12_ n13_ n14_; clear hb hbox hg; have hnb25 := NB234_221.out; have hnc25 := NB221_234.out; have hnb26 := NB234_222.out; have hnc26 := NB222_234.out; have hnb27 := NB234_232.out; have hnc27 := NB232_234.out; have hcz28_0 : w24.cell? ⟨gb234, 0, none⟩ = some (.int .i64 0) := (blk_cell BK234.out 0).trans rfl; have hcz28_1 : w24.cell? ⟨gb234, 1, none⟩ = some (.slice none 0 0) := (blk_cell BK234.out 1).trans rfl; have hfz28_0 := blk_frozen BK234.out 0; have hfz28_1 := blk_frozen BK234.out 1))
         have n0_ : Aside0 (Kd.R k74 74 ((w24.setCell ⟨gb234, 0, none⟩ (.int .i64 ((rd_T45 l0_1 x15_1).f0))).setCell ⟨gb234, 1, none⟩ (.slice A233_1 ((rd_T45 l0_1 x15_1).f1).length c233_1)) w.heap.size (fun _ => True) (.slice Ao13 y226.length co13) y226) := ⟨by (with_reducible repeat (first | apply Kd.R_alloc | apply Kd.R_drewN | apply Kd.R_drew)); exact Kd.R_mono (Kd.R_far (p := ⟨gb234, 1, none⟩) (Kd.R_far (p := ⟨gb234, 0, none⟩) (Kd.R_types HO_233000.out BK234.out (by decide)) (fun _ hk => hk.2) (.int .i64 ((rd_T45 l0_1 x15_1).f0))) (fun _ hk => hk.2) (.slice A233_1 ((rd_T45 l0_1 x15_1).f1).length c233_1)) (fun _ hk => trivial)⟩
         have n1_ : Aside0 (Kd.S k45 45 ((w24.setCell ⟨gb234, 0, none⟩ (.int .i64 ((rd_T45 l0_1 x15_1).f0))).setCell ⟨gb234, 1, none⟩ (.slice A233_1 ((rd_T45 l0_1 x15_1).f1).length c233_1)) w.heap.size (fun k_ => k_ ≠ gb234) u233001 x233001_1) := ⟨by (with_reducible repeat (first | apply Kd.S_alloc | apply Kd.S_drewN | apply Kd.S_drew)); exact Kd.S_mono (Kd.S_far (p := ⟨gb234, 1, none⟩) (Kd.S_far (p := ⟨gb234, 0, none⟩) (Kd.S_mono HO_233001.out (fun k_ hk => (⟨hk, hk.2⟩ : _ ∧ k_ ≠ gb234))) (fun _ hk => hk.2) (.int .i64 ((rd_T45 l0_1 x15_1).f0))) (fun _ hk => hk.2) (.slice A233_1 ((rd_T45 l0_1 x15_1).f1).length c233_1)) (fun _ hk => hk.1.2)⟩
         have n2_ : Aside0 (((w24.setCell ⟨gb234, 0, none⟩ (.int .i64 ((rd_T45 l0_1 x15_1).f0))).setCell ⟨gb234, 1, none⟩ (.slice A233_1 ((rd_T45 l0_1 x15_1).f1).length c233_1)).heap[gb221]? = some (.cells #[.slice A0_0 l0_0.length c0_0, .slice (some ad233) l0_1.length c0_1] 31 (0, 0))) := ⟨by (with_reducible repeat (first | refine blk_drewN ?_ _ | refine blk_drew ?_ | refine blk_alloc ?_ _)); refine blk_far ?_ NB221_234.out _; (with_reducible repeat (first | refine blk_drewN ?_ _ | refine blk_drew ?_ | refine blk_alloc ?_ _)); refine blk_far ?_ NB221_234.out _; (with_reducible repeat (first | refine blk_drewN ?_ _ | refine blk_drew ?_ | refine blk_alloc ?_ _)); exact BK221.out⟩
         have n3_ : Aside0 (((w24.setCell ⟨gb234, 0, none⟩ (.int .i64 ((rd_T45 l0_1 x15_1).f0))).setCell ⟨gb234, 1, none⟩ (.slice A233_1 ((rd_T45 l0_1 x15_1).f1).length c233_1)).heap[gb222]? = some (.cells #[.slice none 0 0, .slice none 0 0] 31 (0, 0))) := ⟨by (with_reducible repeat (first | refine blk_drewN ?_ _ | refine blk_drew ?_ | refine blk_alloc ?_ _)); refine blk_far ?_ NB222_234.out _; (with_reducible repeat (first | refine blk_drewN ?_ _ | refine blk_drew ?_ | refine blk_alloc ?_ _)); refine blk_far ?_ NB222_234.out _; (with_reducible repeat (first | refine blk_drewN ?_ _ | refine blk_drew ?_ | refine blk_alloc ?_ _)); exact BK222.out⟩
         have n4_ : Aside0 (((w24.setCell ⟨gb234, 0, none⟩ (.int .i64 ((rd_T45 l0_1 x15_1).f0))).setCell ⟨gb234, 1, none⟩ (.slice A233_1 ((rd_T45 l0_1 x15_1).f1).length c233_1)).heap[gb232]? = some (.cells #[.slice Ao13 y226.length co13, u233001] 31 (0, 0))) := ⟨by (with_reducible repeat (first | refine blk_drewN ?_ _ | refine blk_drew ?_ | refine blk_alloc ?_ _)); refine blk_far ?_ NB232_234.out _; (with_reducible repeat (first | refine blk_drewN ?_ _ | refine blk_drew ?_ | refine blk_alloc ?_ _)); refine blk_far ?_ NB232_234.out _; (with_reducible repeat (first | refine blk_drewN ?_ _ | refine blk_drew ?_ | refine blk_alloc ?_ _)); exact BK232.out⟩
         have n5_ : Aside0 (((w24.setCell ⟨gb234, 0, none⟩ (.int .i64 ((rd_T45 l0_1 x15_1).f0))).setCell ⟨gb234, 1, none⟩ (.slice A233_1 ((rd_T45 l0_1 x15_1).f1).length c233_1)).heap[gb234]? = some (.cells #[.int .i64 ((rd_T45 l0_1 x15_1).f0), .slice A233_1 ((rd_T45 l0_1 x15_1).f1).length c233_1] 45 (0, 0))) := ⟨by (with_reducible repeat (first | refine blk_drewN ?_ _ | refine blk_drew ?_ | refine blk_alloc ?_ _)); refine blk_put (cs := #[.int .i64 ((rd_T45 l0_1 x15_1).f0), .slice none 0 0]) ?_ 1 _ rfl; (with_reducible repeat (first | refine blk_drewN ?_ _ | refine blk_drew ?_ | refine blk_alloc ?_ _)); refine blk_put (cs := #[.int .i64 0, .slice none 0 0]) ?_ 0 _ rfl; (with_reducible repeat (first | refine blk_drewN ?_ _ | refine blk_drew ?_ | refine blk_alloc ?_ _)); exact BK234.out⟩
         have n6_ : Aside0 (Below w.heap.size w ((w24.setCell ⟨gb234, 0, none⟩ (.int .i64 ((rd_T45 l0_1 x15_1).f0))).setCell ⟨gb234, 1, none⟩ (.slice A233_1 ((rd_T45 l0_1 x15_1).f1).length c233_1))) := ⟨by repeat (first | (with_reducible first | exact HB.out | apply below_alloc | apply pw_below_drewN | apply below_drew1 | refine below_set ?_ GE221.out | refine below_set ?_ GE222.out | refine below_set ?_ GE232.out | refine below_set ?_ GE234.out) | exact HB.out)⟩
         (try clear HO_233000)
         (try clear HO_233001)
         (try clear BK221)
         (try clear BK222)
         (try clear BK232)
         (try clear BK234)
         (try clear HB)
         generalize ((w24.setCell ⟨gb234, 0, none⟩ (.int .i64 ((rd_T45 l0_1 x15_1).f0))).setCell ⟨gb234, 1, none⟩ (.slice A233_1 ((rd_T45 l0_1 x15_1).f1).length c233_1)) = w29 at n0_ n1_ n2_ n3_ n4_ n5_ n6_ ⊢
         have HO_233000 := n0_
         have HO_233001 := n1_
         have BK221 := n2_
         have BK222 := n3_
         have BK232 := n4_
         have BK234 := n5_
         have HB := n6_
         clear n0_ n1_ n2_ n3_ n4_ n5_ n6_
         have n0_ := aM (Kd.R_drew HO_233000.out)
         have n1_ := aM (Kd.S_drew HO_233001.out)
         have n2_ := aM (blk_drew BK221.out)
         have n3_ := aM (blk_drew BK222.out)
         have n4_ := aM (blk_drew BK232.out)
         have n5_ := aM (blk_drew BK234.out)
         have n6_ := aM (below_drew1 HB.out)
         clear HO_233000
         clear HO_233001
         clear BK221
         clear BK222
         clear BK232
         clear BK234
         clear HB
         have HO_233000 := n0_
         have HO_233001 := n1_
         have BK221 := n2_
         have BK222 := n3_
         have BK232 := n4_
         have BK234 := n5_
         have HB := n6_
         clear n0_ n1_ n2_ n3_ n4_ n5_ n6_
         refine start_ (n := 13) (S := fun w' => w'.cell? ⟨gb232, 0, none⟩ = some (.slice Ao13 y226.length co13) ∧ w'.cell? ⟨gb232, 1, none⟩ = some (u233001) ∧ w'.cell? ⟨gb234, 0, none⟩ = some (.int .i64 ((rd_T45 l0_1 x15_1).f0)) ∧ w'.cell? ⟨gb234, 1, none⟩ = some (.slice A233_1 ((rd_T45 l0_1 x15_1).f1).length c233_1)) (ds := [12]) #[false, false, false, false, false, false, false, false, false, false, false, false, false] (by kernel_rfl) rfl rfl ⟨(blk_cell BK232.out 0).trans rfl, (blk_cell BK232.out 1).trans rfl, (blk_cell BK234.out 0).trans rfl, (blk_cell BK234.out 1).trans rfl⟩ (fun hHeld => ?_); refine with_tabW impl_copyDatabase.tab5 impl_copyDatabase.bits5 (fun HT_ HW_ => ?_)
         generalize w29.drew = w30 at HO_233000 HO_233001 BK221 BK222 BK232 BK234 HB hHeld ⊢
         refine pure_ (i := 0) (N := some 19) (v := ?_) (a' := ?_) #[true, false, false, false, false, false, false, false, false, false, false, false, false] rfl rfl (any_of HT_.out (by kernel_rfl)) (fun _ _ _ h => h) (Or.inl ⟨by rfl, ?_⟩) ?_ ?_
         rotate_left
         ·exact aI
         rotate_left
         ·exact aP
         refine pure_ (i := 2) (N := some 21) (v := ?_) (a' := ?_) #[true, false, true, false, false, false, false, false, false, false, false, false, false] rfl rfl (any_of HT_.out (by kernel_rfl)) (fun _ _ _ h => h) (Or.inl ⟨by rfl, ?_⟩) ?_ ?_
         rotate_left
         ·exact aI
         rotate_left
         ·exact aP
         refine pure_ (i := 5) (N := some 24) (v := ?_) (a' := ?_) #[true, false, true, false, false, true, false, false, false, false, false, false, false] rfl rfl (any_of HT_.out (by kernel_rfl)) (fun _ _ _ h => h) (Or.inl ⟨by rfl, ?_⟩) ?_ ?_
         rotate_left
         ·exact aI
         rotate_left
         ·exact aP
         refine take_ (i := 1) (N := some 20) (v := ?_) (a' := ?_) #[true, true, true, false, false, true, false, false, false, false, false, false, false] rfl rfl (take_ofW HT_.out HW_.out (by kernel_rfl)) (fun _ _ _ h => h) (Or.inl ⟨by rfl, ?_⟩) hHeld ?_ ?_
         rotate_left
         ·rintro w' ⟨s0, s1, s2, s3⟩
          go_simp
          with_reducible rfl
         rotate_left
         ·exact aP
         refine take_ (i := 3) (N := some 22) (v := ?_) (a' := ?_) #[true, true, true, true, false, true, false, false, false, false, false, false, false] rfl rfl (take_ofW HT_.out HW_.out (by kernel_rfl)) (fun _ _ _ h => h) (Or.inl ⟨by rfl, ?_⟩) hHeld ?_ ?_
         rotate_left
         ·rintro w' ⟨s0, s1, s2, s3⟩
          go_simp
          with_reducible rfl
         rotate_left
         ·exact aP
         refine take_ (i := 6) (N := some 25) (v := ?_) (a' := ?_) #[true, true, true, true, false, true, true, false, false, false, false, false, false] rfl rfl (take_ofW HT_.out HW_.out (by kernel_rfl)) (fun _ _ _ h => h) (Or.inl ⟨by rfl, ?_⟩) hHeld ?_ ?_
         rotate_left
         ·rintro w' ⟨s0, s1, s2, s3⟩
          go_simp
          with_reducible rfl
         rotate_left
         ·exact aP
         refine one_ (i := 4) (N := some 23) #[true, true, true, true, true, true, true, false, false, false, false, false, false] rfl rfl (one_of HT_.out (by kernel_rfl)) (by decide) (fun K hK => ?_)
         refine Kd.R_lit_step (Kd.int .i64) _ 3 ?hg (N := 23) ?hd (xs := ([] : List Int)) (inner := []) (ok := fun _ => True) (okp := fun _ => True) ?hr ?hp (fun _ hk => hk) trivial (Below.refl _ _) (Nat.le_refl _) (by simp) ?_; (case hd => rfl); (case hg => rfl); (case hr => first | (go_simp; done) | (go_simp; rfl)); (case hp => exact (Reps.none _ _))
         intro v236 w31 ho32 hb hg_ hnew_
         clear hg_ hnew_
         (first | rw [← Ny235.out] at ho32 | (simp only [Int.reduceToNat] at ho32; rw [← Ny235.out] at ho32))
         have n0_ := aM (Kd.R_below (aR HO_233000) hb)
         have n1_ := aM (Kd.S_elder' (aS HO_233001) (Kd.R_base ho32) hb)
         have n2_ := aM (Kd.R_lower ho32 (below_size aG))
         have n3_ := aM (blk_below (g := gb221) (o := .cells #[.slice A0_0 l0_0.length c0_0, .slice (some ad233) l0_1.length c0_1] 31 (0, 0)) aK hb)
         have n4_ := aM (blk_below (g := gb222) (o := .cells #[.slice none 0 0, .slice none 0 0] 31 (0, 0)) aK hb)
         have n5_ := aM (blk_below (g := gb232) (o := .cells #[.slice Ao13 y226.length co13, u233001] 31 (0, 0)) aK hb)
         have n6_ := aM (blk_below (g := gb234) (o := .cells #[.int .i64 ((rd_T45 l0_1 x15_1).f0), .slice A233_1 ((rd_T45 l0_1 x15_1).f1).length c233_1] 45 (0, 0)) aK hb)
         have n7_ := aM (below_step aG hb)
         clear HO_233000
         clear HO_233001
         clear BK221
         clear BK222
         clear BK232
         clear BK234
         clear HB
         have HO_233000 := n0_
         have HO_233001 := n1_
         have HO237 := n2_
         have BK221 := n3_
         have BK222 := n4_
         have BK232 := n5_
         have BK234 := n6_
         have HB := n7_
         clear n0_ n1_ n2_ n3_ n4_ n5_ n6_ n7_
         clear hb ho32
         refine hK.out _ _ ⟨(blk_cell BK232.out 0).trans rfl, (blk_cell BK232.out 1).trans rfl, (blk_cell BK234.out 0).trans rfl, (blk_cell BK234.out 1).trans rfl⟩ (fun hHeld => ?_)
         clear hK K
         refine norm_ (a' := ?_) ?_ ?_
         rotate_left
         ·show Act.put _ (some 23) _ = _
          simp only [Act.put, List.setIfInBounds_toArray, List.set_cons_zero, List.set_cons_succ, i64_w, i32_w]
          rfl
         refine one_ (i := 7) (N := some 26) #[true, true, true, true, true, true, true, true, false, false, false, false, false] rfl rfl (one_of HT_.out (by kernel_rfl)) (by decide) (fun K hK => ?_)
         refine Kd.R_append_rows_step (Kd.int .i64) (w0 := w) w.heap.size (by rfl) (.tmp 23) (.tmp 25) 26 3 (.int .i64 0) 8 rfl Try.underlying26 info3 rfl (by decide) (by omega) v236 y235 ((rd_T45 l0_1 x15_1).f1) _ _ _ (fun _ => True) (fun _ => False) rfl rfl ?aO ?aR (fun _ _ h => h) (fun _ h => h.elim) ?aF ?aB ?aS ?aL ?_
         (case aR => exact aC)
         (case aB => exact aG)
         (case aF => exact (fun _ _ => trivial))
         (case aO => exact (aR HO237))
         (case aS => exact (below_size aG))
         (case aL => have := LMc22.out; omega)
         intro v239 w33 ho hb hg hat
         rw [← Ny238.out] at ho
         have n0_ := aM (Kd.R_over' (aR HO_233000) (Kd.R_typed (aR HO237)) (by decide) hg)
         have n1_ := aM (Kd.S_after (ok := (fun k_ => k_ ≠ gb234)) (aS HO_233001) hg hat)
         have n2_ := aM (blk_grown (g := gb221) (o := .cells #[.slice A0_0 l0_0.length c0_0, .slice (some ad233) l0_1.length c0_1] 31 (0, 0)) aK hg (Kd.R_ne HO237.out BK221.out (by decide)))
         have n3_ := aM (blk_grown (g := gb222) (o := .cells #[.slice none 0 0, .slice none 0 0] 31 (0, 0)) aK hg (Kd.R_ne HO237.out BK222.out (by decide)))
         have n4_ := aM (blk_grown (g := gb232) (o := .cells #[.slice Ao13 y226.length co13, u233001] 31 (0, 0)) aK hg (Kd.R_ne HO237.out BK232.out (by decide)))
         have n5_ := aM (blk_grown (g := gb234) (o := .cells #[.int .i64 ((rd_T45 l0_1 x15_1).f0), .slice A233_1 ((rd_T45 l0_1 x15_1).f1).length c233_1] 45 (0, 0)) aK hg (Kd.R_ne HO237.out BK234.out (by decide)))
         have n6_ := aM (hb)
         have n7_ := aM (ho)
         clear HO_233000
         clear HO_233001
         clear BK221
         clear BK222
         clear BK232
         clear BK234
         clear HB
         clear HO237
         have HO_233000 := n0_
         have HO_233001 := n1_
         have BK221 := n2_
         have BK222 := n3_
         have BK232 := n4_
         have BK234 := n5_
         have HB := n6_
         have HO240 := n7_
         clear n0_ n1_ n2_ n3_ n4_ n5_ n6_ n7_
         clear ho hb hg hat
         obtain ⟨Ao34, co34, eo34⟩ := Kd.R_slice HO240.out
         (first | subst eo34 | (injection eo34 with f1_ f2_ f3_; have f4_ := f1_.symm; have f5_ := f3_.symm; clear f1_ f2_ f3_; subst f4_; subst f5_))
         refine hK.out _ _ ⟨(blk_cell BK232.out 0).trans rfl, (blk_cell BK232.out 1).trans rfl, (blk_cell BK234.out 0).trans rfl, (blk_cell BK234.out 1).trans rfl⟩ (fun hHeld => ?_)
         clear hK K
         refine norm_ (a' := ?_) ?_ ?_
         rotate_left
         ·show Act.put _ (some 26) _ = _
          simp only [Act.put, List.setIfInBounds_toArray, List.set_cons_zero, List.set_cons_succ, i64_w, i32_w]
          rfl
         refine pure_ (i := 8) (N := some 27) (v := ?_) (a' := ?_) #[true, true, true, true, true, true, true, true, true, false, false, false, false] rfl rfl (any_of HT_.out (by kernel_rfl)) (fun _ _ _ h => h) (Or.inl ⟨by rfl, ?_⟩) ?_ ?_
         rotate_left
         ·exact aI
         rotate_left
         ·exact aP
         refine one_ (i := 9) (N := some 28) #[true, true, true, true, true, true, true, true, true, true, false, false, false] rfl rfl (one_of HT_.out (by kernel_rfl)) (by decide) (fun K hK => ?_)
         refine value_ (w1 := ?_) (v := ?_) (by rfl) rfl ?_ ?_
         rotate_left 2
         ·go_simp
          constructor
          ·rfl
          ·rfl
         refine hK.out _ _ ⟨(blk_cell (blk_alloc BK232.out _) 0).trans rfl, (blk_cell (blk_alloc BK232.out _) 1).trans rfl, (blk_cell (blk_alloc BK234.out _) 0).trans rfl, (blk_cell (blk_alloc BK234.out _) 1).trans rfl⟩ (fun hHeld => ?_)
         clear hK K
         refine norm_ (a' := ?_) ?_ ?_
         rotate_left
         ·show Act.put _ (some 28) _ = _
          simp only [Act.put, List.setIfInBounds_toArray, List.set_cons_zero, List.set_cons_succ, i64_w, i32_w]
          rfl
         refine one_ (i := 10) (N := some 29) #[true, true, true, true, true, true, true, true, true, true, true, false, false] rfl rfl (one_of HT_.out (by kernel_rfl)) (by decide) (fun K hK => ?_)
         refine Kd.S_append_step k45 (w0 := w) w.heap.size (by rfl) (.tmp 20) (.tmp 28) 29 45 (.agg #[(.int .i64 0), (.slice none 0 0)]) 32 rfl Try.underlying29 info45 rfl (by decide) (by omega) u233001 x233001_1 (⟨(rd_T45 l0_1 x15_1).f0, y238⟩ : S45) [.int .i64 ((rd_T45 l0_1 x15_1).f0), .slice Ao34 y238.length co34] (fun k_ => k_ ≠ gb234) (fun k_ => some k_ = (.slice Ao34 y238.length co34 : Value).ownBlock) rfl rfl ?aP (fun k_ hk_ => ((Kd.R_mono (ok' := fun k_ => ((fun k_ => k_ ≠ gb234)) k_ ∧ some k_ ≠ (u233001 : Value).ownBlock) (Kd.R_types (Kd.R_apart' (HO240.out) (Kd.S_typed HO_233001.out) (by decide)) BK234.out (by decide)) (fun k_ hk => ⟨hk.2, hk.1.2⟩))).1 k_ hk_.symm) ?aF ?aO ?aB ?aS ?aL ?_
         (case aP => exact k45_mkM _ _ _ (⟨(rd_T45 l0_1 x15_1).f0, y238⟩ : S45) (Kd.R_mono (Kd.R_tight rfl (Kd.R_mono (ok' := fun k_ => ((fun k_ => k_ ≠ gb234)) k_ ∧ some k_ ≠ (u233001 : Value).ownBlock) (Kd.R_types (Kd.R_apart' (HO240.out) (Kd.S_typed HO_233001.out) (by decide)) BK234.out (by decide)) (fun k_ hk => ⟨hk.2, hk.1.2⟩))) (fun _ h_ => h_)))
         (case aB => exact aG)
         (case aF => exact (fun k_ hk => Kd.freshB (g := gb234) (o := .cells #[.int .i64 ((rd_T45 l0_1 x15_1).f0), .slice A233_1 ((rd_T45 l0_1 x15_1).f1).length c233_1] 45 (0, 0)) aK k_ hk))
         (case aO => exact (by (with_reducible repeat (first | apply Kd.S_alloc | apply Kd.S_drewN | apply Kd.S_drew)); exact Kd.S_mono HO_233001.out (fun k_ hk => ⟨hk.1, fun e_ => hk.2 e_⟩)))
         (case aS => exact (below_size aG))
         (case aL => have := LMc23.out; omega)
         intro v242 w35 ho hb hg hat
         rw [← Ny241.out] at ho
         have n0_ := aM (Kd.R_over' (aR HO_233000) (Kd.S_typed (aS HO_233001)) (by decide) hg)
         have n1_ := aM (blk_grown (g := gb221) (o := .cells #[.slice A0_0 l0_0.length c0_0, .slice (some ad233) l0_1.length c0_1] 31 (0, 0)) aK hg (Kd.S_ne HO_233001.out BK221.out (by decide)))
         have n2_ := aM (blk_grown (g := gb222) (o := .cells #[.slice none 0 0, .slice none 0 0] 31 (0, 0)) aK hg (Kd.S_ne HO_233001.out BK222.out (by decide)))
         have n3_ := aM (blk_grown (g := gb232) (o := .cells #[.slice Ao13 y226.length co13, u233001] 31 (0, 0)) aK hg (Kd.S_ne HO_233001.out BK232.out (by decide)))
         have n4_ := aM (blk_grown (g := gb234) (o := .cells #[.int .i64 ((rd_T45 l0_1 x15_1).f0), .slice A233_1 ((rd_T45 l0_1 x15_1).f1).length c233_1] 45 (0, 0)) aK hg (Kd.S_away HO_233001.out (fun _ hk => hk.1)))
         have n5_ := aM (hb)
         have n6_ := aM (ho)
         clear HO_233000
         clear BK221
         clear BK222
         clear BK232
         clear BK234
         clear HB
         clear HO_233001
         clear HO240
         have HO_233000 := n0_
         have BK221 := n1_
         have BK222 := n2_
         have BK232 := n3_
         have BK234 := n4_
         have HB := n5_
         have HO243 := n6_
         clear n0_ n1_ n2_ n3_ n4_ n5_ n6_
         clear ho hb hg hat
         obtain ⟨Ao36, co36, eo36⟩ := Kd.S_slice HO243.out
         (first | subst eo36 | (injection eo36 with f1_ f2_ f3_; have f4_ := f1_.symm; have f5_ := f3_.symm; clear f1_ f2_ f3_; subst f4_; subst f5_))
         refine hK.out _ _ ⟨(blk_cell BK232.out 0).trans rfl, (blk_cell BK232.out 1).trans rfl, (blk_cell BK234.out 0).trans rfl, (blk_cell BK234.out 1).trans rfl⟩ (fun hHeld => ?_)
         clear hK K
         refine norm_ (a' := ?_) ?_ ?_
         rotate_left
         ·show Act.put _ (some 29) _ = _
          simp only [Act.put, List.setIfInBounds_toArray, List.set_cons_zero, List.set_cons_succ, i64_w, i32_w]
          rfl
         refine pure_ (i := 11) (N := some 30) (v := ?_) (a' := ?_) #[true, true, true, true, true, true, true, true, true, true, true, true, false] rfl rfl (any_of HT_.out (by kernel_rfl)) (fun _ _ _ h => h) (Or.inl ⟨by rfl, ?_⟩) ?_ ?_
         rotate_left
         ·exact aI
         rotate_left
         ·exact aP
         refine last_ (i := 12) (N := none) #[true, true, true, true, true, true, true, true, true, true, true, true, true] rfl rfl (one_of HT_.out (by kernel_rfl)) (by decide) (fun K hK => ?_)
         have hs37 : w35.cell? ⟨gb232, 1, none⟩ = some (u233001) := (blk_cell BK232.out 1).trans rfl
         have hfs37 := blk_frozen BK232.out 1
         have hns37_0 := NB221_232.out
         have hns37_1 := NB222_232.out
         have hns37_3 := NB234_232.out
         have hms37_0 := NB232_221.out
         have hms37_1 := NB232_222.out
         have hms37_3 := NB232_234.out
         refine skip_ (w1 := ?_) (by rfl) rfl ?_ ?_
         rotate_left
         ·go_simp
          rfl
         refine hK.out _ _ ?_
         clear hK K
         refine done_ (done_of HT_.out (by kernel_rfl)) ?_
         try go_wp2
         go_roundg k1
         case measure => have := HK1.out; omega
         case rel => exact ⟨(wrap64 (x15_1 + 1)), (y241), (.slice Ao36 y241.length co36), (by first | rfl | (simp; done) | (simp [*]; done)), H', ⟨by have := HK1.out; omega⟩, ⟨by (with_reducible repeat (first | apply Kd.R_alloc | apply Kd.R_drewN | apply Kd.R_drew)); exact Kd.R_mono (Kd.R_far (p := ⟨gb232, 1, none⟩) (Kd.R_types HO_233000.out BK232.out (by decide)) (fun _ hk => hk.2) (.slice Ao36 y241.length co36)) (fun _ hk => trivial)⟩, ⟨by (with_reducible repeat (first | apply Kd.S_alloc | apply Kd.S_drewN | apply Kd.S_drew)); exact Kd.S_mono (Kd.S_far (p := ⟨gb232, 1, none⟩) (Kd.S_types HO243.out BK232.out (by decide)) (fun _ hk => hk.2) (.slice Ao36 y241.length co36)) (fun _ hk => trivial)⟩, ⟨by (with_reducible repeat (first | refine blk_drewN ?_ _ | refine blk_drew ?_ | refine blk_alloc ?_ _)); refine blk_far ?_ NB221_232.out _; (with_reducible repeat (first | refine blk_drewN ?_ _ | refine blk_drew ?_ | refine blk_alloc ?_ _)); exact BK221.out⟩, ⟨by (with_reducible repeat (first | refine blk_drewN ?_ _ | refine blk_drew ?_ | refine blk_alloc ?_ _)); refine blk_far ?_ NB222_232.out _; (with_reducible repeat (first | refine blk_drewN ?_ _ | refine blk_drew ?_ | refine blk_alloc ?_ _)); exact BK222.out⟩, ⟨by (with_reducible repeat (first | refine blk_drewN ?_ _ | refine blk_drew ?_ | refine blk_alloc ?_ _)); refine blk_put (cs := #[.slice Ao13 y226.length co13, u233001]) ?_ 1 _ rfl; (with_reducible repeat (first | refine blk_drewN ?_ _ | refine blk_drew ?_ | refine blk_alloc ?_ _)); exact BK232.out⟩, ⟨by repeat (first | (with_reducible first | exact HB.out | apply below_alloc | apply pw_below_drewN | apply below_drew1 | refine below_set ?_ GE221.out | refine below_set ?_ GE222.out | refine below_set ?_ GE232.out | refine below_set ?_ GE234.out) | exact HB.out)⟩⟩
        ·rw [if_neg c23] at H
         exact absurd H (by simp)
       ·rw [if_neg c22] at H
        exact absurd H (by simp)
      ·rw [if_neg c21] at H
       exact absurd H (by simp)
     ·rw [if_neg c20] at H
      exact absurd H (by simp)
    ·rw [if_neg c19] at H
     have c19b0 : decide (x15_1 < (l0_1.length : Int)) = false := decide_eq_false c19
     clear c19
     simp only [Option.some.injEq, Prod.mk.injEq] at H
     obtain ⟨rfl, rfl⟩ := H
     have hnb38 := NB232_221.out
     have hnc38 := NB221_232.out
     have hnb39 := NB232_222.out
     have hnc39 := NB222_232.out
     have hcz40_0 : wr.cell? ⟨gb232, 0, none⟩ = some (.slice Ao13 y226.length co13) := (blk_cell BK232.out 0).trans rfl
     have hcz40_1 : wr.cell? ⟨gb232, 1, none⟩ = some (u233001) := (blk_cell BK232.out 1).trans rfl
     have hfz40_0 := blk_frozen BK232.out 0
     have hfz40_1 := blk_frozen BK232.out 1
     have hnb41 := NB222_221.out
     have hnc41 := NB221_222.out
     have hcz42_0 : wr.cell? ⟨gb222, 0, none⟩ = some (.slice none 0 0) := (blk_cell BK222.out 0).trans rfl
     have hcz42_1 : wr.cell? ⟨gb222, 1, none⟩ = some (.slice none 0 0) := (blk_cell BK222.out 1).trans rfl
     have hfz42_0 := blk_frozen BK222.out 0
     have hfz42_1 := blk_frozen BK222.out 1
     obtain ⟨Ao43, co43, eo43⟩ := Kd.S_slice HO_233001.out
     subst eo43
     go_wp2
     refine bodyPost_ret (results_cell_row rfl _ _ gb222 31 #[.slice Ao13 y226.length co13, .slice Ao43 x233001_1.length co43] (0, 0) _ rfl (by (with_reducible repeat (first | refine blk_drewN ?_ _ | refine blk_drew ?_ | refine blk_alloc ?_ _)); refine blk_put (cs := #[.slice Ao13 y226.length co13, .slice none 0 0]) ?_ 1 _ rfl; (with_reducible repeat (first | refine blk_drewN ?_ _ | refine blk_drew ?_ | refine blk_alloc ?_ _)); refine blk_put (cs := #[.slice none 0 0, .slice none 0 0]) ?_ 0 _ rfl; (with_reducible repeat (first | refine blk_drewN ?_ _ | refine blk_drew ?_ | refine blk_alloc ?_ _)); exact BK222.out) Try.underlying31 rfl (by kernel_rfl)) rfl ?_
     exact ⟨_, _, by first | rfl | (simp [errW_none, errW_some] <;> rfl) | (simp [*, errW_none, errW_some] <;> rfl), by (with_reducible repeat (first | apply Kd.R_alloc | apply Kd.R_drewN | apply Kd.R_drew)); exact Kd.R_mono (Kd.R_far (p := ⟨gb222, 1, none⟩) (Kd.R_far (p := ⟨gb222, 0, none⟩) (Kd.R_types HO_233000.out BK222.out (by decide)) (fun _ hk => hk.2) (.slice Ao13 y226.length co13)) (fun _ hk => hk.2) (.slice Ao43 x233001_1.length co43)) (fun _ hk => trivial), by (with_reducible repeat (first | apply Kd.S_alloc | apply Kd.S_drewN | apply Kd.S_drew)); exact Kd.S_mono (Kd.S_far (p := ⟨gb222, 1, none⟩) (Kd.S_far (p := ⟨gb222, 0, none⟩) (Kd.S_types HO_233001.out BK222.out (by decide)) (fun _ hk => hk.2) (.slice Ao13 y226.length co13)) (fun _ hk => hk.2) (.slice Ao43 x233001_1.length co43)) (fun _ hk => trivial), by repeat (first | (with_reducible first | exact HB.out | apply below_alloc | apply pw_below_drewN | apply below_drew1 | refine below_set ?_ GE221.out | refine below_set ?_ GE222.out | refine below_set ?_ GE232.out) | exact HB.out)⟩
 ·rw [if_neg c2] at H
  exact absurd H (by simp)

end Go.Proofs.Yteddnlklfjpgoaa.PFnExactSelectFacts
