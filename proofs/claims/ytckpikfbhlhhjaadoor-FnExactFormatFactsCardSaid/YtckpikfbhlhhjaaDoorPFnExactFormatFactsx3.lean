-- Laid by a program of this claim: what the functions come to, some of them proved by hand.
import Derived.Test.YtckpikfbhlhhjaaDoorPFnExactFormatFactsx0
import Derived.Test.YtckpikfbhlhhjaaDoorPFnExactFormatFactsx2
namespace Go.Proofs.YtckpikfbhlhhjaaDoor.PFnExactFormatFacts
open Go.RowKit Go.Proofs.YtckpikfbhlhhjaaDoorW.PrintWords Go.Proofs.YtckpikfbhlhhjaaDoorW.PrintLast Go.Proofs.YtckpikfbhlhhjaaDoorW.PrintMore
attribute [local go_sem] max2_int min2_int max_two min_two max_three min_three max_four min_four   -- for this text's walks alone
set_option linter.unusedVariables false
set_option linter.unusedSimpArgs false

/-! ### impl_areIndices: function 73 -/
def impl_areIndices.l0 : Nat → List Int → Int → List Int → Int → Int → Option (Bool)
 | 0, _, _, _, _, _ => none
 | k + 1, x0, x1, x7, x8, x9 => if x9 < x8 then (if 0 ≤ x9 then (if x9 < (x7.length : Int) then ((impl_within.f (rd x7 x9) 0 (wrap64 (x1 - 1))).bind fun t185 => (if t185 = true then (if x9 > 0 then (if 0 ≤ (wrap64 (x9 - 1)) then (if (wrap64 (x9 - 1)) < (x0.length : Int) then (if (rd x0 (wrap64 (x9 - 1))) ≥ (rd x7 x9) then (some false) else (impl_areIndices.l0 k x0 x1 x7 x8 (wrap64 (x9 + 1)))) else (none)) else (none)) else (impl_areIndices.l0 k x0 x1 x7 x8 (wrap64 (x9 + 1)))) else (some false))) else (none)) else (none)) else (some true)
def impl_areIndices.f (k : Nat) (l0 : List Int) (a1 : Int) : Option (Bool) := impl_areIndices.l0 k l0 a1 l0 (l0.length : Int) 0
set_option maxHeartbeats 8000000 in
set_option maxRecDepth 100000 in
theorem impl_areIndices.calls (k : Nat) (A0 : Option Addr) (c0 : Nat) (l0 : List Int) (a1 : Int) (r : Bool) (w : World) (hr0 : Kd.C (Kd.int .i64) w A0 l0.length l0) (hc0 : l0.length ≤ c0) (h : impl_areIndices.f k l0 a1 = some r) :
  Calls Tryd.prog 73 #[.slice A0 l0.length c0, .int .i64 a1] w fun e w' => e = .returned (.bool r) ∧ Drawn0 w w' := by
 unfold impl_areIndices.f at h
 ·go_enter Tryd.func73, Tryd.ntmps73
  go_wp2_with (first | (go_at_call 100; refine (impl_within.calls _ _ _ ?_ _ ?h).mono ?_; (case h => exact zA); rintro e w1 ⟨rfl, hb⟩; have hd := hb; replace hb := hb.below; replace hb := aM hb; have HB : Below w.heap.size w w1 := zB))
  go_loopg [9] k (fun kq v9 w' => ∃ (x9_0 : Int), v9 = .int .i64 x9_0 ∧ impl_areIndices.l0 kq l0 a1 l0 (l0.length : Int) x9_0 = some r ∧ Drawn0 w w')
  case atStart => exact ⟨_, zR, zA, zD⟩
  case round =>
   clear h
   obtain ⟨x9_0, rfl, h, hb⟩ := hrel
   have hd := hb
   replace hb := hb.below
   replace hb := aM hb
   have HB : Below w.heap.size w wr := zB
   rcases gk with _ | kk0
   exact absurd h (by simp [impl_areIndices.l0])
   simp only [impl_areIndices.l0] at h
   replace h := il h; rcases h with ⟨c1, c1a, h⟩ | ⟨c1, c1a, h⟩
   replace h := ie h; rcases h with ⟨c2, c2a, h⟩ | ⟨c2, c2a, h⟩
   replace h := il h; rcases h with ⟨c3, c3a, h⟩ | ⟨c3, c3a, h⟩
   replace h := bs h; obtain ⟨t185, B4, h⟩ := h
   replace h := ib h; rcases h with ⟨rfl, h⟩ | ⟨rfl, h⟩
   replace h := ig h; rcases h with ⟨c6, c6a, h⟩ | ⟨c6, c6a, h⟩
   replace h := ie h; rcases h with ⟨c7, c7a, h⟩ | ⟨c7, c7a, h⟩
   replace h := il h; rcases h with ⟨c8, c8a, h⟩ | ⟨c8, c8a, h⟩
   replace h := ih h; rcases h with ⟨c9, c9a, h⟩ | ⟨c9, c9a, h⟩
   obtain rfl := si h
   obtain ⟨ad184, e184, hx184_0⟩ := Kd.at_int hr0 (x9_0 : Int) aD aD
   have p184 := eq_true (aD : 0 ≤ (x9_0 : Int))
   have q184 := eq_true (aD : x9_0 < (l0.length : Int))
   cases e184
   replace hx184_0 := qa hx184_0
   obtain ⟨ad186, e186, hx186_0⟩ := Kd.at_int hr0 ((wrap64 (x9_0 - 1)) : Int) aD aD
   have p186 := eq_true (aD : 0 ≤ ((wrap64 (x9_0 - 1)) : Int))
   have q186 := eq_true (aD : (wrap64 (x9_0 - 1)) < (l0.length : Int))
   cases e186
   replace hx186_0 := qa hx186_0
   rotate_left
   obtain ⟨kf, hkf⟩ : ∃ kf, kf = kk0 := ⟨_, rfl⟩; rw [← hkf] at h
   obtain ⟨ad184, e184, hx184_0⟩ := Kd.at_int hr0 (x9_0 : Int) aD aD
   have p184 := eq_true (aD : 0 ≤ (x9_0 : Int))
   have q184 := eq_true (aD : x9_0 < (l0.length : Int))
   cases e184
   replace hx184_0 := qa hx184_0
   obtain ⟨ad186, e186, hx186_0⟩ := Kd.at_int hr0 ((wrap64 (x9_0 - 1)) : Int) aD aD
   have p186 := eq_true (aD : 0 ≤ ((wrap64 (x9_0 - 1)) : Int))
   have q186 := eq_true (aD : (wrap64 (x9_0 - 1)) < (l0.length : Int))
   cases e186
   replace hx186_0 := qa hx186_0
   rotate_left
   exact absurd h (by simp)
   exact absurd h (by simp)
   obtain ⟨kf, hkf⟩ : ∃ kf, kf = kk0 := ⟨_, rfl⟩; rw [← hkf] at h
   obtain ⟨ad184, e184, hx184_0⟩ := Kd.at_int hr0 (x9_0 : Int) aD aD
   have p184 := eq_true (aD : 0 ≤ (x9_0 : Int))
   have q184 := eq_true (aD : x9_0 < (l0.length : Int))
   cases e184
   replace hx184_0 := qa hx184_0
   rotate_left
   obtain rfl := si h
   obtain ⟨ad184, e184, hx184_0⟩ := Kd.at_int hr0 (x9_0 : Int) aD aD
   have p184 := eq_true (aD : 0 ≤ (x9_0 : Int))
   have q184 := eq_true (aD : x9_0 < (l0.length : Int))
   cases e184
   replace hx184_0 := qa hx184_0
   rotate_left
   exact absurd h (by simp)
   exact absurd h (by simp)
   obtain rfl := si h
   rotate_left
   all_goals (go_wp2_with (first | (go_at_call 100; refine (impl_within.calls _ _ _ ?_ _ ?h).mono ?_; (case h => exact zA); rintro e w1 ⟨rfl, hb⟩; have hd := hb; replace hb := hb.below; replace hb := aM hb; have HB : Below w.heap.size w w1 := zB)); first | (go_ret; exact zE zD) | (go_roundg kf; (case measure => omega); (case rel => exact ⟨_, zR, zA, zD⟩)))

/-! ### impl_copyDatabase: function 74 -/
def impl_copyDatabase.l0 : Nat → List (S39) → Int → Int → List (S68) → List (S39) → Option ((List (S68)) × (List (S39)))
 | 0, _, _, _, _, _ => none
 | k + 1, x13, x14, x15, x199000, x199001 => if x15 < x14 then (if 0 ≤ x15 then (if x15 < (x13.length : Int) then ((some (([] : List Int) : List Int)).bind fun y201 => (if y201.length + ((rd_T39 x13 x15).f1).length < 17592186044416 then (if x199001.length < 4398046511104 then (impl_copyDatabase.l0 k x13 x14 (wrap64 (x15 + 1)) x199000 (x199001 ++ [(⟨(rd_T39 x13 x15).f0, (y201 ++ ((rd_T39 x13 x15).f1))⟩ : S39)])) else (none)) else (none))) else (none)) else (none)) else (some (x199000, x199001))
def impl_copyDatabase.f (k : Nat) (l0_0 : List (S68)) (l0_1 : List (S39)) : Option ((List (S68)) × (List (S39))) := (some (([] : List (S68)) : List (S68))).bind fun y189 => (if y189.length + l0_0.length < 4398046511104 then (impl_copyDatabase.l0 k l0_1 (l0_1.length : Int) 0 (y189 ++ l0_0) (([] : List (S39)))) else (none))
def impl_copyDatabase.T5 : Bool × List (List Nat × List Nat) := (true, [([], []), ([0], [0]), ([], []), ([2], [2]), ([], []), ([], []), ([5], [5]), ([4, 6], [4, 6]), ([3, 7], [3, 7]), ([8], [8]), ([1, 9, 7], [1, 9]), ([0, 1, 2, 3, 4, 5, 6, 7, 8, 9, 10], []), ([11, 10, 10, 0, 1, 2, 3, 4, 5, 6, 7, 8, 9, 10], [10, 11])])
def impl_copyDatabase.B5 : List Nat := [0, 1, 0, 4, 0, 0, 32, 112, 252, 508, 1023, 2047, 4095]
theorem impl_copyDatabase.tab5 : rtab .any (opsOf Tryd.f74 5) = impl_copyDatabase.T5 := by kernel_rfl
theorem impl_copyDatabase.bits5 : waitsOk impl_copyDatabase.T5.2 impl_copyDatabase.B5 = true := by kernel_rfl
set_option maxHeartbeats 8000000 in
set_option maxRecDepth 100000 in
theorem impl_copyDatabase.calls (k : Nat) (A0_0 : Option Addr) (c0_0 : Nat) (l0_0 : List (S68)) (A0_1 : Option Addr) (c0_1 : Nat) (l0_1 : List (S39)) (r1 : List (S68)) (r2 : List (S39)) (w : World) (hr0_0 : Kd.C k68 w A0_0 l0_0.length l0_0) (hc0_0 : l0_0.length ≤ c0_0) (hr0_1 : Kd.C k39 w A0_1 l0_1.length l0_1) (hc0_1 : l0_1.length ≤ c0_1) (h : impl_copyDatabase.f k l0_0 l0_1 = some (r1, r2)) :
  Calls Tryd.prog 74 #[.agg #[.slice A0_0 l0_0.length c0_0, .slice A0_1 l0_1.length c0_1]] w fun e w' => ∃ v0_ v1_ : Value, e = .returned (.agg #[v0_, v1_]) ∧ Kd.R k68 68 w' w.heap.size (fun _ => True) v0_ r1 ∧ Kd.S k39 39 w' w.heap.size (fun _ => True) v1_ r2 ∧ Below w.heap.size w w' := by
 have hu31 := Tryd.underlying31
 have hu39 := Tryd.underlying39
 have HR0_0 := aM hr0_0
 have HC0_0 := aM hc0_0
 clear hr0_0 hc0_0
 have HR0_1 := aM hr0_1
 have HC0_1 := aM hc0_1
 clear hr0_1 hc0_1
 have HB := aM (Below.refl w.heap.size w)
 have H : ((some (([] : List (S68)) : List (S68))).bind fun y189 => (if y189.length + l0_0.length < 4398046511104 then (impl_copyDatabase.l0 k l0_1 (l0_1.length : Int) 0 (y189 ++ l0_0) (([] : List (S39)))) else (none))) = some (r1, r2) := h
 clear h
 obtain ⟨y189, hy189⟩ : ∃ y_ : List (S68), y_ = (([] : List (S68))) := ⟨_, rfl⟩
 replace H : (if y189.length + l0_0.length < 4398046511104 then (impl_copyDatabase.l0 k l0_1 (l0_1.length : Int) 0 (y189 ++ l0_0) (([] : List (S39)))) else (none)) = some (r1, r2) := by first | (rw [hy189]; with_reducible exact H) | (have H2_ := (Option.bind_some _ _).symm.trans H; rw [hy189]; with_reducible exact H2_) | (have H2_ := (Option.bind_some _ _).symm.trans H; with_reducible exact H2_) | with_reducible exact H | (rw [hy189]; exact H) | exact H
 have Ny189 := aM hy189
 clear hy189
 by_cases c2 : y189.length + l0_0.length < 4398046511104
 ·rw [if_pos c2] at H
  have LMc2 := aM c2
  clear c2
  obtain ⟨y192, hy192⟩ : ∃ y_ : List (S68), y_ = (y189 ++ l0_0) := ⟨_, rfl⟩
  replace H : (impl_copyDatabase.l0 k l0_1 (l0_1.length : Int) 0 y192 (([] : List (S39)))) = some (r1, r2) := by first | (rw [hy192]; with_reducible exact H) | (have H2_ := (Option.bind_some _ _).symm.trans H; rw [hy192]; with_reducible exact H2_) | (have H2_ := (Option.bind_some _ _).symm.trans H; with_reducible exact H2_) | with_reducible exact H | (rw [hy192]; exact H) | exact H
  have Ny192 := aM hy192
  clear hy192
  obtain ⟨y195, hy195⟩ : ∃ y_ : List (S39), y_ = (([] : List (S39))) := ⟨_, rfl⟩
  replace H : (impl_copyDatabase.l0 k l0_1 (l0_1.length : Int) 0 y192 y195) = some (r1, r2) := by first | (rw [hy195]; with_reducible exact H) | (have H2_ := (Option.bind_some _ _).symm.trans H; rw [hy195]; with_reducible exact H2_) | (have H2_ := (Option.bind_some _ _).symm.trans H; with_reducible exact H2_) | with_reducible exact H | (rw [hy195]; exact H) | exact H
  have Ny195 := aM hy195
  clear hy195
  have H' := aM H
  clear H
  go_enter Tryd.func74, Tryd.ntmps74
  go_wp2_with (first | ((with_reducible refine gate_dst (N := 1) rfl ?_); refine box_event ?hg (N := 1) ?hd (cs := #[.slice A0_0 l0_0.length c0_0, .slice A0_1 l0_1.length c0_1]) (t := 31) ?hr ?_; (case hd => rfl); (case hg => rfl); (case hr => first | (go_simp; done) | (go_simp; rfl)); intro gb187 hg w3 hbox hb; have n0_ := aM (below_step aB hb); have n1_ := aM (hbox); have n2_ := aM ((by rw [hg]; exact (below_size aB) : w.heap.size ≤ gb187)); have n3_ := aM ((by rw [hg]; exact (below_size aB) : w.heap.size ≤ gb187)); clear HB; have HB := n0_; have BK187 := n1_; have GW187 := n2_; have GE187 := n3_; clear n0_ n1_ n2_ n3_; clear hb hbox hg) | ((with_reducible refine gate_dst (N := 2) rfl ?_); refine box_event ?hg (N := 2) ?hd (cs := #[.slice none 0 0, .slice none 0 0]) (t := 31) ?hr ?_; (case hd => rfl); (case hg => rfl); (case hr => first | (go_simp; done) | (go_simp; rfl)); intro gb188 hg w4 hbox hb; have n0_ := aM (blk_below (g := gb187) (o := .cells #[.slice A0_0 l0_0.length c0_0, .slice A0_1 l0_1.length c0_1] 31 (0, 0)) aK hb); have n1_ := aM (below_step aG hb); have n2_ := aM (hbox); have n3_ := aM ((by rw [hg]; exact (below_size aG) : w.heap.size ≤ gb188)); have n4_ := aM ((by rw [hg]; exact (below_size aG) : w.heap.size ≤ gb188)); have n5_ := aM ((by rw [hg]; exact Nat.ne_of_lt (blk_lt (g := gb187) (o := .cells #[.slice A0_0 l0_0.length c0_0, .slice A0_1 l0_1.length c0_1] 31 (0, 0)) aK) : gb187 ≠ gb188)); have n6_ := aM ((by rw [hg]; exact Nat.ne_of_gt (blk_lt (g := gb187) (o := .cells #[.slice A0_0 l0_0.length c0_0, .slice A0_1 l0_1.length c0_1] 31 (0, 0)) aK) : gb188 ≠ gb187)); clear BK187; clear HB; have BK187 := n0_; have HB := n1_; have BK188 := n2_; have GW188 := n3_; have GE188 := n4_; have NB187_188 := n5_; have NB188_187 := n6_; clear n0_ n1_ n2_ n3_ n4_ n5_ n6_; clear hb hbox hg) | ((with_reducible refine gate_dst (N := 6) rfl ?_); refine Kd.R_lit k68 _ 68 ?hg (N := 6) ?hd (xs := ([] : List (S68))) (inner := []) (ok := fun _ => True) (okp := fun _ => True) ?hr ?hp (fun _ hk => hk) trivial (Below.refl _ _) (Nat.le_refl _) (by simp) ?_; (case hd => rfl); (case hg => rfl); (case hr => first | (go_simp; done) | (go_simp; rfl)); (case hp => exact (Reps.none _ _)); intro v190 w5 ho6 hb hg_ hnew_; clear hg_ hnew_; (first | rw [← Ny189.out] at ho6 | (simp only [Int.reduceToNat] at ho6; rw [← Ny189.out] at ho6)); have n0_ := aM (Kd.R_lower ho6 (below_size aG)); have n1_ := aM (blk_below (g := gb187) (o := .cells #[.slice A0_0 l0_0.length c0_0, .slice A0_1 l0_1.length c0_1] 31 (0, 0)) aK hb); have n2_ := aM (blk_below (g := gb188) (o := .cells #[.slice none 0 0, .slice none 0 0] 31 (0, 0)) aK hb); have n3_ := aM (below_step aG hb); clear BK187; clear BK188; clear HB; have HO191 := n0_; have BK187 := n1_; have BK188 := n2_; have HB := n3_; clear n0_ n1_ n2_ n3_; clear hb ho6; have hnb7 := NB187_188.out; have hnc7 := NB188_187.out; have hcz8_0 : w5.cell? ⟨gb187, 0, none⟩ = some (.slice A0_0 l0_0.length c0_0) := (blk_cell BK187.out 0).trans rfl; have hcz8_1 : w5.cell? ⟨gb187, 1, none⟩ = some (.slice A0_1 l0_1.length c0_1) := (blk_cell BK187.out 1).trans rfl; have hfz8_0 := blk_frozen BK187.out 0; have hfz8_1 := blk_frozen BK187.out 1) | ((with_reducible refine gate_builtin (b := .append) (xs := #[.tmp 6, .tmp 8]) rfl ?_); at_builtin; refine Kd.R_append_rows k68 (w0 := w) w.heap.size rfl (.tmp 6) (.tmp 8) 28 68 (.agg #[(.string ⟨#[]⟩), (.int .i64 0), (.int .i64 0)]) 32 rfl Tryd.underlying28 info68 rfl (by decide) (by omega) v190 y189 l0_0 _ _ _ (fun _ => True) (fun _ => False) rfl rfl ?aO ?aR (fun _ _ h => h) (fun _ h => h.elim) ?aF ?aB ?aS ?aL ?_; (case aR => exact aC); (case aB => exact aG); (case aF => exact (fun _ _ => trivial)); (case aO => exact (aR HO191)); (case aS => exact (below_size aG)); (case aL => have := LMc2.out; omega); intro v193 w9 ho hb hg hat; rw [← Ny192.out] at ho; have n0_ := aM (blk_grown (g := gb187) (o := .cells #[.slice A0_0 l0_0.length c0_0, .slice A0_1 l0_1.length c0_1] 31 (0, 0)) aK hg (Kd.R_ne HO191.out BK187.out (by decide))); have n1_ := aM (blk_grown (g := gb188) (o := .cells #[.slice none 0 0, .slice none 0 0] 31 (0, 0)) aK hg (Kd.R_ne HO191.out BK188.out (by decide))); have n2_ := aM (hb); have n3_ := aM (ho); clear BK187; clear BK188; clear HB; clear HO191; have BK187 := n0_; have BK188 := n1_; have HB := n2_; have HO194 := n3_; clear n0_ n1_ n2_ n3_; clear ho hb hg hat) | ((with_reducible refine gate_dst (N := 10) rfl ?_); refine Kd.S_lit k39 _ 39 ?hg (N := 10) ?hd (xs := ([] : List (S39))) (inner := []) (ok := fun _ => True) (okp := fun _ => True) ?hr ?hp (fun _ hk => hk) trivial (Below.refl _ _) (Nat.le_refl _) (by simp) ?_; (case hd => rfl); (case hg => rfl); (case hr => first | (go_simp; done) | (go_simp; rfl)); (case hp => exact (Reps.none _ _)); intro v196 w10 ho11 hb hg_ hnew_; clear hg_ hnew_; (first | rw [← Ny195.out] at ho11 | (simp only [Int.reduceToNat] at ho11; rw [← Ny195.out] at ho11)); have n0_ := aM (Kd.R_below (aR HO194) hb); have n1_ := aM (Kd.S_lower ho11 (below_size aG)); have n2_ := aM (blk_below (g := gb187) (o := .cells #[.slice A0_0 l0_0.length c0_0, .slice A0_1 l0_1.length c0_1] 31 (0, 0)) aK hb); have n3_ := aM (blk_below (g := gb188) (o := .cells #[.slice none 0 0, .slice none 0 0] 31 (0, 0)) aK hb); have n4_ := aM (below_step aG hb); clear HO194; clear BK187; clear BK188; clear HB; have HO194 := n0_; have HO197 := n1_; have BK187 := n2_; have BK188 := n3_; have HB := n4_; clear n0_ n1_ n2_ n3_ n4_; clear hb ho11; obtain ⟨Ao12, co12, eo12⟩ := Kd.S_slice HO197.out; subst eo12; obtain ⟨Ao13, co13, eo13⟩ := Kd.R_slice HO194.out; subst eo13) | ((with_reducible refine gate_dst (N := 3) rfl ?_); refine box_event ?hg (N := 3) ?hd (cs := #[.slice none 0 0, .slice none 0 0]) (t := 31) ?hr ?_; (case hd => rfl); (case hg => rfl); (case hr => first | (go_simp; done) | (go_simp; rfl)); intro gb198 hg w14 hbox hb; have n0_ := aM (Kd.R_below (aR HO194) hb); have n1_ := aM (Kd.S_below (aS HO197) hb); have n2_ := aM (blk_below (g := gb187) (o := .cells #[.slice A0_0 l0_0.length c0_0, .slice A0_1 l0_1.length c0_1] 31 (0, 0)) aK hb); have n3_ := aM (blk_below (g := gb188) (o := .cells #[.slice none 0 0, .slice none 0 0] 31 (0, 0)) aK hb); have n4_ := aM (below_step aG hb); have n5_ := aM (hbox); have n6_ := aM ((by rw [hg]; exact (below_size aG) : w.heap.size ≤ gb198)); have n7_ := aM ((by rw [hg]; exact (below_size aG) : w.heap.size ≤ gb198)); have n8_ := aM ((by rw [hg]; exact Nat.ne_of_lt (blk_lt (g := gb187) (o := .cells #[.slice A0_0 l0_0.length c0_0, .slice A0_1 l0_1.length c0_1] 31 (0, 0)) aK) : gb187 ≠ gb198)); have n9_ := aM ((by rw [hg]; exact Nat.ne_of_gt (blk_lt (g := gb187) (o := .cells #[.slice A0_0 l0_0.length c0_0, .slice A0_1 l0_1.length c0_1] 31 (0, 0)) aK) : gb198 ≠ gb187)); have n10_ := aM ((by rw [hg]; exact Nat.ne_of_lt (blk_lt (g := gb188) (o := .cells #[.slice none 0 0, .slice none 0 0] 31 (0, 0)) aK) : gb188 ≠ gb198)); have n11_ := aM ((by rw [hg]; exact Nat.ne_of_gt (blk_lt (g := gb188) (o := .cells #[.slice none 0 0, .slice none 0 0] 31 (0, 0)) aK) : gb198 ≠ gb188)); clear HO194; clear HO197; clear BK187; clear BK188; clear HB; have HO194 := n0_; have HO197 := n1_; have BK187 := n2_; have BK188 := n3_; have HB := n4_; have BK198 := n5_; have GW198 := n6_; have GE198 := n7_; have NB187_198 := n8_; have NB198_187 := n9_; have NB188_198 := n10_; have NB198_188 := n11_; clear n0_ n1_ n2_ n3_ n4_ n5_ n6_ n7_ n8_ n9_ n10_ n11_; clear hb hbox hg; have hnb15 := NB198_187.out; have hnc15 := NB187_198.out; have hnb16 := NB198_188.out; have hnc16 := NB188_198.out; have hcz17_0 : w14.cell? ⟨gb198, 0, none⟩ = some (.slice none 0 0) := (blk_cell BK198.out 0).trans rfl; have hcz17_1 : w14.cell? ⟨gb198, 1, none⟩ = some (.slice none 0 0) := (blk_cell BK198.out 1).trans rfl; have hfz17_0 := blk_frozen BK198.out 0; have hfz17_1 := blk_frozen BK198.out 1; have hcz18_0 : w14.cell? ⟨gb187, 0, none⟩ = some (.slice A0_0 l0_0.length c0_0) := (blk_cell BK187.out 0).trans rfl; have hcz18_1 : w14.cell? ⟨gb187, 1, none⟩ = some (.slice A0_1 l0_1.length c0_1) := (blk_cell BK187.out 1).trans rfl; have hfz18_0 := blk_frozen BK187.out 0; have hfz18_1 := blk_frozen BK187.out 1))
  go_loopg [15] k (fun kq v15 w' => ∃ (x15_1 : Int) (x199001_1 : List (S39)) (u199001 : Value), v15 = .int .i64 x15_1 ∧ Aside0 (impl_copyDatabase.l0 kq l0_1 (l0_1.length : Int) x15_1 y192 x199001_1 = some (r1, r2)) ∧ Aside0 (kq ≤ k) ∧ Aside0 (Kd.R k68 68 w' w.heap.size (fun _ => True) (.slice Ao13 y192.length co13) y192) ∧ Aside0 (Kd.S k39 39 w' w.heap.size (fun _ => True) u199001 x199001_1) ∧ Aside0 (w'.heap[gb187]? = some (.cells #[(.slice A0_0 l0_0.length c0_0), (.slice A0_1 l0_1.length c0_1)] 31 (0, 0))) ∧ Aside0 (w'.heap[gb188]? = some (.cells #[(.slice none 0 0), (.slice none 0 0)] 31 (0, 0))) ∧ Aside0 (w'.heap[gb198]? = some (.cells #[(.slice Ao13 y192.length co13), u199001] 31 (0, 0))) ∧ Aside0 (Below w.heap.size w w'))
  case atStart => exact ⟨(0), (y195), (.slice Ao12 y195.length co12), (by first | rfl | (simp; done) | (simp [*]; done)), H', ⟨Nat.le_refl _⟩, ⟨by (with_reducible repeat (first | apply Kd.R_alloc | apply Kd.R_drewN | apply Kd.R_drew)); exact Kd.R_mono (Kd.R_far (p := ⟨gb198, 1, none⟩) (Kd.R_far (p := ⟨gb198, 0, none⟩) (Kd.R_types HO194.out BK198.out (by decide)) (fun _ hk => hk.2) (.slice Ao13 y192.length co13)) (fun _ hk => hk.2) (.slice Ao12 y195.length co12)) (fun _ hk => trivial)⟩, ⟨by (with_reducible repeat (first | apply Kd.S_alloc | apply Kd.S_drewN | apply Kd.S_drew)); exact Kd.S_mono (Kd.S_far (p := ⟨gb198, 1, none⟩) (Kd.S_far (p := ⟨gb198, 0, none⟩) (Kd.S_types HO197.out BK198.out (by decide)) (fun _ hk => hk.2) (.slice Ao13 y192.length co13)) (fun _ hk => hk.2) (.slice Ao12 y195.length co12)) (fun _ hk => trivial)⟩, ⟨by (with_reducible repeat (first | refine blk_drewN ?_ _ | refine blk_drew ?_ | refine blk_alloc ?_ _)); refine blk_far ?_ NB187_198.out _; (with_reducible repeat (first | refine blk_drewN ?_ _ | refine blk_drew ?_ | refine blk_alloc ?_ _)); refine blk_far ?_ NB187_198.out _; (with_reducible repeat (first | refine blk_drewN ?_ _ | refine blk_drew ?_ | refine blk_alloc ?_ _)); exact BK187.out⟩, ⟨by (with_reducible repeat (first | refine blk_drewN ?_ _ | refine blk_drew ?_ | refine blk_alloc ?_ _)); refine blk_far ?_ NB188_198.out _; (with_reducible repeat (first | refine blk_drewN ?_ _ | refine blk_drew ?_ | refine blk_alloc ?_ _)); refine blk_far ?_ NB188_198.out _; (with_reducible repeat (first | refine blk_drewN ?_ _ | refine blk_drew ?_ | refine blk_alloc ?_ _)); exact BK188.out⟩, ⟨by (with_reducible repeat (first | refine blk_drewN ?_ _ | refine blk_drew ?_ | refine blk_alloc ?_ _)); refine blk_put (cs := #[.slice Ao13 y192.length co13, .slice none 0 0]) ?_ 1 _ rfl; (with_reducible repeat (first | refine blk_drewN ?_ _ | refine blk_drew ?_ | refine blk_alloc ?_ _)); refine blk_put (cs := #[.slice none 0 0, .slice none 0 0]) ?_ 0 _ rfl; (with_reducible repeat (first | refine blk_drewN ?_ _ | refine blk_drew ?_ | refine blk_alloc ?_ _)); exact BK198.out⟩, ⟨by repeat (first | (with_reducible first | exact HB.out | apply below_alloc | apply pw_below_drewN | apply below_drew1 | refine below_set ?_ GE187.out | refine below_set ?_ GE188.out | refine below_set ?_ GE198.out) | exact HB.out)⟩⟩
  case round =>
   clear H'
   try clear c1
   try clear c2
   try clear p2
   try clear c7
   try clear c15
   try clear c16
   try clear hcz17_0
   try clear hcz17_1
   try clear hcz18_0
   try clear hcz18_1
   try clear hcz8_0
   try clear hcz8_1
   try clear hfz17_0
   try clear hfz17_1
   try clear hfz18_0
   try clear hfz18_1
   try clear hfz8_0
   try clear hfz8_1
   obtain ⟨x15_1, x199001_1, u199001, rfl, HA, HK1, HO_199000, HO_199001, BK187, BK188, BK198, HB⟩ := hrel
   cases gk with
   | zero => exact absurd HA.out (by simp [impl_copyDatabase.l0])
   | succ k1 =>
    have H := HA.out
    clear HA
    simp only [impl_copyDatabase.l0] at H
    by_cases c19 : x15_1 < (l0_1.length : Int)
    ·rw [if_pos c19] at H
     have c19b0 : decide (x15_1 < (l0_1.length : Int)) = true := decide_eq_true c19
     clear c19
     by_cases c20 : 0 ≤ x15_1
     ·rw [if_pos c20] at H
      have c20b0 : decide (0 ≤ x15_1) = true := decide_eq_true c20
      clear c20
      by_cases c21 : x15_1 < (l0_1.length : Int)
      ·rw [if_pos c21] at H
       have c21b0 : decide (x15_1 < (l0_1.length : Int)) = true := decide_eq_true c21
       clear c21
       obtain ⟨y201, hy201⟩ : ∃ y_ : List Int, y_ = (([] : List Int)) := ⟨_, rfl⟩
       replace H : (if y201.length + ((rd_T39 l0_1 x15_1).f1).length < 17592186044416 then (if x199001_1.length < 4398046511104 then (impl_copyDatabase.l0 k1 l0_1 (l0_1.length : Int) (wrap64 (x15_1 + 1)) y192 (x199001_1 ++ [(⟨(rd_T39 l0_1 x15_1).f0, (y201 ++ ((rd_T39 l0_1 x15_1).f1))⟩ : S39)])) else (none)) else (none)) = some (r1, r2) := by first | (rw [hy201]; with_reducible exact H) | (have H2_ := (Option.bind_some _ _).symm.trans H; rw [hy201]; with_reducible exact H2_) | (have H2_ := (Option.bind_some _ _).symm.trans H; with_reducible exact H2_) | with_reducible exact H | (rw [hy201]; exact H) | exact H
       have Ny201 := aM hy201
       clear hy201
       by_cases c22 : y201.length + ((rd_T39 l0_1 x15_1).f1).length < 17592186044416
       ·rw [if_pos c22] at H
        have LMc22 := aM c22
        clear c22
        obtain ⟨y204, hy204⟩ : ∃ y_ : List Int, y_ = (y201 ++ ((rd_T39 l0_1 x15_1).f1)) := ⟨_, rfl⟩
        replace H : (if x199001_1.length < 4398046511104 then (impl_copyDatabase.l0 k1 l0_1 (l0_1.length : Int) (wrap64 (x15_1 + 1)) y192 (x199001_1 ++ [(⟨(rd_T39 l0_1 x15_1).f0, y204⟩ : S39)])) else (none)) = some (r1, r2) := by first | (rw [hy204]; with_reducible exact H) | (have H2_ := (Option.bind_some _ _).symm.trans H; rw [hy204]; with_reducible exact H2_) | (have H2_ := (Option.bind_some _ _).symm.trans H; with_reducible exact H2_) | with_reducible exact H | (rw [hy204]; exact H) | exact H
        have Ny204 := aM hy204
        clear hy204
        by_cases c23 : x199001_1.length < 4398046511104
        ·rw [if_pos c23] at H
         have LMc23 := aM c23
         clear c23
         obtain ⟨y207, hy207⟩ : ∃ y_ : List (S39), y_ = (x199001_1 ++ [(⟨(rd_T39 l0_1 x15_1).f0, y204⟩ : S39)]) := ⟨_, rfl⟩
         replace H : (impl_copyDatabase.l0 k1 l0_1 (l0_1.length : Int) (wrap64 (x15_1 + 1)) y192 y207) = some (r1, r2) := by first | (rw [hy207]; with_reducible exact H) | (have H2_ := (Option.bind_some _ _).symm.trans H; rw [hy207]; with_reducible exact H2_) | (have H2_ := (Option.bind_some _ _).symm.trans H; with_reducible exact H2_) | with_reducible exact H | (rw [hy207]; exact H) | exact H
         have Ny207 := aM hy207
         clear hy207
         have H' := aM H
         clear H
         have p199 : 0 ≤ (x15_1 : Int) := aD
         have q199 : x15_1 < (l0_1.length : Int) := aD
         obtain ⟨ad199, A199_1, c199_1, e199, hx199_0, hx199_1, hl199_1, hi199_1⟩ := at_T39 HR0_1.out x15_1 p199 q199
         cases e199
         replace hx199_0 := (HB.out.cell (World.block_lt_of_cell? w _ hx199_0)).trans hx199_0
         replace hx199_1 := (HB.out.cell (World.block_lt_of_cell? w _ hx199_1)).trans hx199_1
         have HR199_1 := aM hi199_1
         have HC199_1 := aM hl199_1
         clear hi199_1 hl199_1
         replace p199 := eq_true p199
         replace q199 := eq_true q199
         try go_wp2_with (first | ((with_reducible refine gate_dst (N := 5) rfl ?_); refine box_event ?hg (N := 5) ?hd (cs := #[.int .i64 0, .slice none 0 0]) (t := 39) ?hr ?_; (case hd => rfl); (case hg => rfl); (case hr => first | (go_simp; done) | (go_simp; rfl)); intro gb200 hg w24 hbox hb; have n0_ := aM (Kd.R_below (aR HO_199000) hb); have n1_ := aM (Kd.S_below (Kd.S_elderB (aS HO_199001) gb200 (Nat.le_of_eq hg.symm)) hb); have n2_ := aM (blk_below (g := gb187) (o := .cells #[.slice A0_0 l0_0.length c0_0, .slice (some ad199) l0_1.length c0_1] 31 (0, 0)) aK hb); have n3_ := aM (blk_below (g := gb188) (o := .cells #[.slice none 0 0, .slice none 0 0] 31 (0, 0)) aK hb); have n4_ := aM (blk_below (g := gb198) (o := .cells #[.slice Ao13 y192.length co13, u199001] 31 (0, 0)) aK hb); have n5_ := aM (below_step aG hb); have n6_ := aM (hbox); have n7_ := aM ((by rw [hg]; exact (below_size aG) : w.heap.size ≤ gb200)); have n8_ := aM ((by rw [hg]; exact (below_size aG) : w.heap.size ≤ gb200)); have n9_ := aM ((by rw [hg]; exact Nat.ne_of_lt (blk_lt (g := gb187) (o := .cells #[.slice A0_0 l0_0.length c0_0, .slice (some ad199) l0_1.length c0_1] 31 (0, 0)) aK) : gb187 ≠ gb200)); have n10_ := aM ((by rw [hg]; exact Nat.ne_of_gt (blk_lt (g := gb187) (o := .cells #[.slice A0_0 l0_0.length c0_0, .slice (some ad199) l0_1.length c0_1] 31 (0, 0)) aK) : gb200 ≠ gb187)); have n11_ := aM ((by rw [hg]; exact Nat.ne_of_lt (blk_lt (g := gb188) (o := .cells #[.slice none 0 0, .slice none 0 0] 31 (0, 0)) aK) : gb188 ≠ gb200)); have n12_ := aM ((by rw [hg]; exact Nat.ne_of_gt (blk_lt (g := gb188) (o := .cells #[.slice none 0 0, .slice none 0 0] 31 (0, 0)) aK) : gb200 ≠ gb188)); have n13_ := aM ((by rw [hg]; exact Nat.ne_of_lt (blk_lt (g := gb198) (o := .cells #[.slice Ao13 y192.length co13, u199001] 31 (0, 0)) aK) : gb198 ≠ gb200)); have n14_ := aM ((by rw [hg]; exact Nat.ne_of_gt (blk_lt (g := gb198) (o := .cells #[.slice Ao13 y192.length co13, u199001] 31 (0, 0)) aK) : gb200 ≠ gb198)); clear HO_199000; clear HO_199001; clear BK187; clear BK188; clear BK198; clear HB; have HO_199000 := n0_; have HO_199001 := n1_; have BK187 := n2_; have BK188 := n3_; have BK198 := n4_; have HB := n5_; have BK200 := n6_; have GW200 := n7_; have GE200 := n8_; have NB187_200 := n9_; have NB200_187 := n10_; have NB188_200 := n11_; have NB200_188 := n12_; have NB198_200 := n13_; have NB200_198 := n14_; clear n0_ n1_ n2_ n3_ n4_ n5_ n6_ n7_ n8_ n9_ n10_ n11_ n12_ n13_ n14_; clear hb hbox hg; have hnb25 := NB200_187.out; have hnc25 := NB187_200.out; have hnb26 := NB200_188.out; have hnc26 := NB188_200.out; have hnb27 := NB200_198.out; have hnc27 := NB198_200.out; have hcz28_0 : w24.cell? ⟨gb200, 0, none⟩ = some (.int .i64 0) := (blk_cell BK200.out 0).trans rfl; have hcz28_1 : w24.cell? ⟨gb200, 1, none⟩ = some (.slice none 0 0) := (blk_cell BK200.out 1).trans rfl; have hfz28_0 := blk_frozen BK200.out 0; have hfz28_1 := blk_frozen BK200.out 1))
         have n0_ : Aside0 (Kd.R k68 68 ((w24.setCell ⟨gb200, 0, none⟩ (.int .i64 ((rd_T39 l0_1 x15_1).f0))).setCell ⟨gb200, 1, none⟩ (.slice A199_1 ((rd_T39 l0_1 x15_1).f1).length c199_1)) w.heap.size (fun _ => True) (.slice Ao13 y192.length co13) y192) := ⟨by (with_reducible repeat (first | apply Kd.R_alloc | apply Kd.R_drewN | apply Kd.R_drew)); exact Kd.R_mono (Kd.R_far (p := ⟨gb200, 1, none⟩) (Kd.R_far (p := ⟨gb200, 0, none⟩) (Kd.R_types HO_199000.out BK200.out (by decide)) (fun _ hk => hk.2) (.int .i64 ((rd_T39 l0_1 x15_1).f0))) (fun _ hk => hk.2) (.slice A199_1 ((rd_T39 l0_1 x15_1).f1).length c199_1)) (fun _ hk => trivial)⟩
         have n1_ : Aside0 (Kd.S k39 39 ((w24.setCell ⟨gb200, 0, none⟩ (.int .i64 ((rd_T39 l0_1 x15_1).f0))).setCell ⟨gb200, 1, none⟩ (.slice A199_1 ((rd_T39 l0_1 x15_1).f1).length c199_1)) w.heap.size (fun k_ => k_ ≠ gb200) u199001 x199001_1) := ⟨by (with_reducible repeat (first | apply Kd.S_alloc | apply Kd.S_drewN | apply Kd.S_drew)); exact Kd.S_mono (Kd.S_far (p := ⟨gb200, 1, none⟩) (Kd.S_far (p := ⟨gb200, 0, none⟩) (Kd.S_mono HO_199001.out (fun k_ hk => (⟨hk, hk.2⟩ : _ ∧ k_ ≠ gb200))) (fun _ hk => hk.2) (.int .i64 ((rd_T39 l0_1 x15_1).f0))) (fun _ hk => hk.2) (.slice A199_1 ((rd_T39 l0_1 x15_1).f1).length c199_1)) (fun _ hk => hk.1.2)⟩
         have n2_ : Aside0 (((w24.setCell ⟨gb200, 0, none⟩ (.int .i64 ((rd_T39 l0_1 x15_1).f0))).setCell ⟨gb200, 1, none⟩ (.slice A199_1 ((rd_T39 l0_1 x15_1).f1).length c199_1)).heap[gb187]? = some (.cells #[.slice A0_0 l0_0.length c0_0, .slice (some ad199) l0_1.length c0_1] 31 (0, 0))) := ⟨by (with_reducible repeat (first | refine blk_drewN ?_ _ | refine blk_drew ?_ | refine blk_alloc ?_ _)); refine blk_far ?_ NB187_200.out _; (with_reducible repeat (first | refine blk_drewN ?_ _ | refine blk_drew ?_ | refine blk_alloc ?_ _)); refine blk_far ?_ NB187_200.out _; (with_reducible repeat (first | refine blk_drewN ?_ _ | refine blk_drew ?_ | refine blk_alloc ?_ _)); exact BK187.out⟩
         have n3_ : Aside0 (((w24.setCell ⟨gb200, 0, none⟩ (.int .i64 ((rd_T39 l0_1 x15_1).f0))).setCell ⟨gb200, 1, none⟩ (.slice A199_1 ((rd_T39 l0_1 x15_1).f1).length c199_1)).heap[gb188]? = some (.cells #[.slice none 0 0, .slice none 0 0] 31 (0, 0))) := ⟨by (with_reducible repeat (first | refine blk_drewN ?_ _ | refine blk_drew ?_ | refine blk_alloc ?_ _)); refine blk_far ?_ NB188_200.out _; (with_reducible repeat (first | refine blk_drewN ?_ _ | refine blk_drew ?_ | refine blk_alloc ?_ _)); refine blk_far ?_ NB188_200.out _; (with_reducible repeat (first | refine blk_drewN ?_ _ | refine blk_drew ?_ | refine blk_alloc ?_ _)); exact BK188.out⟩
         have n4_ : Aside0 (((w24.setCell ⟨gb200, 0, none⟩ (.int .i64 ((rd_T39 l0_1 x15_1).f0))).setCell ⟨gb200, 1, none⟩ (.slice A199_1 ((rd_T39 l0_1 x15_1).f1).length c199_1)).heap[gb198]? = some (.cells #[.slice Ao13 y192.length co13, u199001] 31 (0, 0))) := ⟨by (with_reducible repeat (first | refine blk_drewN ?_ _ | refine blk_drew ?_ | refine blk_alloc ?_ _)); refine blk_far ?_ NB198_200.out _; (with_reducible repeat (first | refine blk_drewN ?_ _ | refine blk_drew ?_ | refine blk_alloc ?_ _)); refine blk_far ?_ NB198_200.out _; (with_reducible repeat (first | refine blk_drewN ?_ _ | refine blk_drew ?_ | refine blk_alloc ?_ _)); exact BK198.out⟩
         have n5_ : Aside0 (((w24.setCell ⟨gb200, 0, none⟩ (.int .i64 ((rd_T39 l0_1 x15_1).f0))).setCell ⟨gb200, 1, none⟩ (.slice A199_1 ((rd_T39 l0_1 x15_1).f1).length c199_1)).heap[gb200]? = some (.cells #[.int .i64 ((rd_T39 l0_1 x15_1).f0), .slice A199_1 ((rd_T39 l0_1 x15_1).f1).length c199_1] 39 (0, 0))) := ⟨by (with_reducible repeat (first | refine blk_drewN ?_ _ | refine blk_drew ?_ | refine blk_alloc ?_ _)); refine blk_put (cs := #[.int .i64 ((rd_T39 l0_1 x15_1).f0), .slice none 0 0]) ?_ 1 _ rfl; (with_reducible repeat (first | refine blk_drewN ?_ _ | refine blk_drew ?_ | refine blk_alloc ?_ _)); refine blk_put (cs := #[.int .i64 0, .slice none 0 0]) ?_ 0 _ rfl; (with_reducible repeat (first | refine blk_drewN ?_ _ | refine blk_drew ?_ | refine blk_alloc ?_ _)); exact BK200.out⟩
         have n6_ : Aside0 (Below w.heap.size w ((w24.setCell ⟨gb200, 0, none⟩ (.int .i64 ((rd_T39 l0_1 x15_1).f0))).setCell ⟨gb200, 1, none⟩ (.slice A199_1 ((rd_T39 l0_1 x15_1).f1).length c199_1))) := ⟨by repeat (first | (with_reducible first | exact HB.out | apply below_alloc | apply pw_below_drewN | apply below_drew1 | refine below_set ?_ GE187.out | refine below_set ?_ GE188.out | refine below_set ?_ GE198.out | refine below_set ?_ GE200.out) | exact HB.out)⟩
         (try clear HO_199000)
         (try clear HO_199001)
         (try clear BK187)
         (try clear BK188)
         (try clear BK198)
         (try clear BK200)
         (try clear HB)
         generalize ((w24.setCell ⟨gb200, 0, none⟩ (.int .i64 ((rd_T39 l0_1 x15_1).f0))).setCell ⟨gb200, 1, none⟩ (.slice A199_1 ((rd_T39 l0_1 x15_1).f1).length c199_1)) = w29 at n0_ n1_ n2_ n3_ n4_ n5_ n6_ ⊢
         have HO_199000 := n0_
         have HO_199001 := n1_
         have BK187 := n2_
         have BK188 := n3_
         have BK198 := n4_
         have BK200 := n5_
         have HB := n6_
         clear n0_ n1_ n2_ n3_ n4_ n5_ n6_
         have n0_ := aM (Kd.R_drew HO_199000.out)
         have n1_ := aM (Kd.S_drew HO_199001.out)
         have n2_ := aM (blk_drew BK187.out)
         have n3_ := aM (blk_drew BK188.out)
         have n4_ := aM (blk_drew BK198.out)
         have n5_ := aM (blk_drew BK200.out)
         have n6_ := aM (below_drew1 HB.out)
         clear HO_199000
         clear HO_199001
         clear BK187
         clear BK188
         clear BK198
         clear BK200
         clear HB
         have HO_199000 := n0_
         have HO_199001 := n1_
         have BK187 := n2_
         have BK188 := n3_
         have BK198 := n4_
         have BK200 := n5_
         have HB := n6_
         clear n0_ n1_ n2_ n3_ n4_ n5_ n6_
         refine start_ (n := 13) (S := fun w' => w'.cell? ⟨gb198, 0, none⟩ = some (.slice Ao13 y192.length co13) ∧ w'.cell? ⟨gb198, 1, none⟩ = some (u199001) ∧ w'.cell? ⟨gb200, 0, none⟩ = some (.int .i64 ((rd_T39 l0_1 x15_1).f0)) ∧ w'.cell? ⟨gb200, 1, none⟩ = some (.slice A199_1 ((rd_T39 l0_1 x15_1).f1).length c199_1)) (ds := [12]) #[false, false, false, false, false, false, false, false, false, false, false, false, false] (by kernel_rfl) rfl rfl ⟨(blk_cell BK198.out 0).trans rfl, (blk_cell BK198.out 1).trans rfl, (blk_cell BK200.out 0).trans rfl, (blk_cell BK200.out 1).trans rfl⟩ (fun hHeld => ?_); refine with_tabW impl_copyDatabase.tab5 impl_copyDatabase.bits5 (fun HT_ HW_ => ?_)
         generalize w29.drew = w30 at HO_199000 HO_199001 BK187 BK188 BK198 BK200 HB hHeld ⊢
         refine pure_ (i := 0) (N := some 19) (v := ?_) (a' := ?_) #[true, false, false, false, false, false, false, false, false, false, false, false, false] rfl rfl (any_of HT_.out (by kernel_rfl)) (fun _ _ _ h => h) (Or.inl ⟨by rfl, ?_⟩) ?_ ?_
         rotate_left
         ·exact aI
         rotate_left
         ·exact aP
         refine pure_ (i := 2) (N := some 21) (v := ?_) (a' := ?_) #[true, false, true, false, false, false, false, false, false, false, false, false, false] rfl rfl (any_of HT_.out (by kernel_rfl)) (fun _ _ _ h => h) (Or.inl ⟨by rfl, ?_⟩) ?_ ?_
         rotate_left
         ·exact aI
         rotate_left
         ·exact aP
         refine pure_ (i := 5) (N := some 24) (v := ?_) (a' := ?_) #[true, false, true, false, false, true, false, false, false, false, false, false, false] rfl rfl (any_of HT_.out (by kernel_rfl)) (fun _ _ _ h => h) (Or.inl ⟨by rfl, ?_⟩) ?_ ?_
         rotate_left
         ·exact aI
         rotate_left
         ·exact aP
         refine take_ (i := 1) (N := some 20) (v := ?_) (a' := ?_) #[true, true, true, false, false, true, false, false, false, false, false, false, false] rfl rfl (take_ofW HT_.out HW_.out (by kernel_rfl)) (fun _ _ _ h => h) (Or.inl ⟨by rfl, ?_⟩) hHeld ?_ ?_
         rotate_left
         ·rintro w' ⟨s0, s1, s2, s3⟩
          go_simp
          with_reducible rfl
         rotate_left
         ·exact aP
         refine take_ (i := 3) (N := some 22) (v := ?_) (a' := ?_) #[true, true, true, true, false, true, false, false, false, false, false, false, false] rfl rfl (take_ofW HT_.out HW_.out (by kernel_rfl)) (fun _ _ _ h => h) (Or.inl ⟨by rfl, ?_⟩) hHeld ?_ ?_
         rotate_left
         ·rintro w' ⟨s0, s1, s2, s3⟩
          go_simp
          with_reducible rfl
         rotate_left
         ·exact aP
         refine take_ (i := 6) (N := some 25) (v := ?_) (a' := ?_) #[true, true, true, true, false, true, true, false, false, false, false, false, false] rfl rfl (take_ofW HT_.out HW_.out (by kernel_rfl)) (fun _ _ _ h => h) (Or.inl ⟨by rfl, ?_⟩) hHeld ?_ ?_
         rotate_left
         ·rintro w' ⟨s0, s1, s2, s3⟩
          go_simp
          with_reducible rfl
         rotate_left
         ·exact aP
         refine one_ (i := 4) (N := some 23) #[true, true, true, true, true, true, true, false, false, false, false, false, false] rfl rfl (one_of HT_.out (by kernel_rfl)) (by decide) (fun K hK => ?_)
         refine Kd.R_lit_step (Kd.int .i64) _ 3 ?hg (N := 23) ?hd (xs := ([] : List Int)) (inner := []) (ok := fun _ => True) (okp := fun _ => True) ?hr ?hp (fun _ hk => hk) trivial (Below.refl _ _) (Nat.le_refl _) (by simp) ?_; (case hd => rfl); (case hg => rfl); (case hr => first | (go_simp; done) | (go_simp; rfl)); (case hp => exact (Reps.none _ _))
         intro v202 w31 ho32 hb hg_ hnew_
         clear hg_ hnew_
         (first | rw [← Ny201.out] at ho32 | (simp only [Int.reduceToNat] at ho32; rw [← Ny201.out] at ho32))
         have n0_ := aM (Kd.R_below (aR HO_199000) hb)
         have n1_ := aM (Kd.S_elder' (aS HO_199001) (Kd.R_base ho32) hb)
         have n2_ := aM (Kd.R_lower ho32 (below_size aG))
         have n3_ := aM (blk_below (g := gb187) (o := .cells #[.slice A0_0 l0_0.length c0_0, .slice (some ad199) l0_1.length c0_1] 31 (0, 0)) aK hb)
         have n4_ := aM (blk_below (g := gb188) (o := .cells #[.slice none 0 0, .slice none 0 0] 31 (0, 0)) aK hb)
         have n5_ := aM (blk_below (g := gb198) (o := .cells #[.slice Ao13 y192.length co13, u199001] 31 (0, 0)) aK hb)
         have n6_ := aM (blk_below (g := gb200) (o := .cells #[.int .i64 ((rd_T39 l0_1 x15_1).f0), .slice A199_1 ((rd_T39 l0_1 x15_1).f1).length c199_1] 39 (0, 0)) aK hb)
         have n7_ := aM (below_step aG hb)
         clear HO_199000
         clear HO_199001
         clear BK187
         clear BK188
         clear BK198
         clear BK200
         clear HB
         have HO_199000 := n0_
         have HO_199001 := n1_
         have HO203 := n2_
         have BK187 := n3_
         have BK188 := n4_
         have BK198 := n5_
         have BK200 := n6_
         have HB := n7_
         clear n0_ n1_ n2_ n3_ n4_ n5_ n6_ n7_
         clear hb ho32
         refine hK.out _ _ ⟨(blk_cell BK198.out 0).trans rfl, (blk_cell BK198.out 1).trans rfl, (blk_cell BK200.out 0).trans rfl, (blk_cell BK200.out 1).trans rfl⟩ (fun hHeld => ?_)
         clear hK K
         refine norm_ (a' := ?_) ?_ ?_
         rotate_left
         ·show Act.put _ (some 23) _ = _
          simp only [Act.put, List.setIfInBounds_toArray, List.set_cons_zero, List.set_cons_succ, i64_w, i32_w]
          rfl
         refine one_ (i := 7) (N := some 26) #[true, true, true, true, true, true, true, true, false, false, false, false, false] rfl rfl (one_of HT_.out (by kernel_rfl)) (by decide) (fun K hK => ?_)
         refine Kd.R_append_rows_step (Kd.int .i64) (w0 := w) w.heap.size (by rfl) (.tmp 23) (.tmp 25) 37 3 (.int .i64 0) 8 rfl Tryd.underlying37 info3 rfl (by decide) (by omega) v202 y201 ((rd_T39 l0_1 x15_1).f1) _ _ _ (fun _ => True) (fun _ => False) rfl rfl ?aO ?aR (fun _ _ h => h) (fun _ h => h.elim) ?aF ?aB ?aS ?aL ?_
         (case aR => exact aC)
         (case aB => exact aG)
         (case aF => exact (fun _ _ => trivial))
         (case aO => exact (aR HO203))
         (case aS => exact (below_size aG))
         (case aL => have := LMc22.out; omega)
         intro v205 w33 ho hb hg hat
         rw [← Ny204.out] at ho
         have n0_ := aM (Kd.R_over' (aR HO_199000) (Kd.R_typed (aR HO203)) (by decide) hg)
         have n1_ := aM (Kd.S_after (ok := (fun k_ => k_ ≠ gb200)) (aS HO_199001) hg hat)
         have n2_ := aM (blk_grown (g := gb187) (o := .cells #[.slice A0_0 l0_0.length c0_0, .slice (some ad199) l0_1.length c0_1] 31 (0, 0)) aK hg (Kd.R_ne HO203.out BK187.out (by decide)))
         have n3_ := aM (blk_grown (g := gb188) (o := .cells #[.slice none 0 0, .slice none 0 0] 31 (0, 0)) aK hg (Kd.R_ne HO203.out BK188.out (by decide)))
         have n4_ := aM (blk_grown (g := gb198) (o := .cells #[.slice Ao13 y192.length co13, u199001] 31 (0, 0)) aK hg (Kd.R_ne HO203.out BK198.out (by decide)))
         have n5_ := aM (blk_grown (g := gb200) (o := .cells #[.int .i64 ((rd_T39 l0_1 x15_1).f0), .slice A199_1 ((rd_T39 l0_1 x15_1).f1).length c199_1] 39 (0, 0)) aK hg (Kd.R_ne HO203.out BK200.out (by decide)))
         have n6_ := aM (hb)
         have n7_ := aM (ho)
         clear HO_199000
         clear HO_199001
         clear BK187
         clear BK188
         clear BK198
         clear BK200
         clear HB
         clear HO203
         have HO_199000 := n0_
         have HO_199001 := n1_
         have BK187 := n2_
         have BK188 := n3_
         have BK198 := n4_
         have BK200 := n5_
         have HB := n6_
         have HO206 := n7_
         clear n0_ n1_ n2_ n3_ n4_ n5_ n6_ n7_
         clear ho hb hg hat
         obtain ⟨Ao34, co34, eo34⟩ := Kd.R_slice HO206.out
         (first | subst eo34 | (injection eo34 with f1_ f2_ f3_; have f4_ := f1_.symm; have f5_ := f3_.symm; clear f1_ f2_ f3_; subst f4_; subst f5_))
         refine hK.out _ _ ⟨(blk_cell BK198.out 0).trans rfl, (blk_cell BK198.out 1).trans rfl, (blk_cell BK200.out 0).trans rfl, (blk_cell BK200.out 1).trans rfl⟩ (fun hHeld => ?_)
         clear hK K
         refine norm_ (a' := ?_) ?_ ?_
         rotate_left
         ·show Act.put _ (some 26) _ = _
          simp only [Act.put, List.setIfInBounds_toArray, List.set_cons_zero, List.set_cons_succ, i64_w, i32_w]
          rfl
         refine pure_ (i := 8) (N := some 27) (v := ?_) (a' := ?_) #[true, true, true, true, true, true, true, true, true, false, false, false, false] rfl rfl (any_of HT_.out (by kernel_rfl)) (fun _ _ _ h => h) (Or.inl ⟨by rfl, ?_⟩) ?_ ?_
         rotate_left
         ·exact aI
         rotate_left
         ·exact aP
         refine one_ (i := 9) (N := some 28) #[true, true, true, true, true, true, true, true, true, true, false, false, false] rfl rfl (one_of HT_.out (by kernel_rfl)) (by decide) (fun K hK => ?_)
         refine value_ (w1 := ?_) (v := ?_) (by rfl) rfl ?_ ?_
         rotate_left 2
         ·go_simp
          constructor
          ·rfl
          ·rfl
         refine hK.out _ _ ⟨(blk_cell (blk_alloc BK198.out _) 0).trans rfl, (blk_cell (blk_alloc BK198.out _) 1).trans rfl, (blk_cell (blk_alloc BK200.out _) 0).trans rfl, (blk_cell (blk_alloc BK200.out _) 1).trans rfl⟩ (fun hHeld => ?_)
         clear hK K
         refine norm_ (a' := ?_) ?_ ?_
         rotate_left
         ·show Act.put _ (some 28) _ = _
          simp only [Act.put, List.setIfInBounds_toArray, List.set_cons_zero, List.set_cons_succ, i64_w, i32_w]
          rfl
         refine one_ (i := 10) (N := some 29) #[true, true, true, true, true, true, true, true, true, true, true, false, false] rfl rfl (one_of HT_.out (by kernel_rfl)) (by decide) (fun K hK => ?_)
         refine Kd.S_append_step k39 (w0 := w) w.heap.size (by rfl) (.tmp 20) (.tmp 28) 29 39 (.agg #[(.int .i64 0), (.slice none 0 0)]) 32 rfl Tryd.underlying29 info39 rfl (by decide) (by omega) u199001 x199001_1 (⟨(rd_T39 l0_1 x15_1).f0, y204⟩ : S39) [.int .i64 ((rd_T39 l0_1 x15_1).f0), .slice Ao34 y204.length co34] (fun k_ => k_ ≠ gb200) (fun k_ => some k_ = (.slice Ao34 y204.length co34 : Value).ownBlock) rfl rfl ?aP (fun k_ hk_ => ((Kd.R_mono (ok' := fun k_ => ((fun k_ => k_ ≠ gb200)) k_ ∧ some k_ ≠ (u199001 : Value).ownBlock) (Kd.R_types (Kd.R_apart' (HO206.out) (Kd.S_typed HO_199001.out) (by decide)) BK200.out (by decide)) (fun k_ hk => ⟨hk.2, hk.1.2⟩))).1 k_ hk_.symm) ?aF ?aO ?aB ?aS ?aL ?_
         (case aP => exact k39_mkM _ _ _ (⟨(rd_T39 l0_1 x15_1).f0, y204⟩ : S39) (Kd.R_mono (Kd.R_tight rfl (Kd.R_mono (ok' := fun k_ => ((fun k_ => k_ ≠ gb200)) k_ ∧ some k_ ≠ (u199001 : Value).ownBlock) (Kd.R_types (Kd.R_apart' (HO206.out) (Kd.S_typed HO_199001.out) (by decide)) BK200.out (by decide)) (fun k_ hk => ⟨hk.2, hk.1.2⟩))) (fun _ h_ => h_)))
         (case aB => exact aG)
         (case aF => exact (fun k_ hk => Kd.freshB (g := gb200) (o := .cells #[.int .i64 ((rd_T39 l0_1 x15_1).f0), .slice A199_1 ((rd_T39 l0_1 x15_1).f1).length c199_1] 39 (0, 0)) aK k_ hk))
         (case aO => exact (by (with_reducible repeat (first | apply Kd.S_alloc | apply Kd.S_drewN | apply Kd.S_drew)); exact Kd.S_mono HO_199001.out (fun k_ hk => ⟨hk.1, fun e_ => hk.2 e_⟩)))
         (case aS => exact (below_size aG))
         (case aL => have := LMc23.out; omega)
         intro v208 w35 ho hb hg hat
         rw [← Ny207.out] at ho
         have n0_ := aM (Kd.R_over' (aR HO_199000) (Kd.S_typed (aS HO_199001)) (by decide) hg)
         have n1_ := aM (blk_grown (g := gb187) (o := .cells #[.slice A0_0 l0_0.length c0_0, .slice (some ad199) l0_1.length c0_1] 31 (0, 0)) aK hg (Kd.S_ne HO_199001.out BK187.out (by decide)))
         have n2_ := aM (blk_grown (g := gb188) (o := .cells #[.slice none 0 0, .slice none 0 0] 31 (0, 0)) aK hg (Kd.S_ne HO_199001.out BK188.out (by decide)))
         have n3_ := aM (blk_grown (g := gb198) (o := .cells #[.slice Ao13 y192.length co13, u199001] 31 (0, 0)) aK hg (Kd.S_ne HO_199001.out BK198.out (by decide)))
         have n4_ := aM (blk_grown (g := gb200) (o := .cells #[.int .i64 ((rd_T39 l0_1 x15_1).f0), .slice A199_1 ((rd_T39 l0_1 x15_1).f1).length c199_1] 39 (0, 0)) aK hg (Kd.S_away HO_199001.out (fun _ hk => hk.1)))
         have n5_ := aM (hb)
         have n6_ := aM (ho)
         clear HO_199000
         clear BK187
         clear BK188
         clear BK198
         clear BK200
         clear HB
         clear HO_199001
         clear HO206
         have HO_199000 := n0_
         have BK187 := n1_
         have BK188 := n2_
         have BK198 := n3_
         have BK200 := n4_
         have HB := n5_
         have HO209 := n6_
         clear n0_ n1_ n2_ n3_ n4_ n5_ n6_
         clear ho hb hg hat
         obtain ⟨Ao36, co36, eo36⟩ := Kd.S_slice HO209.out
         (first | subst eo36 | (injection eo36 with f1_ f2_ f3_; have f4_ := f1_.symm; have f5_ := f3_.symm; clear f1_ f2_ f3_; subst f4_; subst f5_))
         refine hK.out _ _ ⟨(blk_cell BK198.out 0).trans rfl, (blk_cell BK198.out 1).trans rfl, (blk_cell BK200.out 0).trans rfl, (blk_cell BK200.out 1).trans rfl⟩ (fun hHeld => ?_)
         clear hK K
         refine norm_ (a' := ?_) ?_ ?_
         rotate_left
         ·show Act.put _ (some 29) _ = _
          simp only [Act.put, List.setIfInBounds_toArray, List.set_cons_zero, List.set_cons_succ, i64_w, i32_w]
          rfl
         refine pure_ (i := 11) (N := some 30) (v := ?_) (a' := ?_) #[true, true, true, true, true, true, true, true, true, true, true, true, false] rfl rfl (any_of HT_.out (by kernel_rfl)) (fun _ _ _ h => h) (Or.inl ⟨by rfl, ?_⟩) ?_ ?_
         rotate_left
         ·exact aI
         rotate_left
         ·exact aP
         refine last_ (i := 12) (N := none) #[true, true, true, true, true, true, true, true, true, true, true, true, true] rfl rfl (one_of HT_.out (by kernel_rfl)) (by decide) (fun K hK => ?_)
         have hs37 : w35.cell? ⟨gb198, 1, none⟩ = some (u199001) := (blk_cell BK198.out 1).trans rfl
         have hfs37 := blk_frozen BK198.out 1
         have hns37_0 := NB187_198.out
         have hns37_1 := NB188_198.out
         have hns37_3 := NB200_198.out
         have hms37_0 := NB198_187.out
         have hms37_1 := NB198_188.out
         have hms37_3 := NB198_200.out
         refine skip_ (w1 := ?_) (by rfl) rfl ?_ ?_
         rotate_left
         ·go_simp
          rfl
         refine hK.out _ _ ?_
         clear hK K
         refine done_ (done_of HT_.out (by kernel_rfl)) ?_
         try go_wp2
         go_roundg k1
         case measure => have := HK1.out; omega
         case rel => exact ⟨(wrap64 (x15_1 + 1)), (y207), (.slice Ao36 y207.length co36), (by first | rfl | (simp; done) | (simp [*]; done)), H', ⟨by have := HK1.out; omega⟩, ⟨by (with_reducible repeat (first | apply Kd.R_alloc | apply Kd.R_drewN | apply Kd.R_drew)); exact Kd.R_mono (Kd.R_far (p := ⟨gb198, 1, none⟩) (Kd.R_types HO_199000.out BK198.out (by decide)) (fun _ hk => hk.2) (.slice Ao36 y207.length co36)) (fun _ hk => trivial)⟩, ⟨by (with_reducible repeat (first | apply Kd.S_alloc | apply Kd.S_drewN | apply Kd.S_drew)); exact Kd.S_mono (Kd.S_far (p := ⟨gb198, 1, none⟩) (Kd.S_types HO209.out BK198.out (by decide)) (fun _ hk => hk.2) (.slice Ao36 y207.length co36)) (fun _ hk => trivial)⟩, ⟨by (with_reducible repeat (first | refine blk_drewN ?_ _ | refine blk_drew ?_ | refine blk_alloc ?_ _)); refine blk_far ?_ NB187_198.out _; (with_reducible repeat (first | refine blk_drewN ?_ _ | refine blk_drew ?_ | refine blk_alloc ?_ _)); exact BK187.out⟩, ⟨by (with_reducible repeat (first | refine blk_drewN ?_ _ | refine blk_drew ?_ | refine blk_alloc ?_ _)); refine blk_far ?_ NB188_198.out _; (with_reducible repeat (first | refine blk_drewN ?_ _ | refine blk_drew ?_ | refine blk_alloc ?_ _)); exact BK188.out⟩, ⟨by (with_reducible repeat (first | refine blk_drewN ?_ _ | refine blk_drew ?_ | refine blk_alloc ?_ _)); refine blk_put (cs := #[.slice Ao13 y192.length co13, u199001]) ?_ 1 _ rfl; (with_reducible repeat (first | refine blk_drewN ?_ _ | refine blk_drew ?_ | refine blk_alloc ?_ _)); exact BK198.out⟩, ⟨by repeat (first | (with_reducible first | exact HB.out | apply below_alloc | apply pw_below_drewN | apply below_drew1 | refine below_set ?_ GE187.out | refine below_set ?_ GE188.out | refine below_set ?_ GE198.out | refine below_set ?_ GE200.out) | exact HB.out)⟩⟩
        ·rw [if_neg c23] at H
         exact absurd H (by simp)
       ·rw [if_neg c22] at H
        exact absurd H (by simp)
      ·rw [if_neg c21] at H
       exact absurd H (by simp)
     ·rw [if_neg c20] at H
      exact absurd H (by simp)
    ·rw [if_neg c19] at H
     have c19b0 : decide (x15_1 < (l0_1.length : Int)) = false := decide_eq_false c19
     clear c19
     simp only [Option.some.injEq, Prod.mk.injEq] at H
     obtain ⟨rfl, rfl⟩ := H
     have hnb38 := NB198_187.out
     have hnc38 := NB187_198.out
     have hnb39 := NB198_188.out
     have hnc39 := NB188_198.out
     have hcz40_0 : wr.cell? ⟨gb198, 0, none⟩ = some (.slice Ao13 y192.length co13) := (blk_cell BK198.out 0).trans rfl
     have hcz40_1 : wr.cell? ⟨gb198, 1, none⟩ = some (u199001) := (blk_cell BK198.out 1).trans rfl
     have hfz40_0 := blk_frozen BK198.out 0
     have hfz40_1 := blk_frozen BK198.out 1
     have hnb41 := NB188_187.out
     have hnc41 := NB187_188.out
     have hcz42_0 : wr.cell? ⟨gb188, 0, none⟩ = some (.slice none 0 0) := (blk_cell BK188.out 0).trans rfl
     have hcz42_1 : wr.cell? ⟨gb188, 1, none⟩ = some (.slice none 0 0) := (blk_cell BK188.out 1).trans rfl
     have hfz42_0 := blk_frozen BK188.out 0
     have hfz42_1 := blk_frozen BK188.out 1
     obtain ⟨Ao43, co43, eo43⟩ := Kd.S_slice HO_199001.out
     subst eo43
     go_wp2
     refine bodyPost_ret (results_cell_row rfl _ _ gb188 31 #[.slice Ao13 y192.length co13, .slice Ao43 x199001_1.length co43] (0, 0) _ rfl (by (with_reducible repeat (first | refine blk_drewN ?_ _ | refine blk_drew ?_ | refine blk_alloc ?_ _)); refine blk_put (cs := #[.slice Ao13 y192.length co13, .slice none 0 0]) ?_ 1 _ rfl; (with_reducible repeat (first | refine blk_drewN ?_ _ | refine blk_drew ?_ | refine blk_alloc ?_ _)); refine blk_put (cs := #[.slice none 0 0, .slice none 0 0]) ?_ 0 _ rfl; (with_reducible repeat (first | refine blk_drewN ?_ _ | refine blk_drew ?_ | refine blk_alloc ?_ _)); exact BK188.out) Tryd.underlying31 rfl (by kernel_rfl)) rfl ?_
     exact ⟨_, _, by first | rfl | (simp [errW_none, errW_some] <;> rfl) | (simp [*, errW_none, errW_some] <;> rfl), by (with_reducible repeat (first | apply Kd.R_alloc | apply Kd.R_drewN | apply Kd.R_drew)); exact Kd.R_mono (Kd.R_far (p := ⟨gb188, 1, none⟩) (Kd.R_far (p := ⟨gb188, 0, none⟩) (Kd.R_types HO_199000.out BK188.out (by decide)) (fun _ hk => hk.2) (.slice Ao13 y192.length co13)) (fun _ hk => hk.2) (.slice Ao43 x199001_1.length co43)) (fun _ hk => trivial), by (with_reducible repeat (first | apply Kd.S_alloc | apply Kd.S_drewN | apply Kd.S_drew)); exact Kd.S_mono (Kd.S_far (p := ⟨gb188, 1, none⟩) (Kd.S_far (p := ⟨gb188, 0, none⟩) (Kd.S_types HO_199001.out BK188.out (by decide)) (fun _ hk => hk.2) (.slice Ao13 y192.length co13)) (fun _ hk => hk.2) (.slice Ao43 x199001_1.length co43)) (fun _ hk => trivial), by repeat (first | (with_reducible first | exact HB.out | apply below_alloc | apply pw_below_drewN | apply below_drew1 | refine below_set ?_ GE187.out | refine below_set ?_ GE188.out | refine below_set ?_ GE198.out) | exact HB.out)⟩
 ·rw [if_neg c2] at H
  exact absurd H (by simp)

end Go.Proofs.YtckpikfbhlhhjaaDoor.PFnExactFormatFacts
