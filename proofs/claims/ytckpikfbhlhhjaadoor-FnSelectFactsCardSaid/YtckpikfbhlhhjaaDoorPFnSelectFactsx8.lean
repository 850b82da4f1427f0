import Derived.Test.YtckpikfbhlhhjaaDoorPFnSelectFactsx0
import Derived.Test.YtckpikfbhlhhjaaDoorPFnSelectFactsx2
import Derived.Test.YtckpikfbhlhhjaaDoorPFnSelectFactsx3
import Derived.Test.YtckpikfbhlhhjaaDoorPFnSelectFactsx7
namespace Go.Proofs.YtckpikfbhlhhjaaDoor.PFnSelectFacts
open Go.RowKit Go.Proofs.YtckpikfbhlhhjaaDoorW.PrintWords Go.Proofs.YtckpikfbhlhhjaaDoorW.PrintLast Go.Proofs.YtckpikfbhlhhjaaDoorW.PrintMore
attribute [local go_sem] max2_int min2_int max_two min_two max_three min_three max_four min_four
set_option linter.unusedVariables false
set_option linter.unusedSimpArgs false

/-! ### spec_l4Places: function 72 -/
def spec_l4Places.l0 : Nat → List Int → Int → List Int → Int → Int → List (S68) → List (S39) → Option (List Int × Int × Int)
 | 0, _, _, _, _, _, _, _ => none
 | k + 1, x5, x6, x1000, x1001, x1002, x390000, x390001 => if x6 < (x390001.length : Int) then ((spec_l1Once.f x1000 x1001 x1002 2).bind fun bt393 => (if bt393.1 = true then (if x5.length < 17592186044416 then (spec_l4Places.l0 k (x5 ++ [x6]) (wrap64 (x6 + 1)) x1000 bt393.2.1 bt393.2.2 x390000 x390001) else (none)) else (spec_l4Places.l0 k x5 (wrap64 (x6 + 1)) x1000 bt393.2.1 bt393.2.2 x390000 x390001))) else (if (x5.length : Int) > 0 then ((spec_l1Once.f x1000 x1001 x1002 12).bind fun bt399 => (if bt399.1 = true then ((spec_l1PickInt.f x1000 bt399.2.1 bt399.2.2 (([(-1), (x390001.length : Int), 3] : List Int))).bind fun bt405 => (if 0 < (x5.length : Int) then (some ((x5.set (0 : Int).toNat bt405.1), bt405.2.1, bt405.2.2)) else (none))) else (some (x5, bt399.2.1, bt399.2.2)))) else (some (x5, x1001, x1002)))
def spec_l4Places.f (k : Nat) (s0_0 : List Int) (s0_1 : Int) (s0_2 : Int) (l1_0 : List (S68)) (l1_1 : List (S39)) : Option (List Int × Int × Int) := spec_l4Places.l0 k (([] : List Int)) 0 s0_0 s0_1 s0_2 l1_0 l1_1
set_option maxHeartbeats 8000000 in
set_option maxRecDepth 100000 in
theorem spec_l4Places.calls (k : Nat) (g : Nat) (s0_0 : List Int) (s0_1 : Int) (s0_2 : Int) (A1_0 : Option Addr) (c1_0 : Nat) (l1_0 : List (S68)) (A1_1 : Option Addr) (c1_1 : Nat) (l1_1 : List (S39)) (r1 : List Int) (r2 : Int) (r3 : Int) (w0 w : World) (hI : IsS117 w0 w g s0_0 s0_1 s0_2) (hB : Below w0.heap.size w0 w) (hr1_0 : ∀ W_, KeepBut w W_ g none → Kd.C k68 W_ A1_0 l1_0.length l1_0) (hc1_0 : l1_0.length ≤ c1_0) (hr1_1 : ∀ W_, KeepBut w W_ g none → Kd.C k39 W_ A1_1 l1_1.length l1_1) (hc1_1 : l1_1.length ≤ c1_1) (h : spec_l4Places.f k s0_0 s0_1 s0_2 l1_0 l1_1 = some (r1, r2, r3)) :
  Calls Tryd.prog 72 #[.pointer (some ⟨g, 0, none⟩), .agg #[.slice A1_0 l1_0.length c1_0, .slice A1_1 l1_1.length c1_1]] w fun e w' => ∃ v0_ : Value, e = .returned (v0_) ∧ Kd.R (Kd.int .i64) 3 w' w.heap.size (fun _ => True) v0_ r1 ∧ IsS117 w0 w' g s0_0 r2 r3 ∧ Below w0.heap.size w0 w' ∧ KeepBut w w' g none := by
 have hu31 := Tryd.underlying31
 have HR1_0 := aM hr1_0
 have HC1_0 := aM hc1_0
 clear hr1_0 hc1_0
 have HR1_1 := aM hr1_1
 have HC1_1 := aM hc1_1
 clear hr1_1 hc1_1
 have HI0 := aM hI
 have HK := aM (KeepBut.refl w g none)
 have HL := aM hB.size
 clear hI
 have HW0 := aM hB.size
 have HB := aM hB
 clear hB
 have H : (spec_l4Places.l0 k (([] : List Int)) 0 s0_0 s0_1 s0_2 l1_0 l1_1) = some (r1, r2, r3) := h
 clear h
 obtain ⟨y390, hy390⟩ : ∃ y_ : List Int, y_ = (([] : List Int)) := ⟨_, rfl⟩
 first | replace H := bY hy390 H | rw [← hy390] at H
 have Ny390 := aM hy390
 clear hy390
 have H' := aM H
 clear H
 go_enter Tryd.func72, Tryd.ntmps72
 go_wp2_with (first | ((with_reducible refine gate_dst (N := 3) rfl ?_); refine bE 3 (cs := #[.slice A1_0 l1_0.length c1_0, .slice A1_1 l1_1.length c1_1]) (t := 31) ?_; intro gb389 hg w3 hbox hb; have BK389 := aM (hbox); have GW389 := aM ((by rw [hg]; exact (kS (w := w) (g := g)) : w.heap.size ≤ gb389)); have GE389 := aM ((Nat.le_trans HW0.out (by rw [hg]; exact (kS (w := w) (g := g)) : w.heap.size ≤ gb389) : w0.heap.size ≤ gb389)); have NB0_389 := aM ((by rw [hg]; exact Nat.ne_of_lt (IsS117.lt (show IsS117 w0 _ g s0_0 s0_1 s0_2 from aZ)) : g ≠ gb389)); have NB389_0 := aM ((by rw [hg]; exact Nat.ne_of_gt (IsS117.lt (show IsS117 w0 _ g s0_0 s0_1 s0_2 from aZ)) : gb389 ≠ g)); replace HK := aM (KeepBut.trans aQ (KeepBut.of_below hb g none) (.inl rfl)); replace HB := aM (below_step aY hb); replace HI0 := aM (IsS117.below aZ hb); clear hb hbox hg) | ((with_reducible refine gate_dst (N := 7) rfl ?_); refine Kd.R_lit (Kd.int .i64) _ 3 ?hg (N := 7) ?hd (xs := ([] : List Int)) (inner := []) (ok := fun _ => True) (okp := fun _ => True) ?hr ?hp (fun _ hk => hk) trivial (Below.refl _ _) (Nat.le_refl _) (by simp) ?_; (case hd => rfl); (case hg => rfl); (case hr => first | (go_simp; done) | (go_simp; rfl)); (case hp => exact (Reps.none _ _)); intro v391 w4 ho5 hb hg_ hnew_; clear hg_ hnew_; (first | rw [← Ny390.out] at ho5 | (simp only [Int.reduceToNat] at ho5; rw [← Ny390.out] at ho5)); have HO392 := aM (Kd.R_lower ho5 (kS (w := w) (g := g))); replace BK389 := aM (kB gb389 #[.slice A1_0 l1_0.length c1_0, .slice A1_1 l1_1.length c1_1] 31 hb); replace HK := aM (KeepBut.trans aQ (KeepBut.of_below hb g none) (.inl rfl)); replace HB := aM (below_step aY hb); replace HI0 := aM (IsS117.below aZ hb); clear hb ho5))
 go_loopg [5, 6] k (fun kq v5 v6 w' => ∃ (x5_1 : List Int) (x6_1 : Int) (x1001_1 : Int) (x1002_1 : Int), v6 = .int .i64 x6_1 ∧ Aside0 (spec_l4Places.l0 kq x5_1 x6_1 s0_0 x1001_1 x1002_1 l1_0 l1_1 = some (r1, r2, r3)) ∧ Aside0 (kq ≤ k) ∧ Aside0 (Kd.R (Kd.int .i64) 3 w' w.heap.size (fun _ => True) v5 x5_1) ∧ Aside0 (w'.heap[gb389]? = some (.cells #[(.slice A1_0 l1_0.length c1_0), (.slice A1_1 l1_1.length c1_1)] 31 (0, 0))) ∧ Aside0 (IsS117 w0 w' g s0_0 x1001_1 x1002_1) ∧ Aside0 (KeepBut w w' g none) ∧ Aside0 (Below w0.heap.size w0 w'))
 case atStart => exact ⟨(y390), (0), (s0_1), (s0_2), aX, H', ⟨Nat.le_refl _⟩, ⟨aR HO392⟩, ⟨aK⟩, ⟨aZ⟩, ⟨aQ⟩, ⟨aY⟩⟩
 case round =>
  clear H'
  try clear c1
  try clear p2
  obtain ⟨x5_1, x6_1, x1001_1, x1002_1, rfl, HA, HK1, HO_5, BK389, HI0, HK, HB⟩ := hrel
  cases gk with
  | zero => exact absurd HA.out (by simp [spec_l4Places.l0])
  | succ k1 =>
   have H := HA.out
   clear HA
   simp only [spec_l4Places.l0] at H
   by_cases c6 : x6_1 < (l1_1.length : Int)
   ·rw [if_pos c6] at H
    have c6b0 : decide (x6_1 < (l1_1.length : Int)) = true := decide_eq_true c6
    clear c6
    replace H := bM H
    obtain ⟨⟨t393, t394, t395⟩, A70, H⟩ := H
    dsimp only at H
    have A7 := aM A70
    clear A70
    by_cases c8 : t393 = true
    ·subst c8
     replace H := iT H
     by_cases c9 : x5_1.length < 17592186044416
     ·rw [if_pos c9] at H
      have LMc9 := aM c9
      clear c9
      obtain ⟨y396, hy396⟩ : ∃ y_ : List Int, y_ = (x5_1 ++ [x6_1]) := ⟨_, rfl⟩
      first | replace H := bY hy396 H | rw [← hy396] at H
      have Ny396 := aM hy396
      clear hy396
      have H' := aM H
      clear H
      have hnb10 := NB389_0.out
      have hnc10 := NB0_389.out
      have hcz11_0 : wr.cell? ⟨gb389, 0, none⟩ = some (.slice A1_0 l1_0.length c1_0) := (blk_cell BK389.out 0).trans rfl
      have hcz11_1 : wr.cell? ⟨gb389, 1, none⟩ = some (.slice A1_1 l1_1.length c1_1) := (blk_cell BK389.out 1).trans rfl
      have hfz11_0 := blk_frozen BK389.out 0
      have hfz11_1 := blk_frozen BK389.out 1
      go_wp2_with (first | ((with_reducible refine gate_callee (f := 57) rfl ?_); refine goesL_ (some 16) rfl rfl Tryd.func57 (by kernel_rfl) rfl #[.pointer (some ⟨g, 0, none⟩), .int .i64 2] rfl aA ?_; (with_reducible refine (spec_l1Once.calls g s0_0 x1001_1 x1002_1 2 true t394 t395 w0 _ ?side1 ?side2 A7.out).mono ?_); (case side1 => exact aZ); (case side2 => exact aY); rintro e w12 ⟨rfl, hi, hb, hk⟩; refine ⟨_, rfl, ?_⟩; replace HO_5 := aM (Kd.R_mono (Kd.R_keep (IsS117.apart (show IsS117 w0 _ g s0_0 x1001_1 x1002_1 from aZ) (aR HO_5) (by decide)) hk (fun _ h => h.2)) (fun _ h => h.1)); replace BK389 := aM (KeepBut.blk hk (g' := gb389) (o := .cells #[.slice A1_0 l1_0.length c1_0, .slice A1_1 l1_1.length c1_1] 31 (0, 0)) aK NB389_0.out (by simp)); replace HK := aM (KeepBut.trans aQ hk (.inl rfl)); replace HB := aM (hb); replace HI0 := aM (hi); (try clear hb); (try clear hb2); (try clear hk); (try clear hi)) | ((with_reducible refine gate_builtin (b := .append) (xs := #[.tmp 17, .tmp 19]) rfl ?_); at_builtin; refine Kd.R_append (Kd.int .i64) w.heap.size rfl (.tmp 17) (.tmp 19) 37 3 (.int .i64 0) 8 rfl Tryd.underlying37 info3 rfl (by decide) (by omega) u5 x5_1 x6_1 [.int .i64 x6_1] (fun _ => True) (fun _ => False) rfl rfl ?aP (fun _ hk => hk.elim) ?aF ?aO (Below.refl _ _) ?aS ?aL ?_; (case aP => exact rfl); (case aF => exact (fun _ _ => trivial)); (case aO => exact (aR HO_5)); (case aS => exact (kS (w := w) (g := g))); (case aL => have := LMc9.out; omega); intro v397 w13 ho hb hg hat; rw [← Ny396.out] at ho; have HO398 := aM (ho); replace BK389 := aM (blk_grown (g := gb389) (o := .cells #[.slice A1_0 l1_0.length c1_0, .slice A1_1 l1_1.length c1_1] 31 (0, 0)) aK hg (Kd.R_ne HO_5.out BK389.out (by decide))); replace HB := aM (below_weaken aY HL.out hb); replace HI0 := aM (IsS117.grown aZ hg (IsS117.own_ne HI0.out HO_5.out (by decide))); replace HK := aM (KeepBut.trans aQ (KeepBut.of_grown hg g) (Kd.R_base2 HO_5.out)); clear HO_5; clear ho hb hg hat))
      go_roundg k1
      case measure => have := HK1.out; omega
      case rel => exact ⟨(y396), (wrap64 (x6_1 + 1)), (t394), (t395), aX, H', ⟨by have := HK1.out; omega⟩, ⟨aR HO398⟩, ⟨aK⟩, ⟨aZ⟩, ⟨aQ⟩, ⟨aY⟩⟩
     ·rw [if_neg c9] at H
      exact absurd H (by simp)
    ·replace c8 := Bool.eq_false_iff.mpr c8
     subst c8
     have H1 : (spec_l4Places.l0 k1 x5_1 (wrap64 (x6_1 + 1)) s0_0 t394 t395 l1_0 l1_1) = some (r1, r2, r3) := by rw [if_neg (show ¬ (false = true) by decide)] at H; exact H
     clear H
     have H := H1
     clear H1
     have H' := aM H
     clear H
     have hnb14 := NB389_0.out
     have hnc14 := NB0_389.out
     have hcz15_0 : wr.cell? ⟨gb389, 0, none⟩ = some (.slice A1_0 l1_0.length c1_0) := (blk_cell BK389.out 0).trans rfl
     have hcz15_1 : wr.cell? ⟨gb389, 1, none⟩ = some (.slice A1_1 l1_1.length c1_1) := (blk_cell BK389.out 1).trans rfl
     have hfz15_0 := blk_frozen BK389.out 0
     have hfz15_1 := blk_frozen BK389.out 1
     go_wp2_with (first | ((with_reducible refine gate_callee (f := 57) rfl ?_); refine goesL_ (some 16) rfl rfl Tryd.func57 (by kernel_rfl) rfl #[.pointer (some ⟨g, 0, none⟩), .int .i64 2] rfl aA ?_; (with_reducible refine (spec_l1Once.calls g s0_0 x1001_1 x1002_1 2 false t394 t395 w0 _ ?side1 ?side2 A7.out).mono ?_); (case side1 => exact aZ); (case side2 => exact aY); rintro e w16 ⟨rfl, hi, hb, hk⟩; refine ⟨_, rfl, ?_⟩; replace HO_5 := aM (Kd.R_mono (Kd.R_keep (IsS117.apart (show IsS117 w0 _ g s0_0 x1001_1 x1002_1 from aZ) (aR HO_5) (by decide)) hk (fun _ h => h.2)) (fun _ h => h.1)); replace BK389 := aM (KeepBut.blk hk (g' := gb389) (o := .cells #[.slice A1_0 l1_0.length c1_0, .slice A1_1 l1_1.length c1_1] 31 (0, 0)) aK NB389_0.out (by simp)); replace HK := aM (KeepBut.trans aQ hk (.inl rfl)); replace HB := aM (hb); replace HI0 := aM (hi); (try clear hb); (try clear hb2); (try clear hk); (try clear hi)))
     go_roundg k1
     case measure => have := HK1.out; omega
     case rel => exact ⟨(x5_1), (wrap64 (x6_1 + 1)), (t394), (t395), aX, H', ⟨by have := HK1.out; omega⟩, ⟨aR HO_5⟩, ⟨aK⟩, ⟨aZ⟩, ⟨aQ⟩, ⟨aY⟩⟩
   ·rw [if_neg c6] at H
    have c6b0 : decide (x6_1 < (l1_1.length : Int)) = false := decide_eq_false c6
    clear c6
    by_cases c17 : (x5_1.length : Int) > 0
    ·rw [if_pos c17] at H
     have c17b0 : decide (0 < (x5_1.length : Int)) = true := decide_eq_true c17
     have c17b1 : decide (0 < x5_1.length) = true := decide_eq_true (by omega)
     clear c17
     replace H := bM H
     obtain ⟨⟨t399, t400, t401⟩, A180, H⟩ := H
     dsimp only at H
     have A18 := aM A180
     clear A180
     by_cases c19 : t399 = true
     ·subst c19
      replace H := iT H
      obtain ⟨y402, hy402⟩ : ∃ y_ : List Int, y_ = (([(-1), (l1_1.length : Int), 3] : List Int)) := ⟨_, rfl⟩
      first | replace H := bY hy402 H | rw [← hy402] at H
      have Ny402 := aM hy402
      clear hy402
      replace H := bM H
      obtain ⟨⟨t405, t406, t407⟩, A200, H⟩ := H
      dsimp only at H
      have A20 := aM A200
      clear A200
      by_cases c21 : 0 < (x5_1.length : Int)
      ·rw [if_pos c21] at H
       have c21b0 : decide (0 < (x5_1.length : Int)) = true := decide_eq_true c21
       have c21b1 : decide (0 < x5_1.length) = true := decide_eq_true (by omega)
       clear c21
       obtain ⟨y408, hy408⟩ : ∃ y_ : List Int, y_ = (x5_1.set (0 : Int).toNat t405) := ⟨_, rfl⟩
       first | replace H := bY hy408 H | rw [← hy408] at H
       have Ny408 := aM hy408
       clear hy408
       simp only [Option.some.injEq, Prod.mk.injEq] at H
       obtain ⟨rfl, rfl, rfl⟩ := H
       have hnb23 := NB389_0.out
       have hnc23 := NB0_389.out
       have hcz24_0 : wr.cell? ⟨gb389, 0, none⟩ = some (.slice A1_0 l1_0.length c1_0) := (blk_cell BK389.out 0).trans rfl
       have hcz24_1 : wr.cell? ⟨gb389, 1, none⟩ = some (.slice A1_1 l1_1.length c1_1) := (blk_cell BK389.out 1).trans rfl
       have hfz24_0 := blk_frozen BK389.out 0
       have hfz24_1 := blk_frozen BK389.out 1
       obtain ⟨Ao25, co25, eo25⟩ := Kd.R_slice HO_5.out
       subst eo25
       go_wp2_with (first | (go_at_call 57; (with_reducible refine (spec_l1Once.calls g s0_0 x1001_1 x1002_1 12 true t400 t401 w0 _ ?side1 ?side2 A18.out).mono ?_); (case side1 => exact aZ); (case side2 => exact aY); rintro e w26 ⟨rfl, hi, hb, hk⟩; replace HO_5 := aM (Kd.R_mono (Kd.R_keep (IsS117.apart (show IsS117 w0 _ g s0_0 x1001_1 x1002_1 from aZ) (aR HO_5) (by decide)) hk (fun _ h => h.2)) (fun _ h => h.1)); replace BK389 := aM (KeepBut.blk hk (g' := gb389) (o := .cells #[.slice A1_0 l1_0.length c1_0, .slice A1_1 l1_1.length c1_1] 31 (0, 0)) aK NB389_0.out (by simp)); replace HK := aM (KeepBut.trans aQ hk (.inl rfl)); replace HB := aM (hb); replace HI0 := aM (hi); (try clear hb); (try clear hb2); (try clear hk); (try clear hi); have hcz27_0 : w26.cell? ⟨gb389, 0, none⟩ = some (.slice A1_0 l1_0.length c1_0) := (blk_cell BK389.out 0).trans rfl; have hcz27_1 : w26.cell? ⟨gb389, 1, none⟩ = some (.slice A1_1 l1_1.length c1_1) := (blk_cell BK389.out 1).trans rfl; have hfz27_0 := blk_frozen BK389.out 0; have hfz27_1 := blk_frozen BK389.out 1) | ((with_reducible refine gate_dst (N := 33) rfl ?_); refine Kd.R_lit (Kd.int .i64) _ 3 ?hg (N := 33) ?hd (xs := ([(-1), (l1_1.length : Int), 3] : List Int)) (inner := [.int .i64 (-1), .int .i64 (l1_1.length : Int), .int .i64 3]) (ok := fun _ => True) (okp := fun _ => True) ?hr ?hp (fun _ hk => hk) trivial (Below.refl _ _) (Nat.le_refl _) (by simp) ?_; (case hd => rfl); (case hg => rfl); (case hr => first | (go_simp; done) | (go_simp; rfl) | (obtain ⟨A_, c_, e_⟩ := Kd.R_slice HO_5.out; subst e_; first | (go_simp; done) | (go_simp; rfl)) | (obtain ⟨A_, c_, e_⟩ := Kd.R_slice HO404.out; subst e_; first | (go_simp; done) | (go_simp; rfl))); (case hp => exact (Reps.one (show Kd.M (Kd.int .i64) _ _ _ (-1) [.int .i64 (-1)] from rfl) (Reps.one (show Kd.M (Kd.int .i64) _ _ _ (l1_1.length : Int) [.int .i64 (l1_1.length : Int)] from rfl) (Reps.one (show Kd.M (Kd.int .i64) _ _ _ 3 [.int .i64 3] from rfl) (Reps.none _ _))))); intro v403 w28 ho29 hb hg_ hnew_; clear hg_ hnew_; (first | rw [← Ny402.out] at ho29 | (simp only [Int.reduceToNat] at ho29; rw [← Ny402.out] at ho29)); have HO404 := aM (Kd.R_lower (Kd.R_new' ho29 (Kd.R_lt (aR HO_5))) (kS (w := w) (g := g))); replace HO_5 := aM (Kd.R_elder' (aR HO_5) (Kd.R_base ho29) hb); replace BK389 := aM (kB gb389 #[.slice A1_0 l1_0.length c1_0, .slice A1_1 l1_1.length c1_1] 31 hb); replace HK := aM (KeepBut.trans aQ (KeepBut.of_below hb g none) (.inl rfl)); replace HB := aM (below_step aY hb); replace HI0 := aM (IsS117.below aZ hb); clear hb ho29; obtain ⟨Ao30, co30, eo30⟩ := Kd.R_slice HO404.out; subst eo30) | ((with_reducible refine gate_callee (f := 93) rfl ?_); refine goesL_ (some 34) rfl rfl Tryd.func93 (by kernel_rfl) rfl #[.pointer (some ⟨g, 0, none⟩), .slice Ao30 y402.length co30] rfl aA ?_; (with_reducible refine (spec_l1PickInt.calls g s0_0 t400 t401 _ _ y402 t405 t406 t407 w0 _ ?side1 ?side2 ?side3 ?side4 ?side5 A20.out).mono ?_); (case side1 => exact aZ); (case side2 => exact aY); (case side3 => repeat (first | exact (Kd.R_reads' HO404.out).2.2 | (with_reducible refine pC ?_))); (case side4 => exact (Kd.R_reads' HO404.out).2.1); (case side5 => exact far_slice (IsS117.own_ne HI0.out HO404.out (by decide))); rintro e w31 ⟨rfl, hi, hb, hk⟩; refine ⟨_, rfl, ?_⟩; replace HO_5 := aM (Kd.R_mono (Kd.R_keep (IsS117.apart (show IsS117 w0 _ g s0_0 t400 t401 from aZ) (aR HO_5) (by decide)) hk (fun _ h => h.2)) (fun _ h => h.1)); replace BK389 := aM (KeepBut.blk hk (g' := gb389) (o := .cells #[.slice A1_0 l1_0.length c1_0, .slice A1_1 l1_1.length c1_1] 31 (0, 0)) aK NB389_0.out (by simp)); replace HO404 := aM (Kd.R_mono (Kd.R_keep (IsS117.apart (show IsS117 w0 _ g s0_0 t400 t401 from aZ) (aR HO404) (by decide)) hk (fun _ h => h.2)) (fun _ h => h.1)); replace HK := aM (KeepBut.trans aQ hk (.inl rfl)); replace HB := aM (hb); replace HI0 := aM (hi); (try clear hb); (try clear hb2); (try clear hk); (try clear hi); have p22 : 0 ≤ (0 : Int) := (by omega); have q22 : (0 : Int) < ((x5_1.length : Int) : Int) := aD; have qi22 : (0 < x5_1.length) = True := eq_true (by omega); obtain ⟨go22, co22, eo22, gb22, gl22, cl22, HG22⟩ := Kd.R_form HO_5.out (by omega); (first | cases eo22 | (injection eo22 with ea_ en_ ec_; (first | subst ea_ | (injection ea_ with ea_; subst ea_)); subst ec_; clear en_)); have GB22 := aM gb22; have GG22 := aM HG22; clear gb22 gl22 HG22; obtain ⟨hx22_0, hf22_0⟩ := Kd.R_celln 0 HO_5.out (0 : Int) p22 q22; (try rw [show ((0 : Int)).toNat = 0 from rfl] at hx22_0); (try simp only [Nat.reduceMul, Nat.zero_mul, Nat.zero_add, Nat.reduceAdd] at hx22_0); (try rw [show ((0 : Int)).toNat = 0 from rfl] at hf22_0); (try simp only [Nat.reduceMul, Nat.zero_mul, Nat.zero_add, Nat.reduceAdd] at hf22_0); replace p22 := eq_true p22; replace q22 := eq_true q22; have n_ := aM (Kd.R_mono (ok' := (fun k_ => some k_ ≠ (.slice Ao30 y402.length co30 : Value).ownBlock)) HO_5.out (fun k_ hk => hk.2)); clear HO_5; have HO_5 := n_; clear n_; obtain ⟨hy32_, hz32_⟩ := Kd.R_celln 0 HO_5.out (0 : Int) (by omega) (aD); (try simp only [Int.reduceToNat, Int.toNat_zero, Int.toNat_ofNat, Nat.reduceMul, Nat.zero_mul, Nat.zero_add] at hy32_ hz32_); (try rw [show ((0 : Int)).toNat = 0 from rfl] at hy32_); (try rw [show ((0 : Int)).toNat = 0 from rfl] at hz32_); have HP32 := Kd.R_putg HO_5.out (0 : Int) t405) | ((with_reducible refine gate_store (t := 3) (p := 35) rfl ?_); refine store_event (t := 3) (p := 35) (v := ?vo_w33) (w1 := (w31.setCell ⟨go22, (0 : Int).toNat, none⟩ (.int .i64 t405))) ?hg ?ho ?hn ?hr ?_; (case ho => rfl); (case hg => rfl); (case hn => rfl); (case hr => first | (go_simp; done) | (go_simp; rfl) | (obtain ⟨A_, c_, e_⟩ := Kd.R_slice HO_5.out; subst e_; first | (go_simp; done) | (go_simp; rfl)) | (obtain ⟨A_, c_, e_⟩ := Kd.R_slice HO404.out; subst e_; first | (go_simp; done) | (go_simp; rfl))); intro w33 hw; have hg : w31.grownBy w33 (some go22) := (by rw [hw]; exact HP32.2); have hp_ : Kd.R (Kd.int .i64) 3 w33 w.heap.size (fun k_ => some k_ ≠ (.slice Ao30 y402.length co30 : Value).ownBlock) (.slice (some ⟨go22, 0, none⟩) x5_1.length co25) y408 := (by rw [hw, Ny408.out]; exact HP32.1); clear HP32; replace BK389 := aM (blk_grown (g := gb389) (o := .cells #[.slice A1_0 l1_0.length c1_0, .slice A1_1 l1_1.length c1_1] 31 (0, 0)) aK hg (Kd.R_ne HO_5.out BK389.out (by decide))); replace HI0 := aM (IsS117.grown aZ hg (IsS117.own_ne HI0.out HO_5.out (by decide))); replace HO404 := aM (Kd.R_after (v := (.slice (some ⟨go22, 0, none⟩) x5_1.length co25)) (v1 := (.slice (some ⟨go22, 0, none⟩) x5_1.length co25)) (ok := (fun _ => True)) (aR HO404) hg (.inl rfl)); replace HB := aM ((by rw [hw]; exact below_set (HB.out) (Nat.le_trans HL.out GB22.out) : Below w0.heap.size w0 w33)); replace HK := aM (KeepBut.trans aQ (KeepBut.of_grown hg g) (Kd.R_base2 HO_5.out)); replace HO_5 := aM (hp_); clear hg hw hp_))
       go_ret
       exact ⟨_, aE, by (with_reducible repeat apply pR); exact Kd.R_mono HO_5.out (fun _ hk => trivial), aZ, aY, aQ⟩
      ·rw [if_neg c21] at H
       exact absurd H (by simp)
     ·replace c19 := Bool.eq_false_iff.mpr c19
      subst c19
      have H1 : (some (x5_1, t400, t401)) = some (r1, r2, r3) := by rw [if_neg (show ¬ (false = true) by decide)] at H; exact H
      clear H
      have H := H1
      clear H1
      simp only [Option.some.injEq, Prod.mk.injEq] at H
      obtain ⟨rfl, rfl, rfl⟩ := H
      have hnb34 := NB389_0.out
      have hnc34 := NB0_389.out
      have hcz35_0 : wr.cell? ⟨gb389, 0, none⟩ = some (.slice A1_0 l1_0.length c1_0) := (blk_cell BK389.out 0).trans rfl
      have hcz35_1 : wr.cell? ⟨gb389, 1, none⟩ = some (.slice A1_1 l1_1.length c1_1) := (blk_cell BK389.out 1).trans rfl
      have hfz35_0 := blk_frozen BK389.out 0
      have hfz35_1 := blk_frozen BK389.out 1
      obtain ⟨Ao36, co36, eo36⟩ := Kd.R_slice HO_5.out
      subst eo36
      go_wp2_with (first | (go_at_call 57; (with_reducible refine (spec_l1Once.calls g s0_0 x1001_1 x1002_1 12 false t400 t401 w0 _ ?side1 ?side2 A18.out).mono ?_); (case side1 => exact aZ); (case side2 => exact aY); rintro e w37 ⟨rfl, hi, hb, hk⟩; replace HO_5 := aM (Kd.R_mono (Kd.R_keep (IsS117.apart (show IsS117 w0 _ g s0_0 x1001_1 x1002_1 from aZ) (aR HO_5) (by decide)) hk (fun _ h => h.2)) (fun _ h => h.1)); replace BK389 := aM (KeepBut.blk hk (g' := gb389) (o := .cells #[.slice A1_0 l1_0.length c1_0, .slice A1_1 l1_1.length c1_1] 31 (0, 0)) aK NB389_0.out (by simp)); replace HK := aM (KeepBut.trans aQ hk (.inl rfl)); replace HB := aM (hb); replace HI0 := aM (hi); (try clear hb); (try clear hb2); (try clear hk); (try clear hi)))
      go_ret
      exact ⟨_, aE, aR HO_5, aZ, aY, aQ⟩
    ·rw [if_neg c17] at H
     have c17b0 : decide (0 < (x5_1.length : Int)) = false := decide_eq_false c17
     have c17b1 : decide (0 < x5_1.length) = false := decide_eq_false (by omega)
     clear c17
     simp only [Option.some.injEq, Prod.mk.injEq] at H
     obtain ⟨rfl, rfl, rfl⟩ := H
     have hnb38 := NB389_0.out
     have hnc38 := NB0_389.out
     have hcz39_0 : wr.cell? ⟨gb389, 0, none⟩ = some (.slice A1_0 l1_0.length c1_0) := (blk_cell BK389.out 0).trans rfl
     have hcz39_1 : wr.cell? ⟨gb389, 1, none⟩ = some (.slice A1_1 l1_1.length c1_1) := (blk_cell BK389.out 1).trans rfl
     have hfz39_0 := blk_frozen BK389.out 0
     have hfz39_1 := blk_frozen BK389.out 1
     obtain ⟨Ao40, co40, eo40⟩ := Kd.R_slice HO_5.out
     subst eo40
     go_wp2
     go_ret
     exact ⟨_, aE, aR HO_5, aZ, aY, aQ⟩

/-! ### spec_DrawSelectFacts: function 27 -/
def spec_DrawSelectFacts.f (k : Nat) (l0 : List Int) : Option ((List (S68)) × (List (S39)) × List Int) := (spec_l1New.f k l0).bind fun bt410 => ((spec_l4Any.f k bt410.1 bt410.2.1 bt410.2.2).bind fun bt414 => ((spec_l4Places.f k bt410.1 bt414.2.2.1 bt414.2.2.2 bt414.1 bt414.2.1).bind fun bt423 => (some (bt414.1, bt414.2.1, bt423.1))))
set_option maxHeartbeats 8000000 in
set_option maxRecDepth 100000 in
theorem spec_DrawSelectFacts.calls (k : Nat) (A0 : Option Addr) (c0 : Nat) (l0 : List Int) (r1 : List (S68)) (r2 : List (S39)) (r3 : List Int) (w : World) (hr0 : Kd.C (Kd.int .u8) w A0 l0.length l0) (hc0 : l0.length ≤ c0) (h : spec_DrawSelectFacts.f k l0 = some (r1, r2, r3)) :
  Calls Tryd.prog 27 #[.slice A0 l0.length c0] w fun e w' => ∃ v0_ v1_ v2_ : Value, e = .returned (.tuple #[.agg #[v0_, v1_], v2_]) ∧ Kd.R k68 68 w' w.heap.size (fun k_ => (w.heap.size ≤ k_)) v0_ r1 ∧ Kd.N k39 39 w' w.heap.size (fun k_ => (w.heap.size ≤ k_) ∧ some k_ ≠ (v0_ : Value).ownBlock ∧ some k_ ≠ (v2_ : Value).ownBlock) v1_ r2 ∧ Kd.R (Kd.int .i64) 3 w' w.heap.size (fun k_ => (w.heap.size ≤ k_)) v2_ r3 ∧ Below w.heap.size w w' := by
 have hu31 := Tryd.underlying31
 have HR0 := aM hr0
 have HC0 := aM hc0
 clear hr0 hc0
 have HB := aM (Below.refl w.heap.size w)
 have H : ((spec_l1New.f k l0).bind fun bt410 => ((spec_l4Any.f k bt410.1 bt410.2.1 bt410.2.2).bind fun bt414 => ((spec_l4Places.f k bt410.1 bt414.2.2.1 bt414.2.2.2 bt414.1 bt414.2.1).bind fun bt423 => (some (bt414.1, bt414.2.1, bt423.1))))) = some (r1, r2, r3) := h
 clear h
 replace H := bM H
 obtain ⟨⟨t410, t411, t412⟩, A20, H⟩ := H
 dsimp only at H
 have A2 := aM A20
 clear A20
 replace H := bM H
 obtain ⟨⟨t414, t417, t420, t421⟩, A30, H⟩ := H
 dsimp only at H
 have A3 := aM A30
 clear A30
 replace H := bM H
 obtain ⟨⟨t423, t426, t427⟩, A40, H⟩ := H
 dsimp only at H
 have A4 := aM A40
 clear A40
 simp only [Option.some.injEq, Prod.mk.injEq] at H
 obtain ⟨rfl, rfl, rfl⟩ := H
 go_enter Tryd.func27, Tryd.ntmps27
 try go_wp2_with (first | ((with_reducible refine gate_dst (N := 2) rfl ?_); refine bE 2 (cs := #[.slice none 0 0, .slice none 0 0]) (t := 31) ?_; intro gb409 hg w5 hbox hb; have BK409 := aM (hbox); have GW409 := aM ((by rw [hg]; exact (below_size aB) : w.heap.size ≤ gb409)); have GE409 := aM ((by rw [hg]; exact (below_size aB) : w.heap.size ≤ gb409)); replace HB := aM (below_step aB hb); clear hb hbox hg) | ((with_reducible refine gate_callee (f := 53) rfl ?_); refine goesL_ (some 7) rfl rfl Tryd.func53 (by kernel_rfl) rfl #[.slice A0 l0.length c0] rfl aA ?_; (with_reducible refine (spec_l1New.calls k _ _ l0 t410 t411 t412 w _ ?side1 ?side2 ?side3 A2.out).mono ?_); (case side1 => exact aG); (case side2 => exact HR0.out); (case side3 => exact HC0.out); rintro e w6 ⟨g413, rfl, hi, hb, hb2⟩; refine ⟨_, rfl, ?_⟩; have HI413 := aM (hi); have NB413_409 := aM (IsS117.ne_blk hi (blk_below (g := gb409) (o := .cells #[.slice none 0 0, .slice none 0 0] 31 (0, 0)) aK hb2) (by decide)); have NB409_413 := aM (Ne.symm (IsS117.ne_blk hi (blk_below (g := gb409) (o := .cells #[.slice none 0 0, .slice none 0 0] 31 (0, 0)) aK hb2) (by decide))); replace BK409 := aM (blk_below (g := gb409) (o := .cells #[.slice none 0 0, .slice none 0 0] 31 (0, 0)) aK hb2); replace HB := aM (hb); (try clear hb); (try clear hb2); (try clear hk); (try clear hi)) | ((with_reducible refine gate_callee (f := 71) rfl ?_); refine goesL_ (some 9) rfl rfl Tryd.func71 (by kernel_rfl) rfl #[.pointer (some ⟨g413, 0, none⟩)] rfl aA ?_; (with_reducible refine (spec_l4Any.calls k g413 t410 t411 t412 t414 t417 t420 t421 w _ ?side1 ?side2 A3.out).mono ?_); (case side1 => repeat (first | (with_reducible first | exact HI413.out | apply IsS117.alloc | apply IsS117.drewN | apply IsS117.drew | apply IsS117.set_1 | apply IsS117.set_2 | refine IsS117.far ?_ NB413_409.out _) | exact HI413.out)); (case side2 => repeat (first | (with_reducible first | exact HB.out | apply below_alloc | apply pw_below_drewN | apply below_drew1 | refine below_set ?_ (IsS117.ge HI413.out) | refine below_set ?_ GE409.out) | exact HB.out)); rintro e w7 ⟨v415, v418, rfl, ho0, ho1, hi, hb, hk⟩; refine ⟨_, rfl, ?_⟩; have HO416 := aM (Kd.R_lower (Kd.R_newM (M := fun k_ => (w.heap.size ≤ k_)) (Kd.R_mono (ok' := fun k_ => True) ho0 (fun _ hk_ => trivial)) (below_size (by repeat (first | (with_reducible first | exact HB.out | apply below_alloc | apply pw_below_drewN | apply below_drew1 | refine below_set ?_ (IsS117.ge HI413.out) | refine below_set ?_ GE409.out) | exact HB.out))) (fun k_ h_ => h_)) (below_size (by repeat (first | (with_reducible first | exact HB.out | apply below_alloc | apply pw_below_drewN | apply below_drew1 | refine below_set ?_ (IsS117.ge HI413.out) | refine below_set ?_ GE409.out) | exact HB.out)))); have HO419 := aM (Kd.N_lower (Kd.N_mono (ok' := fun k_ => (w.heap.size ≤ k_) ∧ some k_ ≠ (v415 : Value).ownBlock ∧ k_ ≠ gb409 ∧ k_ ≠ g413) ho1 (fun k_ hk_ => ⟨(Nat.le_trans (below_size (by repeat (first | (with_reducible first | exact HB.out | apply below_alloc | apply pw_below_drewN | apply below_drew1 | refine below_set ?_ (IsS117.ge HI413.out) | refine below_set ?_ GE409.out) | exact HB.out))) hk_.1), hk_.2, (Kd.freshB (g := gb409) (o := .cells #[.slice none 0 0, .slice none 0 0] 31 (0, 0)) aK k_ hk_.1), (IsS117.fresh (by repeat (first | (with_reducible first | exact HI413.out | apply IsS117.alloc | apply IsS117.drewN | apply IsS117.drew | apply IsS117.set_1 | apply IsS117.set_2 | refine IsS117.far ?_ NB413_409.out _) | exact HI413.out)) k_ hk_.1)⟩)) (below_size (by repeat (first | (with_reducible first | exact HB.out | apply below_alloc | apply pw_below_drewN | apply below_drew1 | refine below_set ?_ (IsS117.ge HI413.out) | refine below_set ?_ GE409.out) | exact HB.out)))); replace BK409 := aM (KeepBut.blk hk (g' := gb409) (o := .cells #[.slice none 0 0, .slice none 0 0] 31 (0, 0)) aK NB409_413.out (by simp)); replace HB := aM (hb); replace HI413 := aM (hi); (try clear hb); (try clear hb2); (try clear hk); (try clear hi); (try clear ho0); (try clear ho1)) | ((with_reducible refine gate_dst (N := 5) rfl ?_); refine bE 5 (cs := #[.slice none 0 0, .slice none 0 0]) (t := 31) ?_; intro gb422 hg w8 hbox hb; have BK422 := aM (hbox); have GW422 := aM ((by rw [hg]; exact (below_size (by repeat (first | (with_reducible first | exact HB.out | apply below_alloc | apply pw_below_drewN | apply below_drew1 | refine below_set ?_ (IsS117.ge HI413.out) | refine below_set ?_ GE409.out) | exact HB.out))) : w.heap.size ≤ gb422)); have GE422 := aM ((by rw [hg]; exact (below_size (by repeat (first | (with_reducible first | exact HB.out | apply below_alloc | apply pw_below_drewN | apply below_drew1 | refine below_set ?_ (IsS117.ge HI413.out) | refine below_set ?_ GE409.out) | exact HB.out))) : w.heap.size ≤ gb422)); have NB409_422 := aM ((by rw [hg]; exact Nat.ne_of_lt (blk_lt (g := gb409) (o := .cells #[.slice none 0 0, .slice none 0 0] 31 (0, 0)) aK) : gb409 ≠ gb422)); have NB422_409 := aM ((by rw [hg]; exact Nat.ne_of_gt (blk_lt (g := gb409) (o := .cells #[.slice none 0 0, .slice none 0 0] 31 (0, 0)) aK) : gb422 ≠ gb409)); have NB413_422 := aM ((by rw [hg]; exact Nat.ne_of_lt (IsS117.lt (show IsS117 w _ g413 t410 t420 t421 from by repeat (first | (with_reducible first | exact HI413.out | apply IsS117.alloc | apply IsS117.drewN | apply IsS117.drew | apply IsS117.set_1 | apply IsS117.set_2 | refine IsS117.far ?_ NB413_409.out _) | exact HI413.out))) : g413 ≠ gb422)); have NB422_413 := aM ((by rw [hg]; exact Nat.ne_of_gt (IsS117.lt (show IsS117 w _ g413 t410 t420 t421 from by repeat (first | (with_reducible first | exact HI413.out | apply IsS117.alloc | apply IsS117.drewN | apply IsS117.drew | apply IsS117.set_1 | apply IsS117.set_2 | refine IsS117.far ?_ NB413_409.out _) | exact HI413.out))) : gb422 ≠ g413)); replace HO416 := aM (Kd.R_below (aR HO416) hb); replace HO419 := aM (Kd.N_below (Kd.N_elderB (aN HO419) gb422 (Nat.le_of_eq hg.symm)) hb); replace BK409 := aM (kB gb409 #[.slice none 0 0, .slice none 0 0] 31 hb); replace HB := aM (below_step (by repeat (first | (with_reducible first | exact HB.out | apply below_alloc | apply pw_below_drewN | apply below_drew1 | refine below_set ?_ (IsS117.ge HI413.out) | refine below_set ?_ GE409.out) | exact HB.out)) hb); replace HI413 := aM (IsS117.below (by repeat (first | (with_reducible first | exact HI413.out | apply IsS117.alloc | apply IsS117.drewN | apply IsS117.drew | apply IsS117.set_1 | apply IsS117.set_2 | refine IsS117.far ?_ NB413_409.out _) | exact HI413.out)) hb); clear hb hbox hg; obtain ⟨Ao9, co9, eo9⟩ := Kd.R_slice HO416.out; subst eo9; have hnb10 := NB422_409.out; have hnc10 := NB409_422.out; have hnb11 := NB422_413.out; have hnc11 := NB413_422.out; have hcz12_0 : w8.cell? ⟨gb422, 0, none⟩ = some (.slice none 0 0) := (blk_cell BK422.out 0).trans rfl; have hcz12_1 : w8.cell? ⟨gb422, 1, none⟩ = some (.slice none 0 0) := (blk_cell BK422.out 1).trans rfl; have hfz12_0 := blk_frozen BK422.out 0; have hfz12_1 := blk_frozen BK422.out 1; obtain ⟨Ao13, co13, eo13⟩ := Kd.N_slice HO419.out; subst eo13))
 have n0_ : Aside0 (Kd.R k68 68 ((w8.setCell ⟨gb422, 0, none⟩ (.slice Ao9 t414.length co9)).setCell ⟨gb422, 1, none⟩ (.slice Ao13 t417.length co13)) w.heap.size (fun k_ => (w.heap.size ≤ k_)) (.slice Ao9 t414.length co9) t414) := ⟨by (with_reducible repeat apply pR); exact Kd.R_mono (Kd.R_far (p := ⟨gb422, 1, none⟩) (Kd.R_far (p := ⟨gb422, 0, none⟩) (Kd.R_types HO416.out BK422.out (by decide)) (fun _ hk => hk.2) (.slice Ao9 t414.length co9)) (fun _ hk => hk.2) (.slice Ao13 t417.length co13)) (fun _ hk => hk.1.1)⟩
 have n1_ : Aside0 (Kd.N k39 39 ((w8.setCell ⟨gb422, 0, none⟩ (.slice Ao9 t414.length co9)).setCell ⟨gb422, 1, none⟩ (.slice Ao13 t417.length co13)) w.heap.size (fun k_ => (w.heap.size ≤ k_) ∧ some k_ ≠ (.slice Ao9 t414.length co9 : Value).ownBlock ∧ k_ ≠ gb409 ∧ k_ ≠ g413 ∧ k_ ≠ gb422) (.slice Ao13 t417.length co13) t417) := ⟨by (with_reducible repeat apply pN); exact Kd.N_mono (Kd.N_far (p := ⟨gb422, 1, none⟩) (Kd.N_far (p := ⟨gb422, 0, none⟩) (Kd.N_mono HO419.out (fun k_ hk => (⟨hk, hk.2⟩ : _ ∧ k_ ≠ gb422))) (fun _ hk => hk.2) (.slice Ao9 t414.length co9)) (fun _ hk => hk.2) (.slice Ao13 t417.length co13)) (fun _ hk => ⟨hk.1.1.1, ⟨hk.1.1.2.1, ⟨hk.1.1.2.2.1, ⟨hk.1.1.2.2.2, hk.1.2⟩⟩⟩⟩)⟩
 have n2_ : Aside0 (((w8.setCell ⟨gb422, 0, none⟩ (.slice Ao9 t414.length co9)).setCell ⟨gb422, 1, none⟩ (.slice Ao13 t417.length co13)).heap[gb409]? = some (.cells #[.slice none 0 0, .slice none 0 0] 31 (0, 0))) := ⟨by (with_reducible repeat refine pB ?_); refine blk_far ?_ NB409_422.out _; (with_reducible repeat refine pB ?_); refine blk_far ?_ NB409_422.out _; (with_reducible repeat refine pB ?_); exact BK409.out⟩
 have n3_ : Aside0 (((w8.setCell ⟨gb422, 0, none⟩ (.slice Ao9 t414.length co9)).setCell ⟨gb422, 1, none⟩ (.slice Ao13 t417.length co13)).heap[gb422]? = some (.cells #[.slice Ao9 t414.length co9, .slice Ao13 t417.length co13] 31 (0, 0))) := ⟨by (with_reducible repeat refine pB ?_); refine blk_put (cs := #[.slice Ao9 t414.length co9, .slice none 0 0]) ?_ 1 _ rfl; (with_reducible repeat refine pB ?_); refine blk_put (cs := #[.slice none 0 0, .slice none 0 0]) ?_ 0 _ rfl; (with_reducible repeat refine pB ?_); exact BK422.out⟩
 have n4_ : Aside0 (IsS117 w ((w8.setCell ⟨gb422, 0, none⟩ (.slice Ao9 t414.length co9)).setCell ⟨gb422, 1, none⟩ (.slice Ao13 t417.length co13)) g413 t410 t420 t421) := ⟨by repeat (first | (with_reducible first | exact HI413.out | apply IsS117.alloc | apply IsS117.drewN | apply IsS117.drew | apply IsS117.set_1 | apply IsS117.set_2 | refine IsS117.far ?_ NB413_409.out _ | refine IsS117.far ?_ NB413_422.out _) | exact HI413.out)⟩
 have n5_ : Aside0 (Below w.heap.size w ((w8.setCell ⟨gb422, 0, none⟩ (.slice Ao9 t414.length co9)).setCell ⟨gb422, 1, none⟩ (.slice Ao13 t417.length co13))) := ⟨by repeat (first | (with_reducible first | exact HB.out | apply below_alloc | apply pw_below_drewN | apply below_drew1 | refine below_set ?_ (IsS117.ge HI413.out) | refine below_set ?_ GE409.out | refine below_set ?_ GE422.out) | exact HB.out)⟩
 (try clear HO416)
 (try clear HO419)
 (try clear BK409)
 (try clear BK422)
 (try clear HI413)
 (try clear HB)
 generalize ((w8.setCell ⟨gb422, 0, none⟩ (.slice Ao9 t414.length co9)).setCell ⟨gb422, 1, none⟩ (.slice Ao13 t417.length co13)) = w14 at n0_ n1_ n2_ n3_ n4_ n5_ ⊢
 have HO416 := n0_
 have HO419 := n1_
 have BK409 := n2_
 have BK422 := n3_
 have HI413 := n4_
 have HB := n5_
 clear n0_ n1_ n2_ n3_ n4_ n5_
 replace HO416 := aM (Kd.R_drew HO416.out)
 replace HO419 := aM (Kd.N_drew HO419.out)
 replace BK409 := aM (blk_drew BK409.out)
 replace BK422 := aM (blk_drew BK422.out)
 replace HI413 := aM (IsS117.drew HI413.out)
 replace HB := aM (below_drew1 HB.out)
 refine start_ (n := 6) (S := fun w' => w'.cell? ⟨gb422, 0, none⟩ = some (.slice Ao9 t414.length co9) ∧ w'.cell? ⟨gb422, 1, none⟩ = some (.slice Ao13 t417.length co13)) (ds := []) #[false, false, false, false, false, false] (by kernel_rfl) rfl rfl ⟨(blk_cell BK422.out 0).trans rfl, (blk_cell BK422.out 1).trans rfl⟩ (fun hHeld => ?_)
 generalize w14.drew = w15 at HO416 HO419 BK409 BK422 HI413 HB hHeld ⊢
 refine pure_ (i := 1) (N := some 11) (v := ?_) (a' := ?_) #[false, true, false, false, false, false] rfl rfl (by kernel_rfl) (fun _ _ _ h => h) (Or.inl ⟨by rfl, ?_⟩) ?_ ?_
 rotate_left
 ·exact aI
 rotate_left
 ·exact aP
 refine take_ (i := 0) (N := some 10) (v := ?_) (a' := ?_) #[true, true, false, false, false, false] rfl rfl (by kernel_rfl) (fun _ _ _ h => h) (Or.inl ⟨by rfl, ?_⟩) hHeld ?_ ?_
 rotate_left
 ·rintro w' ⟨s0, s1⟩
  go_simp
  with_reducible rfl
 rotate_left
 ·exact aP
 refine take_ (i := 2) (N := some 12) (v := ?_) (a' := ?_) #[true, true, true, false, false, false] rfl rfl (by kernel_rfl) (fun _ _ _ h => h) (Or.inl ⟨by rfl, ?_⟩) hHeld ?_ ?_
 rotate_left
 ·rintro w' ⟨s0, s1⟩
  go_simp
  with_reducible rfl
 rotate_left
 ·exact aP
 refine one_ (i := 3) (N := some 13) #[true, true, true, true, false, false] rfl rfl (by kernel_rfl) (by decide) (fun K hK => ?_)
 refine goes_ Tryd.func72 (by kernel_rfl) rfl #[.pointer (some ⟨g413, 0, none⟩), .agg #[.slice Ao9 t414.length co9, .slice Ao13 t417.length co13]] (by rfl) rfl rfl aA ?_
 with_reducible refine (spec_l4Places.calls k g413 t410 t420 t421 _ _ t414 _ _ t417 t423 t426 t427 w _ ?side1 ?side2 ?side3 ?side4 ?side5 ?side6 A4.out).mono ?_
 (case side1 => repeat (first | (with_reducible first | exact HI413.out | apply IsS117.alloc | apply IsS117.drewN | apply IsS117.drew | apply IsS117.set_1 | apply IsS117.set_2 | refine IsS117.far ?_ NB413_409.out _ | refine IsS117.far ?_ NB413_422.out _) | exact HI413.out))
 (case side2 => repeat (first | (with_reducible first | exact HB.out | apply below_alloc | apply pw_below_drewN | apply below_drew1 | refine below_set ?_ (IsS117.ge HI413.out) | refine below_set ?_ GE409.out | refine below_set ?_ GE422.out) | exact HB.out))
 (case side3 => exact Kd.C_foot_own (IsS117.apart (show IsS117 w _ g413 t410 t420 t421 from by repeat (first | (with_reducible first | exact HI413.out | apply IsS117.alloc | apply IsS117.drewN | apply IsS117.drew | apply IsS117.set_1 | apply IsS117.set_2 | refine IsS117.far ?_ NB413_409.out _ | refine IsS117.far ?_ NB413_422.out _) | exact HI413.out)) (aR HO416) (by decide)) (fun _ h_ => h_.2))
 (case side4 => exact (Kd.R_reads' HO416.out).2.1)
 (case side5 => exact Kd.C_foot_ownV (base := 0) (Kd.N_V (Kd.N_mono (ok := fun k_ => (((w.heap.size ≤ k_)) ∧ (some k_ ≠ (.slice Ao9 t414.length co9 : Value).ownBlock ∧ (k_ ≠ gb409 ∧ (k_ ≠ g413 ∧ k_ ≠ gb422))))) (aN HO419) (fun k_ hk_ => (⟨hk_, hk_.2.2.2.1⟩ : _ ∧ k_ ≠ g413)))) (fun _ h_ => h_.2))
 (case side6 => exact (Kd.N_reads' HO419.out).2.1)
 rintro e w16 ⟨v424, rfl, ho0, hi, hb, hk⟩
 refine ⟨_, rfl, ?_⟩
 have n0_ := aM (KeepBut.blk hk (g' := gb409) (o := .cells #[.slice none 0 0, .slice none 0 0] 31 (0, 0)) aK NB409_413.out (by simp))
 have n1_ := aM (Kd.R_mono (Kd.R_keep (IsS117.apart (show IsS117 w _ g413 t410 t420 t421 from by repeat (first | (with_reducible first | exact HI413.out | apply IsS117.alloc | apply IsS117.drewN | apply IsS117.drew | apply IsS117.set_1 | apply IsS117.set_2 | refine IsS117.far ?_ NB413_409.out _ | refine IsS117.far ?_ NB413_422.out _) | exact HI413.out)) (aR HO416) (by decide)) hk (fun _ h => h.2)) (fun _ h => h.1))
 have n2_ := aM (Kd.N_mono (Kd.N_told (Kd.N_oldK (Kd.N_mono (ok := fun k_ => (((w.heap.size ≤ k_)) ∧ (some k_ ≠ (.slice Ao9 t414.length co9 : Value).ownBlock ∧ (k_ ≠ gb409 ∧ (k_ ≠ g413 ∧ k_ ≠ gb422))))) (aN HO419) (fun k_ hk_ => (⟨hk_, hk_.2.2.2.1⟩ : _ ∧ k_ ≠ g413))) hk) (Kd.R_base ho0)) (fun _ h_ => h_.1))
 have n3_ := aM (KeepBut.blk hk (g' := gb422) (o := .cells #[.slice Ao9 t414.length co9, .slice Ao13 t417.length co13] 31 (0, 0)) aK NB422_413.out (by simp))
 have n4_ := aM (Kd.R_lower (Kd.R_newM (M := fun k_ => (w.heap.size ≤ k_)) ho0 (below_size (by repeat (first | (with_reducible first | exact HB.out | apply below_alloc | apply pw_below_drewN | apply below_drew1 | refine below_set ?_ (IsS117.ge HI413.out) | refine below_set ?_ GE409.out | refine below_set ?_ GE422.out) | exact HB.out))) (fun k_ h_ => h_)) (below_size (by repeat (first | (with_reducible first | exact HB.out | apply below_alloc | apply pw_below_drewN | apply below_drew1 | refine below_set ?_ (IsS117.ge HI413.out) | refine below_set ?_ GE409.out | refine below_set ?_ GE422.out) | exact HB.out))))
 have n5_ := aM (hb)
 have n6_ := aM (hi)
 clear BK409
 clear HO416
 clear HO419
 clear BK422
 clear HB
 clear HI413
 have BK409 := n0_
 have HO416 := n1_
 have HO419 := n2_
 have BK422 := n3_
 have HO425 := n4_
 have HB := n5_
 have HI413 := n6_
 clear n0_ n1_ n2_ n3_ n4_ n5_ n6_
 (try clear hb)
 (try clear hb2)
 (try clear hk)
 (try clear hi)
 (try clear ho0)
 refine hK.out _ _ ⟨(blk_cell BK422.out 0).trans rfl, (blk_cell BK422.out 1).trans rfl⟩ (fun hHeld => ?_)
 clear hK K
 refine nU 13 ?_
 refine one_ (i := 4) (N := none) #[true, true, true, true, true, false] rfl rfl (by kernel_rfl) (by decide) (fun K hK => ?_)
 have hs17 : w16.cell? ⟨gb409, 0, none⟩ = some (.slice none 0 0) := (blk_cell BK409.out 0).trans rfl
 have hfs17 := blk_frozen BK409.out 0
 have hns17_1 := NB422_409.out
 have hms17_1 := NB409_422.out
 have hs18 : w16.cell? ⟨gb409, 1, none⟩ = some (.slice none 0 0) := (blk_cell BK409.out 1).trans rfl
 have hfs18 := blk_frozen BK409.out 1
 have hns18_1 := NB422_409.out
 have hms18_1 := NB409_422.out
 refine skip_ (w1 := ?_) (by rfl) rfl ?_ ?_
 rotate_left
 ·go_simp
  rfl
 refine hK.out _ _ ⟨((cell_far (p := ⟨gb409, _, none⟩) NB422_409.out _).trans (((cell_far (p := ⟨gb409, _, none⟩) NB422_409.out _).trans (hHeld.1)))), ((cell_far (p := ⟨gb409, _, none⟩) NB422_409.out _).trans (((cell_far (p := ⟨gb409, _, none⟩) NB422_409.out _).trans (hHeld.2))))⟩ (fun hHeld => ?_)
 clear hK K
 refine pure_ (i := 5) (N := some 3) (v := ?_) (a' := ?_) #[true, true, true, true, true, true] rfl rfl (by kernel_rfl) (fun _ _ _ h => h) (Or.inl ⟨by rfl, ?_⟩) ?_ ?_
 rotate_left
 ·exact aI
 rotate_left
 ·exact aP
 refine done_ (by kernel_rfl) ?_
 try go_wp2
 refine bodyPost_ret (results_ct rfl _ _ gb409 31 #[.slice Ao9 t414.length co9, .slice Ao13 t417.length co13] (0, 0) _ rfl (by (with_reducible repeat refine pB ?_); refine blk_put (cs := #[.slice Ao9 t414.length co9, .slice none 0 0]) ?_ 1 _ rfl; (with_reducible repeat refine pB ?_); refine blk_put (cs := #[.slice none 0 0, .slice none 0 0]) ?_ 0 _ rfl; (with_reducible repeat refine pB ?_); exact BK409.out) Tryd.underlying31 rfl (by kernel_rfl)) rfl ?_
 exact ⟨_, _, _, aE, by (with_reducible repeat apply pR); exact Kd.R_mono (Kd.R_far (p := ⟨gb409, 1, none⟩) (Kd.R_far (p := ⟨gb409, 0, none⟩) (Kd.R_types HO416.out BK409.out (by decide)) (fun _ hk => hk.2) (.slice Ao9 t414.length co9)) (fun _ hk => hk.2) (.slice Ao13 t417.length co13)) (fun _ hk => hk.1), by (with_reducible repeat apply pN); exact Kd.N_mono (Kd.N_far (p := ⟨gb409, 1, none⟩) (Kd.N_far (p := ⟨gb409, 0, none⟩) (Kd.N_mono HO419.out (fun k_ hk => (⟨hk, hk.1.2.2.1⟩ : _ ∧ k_ ≠ gb409))) (fun _ hk => hk.2) (.slice Ao9 t414.length co9)) (fun _ hk => hk.2) (.slice Ao13 t417.length co13)) (fun _ hk => ⟨hk.1.1.1, ⟨hk.1.1.2.1, hk.1.2⟩⟩), by (with_reducible repeat apply pR); exact Kd.R_mono (Kd.R_far (p := ⟨gb409, 1, none⟩) (Kd.R_far (p := ⟨gb409, 0, none⟩) (Kd.R_types HO425.out BK409.out (by decide)) (fun _ hk => hk.2) (.slice Ao9 t414.length co9)) (fun _ hk => hk.2) (.slice Ao13 t417.length co13)) (fun _ hk => hk.1.1), by repeat (first | (with_reducible first | exact HB.out | apply below_alloc | apply pw_below_drewN | apply below_drew1 | refine below_set ?_ (IsS117.ge HI413.out) | refine below_set ?_ GE409.out | refine below_set ?_ GE422.out) | exact HB.out)⟩

/-! ### impl_compare: function 65 -/
def impl_compare.f (a0 : Int) (a1 : Int) : Option (Int) := if a0 < a1 then (some (-1)) else (if a0 > a1 then (some 1) else (some 0))
set_option maxHeartbeats 8000000 in
set_option maxRecDepth 100000 in
theorem impl_compare.calls (a0 : Int) (a1 : Int) (r : Int) (w : World) (h : impl_compare.f a0 a1 = some r) :
  Calls Tryd.prog 65 #[.int .i64 a0, .int .i64 a1] w fun e w' => e = .returned (.int .i64 r) ∧ Drawn0 w w' := by
 unfold impl_compare.f at h
 replace h := il h; rcases h with ⟨c0, c0a, h⟩ | ⟨c0, c0a, h⟩
 obtain rfl := si h
 rotate_left
 replace h := ig h; rcases h with ⟨c1, c1a, h⟩ | ⟨c1, c1a, h⟩
 obtain rfl := si h
 rotate_left
 obtain rfl := si h
 rotate_left
 all_goals (go_enter Tryd.func65, Tryd.ntmps65; go_wp2; go_ret; exact zE zD)

/-! ### cmp_isNaN_int: function 106 -/
def cmp_isNaN_int.f (a0 : Int) : Option (Bool) := some (a0 != a0)
set_option maxHeartbeats 8000000 in
set_option maxRecDepth 100000 in
theorem cmp_isNaN_int.calls (a0 : Int) (r : Bool) (w : World) (h : cmp_isNaN_int.f a0 = some r) :
  Calls Tryd.prog 106 #[.int .i64 a0] w fun e w' => e = .returned (.bool r) ∧ Drawn0 w w' := by
 unfold cmp_isNaN_int.f at h
 obtain rfl := si h
 rotate_left
 all_goals (go_enter Tryd.func106, Tryd.ntmps106; go_wp2; go_ret; exact zE zD)

/-! ### cmp_Compare_int: function 96 -/
def cmp_Compare_int.f (a0 : Int) (a1 : Int) : Option (Int) := (cmp_isNaN_int.f a0).bind fun t428 => ((cmp_isNaN_int.f a1).bind fun t429 => (if t428 = true then (if t429 = true then (some 0) else (some (-1))) else (if t429 = true then (some 1) else (if a0 < a1 then (some (-1)) else (if a0 > a1 then (some 1) else (some 0))))))
set_option maxHeartbeats 8000000 in
set_option maxRecDepth 100000 in
theorem cmp_Compare_int.calls (a0 : Int) (a1 : Int) (r : Int) (w : World) (h : cmp_Compare_int.f a0 a1 = some r) :
  Calls Tryd.prog 96 #[.int .i64 a0, .int .i64 a1] w fun e w' => e = .returned (.int .i64 r) ∧ Drawn0 w w' := by
 unfold cmp_Compare_int.f at h
 replace h := bs h; obtain ⟨t428, B0, h⟩ := h
 replace h := bs h; obtain ⟨t429, B1, h⟩ := h
 replace h := ib h; rcases h with ⟨rfl, h⟩ | ⟨rfl, h⟩
 replace h := ib h; rcases h with ⟨rfl, h⟩ | ⟨rfl, h⟩
 obtain rfl := si h
 rotate_left
 obtain rfl := si h
 rotate_left
 replace h := ib h; rcases h with ⟨rfl, h⟩ | ⟨rfl, h⟩
 obtain rfl := si h
 rotate_left
 replace h := il h; rcases h with ⟨c5, c5a, h⟩ | ⟨c5, c5a, h⟩
 obtain rfl := si h
 rotate_left
 replace h := ig h; rcases h with ⟨c6, c6a, h⟩ | ⟨c6, c6a, h⟩
 obtain rfl := si h
 rotate_left
 obtain rfl := si h
 rotate_left
 all_goals (go_enter Tryd.func96, Tryd.ntmps96; go_wp2_with (first | (go_at_call 106; refine (cmp_isNaN_int.calls _ ?_ _ ?h).mono ?_; (case h => exact zA); rintro e w1 ⟨rfl, hb⟩; have hd := hb; replace hb := hb.below; replace hb := aM hb; have HB : Below w.heap.size w w1 := zB)); go_ret; exact zE zD)

/-! ### slices_Compare_int_int: function 66 -/
def slices_Compare_int_int.l0 : Nat → List Int → List Int → List Int → Int → Int → Option (Int)
 | 0, _, _, _, _, _ => none
 | k + 1, x0, x1, x9, x10, x11 => if x11 < x10 then (if 0 ≤ x11 then (if x11 < (x9.length : Int) then (if x11 ≥ (x1.length : Int) then (some 1) else (if x11 < (x1.length : Int) then ((cmp_Compare_int.f (rd x9 x11) (rd x1 x11)).bind fun t432 => (if t432 = 0 then (slices_Compare_int_int.l0 k x0 x1 x9 x10 (wrap64 (x11 + 1))) else (some t432))) else (none))) else (none)) else (none)) else (if (x0.length : Int) < (x1.length : Int) then (some (-1)) else (some 0))
def slices_Compare_int_int.f (k : Nat) (l0 : List Int) (l1 : List Int) : Option (Int) := slices_Compare_int_int.l0 k l0 l1 l0 (l0.length : Int) 0
set_option maxHeartbeats 8000000 in
set_option maxRecDepth 100000 in
theorem slices_Compare_int_int.calls (k : Nat) (A0 : Option Addr) (c0 : Nat) (l0 : List Int) (A1 : Option Addr) (c1 : Nat) (l1 : List Int) (r : Int) (w : World) (hr0 : Kd.C (Kd.int .i64) w A0 l0.length l0) (hc0 : l0.length ≤ c0) (hr1 : Kd.C (Kd.int .i64) w A1 l1.length l1) (hc1 : l1.length ≤ c1) (h : slices_Compare_int_int.f k l0 l1 = some r) :
  Calls Tryd.prog 66 #[.slice A0 l0.length c0, .slice A1 l1.length c1] w fun e w' => e = .returned (.int .i64 r) ∧ Drawn0 w w' := by
 unfold slices_Compare_int_int.f at h
 ·go_enter Tryd.func66, Tryd.ntmps66
  go_wp2_with (first | (go_at_call 96; refine (cmp_Compare_int.calls _ _ ?_ _ ?h).mono ?_; (case h => exact zA); rintro e w1 ⟨rfl, hb⟩; have hd := hb; replace hb := hb.below; replace hb := aM hb; have HB : Below w.heap.size w w1 := zB))
  go_loopg [11] k (fun kq v11 w' => ∃ (x11_0 : Int), v11 = .int .i64 x11_0 ∧ slices_Compare_int_int.l0 kq l0 l1 l0 (l0.length : Int) x11_0 = some r ∧ Drawn0 w w')
  case atStart => exact ⟨_, zR, zA, zD⟩
  case round =>
   clear h
   obtain ⟨x11_0, rfl, h, hb⟩ := hrel
   have hd := hb
   replace hb := hb.below
   replace hb := aM hb
   have HB : Below w.heap.size w wr := zB
   rcases gk with _ | kk0
   exact absurd h (by simp [slices_Compare_int_int.l0])
   simp only [slices_Compare_int_int.l0] at h
   replace h := il h; rcases h with ⟨c1, c1a, h⟩ | ⟨c1, c1a, h⟩
   replace h := ie h; rcases h with ⟨c2, c2a, h⟩ | ⟨c2, c2a, h⟩
   replace h := il h; rcases h with ⟨c3, c3a, h⟩ | ⟨c3, c3a, h⟩
   replace h := ih h; rcases h with ⟨c4, c4a, h⟩ | ⟨c4, c4a, h⟩
   obtain rfl := si h
   obtain ⟨ad430, e430, hx430_0⟩ := Kd.at_int hr0 (x11_0 : Int) aD aD
   have p430 := eq_true (aD : 0 ≤ (x11_0 : Int))
   have q430 := eq_true (aD : x11_0 < (l0.length : Int))
   cases e430
   replace hx430_0 := qa hx430_0
   rotate_left
   replace h := il h; rcases h with ⟨c5, c5a, h⟩ | ⟨c5, c5a, h⟩
   replace h := bs h; obtain ⟨t432, B6, h⟩ := h
   replace h := iq h; rcases h with ⟨c7, ⟨c7a, c7b⟩, h⟩ | ⟨c7, ⟨c7a, c7b⟩, h⟩
   obtain ⟨kf, hkf⟩ : ∃ kf, kf = kk0 := ⟨_, rfl⟩; rw [← hkf] at h
   obtain ⟨ad430, e430, hx430_0⟩ := Kd.at_int hr0 (x11_0 : Int) aD aD
   have p430 := eq_true (aD : 0 ≤ (x11_0 : Int))
   have q430 := eq_true (aD : x11_0 < (l0.length : Int))
   cases e430
   replace hx430_0 := qa hx430_0
   obtain ⟨ad431, e431, hx431_0⟩ := Kd.at_int hr1 (x11_0 : Int) aD aD
   have p431 := eq_true (aD : 0 ≤ (x11_0 : Int))
   have q431 := eq_true (aD : x11_0 < (l1.length : Int))
   cases e431
   replace hx431_0 := qa hx431_0
   rotate_left
   obtain rfl := si h
   obtain ⟨ad430, e430, hx430_0⟩ := Kd.at_int hr0 (x11_0 : Int) aD aD
   have p430 := eq_true (aD : 0 ≤ (x11_0 : Int))
   have q430 := eq_true (aD : x11_0 < (l0.length : Int))
   cases e430
   replace hx430_0 := qa hx430_0
   obtain ⟨ad431, e431, hx431_0⟩ := Kd.at_int hr1 (x11_0 : Int) aD aD
   have p431 := eq_true (aD : 0 ≤ (x11_0 : Int))
   have q431 := eq_true (aD : x11_0 < (l1.length : Int))
   cases e431
   replace hx431_0 := qa hx431_0
   rotate_left
   exact absurd h (by simp)
   exact absurd h (by simp)
   exact absurd h (by simp)
   replace h := il h; rcases h with ⟨c8, c8a, h⟩ | ⟨c8, c8a, h⟩
   have cz := c8.out
   have c8x1 : decide (l0.length < l1.length) = true := decide_eq_true (Int.ofNat_lt.mp cz)
   clear cz
   obtain rfl := si h
   rotate_left
   have cz := c8.out
   have c8x1 : decide (l0.length < l1.length) = false := decide_eq_false (fun h => cz (Int.ofNat_lt.mpr h))
   clear cz
   obtain rfl := si h
   rotate_left
   all_goals (go_wp2_with (first | (go_at_call 96; refine (cmp_Compare_int.calls _ _ ?_ _ ?h).mono ?_; (case h => exact zA); rintro e w1 ⟨rfl, hb⟩; have hd := hb; replace hb := hb.below; replace hb := aM hb; have HB : Below w.heap.size w w1 := zB)); first | (go_ret; exact zE zD) | (go_roundg kf; (case measure => omega); (case rel => exact ⟨_, zR, zA, zD⟩)))

/-! ### impl_CompareFacts: function 21 -/
def impl_CompareFacts.f (k : Nat) (a0_0 : Int) (l0_1 : List Int) (a1_0 : Int) (l1_1 : List Int) : Option (Int) := if a0_0 = a1_0 then ((slices_Compare_int_int.f k l0_1 l1_1).bind fun t435 => (some t435)) else ((impl_compare.f a0_0 a1_0).bind fun t436 => (some t436))
set_option maxHeartbeats 8000000 in
set_option maxRecDepth 100000 in
theorem impl_CompareFacts.calls (k : Nat) (a0_0 : Int) (A0_1 : Option Addr) (c0_1 : Nat) (l0_1 : List Int) (a1_0 : Int) (A1_1 : Option Addr) (c1_1 : Nat) (l1_1 : List Int) (r : Int) (w : World) (hr0_1 : Kd.C (Kd.int .i64) w A0_1 l0_1.length l0_1) (hc0_1 : l0_1.length ≤ c0_1) (hr1_1 : Kd.C (Kd.int .i64) w A1_1 l1_1.length l1_1) (hc1_1 : l1_1.length ≤ c1_1) (h : impl_CompareFacts.f k a0_0 l0_1 a1_0 l1_1 = some r) :
  Calls Tryd.prog 21 #[.agg #[.int .i64 a0_0, .slice A0_1 l0_1.length c0_1], .agg #[.int .i64 a1_0, .slice A1_1 l1_1.length c1_1]] w fun e w' => e = .returned (.int .i64 r) ∧ Below w.heap.size w w' := by
 have hu39 := Tryd.underlying39
 obtain ⟨W, hW⟩ : ∃ W, (w.alloc (.cells #[.int .i64 a0_0, .slice A0_1 l0_1.length c0_1] 39)).alloc (.cells #[.int .i64 a1_0, .slice A1_1 l1_1.length c1_1] 39) = W := ⟨_, rfl⟩
 have q0 := qa (w := W) (p := ⟨w.heap.size, 0, none⟩) (v := .int .i64 a0_0) (by subst hW; go_simp)
 have q1 := qa (w := W) (p := ⟨w.heap.size, 1, none⟩) (v := .slice A0_1 l0_1.length c0_1) (by subst hW; go_simp)
 have q2 := qa (w := W) (p := ⟨w.heap.size + 1, 0, none⟩) (v := .int .i64 a1_0) (by subst hW; go_simp)
 have q3 := qa (w := W) (p := ⟨w.heap.size + 1, 1, none⟩) (v := .slice A1_1 l1_1.length c1_1) (by subst hW; go_simp)
 have HB : Below w.heap.size w W := by subst hW; exact zB
 have HW := Below.refl W.heap.size W
 have hb := aM HB
 unfold impl_CompareFacts.f at h
 replace h := iq h; rcases h with ⟨c0, ⟨c0a, c0b⟩, h⟩ | ⟨c0, ⟨c0a, c0b⟩, h⟩
 replace h := bs h; obtain ⟨t435, B1, h⟩ := h
 obtain rfl := si h
 rotate_left
 replace h := bs h; obtain ⟨t436, B2, h⟩ := h
 obtain rfl := si h
 rotate_left
 all_goals (go_enter Tryd.func21, Tryd.ntmps21; go_wp2_with (first | (go_at_call 65; refine (impl_compare.calls _ _ ?_ _ ?h).mono ?_; (case h => exact zA); rintro e w1 ⟨rfl, hb⟩; replace hb := hb.below; replace hb := aM hb; have HW : Below W.heap.size W w1 := zB; have HB : Below w.heap.size w w1 := zB) | (go_at_call 66; refine (slices_Compare_int_int.calls ?_ _ _ _ _ _ _ ?_ _ ?_ ?_ ?_ ?_ ?h).mono ?_; (case h => exact zA); (iterate 4 (first | exact zC | exact zA)); rintro e w1 ⟨rfl, hb⟩; replace hb := hb.below; replace hb := aM hb; have HW : Below W.heap.size W w1 := zB; have HB : Below w.heap.size w w1 := zB)); go_ret; exact zE zB)

/-! ### impl_AreValidRelations: function 76 -/

def impl_AreValidRelations.f (l0 : List S68) : Option Bool := some (vRels l0)
set_option maxHeartbeats 4000000 in
set_option maxRecDepth 100000 in
theorem impl_AreValidRelations.calls (A0 : Option Addr) (c0 : Nat) (l0 : List S68) (r : Bool) (w : World) (hr0 : Kd.C k68 w A0 l0.length l0) (hc0 : l0.length ≤ c0) (h : impl_AreValidRelations.f l0 = some r) :
  Calls Tryd.prog 76 #[.slice A0 l0.length c0] w fun e w' => e = .returned (.bool r) ∧ Below w.heap.size w w' := by
 obtain rfl := Option.some.inj h
 have hl : l0.length ≤ 9223372036854775807 := hr0.2.1
 have HR := aM hr0
 clear hr0 h
 go_enter Tryd.func76, Tryd.ntmps76
 go_wp2
 go_loopg [7] l0.length (fun gg s7 wr => ∃ i : Nat, i ≤ l0.length ∧ l0.length - i ≤ gg ∧ s7 = .int .i64 i ∧ Aside0 (Below w.heap.size w wr) ∧ Aside0 (vRelsFrom l0 (l0.length - i) i = vRels l0))
 case atStart => exact ⟨0, Nat.zero_le _, by omega, rfl, ⟨Below.refl _ _⟩, ⟨rfl⟩⟩
 case round =>
  obtain ⟨i, hi, hg, rfl, BW, HA⟩ := hrel
  by_cases hlt : i < l0.length
  ·have hltz : (i : Int) < (l0.length : Int) := by omega
   obtain ⟨ad, e, h0, h1, h2⟩ := at_T68 (Kd.C_below HR.out BW.out) (i : Int) (by omega) hltz
   rw [Int.toNat_natCast] at h0 h1 h2
   cases e
   have hrd : rd_T68 l0 (i : Int) = l0.getD i z68 := by unfold rd_T68; rw [Int.toNat_natCast]
   rw [hrd] at h0 h1 h2
   clear hrd
   have HX : Aside0 (vRelsFrom l0 (l0.length - i) i = (vRel (l0.getD i z68) && (decide (i = 0) || Op.bytesLess (l0.getD (i - 1) z68).f0.toList (l0.getD i z68).f0.toList) && vRelsFrom l0 (l0.length - (i + 1)) (i + 1))) := ⟨by
    rw [show l0.length - i = (l0.length - (i + 1)) + 1 by omega]; rfl⟩
   generalize l0.getD i z68 = x at h0 h1 h2 HX
   have F0 : Aside0 ((wr.alloc (.cells #[.string x.f0, .int .i64 x.f1, .int .i64 x.f2] 68)).cell? ⟨wr.heap.size, 0, none⟩ = some (.string x.f0)) := ⟨(blk_cell (heap_alloc_new wr _) 0).trans rfl⟩
   have F1 : Aside0 ((wr.alloc (.cells #[.string x.f0, .int .i64 x.f1, .int .i64 x.f2] 68)).cell? ⟨wr.heap.size, 1, none⟩ = some (.int .i64 x.f1)) := ⟨(blk_cell (heap_alloc_new wr _) 1).trans rfl⟩
   have F2 : Aside0 ((wr.alloc (.cells #[.string x.f0, .int .i64 x.f1, .int .i64 x.f2] 68)).cell? ⟨wr.heap.size, 2, none⟩ = some (.int .i64 x.f2)) := ⟨(blk_cell (heap_alloc_new wr _) 2).trans rfl⟩
   have B2 : Aside0 (Below w.heap.size w (wr.alloc (.cells #[.string x.f0, .int .i64 x.f1, .int .i64 x.f2] 68))) := ⟨below_alloc BW.out _⟩
   have HC : Aside0 (∀ (W : World) d os, Calls Tryd.prog 84 #[.agg #[.string x.f0, .int .i64 x.f1, .int .i64 x.f2]] (Go.Sort.grow (redrawn W d) os) fun e w'' => e = .returned (.bool (vRel x)) ∧ ∃ p : Regrown, w'' = Go.Sort.grow (redrawn W p.d) p.os) := ⟨fun W d os => Calls.regrown_of (impl_IsValidRelation.calls x.f0 x.f1 x.f2 (vRel x) _ (vRelI x))⟩
   by_cases hi0 : i = 0 ∨ vRel x = false
   ·have hd0 : vRel x = true → decide (0 < i) = false := fun hx => by
     rcases hi0 with h | h
     ·simp [h]
     ·rw [hx] at h; cases h
    have hX : vRelsFrom l0 (l0.length - i) i = (vRel x && vRelsFrom l0 (l0.length - (i + 1)) (i + 1)) := by
     rw [HX.out]
     rcases hi0 with h | h
     ·simp [h]
     ·simp [h]
    have HX := aM hX
    clear hX hi0
    cases hv : vRel x with
    | false =>
     have HV := aM hv
     clear hv hd0
     go_wp2_with fail
     clear h0 h1 h2
     generalize wr.alloc (.cells #[.string x.f0, .int .i64 x.f1, .int .i64 x.f2] 68) = w2 at F0 F1 F2 B2 ⊢
     generalize wr.heap.size = gb at F0 F1 F2 ⊢
     have f0 := cell_regrown F0.out
     have f1 := cell_regrown F1.out
     have f2 := cell_regrown F2.out
     have hc := HC.out w2
     rw [HV.out] at hc
     have HC := aM hc
     clear hc
     refine wp_region_quiet_below (by kernel_rfl) (by kernel_rfl) ?_
     repeat (go_big_quiet_step (exact HC.out _ _))
     refine wpQuiet_nil ?_
     intro _ hw'
     obtain ⟨⟨dq, osq⟩, hw''⟩ := hw'
     subst hw''
     go_wp2
     go_ret
     exact ⟨by rw [← HA.out, HX.out, HV.out]; rfl, below_then B2.out B2.out.size (below_regrown _ _ _)⟩
    | true =>
     have hd0 := hd0 hv
     have HV := aM hv
     clear hv
     go_wp2_with fail
     clear h0 h1 h2
     generalize wr.alloc (.cells #[.string x.f0, .int .i64 x.f1, .int .i64 x.f2] 68) = w2 at F0 F1 F2 B2 ⊢
     generalize wr.heap.size = gb at F0 F1 F2 ⊢
     have f0 := cell_regrown F0.out
     have f1 := cell_regrown F1.out
     have f2 := cell_regrown F2.out
     have hc := HC.out w2
     rw [HV.out] at hc
     have HC := aM hc
     clear hc
     refine wp_region_quiet_below (by kernel_rfl) (by kernel_rfl) ?_
     repeat (go_big_quiet_step (exact HC.out _ _))
     refine wpQuiet_nil ?_
     intro _ hw'
     obtain ⟨⟨dq, osq⟩, hw''⟩ := hw'
     subst hw''
     go_wp2
     go_roundg (l0.length - (i + 1))
     case measure => omega
     case rel => exact ⟨i + 1, by omega, by omega, by go_num, ⟨below_then B2.out B2.out.size (below_regrown _ _ _)⟩, ⟨by rw [← HA.out, HX.out, HV.out]; rfl⟩⟩
   ·have hi1 : i ≠ 0 := fun h => hi0 (.inl h)
    have hv : vRel x = true := by
     cases h : vRel x with
     | true => rfl
     | false => exact absurd (.inr h) hi0
    clear hi0
    obtain ⟨ad', e', k0, _, _⟩ := at_T68 (Kd.C_below HR.out BW.out) ((i - 1 : Nat) : Int) (by omega) (by omega)
    cases e'
    rw [Int.toNat_natCast] at k0
    have hrd : rd_T68 l0 ((i - 1 : Nat) : Int) = l0.getD (i - 1) z68 := by unfold rd_T68; rw [Int.toNat_natCast]
    rw [hrd] at k0
    clear hrd
    have hX : vRelsFrom l0 (l0.length - i) i = (Op.bytesLess (l0.getD (i - 1) z68).f0.toList x.f0.toList && vRelsFrom l0 (l0.length - (i + 1)) (i + 1)) := by
     rw [HX.out, hv]; simp [hi1]
    have HX := aM hX
    have HV := aM hv
    clear hX hv
    generalize (l0.getD (i - 1) z68).f0 = y at k0 HX
    have K0 : Aside0 ((wr.alloc (.cells #[.string x.f0, .int .i64 x.f1, .int .i64 x.f2] 68)).cell? (ad.add ((i - 1) * 3)) = some (.string y)) := ⟨(World.cell?_alloc_lt _ _ _ (World.block_lt_of_cell? wr _ k0)).trans k0⟩
    clear k0
    have e3 : IntKind.i64.wrap ((i : Int) - 1) = ((i - 1 : Nat) : Int) := by rw [IntKind.wrap_i64]; omega
    have hd0 : decide (0 < i) = true := by simp; omega
    have hm0 : (0 : Int) ≤ ((i - 1 : Nat) : Int) := by omega
    have hm1 : ((i - 1 : Nat) : Int) < (l0.length : Int) := by omega
    go_wp2_with fail
    clear h0 h1 h2
    generalize wr.alloc (.cells #[.string x.f0, .int .i64 x.f1, .int .i64 x.f2] 68) = w2 at F0 F1 F2 B2 K0 ⊢
    generalize wr.heap.size = gb at F0 F1 F2 ⊢
    have f0 := cell_regrown F0.out
    have f1 := cell_regrown F1.out
    have f2 := cell_regrown F2.out
    have f3 := cell_regrown K0.out
    have hc := HC.out w2
    rw [HV.out] at hc
    have HC := aM hc
    clear hc
    cases hb : Op.bytesLess y.toList x.f0.toList with
    | false =>
     refine wp_region_quiet_below (by kernel_rfl) (by kernel_rfl) ?_
     repeat (go_big_quiet_step (exact HC.out _ _))
     refine wpQuiet_nil ?_
     intro _ hw'
     obtain ⟨⟨dq, osq⟩, hw''⟩ := hw'
     subst hw''
     have HB := aM hb
     clear hb
     go_wp2
     go_ret
     exact ⟨by rw [← HA.out, HX.out, HB.out]; rfl, below_then B2.out B2.out.size (below_regrown _ _ _)⟩
    | true =>
     refine wp_region_quiet_below (by kernel_rfl) (by kernel_rfl) ?_
     repeat (go_big_quiet_step (exact HC.out _ _))
     refine wpQuiet_nil ?_
     intro _ hw'
     obtain ⟨⟨dq, osq⟩, hw''⟩ := hw'
     subst hw''
     have HB := aM hb
     clear hb
     go_wp2
     go_roundg (l0.length - (i + 1))
     case measure => omega
     case rel => exact ⟨i + 1, by omega, by omega, by go_num, ⟨below_then B2.out B2.out.size (below_regrown _ _ _)⟩, ⟨by rw [← HA.out, HX.out, HB.out]; rfl⟩⟩
  ·have hd : decide (i < l0.length) = false := decide_eq_false hlt
   have hle : l0.length ≤ i := by omega
   have HX : Aside0 (vRels l0 = decide (l0.length ≤ 4)) := ⟨by rw [← HA.out, show l0.length - i = 0 by omega]; exact decide_eq_decide.2 (by omega)⟩
   clear hlt
   go_wp2
   go_ret
   exact ⟨by rw [HX.out]; first | rfl | (simp; done) | (simp; omega), BW.out⟩


-- NOT PRINTED: function 115 (slices_IndexFunc_int_int)

-- NOT PRINTED: function 108 (slices_ContainsFunc_int_int)

/-! ### impl_areValues: function 101 -/
/-- No value: what the literal in areValues asks. -/
def noVal (v : Int) : Bool := !(decide (0 ≤ v) && decide (v ≤ 9))
set_option maxHeartbeats 8000000 in
theorem noVal_calls (v : Int) (w : World) : Calls Tryd.prog 109 #[.int .i64 v] w fun e w' => e = .returned (.bool (noVal v)) ∧ Below w.heap.size w w' := by
 have hw : ∃ b, impl_within.f v 0 9 = some b ∧ b = (decide (0 ≤ v) && decide (v ≤ 9)) := by
  unfold impl_within.f
  by_cases h : 0 ≤ v
  ·exact ⟨_, if_pos h, by simp [h]⟩
  ·exact ⟨_, if_neg h, by simp [h]⟩
 obtain ⟨b, hb, hv⟩ := hw
 have HB := aM hb
 have HV := aM hv
 clear hb hv
 go_enter Tryd.func109, Tryd.ntmps109
 go_wp2_with (go_at_call 100; refine (impl_within.calls v 0 9 b _ HB.out).mono ?_; rintro e w' ⟨rfl, ⟨nd, rfl⟩⟩)
 go_ret
 refine ⟨?_, pw_below_drewN (Below.refl _ _) _⟩
 unfold noVal
 rw [← HV.out]
 rfl
/-- The place of the first number of which p holds, counted from i on; -1 if there is none. -/
def idxI (p : Int → Bool) : List Int → Int → Int
 | [], _ => -1
 | x :: xs, i => if p x = true then i else idxI p xs (i + 1)
theorem idxI_hit (p : Int → Bool) : ∀ (l : List Int) (k : Nat) (i : Int), k < l.length → (∀ j, j < k → p (l.getD j 0) = false) → p (l.getD k 0) = true → idxI p l i = i + k
 | [], k, _, h, _, _ => absurd h (Nat.not_lt_zero _)
 | x :: xs, 0, i, _, _, h => by
  have h' : p x = true := h
  simp [idxI, h']
 | x :: xs, k + 1, i, hk, ha, h => by
  have h0 : p x = false := ha 0 (by omega)
  have := idxI_hit p xs k (i + 1) (by simpa using hk) (fun j hj => by simpa using ha (j + 1) (by omega)) (by simpa using h)
  simp only [idxI, h0, Bool.false_eq_true, if_false, this]
  omega
theorem idxI_miss (p : Int → Bool) : ∀ (l : List Int) (i : Int), (∀ j, j < l.length → p (l.getD j 0) = false) → idxI p l i = -1
 | [], _, _ => rfl
 | x :: xs, i, h => by
  have h0 : p x = false := h 0 (by simp)
  simp only [idxI, h0, Bool.false_eq_true, if_false]
  exact idxI_miss p xs (i + 1) fun j hj => by simpa using h (j + 1) (by simpa using hj)
theorem idxI_any (p : Int → Bool) : ∀ (l : List Int) (i : Int), 0 ≤ i → decide (0 ≤ idxI p l i) = l.any p
 | [], _, _ => rfl
 | x :: xs, i, h => by
  by_cases hp : p x = true
  ·simp [idxI, hp, h]
  ·simp only [idxI, if_neg hp, List.any_cons]
   rw [Bool.eq_false_iff.mpr hp, Bool.false_or]
   exact idxI_any p xs (i + 1) (by omega)
set_option maxHeartbeats 8000000 in
set_option maxRecDepth 100000 in
theorem noValIdx_calls (A0 : Option Addr) (c0 : Nat) (l : List Int) (w : World) (hr : Kd.C (Kd.int .i64) w A0 l.length l) :
  Calls Tryd.prog 115 #[.slice A0 l.length c0, .func (.func 109) #[] #[]] w fun e w' => e = .returned (.int .i64 (idxI noVal l 0)) ∧ Below w.heap.size w w' := by
 have hl : l.length ≤ 9223372036854775807 := hr.2.1
 have HR := aM hr
 clear hr
 go_enter Tryd.func115, Tryd.ntmps115
 go_wp2
 go_loopg [5, 8] l.length (fun gg _ s8 wr => ∃ kk : Nat, kk ≤ l.length ∧ l.length - kk ≤ gg ∧ s8 = .int .i64 kk ∧ Aside0 (Below w.heap.size w wr) ∧ Aside0 (∀ j, j < kk → noVal (l.getD j 0) = false))
 case atStart => exact ⟨0, Nat.zero_le _, by omega, rfl, ⟨Below.refl _ _⟩, ⟨fun j hj => absurd hj (Nat.not_lt_zero _)⟩⟩
 case round =>
  obtain ⟨kk, hkk, hg, rfl, BW, HA⟩ := hrel
  by_cases hltk : kk < l.length
  ·have hltz : (kk : Int) < (l.length : Int) := by omega
   obtain ⟨ad, e, h0⟩ := Kd.at_int (Kd.C_below HR.out BW.out) (kk : Int) (by omega) hltz
   rw [Int.toNat_natCast] at h0
   cases e
   have hcall := noVal_calls (rd l (kk : Int)) wr
   have hrd : rd l (kk : Int) = l.getD kk 0 := by unfold rd; rw [Int.toNat_natCast]
   cases hq : noVal (rd l (kk : Int)) with
   | true =>
    rw [hq] at hcall
    have HQ := aM hq
    have HRD := aM hrd
    clear hq hrd
    go_wp2_with (go_at_call 109; refine hcall.mono ?_; rintro e w' ⟨rfl, hb'⟩)
    go_ret
    refine ⟨?_, below_then BW.out BW.out.size hb'⟩
    rw [idxI_hit noVal l kk 0 hltk HA.out (by rw [← HRD.out]; exact HQ.out)]
    simp
   | false =>
    rw [hq] at hcall
    have HQ := aM hq
    have HRD := aM hrd
    clear hq hrd
    go_wp2_with (go_at_call 109; refine hcall.mono ?_; rintro e w' ⟨rfl, hb'⟩)
    go_roundg (l.length - (kk + 1))
    case measure => omega
    case rel =>
     refine ⟨kk + 1, by omega, by omega, by go_num, ⟨below_then BW.out BW.out.size hb'⟩, ⟨fun j hj => ?_⟩⟩
     by_cases e : j = kk
     ·subst e
      rw [← HRD.out]; exact HQ.out
     ·exact HA.out j (by omega)
  ·have hd : decide (kk < l.length) = false := decide_eq_false hltk
   have HK := aM (show l.length ≤ kk by omega)
   clear hltk
   go_wp2
   go_ret
   refine ⟨?_, BW.out⟩
   have HA := fun j (hj : j < l.length) => HA.out j (Nat.lt_of_lt_of_le hj HK.out)
   rw [idxI_miss noVal l 0 HA]
   rfl
set_option maxHeartbeats 8000000 in
theorem noValAny_calls (A0 : Option Addr) (c0 : Nat) (l : List Int) (w : World) (hr : Kd.C (Kd.int .i64) w A0 l.length l) :
  Calls Tryd.prog 108 #[.slice A0 l.length c0, .func (.func 109) #[] #[]] w fun e w' => e = .returned (.bool (l.any noVal)) ∧ Below w.heap.size w w' := by
 rw [← idxI_any noVal l 0 (Int.le_refl _)]
 have HR := aM hr
 clear hr
 generalize hx : idxI noVal l 0 = x
 have HX := aM hx
 clear hx
 go_enter Tryd.func108, Tryd.ntmps108
 go_wp2_with (go_at_call 115; refine (noValIdx_calls A0 c0 l _ HR.out).mono ?_; rw [HX.out]; rintro e w' ⟨rfl, hb'⟩)
 go_ret
 exact ⟨rfl, hb'⟩
def impl_areValues.f (l0 : List Int) : Option Bool := some (!l0.any noVal)
set_option maxHeartbeats 8000000 in
set_option maxRecDepth 100000 in
theorem impl_areValues.calls (A0 : Option Addr) (c0 : Nat) (l0 : List Int) (r : Bool) (w : World) (hr0 : Kd.C (Kd.int .i64) w A0 l0.length l0) (hc0 : l0.length ≤ c0) (h : impl_areValues.f l0 = some r) :
  Calls Tryd.prog 101 #[.slice A0 l0.length c0] w fun e w' => e = .returned (.bool r) ∧ Below w.heap.size w w' := by
 obtain rfl := Option.some.inj h
 have HR := aM hr0
 clear hr0 h
 generalize hx : l0.any noVal = x
 have HX := aM hx
 clear hx
 go_enter Tryd.func101, Tryd.ntmps101
 go_wp2_with (go_at_call 108; refine (noValAny_calls A0 c0 l0 _ HR.out).mono ?_; rw [HX.out]; rintro e w' ⟨rfl, hb'⟩)
 go_ret
 exact ⟨rfl, hb'⟩


/-! ### impl_isFact: function 77 -/
def impl_isFact.f (l0 : List (S68)) (a1_0 : Int) (l1_1 : List Int) : Option (Bool) := (impl_within.f a1_0 0 (wrap64 ((l0.length : Int) - 1))).bind fun t438 => (if t438 = true then (if 0 ≤ a1_0 then (if a1_0 < (l0.length : Int) then (if (l1_1.length : Int) = ((rd_T68 l0 a1_0).f1) then ((impl_areValues.f l1_1).bind fun t440 => (some t440)) else (some false)) else (none)) else (none)) else (some false))
set_option maxHeartbeats 8000000 in
set_option maxRecDepth 100000 in
theorem impl_isFact.calls (A0 : Option Addr) (c0 : Nat) (l0 : List (S68)) (a1_0 : Int) (A1_1 : Option Addr) (c1_1 : Nat) (l1_1 : List Int) (r : Bool) (w : World) (hr0 : Kd.C k68 w A0 l0.length l0) (hc0 : l0.length ≤ c0) (hr1_1 : Kd.C (Kd.int .i64) w A1_1 l1_1.length l1_1) (hc1_1 : l1_1.length ≤ c1_1) (h : impl_isFact.f l0 a1_0 l1_1 = some r) :
  Calls Tryd.prog 77 #[.slice A0 l0.length c0, .agg #[.int .i64 a1_0, .slice A1_1 l1_1.length c1_1]] w fun e w' => e = .returned (.bool r) ∧ Below w.heap.size w w' := by
 have hu39 := Tryd.underlying39
 obtain ⟨W, hW⟩ : ∃ W, w.alloc (.cells #[.int .i64 a1_0, .slice A1_1 l1_1.length c1_1] 39) = W := ⟨_, rfl⟩
 have q0 := qa (w := W) (p := ⟨w.heap.size, 0, none⟩) (v := .int .i64 a1_0) (by subst hW; go_simp)
 have q1 := qa (w := W) (p := ⟨w.heap.size, 1, none⟩) (v := .slice A1_1 l1_1.length c1_1) (by subst hW; go_simp)
 have HB : Below w.heap.size w W := by subst hW; exact zB
 have HW := Below.refl W.heap.size W
 have hb := aM HB
 have rg_ := @bcl w
 have rd_ := @bdr w
 have rG_ := @bcl W
 have rD_ := @bdr W
 unfold impl_isFact.f at h
 replace h := bs h; obtain ⟨t438, B0, h⟩ := h
 replace h := ib h; rcases h with ⟨rfl, h⟩ | ⟨rfl, h⟩
 replace h := ie h; rcases h with ⟨c2, c2a, h⟩ | ⟨c2, c2a, h⟩
 replace h := il h; rcases h with ⟨c3, c3a, h⟩ | ⟨c3, c3a, h⟩
 replace h := iq h; rcases h with ⟨c4, ⟨c4a, c4b⟩, h⟩ | ⟨c4, ⟨c4a, c4b⟩, h⟩
 replace h := bs h; obtain ⟨t440, B5, h⟩ := h
 obtain rfl := si h
 obtain ⟨ad439, e439, hx439_0, hx439_1, hx439_2⟩ := at_T68 hr0 (a1_0 : Int) aD aD
 have p439 := eq_true (aD : 0 ≤ (a1_0 : Int))
 have q439 := eq_true (aD : a1_0 < (l0.length : Int))
 cases e439
 replace hx439_0 := qa hx439_0
 replace hx439_1 := qa hx439_1
 replace hx439_2 := qa hx439_2
 rotate_left
 obtain rfl := si h
 obtain ⟨ad439, e439, hx439_0, hx439_1, hx439_2⟩ := at_T68 hr0 (a1_0 : Int) aD aD
 have p439 := eq_true (aD : 0 ≤ (a1_0 : Int))
 have q439 := eq_true (aD : a1_0 < (l0.length : Int))
 cases e439
 replace hx439_0 := qa hx439_0
 replace hx439_1 := qa hx439_1
 replace hx439_2 := qa hx439_2
 rotate_left
 exact absurd h (by simp)
 exact absurd h (by simp)
 obtain rfl := si h
 rotate_left
 all_goals (go_enter Tryd.func77, Tryd.ntmps77; go_wp2; (repeat ((refine nw (w0 := w) zB ?_; intro W1 HB hb hd; have HW : Below W.heap.size W W1 := zB; (first | (refine Txt.rg (id := 1) [0, 1, 2, 3, 4, 5, 6, 7, 8, 9, 10, 11, 12, 13, 14, 15, 16, 17, 18, 19, 20, 21, 22, 23] (by kernel_rfl) (by kernel_rfl) ?_; simp only [List.map_cons, List.map_nil, List.getD_cons_zero, List.getD_cons_succ])); (repeat (first | (refine Txt.off rfl ?_; simp only [Act.put, List.setIfInBounds_toArray, List.set_cons_zero, List.set_cons_succ]) | (refine Txt.take rfl rfl ?_; intro K hK; go_big_quiet_op; go_big_quiet_on) | (refine Txt.call rfl rfl Tryd.func100 (by kernel_rfl) rfl (impl_within.calls _ _ _ ?_ _ ?h) rfl ?_; (case h => exact zA); rintro e w1 ⟨rfl, hb⟩; replace hb := hb.below; replace hb := aM hb; have HW : Below W.heap.size W w1 := zB; have HB : Below w.heap.size w w1 := zB; refine ⟨_, rfl, zS, ?_⟩; simp only [Act.put, List.setIfInBounds_toArray, List.set_cons_zero, List.set_cons_succ]) | (refine Txt.call rfl rfl Tryd.func101 (by kernel_rfl) rfl (impl_areValues.calls _ _ _ ?_ _ ?_ ?_ ?h) rfl ?_; (case h => exact zA); (iterate 2 (first | exact zC | exact zA)); rintro e w1 ⟨rfl, hb⟩; replace hb := aM hb; have HW : Below W.heap.size W w1 := zB; have HB : Below w.heap.size w w1 := zB; refine ⟨_, rfl, zS, ?_⟩; simp only [Act.put, List.setIfInBounds_toArray, List.set_cons_zero, List.set_cons_succ]))); refine Txt.nil ?_); (try go_wp2))); go_ret; exact zE zB)

end Go.Proofs.YtckpikfbhlhhjaaDoor.PFnSelectFacts
