-- Laid by a program of this claim: what the functions come to, some of them proved by hand.
import Derived.Test.YtbdeimhlohhhiaaPFnExtendToRepairx0
import Derived.Test.YtbdeimhlohhhiaaPFnExtendToRepairx1
import Derived.Test.YtbdeimhlohhhiaaPFnExtendToRepairx5
import Derived.Test.YtbdeimhlohhhiaaPFnExtendToRepairx9
import Derived.Test.YtbdeimhlohhhiaaPFnExtendToRepairx10
import Derived.Test.YtbdeimhlohhhiaaPFnExtendToRepairx12
namespace Go.Proofs.Ytbdeimhlohhhiaa.PFnExtendToRepair
open Go.RowKit Go.Proofs.YtbdeimhlohhhiaaW.PrintWords Go.Proofs.YtbdeimhlohhhiaaW.PrintLast Go.Proofs.YtbdeimhlohhhiaaW.PrintMore
attribute [local go_sem] max2_int min2_int max_two min_two max_three min_three max_four min_four   -- for this text's walks alone
set_option linter.unusedVariables false
set_option linter.unusedSimpArgs false

theorem own_ne_len {A : Option Addr} {n m c c1 : Nat} {x : Nat} (h : some x ≠ (Value.slice A n c).ownBlock) : some x ≠ (Value.slice A m c1).ownBlock := by
 cases A <;> exact h

/-! ### spec_l4Places: function 89 -/
def spec_l4Places.l0 : Nat → List Int → Int → List Int → Int → Int → List (S70) → List (S35) → Option (List Int × Int × Int)
 | 0, _, _, _, _, _, _, _ => none
 | k + 1, x5, x6, x1000, x1001, x1002, x459000, x459001 => if x6 < (x459001.length : Int) then ((spec_l1Once.f x1000 x1001 x1002 2).bind fun bt462 => (if bt462.1 = true then (if x5.length < 17592186044416 then (spec_l4Places.l0 k (x5 ++ [x6]) (wrap64 (x6 + 1)) x1000 bt462.2.1 bt462.2.2 x459000 x459001) else (none)) else (spec_l4Places.l0 k x5 (wrap64 (x6 + 1)) x1000 bt462.2.1 bt462.2.2 x459000 x459001))) else (if (x5.length : Int) > 0 then ((spec_l1Once.f x1000 x1001 x1002 12).bind fun bt468 => (if bt468.1 = true then ((spec_l1PickInt.f x1000 bt468.2.1 bt468.2.2 (([(-1), (x459001.length : Int), 3] : List Int))).bind fun bt474 => (if 0 < (x5.length : Int) then (some ((x5.set (0 : Int).toNat bt474.1), bt474.2.1, bt474.2.2)) else (none))) else (some (x5, bt468.2.1, bt468.2.2)))) else (some (x5, x1001, x1002)))
def spec_l4Places.f (k : Nat) (s0_0 : List Int) (s0_1 : Int) (s0_2 : Int) (l1_0 : List (S70)) (l1_1 : List (S35)) : Option (List Int × Int × Int) := spec_l4Places.l0 k (([] : List Int)) 0 s0_0 s0_1 s0_2 l1_0 l1_1
set_option maxHeartbeats 8000000 in
set_option maxRecDepth 100000 in
theorem spec_l4Places.calls (k : Nat) (g : Nat) (s0_0 : List Int) (s0_1 : Int) (s0_2 : Int) (A1_0 : Option Addr) (c1_0 : Nat) (l1_0 : List (S70)) (A1_1 : Option Addr) (c1_1 : Nat) (l1_1 : List (S35)) (r1 : List Int) (r2 : Int) (r3 : Int) (w0 w : World) (hI : IsS83 w0 w g s0_0 s0_1 s0_2) (hB : Below w0.heap.size w0 w) (hr1_0 : ∀ W_, KeepBut w W_ g none → Kd.C k70 W_ A1_0 l1_0.length l1_0) (hc1_0 : l1_0.length ≤ c1_0) (hr1_1 : ∀ W_, KeepBut w W_ g none → Kd.C k35 W_ A1_1 l1_1.length l1_1) (hc1_1 : l1_1.length ≤ c1_1) (h : spec_l4Places.f k s0_0 s0_1 s0_2 l1_0 l1_1 = some (r1, r2, r3)) :
  Calls Try.prog 89 #[.pointer (some ⟨g, 0, none⟩), .agg #[.slice A1_0 l1_0.length c1_0, .slice A1_1 l1_1.length c1_1]] w fun e w' => ∃ v0_ : Value, e = .returned (v0_) ∧ Kd.R (Kd.int .i64) 3 w' w.heap.size (fun _ => True) v0_ r1 ∧ IsS83 w0 w' g s0_0 r2 r3 ∧ Below w0.heap.size w0 w' ∧ KeepBut w w' g none := by
 have hu27 := Try.underlying27
 have HR1_0 := aM hr1_0
 have HC1_0 := aM hc1_0
 clear hr1_0 hc1_0
 have HR1_1 := aM hr1_1
 have HC1_1 := aM hc1_1
 clear hr1_1 hc1_1
 have HI0 := aM hI
 have HK := aM (KeepBut.refl w g none)
 have HL := aM hB.size
 clear hI
 have HW0 := aM hB.size
 have HB := aM hB
 clear hB
 have H : (spec_l4Places.l0 k (([] : List Int)) 0 s0_0 s0_1 s0_2 l1_0 l1_1) = some (r1, r2, r3) := h
 clear h
 obtain ⟨y459, hy459⟩ : ∃ y_ : List Int, y_ = (([] : List Int)) := ⟨_, rfl⟩
 first | replace H := bY hy459 H | rw [← hy459] at H
 have Ny459 := aM hy459
 clear hy459
 have H' := aM H
 clear H
 go_enter Try.func89, Try.ntmps89
 go_wp2_with (first | ((with_reducible refine gate_dst (N := 3) rfl ?_); refine bE 3 (cs := #[.slice A1_0 l1_0.length c1_0, .slice A1_1 l1_1.length c1_1]) (t := 27) ?_; intro gb458 hg w3 hbox hb; have BK458 := aM (hbox); have GW458 := aM ((by rw [hg]; exact (kS (w := w) (g := g)) : w.heap.size ≤ gb458)); have GE458 := aM ((Nat.le_trans HW0.out (by rw [hg]; exact (kS (w := w) (g := g)) : w.heap.size ≤ gb458) : w0.heap.size ≤ gb458)); have NB0_458 := aM ((by rw [hg]; exact Nat.ne_of_lt (IsS83.lt (show IsS83 w0 _ g s0_0 s0_1 s0_2 from aZ)) : g ≠ gb458)); have NB458_0 := aM ((by rw [hg]; exact Nat.ne_of_gt (IsS83.lt (show IsS83 w0 _ g s0_0 s0_1 s0_2 from aZ)) : gb458 ≠ g)); replace HK := aM (KeepBut.trans aQ (KeepBut.of_below hb g none) (.inl rfl)); replace HB := aM (below_step aY hb); replace HI0 := aM (IsS83.below aZ hb); clear hb hbox hg) | ((with_reducible refine gate_dst (N := 7) rfl ?_); refine Kd.R_lit (Kd.int .i64) _ 3 ?hg (N := 7) ?hd (xs := ([] : List Int)) (inner := []) (ok := fun _ => True) (okp := fun _ => True) ?hr ?hp (fun _ hk => hk) trivial (Below.refl _ _) (Nat.le_refl _) (by simp) ?_; (case hd => rfl); (case hg => rfl); (case hr => first | (go_simp; done) | (go_simp; rfl)); (case hp => exact (Reps.none _ _)); intro v460 w4 ho5 hb hg_ hnew_; clear hg_ hnew_; (first | rw [← Ny459.out] at ho5 | (simp only [Int.reduceToNat] at ho5; rw [← Ny459.out] at ho5)); have HO461 := aM (Kd.R_lower ho5 (kS (w := w) (g := g))); replace BK458 := aM (blk_below (g := gb458) (o := .cells #[.slice A1_0 l1_0.length c1_0, .slice A1_1 l1_1.length c1_1] 27 (0, 0)) aK hb); replace HK := aM (KeepBut.trans aQ (KeepBut.of_below hb g none) (.inl rfl)); replace HB := aM (below_step aY hb); replace HI0 := aM (IsS83.below aZ hb); clear hb ho5))
 go_loopg [5, 6] k (fun kq v5 v6 w' => ∃ (x5_1 : List Int) (x6_1 : Int) (x1001_1 : Int) (x1002_1 : Int), v6 = .int .i64 x6_1 ∧ Aside0 (spec_l4Places.l0 kq x5_1 x6_1 s0_0 x1001_1 x1002_1 l1_0 l1_1 = some (r1, r2, r3)) ∧ Aside0 (kq ≤ k) ∧ Aside0 (Kd.R (Kd.int .i64) 3 w' w.heap.size (fun _ => True) v5 x5_1) ∧ Aside0 (w'.heap[gb458]? = some (.cells #[(.slice A1_0 l1_0.length c1_0), (.slice A1_1 l1_1.length c1_1)] 27 (0, 0))) ∧ Aside0 (IsS83 w0 w' g s0_0 x1001_1 x1002_1) ∧ Aside0 (KeepBut w w' g none) ∧ Aside0 (Below w0.heap.size w0 w'))
 case atStart => exact ⟨(y459), (0), (s0_1), (s0_2), aX, H', ⟨Nat.le_refl _⟩, ⟨aR HO461⟩, ⟨aK⟩, ⟨aZ⟩, ⟨aQ⟩, ⟨aY⟩⟩
 case round =>
  clear H'
  try clear c1
  try clear p2
  obtain ⟨x5_1, x6_1, x1001_1, x1002_1, rfl, HA, HK1, HO_5, BK458, HI0, HK, HB⟩ := hrel
  cases gk with
  | zero => exact absurd HA.out (by simp [spec_l4Places.l0])
  | succ k1 =>
   have H := HA.out
   clear HA
   simp only [spec_l4Places.l0] at H
   by_cases c6 : x6_1 < (l1_1.length : Int)
   ·rw [if_pos c6] at H
    have c6b0 : decide (x6_1 < (l1_1.length : Int)) = true := decide_eq_true c6
    clear c6
    replace H := bM H
    obtain ⟨⟨t462, t463, t464⟩, A70, H⟩ := H
    dsimp only at H
    have A7 := aM A70
    clear A70
    by_cases c8 : t462 = true
    ·subst c8
     replace H := iT H
     by_cases c9 : x5_1.length < 17592186044416
     ·rw [if_pos c9] at H
      have LMc9 := aM c9
      clear c9
      obtain ⟨y465, hy465⟩ : ∃ y_ : List Int, y_ = (x5_1 ++ [x6_1]) := ⟨_, rfl⟩
      first | replace H := bY hy465 H | rw [← hy465] at H
      have Ny465 := aM hy465
      clear hy465
      have H' := aM H
      clear H
      have hnb10 := NB458_0.out
      have hnc10 := NB0_458.out
      have hcz11_0 : wr.cell? ⟨gb458, 0, none⟩ = some (.slice A1_0 l1_0.length c1_0) := (blk_cell BK458.out 0).trans rfl
      have hcz11_1 : wr.cell? ⟨gb458, 1, none⟩ = some (.slice A1_1 l1_1.length c1_1) := (blk_cell BK458.out 1).trans rfl
      have hfz11_0 := blk_frozen BK458.out 0
      have hfz11_1 := blk_frozen BK458.out 1
      go_wp2_with (first | ((with_reducible refine gate_callee (f := 88) rfl ?_); refine goesL_ (some 16) rfl rfl Try.func88 (by kernel_rfl) rfl #[.pointer (some ⟨g, 0, none⟩), .int .i64 2] rfl aA ?_; (with_reducible refine (spec_l1Once.calls g s0_0 x1001_1 x1002_1 2 true t463 t464 w0 _ ?side1 ?side2 A7.out).mono ?_); (case side1 => exact aZ); (case side2 => exact aY); rintro e w12 ⟨rfl, hi, hb, hk⟩; refine ⟨_, rfl, ?_⟩; replace HO_5 := aM (Kd.R_mono (Kd.R_keep (IsS83.apart (show IsS83 w0 _ g s0_0 x1001_1 x1002_1 from aZ) (aR HO_5) (by decide)) hk (fun _ h => h.2)) (fun _ h => h.1)); replace BK458 := aM (KeepBut.blk hk (g' := gb458) (o := .cells #[.slice A1_0 l1_0.length c1_0, .slice A1_1 l1_1.length c1_1] 27 (0, 0)) aK NB458_0.out (by simp)); replace HK := aM (KeepBut.trans aQ hk (.inl rfl)); replace HB := aM (hb); replace HI0 := aM (hi); (try clear hb); (try clear hb2); (try clear hk); (try clear hi)) | ((with_reducible refine gate_builtin (b := .append) (xs := #[.tmp 17, .tmp 19]) rfl ?_); at_builtin; refine Kd.R_append (Kd.int .i64) w.heap.size rfl (.tmp 17) (.tmp 19) 32 3 (.int .i64 0) 8 rfl Try.underlying32 info3 rfl (by decide) (by omega) u5 x5_1 x6_1 [.int .i64 x6_1] (fun _ => True) (fun _ => False) rfl rfl ?aP (fun _ hk => hk.elim) ?aF ?aO (Below.refl _ _) ?aS ?aL ?_; (case aP => exact rfl); (case aF => exact (fun _ _ => trivial)); (case aO => exact (aR HO_5)); (case aS => exact (kS (w := w) (g := g))); (case aL => have := LMc9.out; omega); intro v466 w13 ho hb hg hat; rw [← Ny465.out] at ho; have HO467 := aM (ho); replace BK458 := aM (blk_grown (g := gb458) (o := .cells #[.slice A1_0 l1_0.length c1_0, .slice A1_1 l1_1.length c1_1] 27 (0, 0)) aK hg (Kd.R_ne HO_5.out BK458.out (by decide))); replace HB := aM (below_weaken aY HL.out hb); replace HI0 := aM (IsS83.grown aZ hg (IsS83.own_ne HI0.out HO_5.out (by decide))); replace HK := aM (KeepBut.trans aQ (KeepBut.of_grown hg g) (Kd.R_base2 HO_5.out)); clear HO_5; clear ho hb hg hat))
      go_roundg k1
      case measure => have := HK1.out; omega
      case rel => exact ⟨(y465), (wrap64 (x6_1 + 1)), (t463), (t464), aX, H', ⟨by have := HK1.out; omega⟩, ⟨aR HO467⟩, ⟨aK⟩, ⟨aZ⟩, ⟨aQ⟩, ⟨aY⟩⟩
     ·rw [if_neg c9] at H
      exact absurd H (by simp)
    ·replace c8 := Bool.eq_false_iff.mpr c8
     subst c8
     have H1 : (spec_l4Places.l0 k1 x5_1 (wrap64 (x6_1 + 1)) s0_0 t463 t464 l1_0 l1_1) = some (r1, r2, r3) := by rw [if_neg (show ¬ (false = true) by decide)] at H; exact H
     clear H
     have H := H1
     clear H1
     have H' := aM H
     clear H
     have hnb14 := NB458_0.out
     have hnc14 := NB0_458.out
     have hcz15_0 : wr.cell? ⟨gb458, 0, none⟩ = some (.slice A1_0 l1_0.length c1_0) := (blk_cell BK458.out 0).trans rfl
     have hcz15_1 : wr.cell? ⟨gb458, 1, none⟩ = some (.slice A1_1 l1_1.length c1_1) := (blk_cell BK458.out 1).trans rfl
     have hfz15_0 := blk_frozen BK458.out 0
     have hfz15_1 := blk_frozen BK458.out 1
     go_wp2_with (first | ((with_reducible refine gate_callee (f := 88) rfl ?_); refine goesL_ (some 16) rfl rfl Try.func88 (by kernel_rfl) rfl #[.pointer (some ⟨g, 0, none⟩), .int .i64 2] rfl aA ?_; (with_reducible refine (spec_l1Once.calls g s0_0 x1001_1 x1002_1 2 false t463 t464 w0 _ ?side1 ?side2 A7.out).mono ?_); (case side1 => exact aZ); (case side2 => exact aY); rintro e w16 ⟨rfl, hi, hb, hk⟩; refine ⟨_, rfl, ?_⟩; replace HO_5 := aM (Kd.R_mono (Kd.R_keep (IsS83.apart (show IsS83 w0 _ g s0_0 x1001_1 x1002_1 from aZ) (aR HO_5) (by decide)) hk (fun _ h => h.2)) (fun _ h => h.1)); replace BK458 := aM (KeepBut.blk hk (g' := gb458) (o := .cells #[.slice A1_0 l1_0.length c1_0, .slice A1_1 l1_1.length c1_1] 27 (0, 0)) aK NB458_0.out (by simp)); replace HK := aM (KeepBut.trans aQ hk (.inl rfl)); replace HB := aM (hb); replace HI0 := aM (hi); (try clear hb); (try clear hb2); (try clear hk); (try clear hi)))
     go_roundg k1
     case measure => have := HK1.out; omega
     case rel => exact ⟨(x5_1), (wrap64 (x6_1 + 1)), (t463), (t464), aX, H', ⟨by have := HK1.out; omega⟩, ⟨aR HO_5⟩, ⟨aK⟩, ⟨aZ⟩, ⟨aQ⟩, ⟨aY⟩⟩
   ·rw [if_neg c6] at H
    have c6b0 : decide (x6_1 < (l1_1.length : Int)) = false := decide_eq_false c6
    clear c6
    by_cases c17 : (x5_1.length : Int) > 0
    ·rw [if_pos c17] at H
     have c17b0 : decide (0 < (x5_1.length : Int)) = true := decide_eq_true c17
     have c17b1 : decide (0 < x5_1.length) = true := decide_eq_true (by omega)
     clear c17
     replace H := bM H
     obtain ⟨⟨t468, t469, t470⟩, A180, H⟩ := H
     dsimp only at H
     have A18 := aM A180
     clear A180
     by_cases c19 : t468 = true
     ·subst c19
      replace H := iT H
      obtain ⟨y471, hy471⟩ : ∃ y_ : List Int, y_ = (([(-1), (l1_1.length : Int), 3] : List Int)) := ⟨_, rfl⟩
      first | replace H := bY hy471 H | rw [← hy471] at H
      have Ny471 := aM hy471
      clear hy471
      replace H := bM H
      obtain ⟨⟨t474, t475, t476⟩, A200, H⟩ := H
      dsimp only at H
      have A20 := aM A200
      clear A200
      by_cases c21 : 0 < (x5_1.length : Int)
      ·rw [if_pos c21] at H
       have c21b0 : decide (0 < (x5_1.length : Int)) = true := decide_eq_true c21
       have c21b1 : decide (0 < x5_1.length) = true := decide_eq_true (by omega)
       clear c21
       obtain ⟨y477, hy477⟩ : ∃ y_ : List Int, y_ = (x5_1.set (0 : Int).toNat t474) := ⟨_, rfl⟩
       first | replace H := bY hy477 H | rw [← hy477] at H
       have Ny477 := aM hy477
       clear hy477
       simp only [Option.some.injEq, Prod.mk.injEq] at H
       obtain ⟨rfl, rfl, rfl⟩ := H
       have hnb23 := NB458_0.out
       have hnc23 := NB0_458.out
       have hcz24_0 : wr.cell? ⟨gb458, 0, none⟩ = some (.slice A1_0 l1_0.length c1_0) := (blk_cell BK458.out 0).trans rfl
       have hcz24_1 : wr.cell? ⟨gb458, 1, none⟩ = some (.slice A1_1 l1_1.length c1_1) := (blk_cell BK458.out 1).trans rfl
       have hfz24_0 := blk_frozen BK458.out 0
       have hfz24_1 := blk_frozen BK458.out 1
       obtain ⟨Ao25, co25, eo25⟩ := Kd.R_slice HO_5.out
       subst eo25
       go_wp2_with (first | (go_at_call 88; (with_reducible refine (spec_l1Once.calls g s0_0 x1001_1 x1002_1 12 true t469 t470 w0 _ ?side1 ?side2 A18.out).mono ?_); (case side1 => exact aZ); (case side2 => exact aY); rintro e w26 ⟨rfl, hi, hb, hk⟩; replace HO_5 := aM (Kd.R_mono (Kd.R_keep (IsS83.apart (show IsS83 w0 _ g s0_0 x1001_1 x1002_1 from aZ) (aR HO_5) (by decide)) hk (fun _ h => h.2)) (fun _ h => h.1)); replace BK458 := aM (KeepBut.blk hk (g' := gb458) (o := .cells #[.slice A1_0 l1_0.length c1_0, .slice A1_1 l1_1.length c1_1] 27 (0, 0)) aK NB458_0.out (by simp)); replace HK := aM (KeepBut.trans aQ hk (.inl rfl)); replace HB := aM (hb); replace HI0 := aM (hi); (try clear hb); (try clear hb2); (try clear hk); (try clear hi); have hcz27_0 : w26.cell? ⟨gb458, 0, none⟩ = some (.slice A1_0 l1_0.length c1_0) := (blk_cell BK458.out 0).trans rfl; have hcz27_1 : w26.cell? ⟨gb458, 1, none⟩ = some (.slice A1_1 l1_1.length c1_1) := (blk_cell BK458.out 1).trans rfl; have hfz27_0 := blk_frozen BK458.out 0; have hfz27_1 := blk_frozen BK458.out 1) | ((with_reducible refine gate_dst (N := 33) rfl ?_); refine Kd.R_lit (Kd.int .i64) _ 3 ?hg (N := 33) ?hd (xs := ([(-1), (l1_1.length : Int), 3] : List Int)) (inner := [.int .i64 (-1), .int .i64 (l1_1.length : Int), .int .i64 3]) (ok := fun _ => True) (okp := fun _ => True) ?hr ?hp (fun _ hk => hk) trivial (Below.refl _ _) (Nat.le_refl _) (by simp) ?_; (case hd => rfl); (case hg => rfl); (case hr => first | (go_simp; done) | (go_simp; rfl) | (obtain ⟨A_, c_, e_⟩ := Kd.R_slice HO_5.out; subst e_; first | (go_simp; done) | (go_simp; rfl)) | (obtain ⟨A_, c_, e_⟩ := Kd.R_slice HO473.out; subst e_; first | (go_simp; done) | (go_simp; rfl))); (case hp => exact (Reps.one (show Kd.M (Kd.int .i64) _ _ _ (-1) [.int .i64 (-1)] from rfl) (Reps.one (show Kd.M (Kd.int .i64) _ _ _ (l1_1.length : Int) [.int .i64 (l1_1.length : Int)] from rfl) (Reps.one (show Kd.M (Kd.int .i64) _ _ _ 3 [.int .i64 3] from rfl) (Reps.none _ _))))); intro v472 w28 ho29 hb hg_ hnew_; clear hg_ hnew_; (first | rw [← Ny471.out] at ho29 | (simp only [Int.reduceToNat] at ho29; rw [← Ny471.out] at ho29)); have HO473 := aM (Kd.R_lower (Kd.R_new' ho29 (Kd.R_lt (aR HO_5))) (kS (w := w) (g := g))); replace HO_5 := aM (Kd.R_elder' (aR HO_5) (Kd.R_base ho29) hb); replace BK458 := aM (blk_below (g := gb458) (o := .cells #[.slice A1_0 l1_0.length c1_0, .slice A1_1 l1_1.length c1_1] 27 (0, 0)) aK hb); replace HK := aM (KeepBut.trans aQ (KeepBut.of_below hb g none) (.inl rfl)); replace HB := aM (below_step aY hb); replace HI0 := aM (IsS83.below aZ hb); clear hb ho29; obtain ⟨Ao30, co30, eo30⟩ := Kd.R_slice HO473.out; subst eo30) | ((with_reducible refine gate_callee (f := 94) rfl ?_); refine goesL_ (some 34) rfl rfl Try.func94 (by kernel_rfl) rfl #[.pointer (some ⟨g, 0, none⟩), .slice Ao30 y471.length co30] rfl aA ?_; (with_reducible refine (spec_l1PickInt.calls g s0_0 t469 t470 _ _ y471 t474 t475 t476 w0 _ ?side1 ?side2 ?side3 ?side4 ?side5 A20.out).mono ?_); (case side1 => exact aZ); (case side2 => exact aY); (case side3 => repeat (first | exact (Kd.R_reads' HO473.out).2.2 | (with_reducible refine Kd.C_alloc ?_ _) | (with_reducible refine Kd.C_drewN ?_ _) | (with_reducible refine Kd.C_drew ?_))); (case side4 => exact (Kd.R_reads' HO473.out).2.1); (case side5 => exact far_slice (IsS83.own_ne HI0.out HO473.out (by decide))); rintro e w31 ⟨rfl, hi, hb, hk⟩; refine ⟨_, rfl, ?_⟩; replace HO_5 := aM (Kd.R_mono (Kd.R_keep (IsS83.apart (show IsS83 w0 _ g s0_0 t469 t470 from aZ) (aR HO_5) (by decide)) hk (fun _ h => h.2)) (fun _ h => h.1)); replace BK458 := aM (KeepBut.blk hk (g' := gb458) (o := .cells #[.slice A1_0 l1_0.length c1_0, .slice A1_1 l1_1.length c1_1] 27 (0, 0)) aK NB458_0.out (by simp)); replace HO473 := aM (Kd.R_mono (Kd.R_keep (IsS83.apart (show IsS83 w0 _ g s0_0 t469 t470 from aZ) (aR HO473) (by decide)) hk (fun _ h => h.2)) (fun _ h => h.1)); replace HK := aM (KeepBut.trans aQ hk (.inl rfl)); replace HB := aM (hb); replace HI0 := aM (hi); (try clear hb); (try clear hb2); (try clear hk); (try clear hi); have p22 : 0 ≤ (0 : Int) := (by omega); have q22 : (0 : Int) < ((x5_1.length : Int) : Int) := aD; have qi22 : (0 < x5_1.length) = True := eq_true (by omega); obtain ⟨go22, co22, eo22, gb22, gl22, cl22, HG22⟩ := Kd.R_form HO_5.out (by omega); (first | cases eo22 | (injection eo22 with ea_ en_ ec_; (first | subst ea_ | (injection ea_ with ea_; subst ea_)); subst ec_; clear en_)); have GB22 := aM gb22; have GG22 := aM HG22; clear gb22 gl22 HG22; obtain ⟨hx22_0, hf22_0⟩ := Kd.R_celln 0 HO_5.out (0 : Int) p22 q22; (try rw [show ((0 : Int)).toNat = 0 from rfl] at hx22_0); (try simp only [Nat.reduceMul, Nat.zero_mul, Nat.zero_add, Nat.reduceAdd] at hx22_0); (try rw [show ((0 : Int)).toNat = 0 from rfl] at hf22_0); (try simp only [Nat.reduceMul, Nat.zero_mul, Nat.zero_add, Nat.reduceAdd] at hf22_0); replace p22 := eq_true p22; replace q22 := eq_true q22; have n_ := aM (Kd.R_mono (ok' := (fun k_ => some k_ ≠ (.slice Ao30 y471.length co30 : Value).ownBlock)) HO_5.out (fun k_ hk => hk.2)); clear HO_5; have HO_5 := n_; clear n_; obtain ⟨hy32_, hz32_⟩ := Kd.R_celln 0 HO_5.out (0 : Int) (by omega) (aD); (try simp only [Int.reduceToNat, Int.toNat_zero, Int.toNat_ofNat, Nat.reduceMul, Nat.zero_mul, Nat.zero_add] at hy32_ hz32_); (try rw [show ((0 : Int)).toNat = 0 from rfl] at hy32_); (try rw [show ((0 : Int)).toNat = 0 from rfl] at hz32_); have HP32 := Kd.R_putg HO_5.out (0 : Int) t474) | ((with_reducible refine gate_store (t := 3) (p := 35) rfl ?_); refine store_event (t := 3) (p := 35) (v := ?vo_w33) (w1 := (w31.setCell ⟨go22, (0 : Int).toNat, none⟩ (.int .i64 t474))) ?hg ?ho ?hn ?hr ?_; (case ho => rfl); (case hg => rfl); (case hn => rfl); (case hr => first | (go_simp; done) | (go_simp; rfl) | (obtain ⟨A_, c_, e_⟩ := Kd.R_slice HO_5.out; subst e_; first | (go_simp; done) | (go_simp; rfl)) | (obtain ⟨A_, c_, e_⟩ := Kd.R_slice HO473.out; subst e_; first | (go_simp; done) | (go_simp; rfl))); intro w33 hw; have hg : w31.grownBy w33 (some go22) := (by rw [hw]; exact HP32.2); have hp_ : Kd.R (Kd.int .i64) 3 w33 w.heap.size (fun k_ => some k_ ≠ (.slice Ao30 y471.length co30 : Value).ownBlock) (.slice (some ⟨go22, 0, none⟩) x5_1.length co25) y477 := (by rw [hw, Ny477.out]; exact HP32.1); clear HP32; replace BK458 := aM (blk_grown (g := gb458) (o := .cells #[.slice A1_0 l1_0.length c1_0, .slice A1_1 l1_1.length c1_1] 27 (0, 0)) aK hg (Kd.R_ne HO_5.out BK458.out (by decide))); replace HI0 := aM (IsS83.grown aZ hg (IsS83.own_ne HI0.out HO_5.out (by decide))); replace HO473 := aM (Kd.R_after (v := (.slice (some ⟨go22, 0, none⟩) x5_1.length co25)) (v1 := (.slice (some ⟨go22, 0, none⟩) x5_1.length co25)) (ok := (fun _ => True)) (aR HO473) hg (.inl rfl)); replace HB := aM ((by rw [hw]; exact below_set (HB.out) (Nat.le_trans HL.out GB22.out) : Below w0.heap.size w0 w33)); replace HK := aM (KeepBut.trans aQ (KeepBut.of_grown hg g) (Kd.R_base2 HO_5.out)); replace HO_5 := aM (hp_); clear hg hw hp_))
       go_ret
       exact ⟨_, aE, by (with_reducible repeat apply pR); exact Kd.R_mono HO_5.out (fun _ hk => trivial), aZ, aY, aQ⟩
      ·rw [if_neg c21] at H
       exact absurd H (by simp)
     ·replace c19 := Bool.eq_false_iff.mpr c19
      subst c19
      have H1 : (some (x5_1, t469, t470)) = some (r1, r2, r3) := by rw [if_neg (show ¬ (false = true) by decide)] at H; exact H
      clear H
      have H := H1
      clear H1
      simp only [Option.some.injEq, Prod.mk.injEq] at H
      obtain ⟨rfl, rfl, rfl⟩ := H
      have hnb34 := NB458_0.out
      have hnc34 := NB0_458.out
      have hcz35_0 : wr.cell? ⟨gb458, 0, none⟩ = some (.slice A1_0 l1_0.length c1_0) := (blk_cell BK458.out 0).trans rfl
      have hcz35_1 : wr.cell? ⟨gb458, 1, none⟩ = some (.slice A1_1 l1_1.length c1_1) := (blk_cell BK458.out 1).trans rfl
      have hfz35_0 := blk_frozen BK458.out 0
      have hfz35_1 := blk_frozen BK458.out 1
      obtain ⟨Ao36, co36, eo36⟩ := Kd.R_slice HO_5.out
      subst eo36
      go_wp2_with (first | (go_at_call 88; (with_reducible refine (spec_l1Once.calls g s0_0 x1001_1 x1002_1 12 false t469 t470 w0 _ ?side1 ?side2 A18.out).mono ?_); (case side1 => exact aZ); (case side2 => exact aY); rintro e w37 ⟨rfl, hi, hb, hk⟩; replace HO_5 := aM (Kd.R_mono (Kd.R_keep (IsS83.apart (show IsS83 w0 _ g s0_0 x1001_1 x1002_1 from aZ) (aR HO_5) (by decide)) hk (fun _ h => h.2)) (fun _ h => h.1)); replace BK458 := aM (KeepBut.blk hk (g' := gb458) (o := .cells #[.slice A1_0 l1_0.length c1_0, .slice A1_1 l1_1.length c1_1] 27 (0, 0)) aK NB458_0.out (by simp)); replace HK := aM (KeepBut.trans aQ hk (.inl rfl)); replace HB := aM (hb); replace HI0 := aM (hi); (try clear hb); (try clear hb2); (try clear hk); (try clear hi)))
      go_ret
      exact ⟨_, aE, aR HO_5, aZ, aY, aQ⟩
    ·rw [if_neg c17] at H
     have c17b0 : decide (0 < (x5_1.length : Int)) = false := decide_eq_false c17
     have c17b1 : decide (0 < x5_1.length) = false := decide_eq_false (by omega)
     clear c17
     simp only [Option.some.injEq, Prod.mk.injEq] at H
     obtain ⟨rfl, rfl, rfl⟩ := H
     have hnb38 := NB458_0.out
     have hnc38 := NB0_458.out
     have hcz39_0 : wr.cell? ⟨gb458, 0, none⟩ = some (.slice A1_0 l1_0.length c1_0) := (blk_cell BK458.out 0).trans rfl
     have hcz39_1 : wr.cell? ⟨gb458, 1, none⟩ = some (.slice A1_1 l1_1.length c1_1) := (blk_cell BK458.out 1).trans rfl
     have hfz39_0 := blk_frozen BK458.out 0
     have hfz39_1 := blk_frozen BK458.out 1
     obtain ⟨Ao40, co40, eo40⟩ := Kd.R_slice HO_5.out
     subst eo40
     go_wp2
     go_ret
     exact ⟨_, aE, aR HO_5, aZ, aY, aQ⟩

/-! ### spec_DrawIsPartialRepair: function 63 -/
def spec_DrawIsPartialRepair.f (k : Nat) (l0 : List Int) : Option ((List (S70)) × (List (S35)) × List Int) := (spec_l1New.f k l0).bind fun bt479 => ((spec_l4Any.f k bt479.1 bt479.2.1 bt479.2.2).bind fun bt483 => ((spec_l5Repair.f k bt479.1 bt483.2.2.1 bt483.2.2.2 bt483.1 bt483.2.1).bind fun bt492 => ((spec_l1Once.f bt479.1 bt492.2.1 bt492.2.2 2).bind fun bt497 => (if bt497.1 = true then ((spec_l1Below.f bt479.1 bt497.2.1 bt497.2.2 (wrap64 ((bt492.1.length : Int) + 1))).bind fun bt500 => (if 0 ≤ bt500.1 then (if bt500.1 ≤ (bt492.1.length : Int) then (some (bt483.1, bt483.2.1, (bt492.1.take (bt500.1 : Int).toNat))) else (none)) else (none))) else ((spec_l4Places.f k bt479.1 bt497.2.1 bt497.2.2 bt483.1 bt483.2.1).bind fun bt506 => (some (bt483.1, bt483.2.1, bt506.1)))))))
def spec_DrawIsPartialRepair.T5 : Bool × List (List Nat × List Nat) := (true, [([], []), ([], []), ([], []), ([], []), ([3], [3]), ([4], [4]), ([2, 5], [2, 5]), ([1, 6], [1, 6]), ([0, 6, 0], [0]), ([7, 8, 0, 1, 2, 3, 4, 5, 6, 7, 8], [7])])
def spec_DrawIsPartialRepair.B5 : List Nat := [0, 0, 0, 0, 8, 24, 60, 126, 125, 511]
theorem spec_DrawIsPartialRepair.tab5 : rtab .any (opsOf Try.f63 5) = spec_DrawIsPartialRepair.T5 := by kernel_rfl
theorem spec_DrawIsPartialRepair.bits5 : waitsOk spec_DrawIsPartialRepair.T5.2 spec_DrawIsPartialRepair.B5 = true := by kernel_rfl
set_option maxHeartbeats 8000000 in
set_option maxRecDepth 100000 in
theorem spec_DrawIsPartialRepair.calls (k : Nat) (A0 : Option Addr) (c0 : Nat) (l0 : List Int) (r1 : List (S70)) (r2 : List (S35)) (r3 : List Int) (w : World) (hr0 : Kd.C (Kd.int .u8) w A0 l0.length l0) (hc0 : l0.length ≤ c0) (h : spec_DrawIsPartialRepair.f k l0 = some (r1, r2, r3)) :
  Calls Try.prog 63 #[.slice A0 l0.length c0] w fun e w' => ∃ v0_ v1_ v2_ : Value, e = .returned (.tuple #[.agg #[v0_, v1_], v2_]) ∧ Kd.R k70 70 w' w.heap.size (fun k_ => (w.heap.size ≤ k_)) v0_ r1 ∧ Kd.N k35 35 w' w.heap.size (fun k_ => (w.heap.size ≤ k_) ∧ some k_ ≠ (v0_ : Value).ownBlock ∧ some k_ ≠ (v2_ : Value).ownBlock) v1_ r2 ∧ Kd.R (Kd.int .i64) 3 w' w.heap.size (fun k_ => (w.heap.size ≤ k_)) v2_ r3 ∧ Below w.heap.size w w' := by
 have hu27 := Try.underlying27
 have HR0 := aM hr0
 have HC0 := aM hc0
 clear hr0 hc0
 have HB := aM (Below.refl w.heap.size w)
 have H : ((spec_l1New.f k l0).bind fun bt479 => ((spec_l4Any.f k bt479.1 bt479.2.1 bt479.2.2).bind fun bt483 => ((spec_l5Repair.f k bt479.1 bt483.2.2.1 bt483.2.2.2 bt483.1 bt483.2.1).bind fun bt492 => ((spec_l1Once.f bt479.1 bt492.2.1 bt492.2.2 2).bind fun bt497 => (if bt497.1 = true then ((spec_l1Below.f bt479.1 bt497.2.1 bt497.2.2 (wrap64 ((bt492.1.length : Int) + 1))).bind fun bt500 => (if 0 ≤ bt500.1 then (if bt500.1 ≤ (bt492.1.length : Int) then (some (bt483.1, bt483.2.1, (bt492.1.take (bt500.1 : Int).toNat))) else (none)) else (none))) else ((spec_l4Places.f k bt479.1 bt497.2.1 bt497.2.2 bt483.1 bt483.2.1).bind fun bt506 => (some (bt483.1, bt483.2.1, bt506.1)))))))) = some (r1, r2, r3) := h
 clear h
 replace H := bM H
 obtain ⟨⟨t479, t480, t481⟩, A20, H⟩ := H
 dsimp only at H
 have A2 := aM A20
 clear A20
 replace H := bM H
 obtain ⟨⟨t483, t486, t489, t490⟩, A30, H⟩ := H
 dsimp only at H
 have A3 := aM A30
 clear A30
 replace H := bM H
 obtain ⟨⟨t492, t495, t496⟩, A40, H⟩ := H
 dsimp only at H
 have A4 := aM A40
 clear A40
 replace H := bM H
 obtain ⟨⟨t497, t498, t499⟩, A50, H⟩ := H
 dsimp only at H
 have A5 := aM A50
 clear A50
 by_cases c6 : t497 = true
 ·subst c6
  replace H := iT H
  replace H := bM H
  obtain ⟨⟨t500, t501, t502⟩, A70, H⟩ := H
  dsimp only at H
  have A7 := aM A70
  clear A70
  by_cases c8 : 0 ≤ t500
  ·rw [if_pos c8] at H
   have c8b0 := eq_true c8
   have c8b1 : decide (0 ≤ t500) = true := decide_eq_true c8
   clear c8
   by_cases c9 : t500 ≤ (t492.length : Int)
   ·rw [if_pos c9] at H
    have c9b0 := eq_true c9
    have c9b1 : decide (t500 ≤ (t492.length : Int)) = true := decide_eq_true c9
    clear c9
    obtain ⟨y503, hy503⟩ : ∃ y_ : List Int, y_ = (t492.take (t500 : Int).toNat) := ⟨_, rfl⟩
    first | replace H := bY hy503 H | rw [← hy503] at H
    have Ny503 := aM hy503
    clear hy503
    simp only [Option.some.injEq, Prod.mk.injEq] at H
    obtain ⟨rfl, rfl, rfl⟩ := H
    go_enter Try.func63, Try.ntmps63
    try go_wp2_with (first | ((with_reducible refine gate_dst (N := 2) rfl ?_); refine bE 2 (cs := #[.slice none 0 0, .slice none 0 0]) (t := 27) ?_; intro gb478 hg w10 hbox hb; have BK478 := aM (hbox); have GW478 := aM ((by rw [hg]; exact (below_size aB) : w.heap.size ≤ gb478)); have GE478 := aM ((by rw [hg]; exact (below_size aB) : w.heap.size ≤ gb478)); replace HB := aM (below_step aB hb); clear hb hbox hg) | ((with_reducible refine gate_callee (f := 43) rfl ?_); refine goesL_ (some 8) rfl rfl Try.func43 (by kernel_rfl) rfl #[.slice A0 l0.length c0] rfl aA ?_; (with_reducible refine (spec_l1New.calls k _ _ l0 t479 t480 t481 w _ ?side1 ?side2 ?side3 A2.out).mono ?_); (case side1 => exact aG); (case side2 => exact HR0.out); (case side3 => exact HC0.out); rintro e w11 ⟨g482, rfl, hi, hb, hb2⟩; refine ⟨_, rfl, ?_⟩; have HI482 := aM (hi); have NB482_478 := aM (IsS83.ne_blk hi (blk_below (g := gb478) (o := .cells #[.slice none 0 0, .slice none 0 0] 27 (0, 0)) aK hb2) (by decide)); have NB478_482 := aM (Ne.symm (IsS83.ne_blk hi (blk_below (g := gb478) (o := .cells #[.slice none 0 0, .slice none 0 0] 27 (0, 0)) aK hb2) (by decide))); replace BK478 := aM (blk_below (g := gb478) (o := .cells #[.slice none 0 0, .slice none 0 0] 27 (0, 0)) aK hb2); replace HB := aM (hb); (try clear hb); (try clear hb2); (try clear hk); (try clear hi)) | ((with_reducible refine gate_callee (f := 42) rfl ?_); refine goesL_ (some 10) rfl rfl Try.func42 (by kernel_rfl) rfl #[.pointer (some ⟨g482, 0, none⟩)] rfl aA ?_; (with_reducible refine (spec_l4Any.calls k g482 t479 t480 t481 t483 t486 t489 t490 w _ ?side1 ?side2 A3.out).mono ?_); (case side1 => repeat (first | (with_reducible first | exact HI482.out | apply IsS83.alloc | apply IsS83.drewN | apply IsS83.drew | apply IsS83.set_1 | apply IsS83.set_2 | refine IsS83.far ?_ NB482_478.out _) | exact HI482.out)); (case side2 => repeat (first | (with_reducible first | exact HB.out | apply below_alloc | apply pw_below_drewN | apply below_drew1 | refine below_set ?_ (IsS83.ge HI482.out) | refine below_set ?_ GE478.out) | exact HB.out)); rintro e w12 ⟨v484, v487, rfl, ho0, ho1, hi, hb, hk⟩; refine ⟨_, rfl, ?_⟩; have HO485 := aM (Kd.R_lower (Kd.R_newM (M := fun k_ => (w.heap.size ≤ k_)) (Kd.R_mono (ok' := fun k_ => True) ho0 (fun _ hk_ => trivial)) (below_size (by repeat (first | (with_reducible first | exact HB.out | apply below_alloc | apply pw_below_drewN | apply below_drew1 | refine below_set ?_ (IsS83.ge HI482.out) | refine below_set ?_ GE478.out) | exact HB.out))) (fun k_ h_ => h_)) (below_size (by repeat (first | (with_reducible first | exact HB.out | apply below_alloc | apply pw_below_drewN | apply below_drew1 | refine below_set ?_ (IsS83.ge HI482.out) | refine below_set ?_ GE478.out) | exact HB.out)))); have HO488 := aM (Kd.N_lower (Kd.N_mono (ok' := fun k_ => (w.heap.size ≤ k_) ∧ some k_ ≠ (v484 : Value).ownBlock ∧ k_ ≠ gb478 ∧ k_ ≠ g482) ho1 (fun k_ hk_ => ⟨(Nat.le_trans (below_size (by repeat (first | (with_reducible first | exact HB.out | apply below_alloc | apply pw_below_drewN | apply below_drew1 | refine below_set ?_ (IsS83.ge HI482.out) | refine below_set ?_ GE478.out) | exact HB.out))) hk_.1), hk_.2, (Kd.freshB (g := gb478) (o := .cells #[.slice none 0 0, .slice none 0 0] 27 (0, 0)) aK k_ hk_.1), (IsS83.fresh (by repeat (first | (with_reducible first | exact HI482.out | apply IsS83.alloc | apply IsS83.drewN | apply IsS83.drew | apply IsS83.set_1 | apply IsS83.set_2 | refine IsS83.far ?_ NB482_478.out _) | exact HI482.out)) k_ hk_.1)⟩)) (below_size (by repeat (first | (with_reducible first | exact HB.out | apply below_alloc | apply pw_below_drewN | apply below_drew1 | refine below_set ?_ (IsS83.ge HI482.out) | refine below_set ?_ GE478.out) | exact HB.out)))); replace BK478 := aM (KeepBut.blk hk (g' := gb478) (o := .cells #[.slice none 0 0, .slice none 0 0] 27 (0, 0)) aK NB478_482.out (by simp)); replace HB := aM (hb); replace HI482 := aM (hi); (try clear hb); (try clear hb2); (try clear hk); (try clear hi); (try clear ho0); (try clear ho1)) | ((with_reducible refine gate_dst (N := 5) rfl ?_); refine bE 5 (cs := #[.slice none 0 0, .slice none 0 0]) (t := 27) ?_; intro gb491 hg w13 hbox hb; have BK491 := aM (hbox); have GW491 := aM ((by rw [hg]; exact (below_size (by repeat (first | (with_reducible first | exact HB.out | apply below_alloc | apply pw_below_drewN | apply below_drew1 | refine below_set ?_ (IsS83.ge HI482.out) | refine below_set ?_ GE478.out) | exact HB.out))) : w.heap.size ≤ gb491)); have GE491 := aM ((by rw [hg]; exact (below_size (by repeat (first | (with_reducible first | exact HB.out | apply below_alloc | apply pw_below_drewN | apply below_drew1 | refine below_set ?_ (IsS83.ge HI482.out) | refine below_set ?_ GE478.out) | exact HB.out))) : w.heap.size ≤ gb491)); have NB478_491 := aM ((by rw [hg]; exact Nat.ne_of_lt (blk_lt (g := gb478) (o := .cells #[.slice none 0 0, .slice none 0 0] 27 (0, 0)) aK) : gb478 ≠ gb491)); have NB491_478 := aM ((by rw [hg]; exact Nat.ne_of_gt (blk_lt (g := gb478) (o := .cells #[.slice none 0 0, .slice none 0 0] 27 (0, 0)) aK) : gb491 ≠ gb478)); have NB482_491 := aM ((by rw [hg]; exact Nat.ne_of_lt (IsS83.lt (show IsS83 w _ g482 t479 t489 t490 from by repeat (first | (with_reducible first | exact HI482.out | apply IsS83.alloc | apply IsS83.drewN | apply IsS83.drew | apply IsS83.set_1 | apply IsS83.set_2 | refine IsS83.far ?_ NB482_478.out _) | exact HI482.out))) : g482 ≠ gb491)); have NB491_482 := aM ((by rw [hg]; exact Nat.ne_of_gt (IsS83.lt (show IsS83 w _ g482 t479 t489 t490 from by repeat (first | (with_reducible first | exact HI482.out | apply IsS83.alloc | apply IsS83.drewN | apply IsS83.drew | apply IsS83.set_1 | apply IsS83.set_2 | refine IsS83.far ?_ NB482_478.out _) | exact HI482.out))) : gb491 ≠ g482)); replace HO485 := aM (Kd.R_below (aR HO485) hb); replace HO488 := aM (Kd.N_below (Kd.N_elderB (aN HO488) gb491 (Nat.le_of_eq hg.symm)) hb); replace BK478 := aM (blk_below (g := gb478) (o := .cells #[.slice none 0 0, .slice none 0 0] 27 (0, 0)) aK hb); replace HB := aM (below_step (by repeat (first | (with_reducible first | exact HB.out | apply below_alloc | apply pw_below_drewN | apply below_drew1 | refine below_set ?_ (IsS83.ge HI482.out) | refine below_set ?_ GE478.out) | exact HB.out)) hb); replace HI482 := aM (IsS83.below (by repeat (first | (with_reducible first | exact HI482.out | apply IsS83.alloc | apply IsS83.drewN | apply IsS83.drew | apply IsS83.set_1 | apply IsS83.set_2 | refine IsS83.far ?_ NB482_478.out _) | exact HI482.out)) hb); clear hb hbox hg; obtain ⟨Ao14, co14, eo14⟩ := Kd.R_slice HO485.out; subst eo14; have hnb15 := NB491_478.out; have hnc15 := NB478_491.out; have hnb16 := NB491_482.out; have hnc16 := NB482_491.out; have hcz17_0 : w13.cell? ⟨gb491, 0, none⟩ = some (.slice none 0 0) := (blk_cell BK491.out 0).trans rfl; have hcz17_1 : w13.cell? ⟨gb491, 1, none⟩ = some (.slice none 0 0) := (blk_cell BK491.out 1).trans rfl; have hfz17_0 := blk_frozen BK491.out 0; have hfz17_1 := blk_frozen BK491.out 1; obtain ⟨Ao18, co18, eo18⟩ := Kd.N_slice HO488.out; subst eo18) | ((with_reducible refine gate_callee (f := 87) rfl ?_); refine goesL_ (some 13) rfl rfl Try.func87 (by kernel_rfl) rfl #[.pointer (some ⟨g482, 0, none⟩), .agg #[.slice Ao14 t483.length co14, .slice Ao18 t486.length co18]] rfl aA ?_; (with_reducible refine (spec_l5Repair.calls k g482 t479 t489 t490 _ _ t483 _ _ t486 t492 t495 t496 w _ ?side1 ?side2 ?side3 ?side4 ?side5 ?side6 A4.out).mono ?_); (case side1 => repeat (first | (with_reducible first | exact HI482.out | apply IsS83.alloc | apply IsS83.drewN | apply IsS83.drew | apply IsS83.set_1 | apply IsS83.set_2 | refine IsS83.far ?_ NB482_478.out _ | refine IsS83.far ?_ NB482_491.out _) | exact HI482.out)); (case side2 => repeat (first | (with_reducible first | exact HB.out | apply below_alloc | apply pw_below_drewN | apply below_drew1 | refine below_set ?_ (IsS83.ge HI482.out) | refine below_set ?_ GE478.out | refine below_set ?_ GE491.out) | exact HB.out)); (case side3 => exact Kd.C_foot_own (IsS83.apart (show IsS83 w _ g482 t479 t489 t490 from by repeat (first | (with_reducible first | exact HI482.out | apply IsS83.alloc | apply IsS83.drewN | apply IsS83.drew | apply IsS83.set_1 | apply IsS83.set_2 | refine IsS83.far ?_ NB482_478.out _ | refine IsS83.far ?_ NB482_491.out _) | exact HI482.out)) (by (with_reducible repeat apply pR); exact (Kd.R_mono (Kd.R_far (p := ⟨gb491, 1, none⟩) (Kd.R_far (p := ⟨gb491, 0, none⟩) (Kd.R_types HO485.out BK491.out (by decide)) (fun _ hk => hk.2) (.slice Ao14 t483.length co14)) (fun _ hk => hk.2) (.slice Ao18 t486.length co18)) (fun _ h_ => h_.1))) (by decide)) (fun _ h_ => h_.2)); (case side4 => exact (Kd.R_reads' HO485.out).2.1); (case side5 => exact Kd.C_foot_ownV (base := 0) (Kd.N_V (Kd.N_mono (ok := fun k_ => ((((w.heap.size ≤ k_)) ∧ (some k_ ≠ (.slice Ao14 t483.length co14 : Value).ownBlock ∧ (k_ ≠ gb478 ∧ k_ ≠ g482))) ∧ k_ ≠ gb491)) (by (with_reducible repeat apply pN); exact (Kd.N_mono (Kd.N_far (p := ⟨gb491, 1, none⟩) (Kd.N_far (p := ⟨gb491, 0, none⟩) (Kd.N_mono HO488.out (fun k_ hk => (⟨hk, hk.2⟩ : _ ∧ k_ ≠ gb491))) (fun _ hk => hk.2) (.slice Ao14 t483.length co14)) (fun _ hk => hk.2) (.slice Ao18 t486.length co18)) (fun _ h_ => h_.1))) (fun k_ hk_ => (⟨hk_, hk_.1.2.2.2⟩ : _ ∧ k_ ≠ g482)))) (fun _ h_ => h_.2)); (case side6 => exact (Kd.N_reads' HO488.out).2.1); rintro e w19 ⟨v493, rfl, ho0, hi, hb, hk⟩; refine ⟨_, rfl, ?_⟩; have HO494 := aM (Kd.R_lower (Kd.R_newM (M := fun k_ => (w.heap.size ≤ k_)) ho0 (below_size (by repeat (first | (with_reducible first | exact HB.out | apply below_alloc | apply pw_below_drewN | apply below_drew1 | refine below_set ?_ (IsS83.ge HI482.out) | refine below_set ?_ GE478.out | refine below_set ?_ GE491.out) | exact HB.out))) (fun k_ h_ => h_)) (below_size (by repeat (first | (with_reducible first | exact HB.out | apply below_alloc | apply pw_below_drewN | apply below_drew1 | refine below_set ?_ (IsS83.ge HI482.out) | refine below_set ?_ GE478.out | refine below_set ?_ GE491.out) | exact HB.out)))); replace BK478 := aM (KeepBut.blk hk (g' := gb478) (o := .cells #[.slice none 0 0, .slice none 0 0] 27 (0, 0)) (by (with_reducible repeat refine pB ?_); refine blk_far ?_ NB478_491.out _; (with_reducible repeat refine pB ?_); refine blk_far ?_ NB478_491.out _; (with_reducible repeat refine pB ?_); exact BK478.out) NB478_482.out (by simp)); replace HO485 := aM (Kd.R_mono (Kd.R_keep (IsS83.apart (show IsS83 w _ g482 t479 t489 t490 from by repeat (first | (with_reducible first | exact HI482.out | apply IsS83.alloc | apply IsS83.drewN | apply IsS83.drew | apply IsS83.set_1 | apply IsS83.set_2 | refine IsS83.far ?_ NB482_478.out _ | refine IsS83.far ?_ NB482_491.out _) | exact HI482.out)) (by (with_reducible repeat apply pR); exact (Kd.R_mono (Kd.R_far (p := ⟨gb491, 1, none⟩) (Kd.R_far (p := ⟨gb491, 0, none⟩) (Kd.R_types HO485.out BK491.out (by decide)) (fun _ hk => hk.2) (.slice Ao14 t483.length co14)) (fun _ hk => hk.2) (.slice Ao18 t486.length co18)) (fun _ h_ => h_.1))) (by decide)) hk (fun _ h => h.2)) (fun _ h => h.1)); replace HO488 := aM (Kd.N_mono (Kd.N_told (Kd.N_oldK (Kd.N_mono (ok := fun k_ => ((((w.heap.size ≤ k_)) ∧ (some k_ ≠ (.slice Ao14 t483.length co14 : Value).ownBlock ∧ (k_ ≠ gb478 ∧ k_ ≠ g482))) ∧ k_ ≠ gb491)) (by (with_reducible repeat apply pN); exact (Kd.N_mono (Kd.N_far (p := ⟨gb491, 1, none⟩) (Kd.N_far (p := ⟨gb491, 0, none⟩) (Kd.N_mono HO488.out (fun k_ hk => (⟨hk, hk.2⟩ : _ ∧ k_ ≠ gb491))) (fun _ hk => hk.2) (.slice Ao14 t483.length co14)) (fun _ hk => hk.2) (.slice Ao18 t486.length co18)) (fun _ h_ => h_.1))) (fun k_ hk_ => (⟨hk_, hk_.1.2.2.2⟩ : _ ∧ k_ ≠ g482))) hk) (Kd.R_base ho0)) (fun _ h_ => h_.1)); replace BK491 := aM (KeepBut.blk hk (g' := gb491) (o := .cells #[.slice Ao14 t483.length co14, .slice Ao18 t486.length co18] 27 (0, 0)) (by (with_reducible repeat refine pB ?_); refine blk_put (cs := #[.slice Ao14 t483.length co14, .slice none 0 0]) ?_ 1 _ rfl; (with_reducible repeat refine pB ?_); refine blk_put (cs := #[.slice none 0 0, .slice none 0 0]) ?_ 0 _ rfl; (with_reducible repeat refine pB ?_); exact BK491.out) NB491_482.out (by simp)); replace HB := aM (hb); replace HI482 := aM (hi); (try clear hb); (try clear hb2); (try clear hk); (try clear hi); (try clear ho0)) | ((with_reducible refine gate_callee (f := 88) rfl ?_); refine goesL_ (some 15) rfl rfl Try.func88 (by kernel_rfl) rfl #[.pointer (some ⟨g482, 0, none⟩), .int .i64 2] rfl aA ?_; (with_reducible refine (spec_l1Once.calls g482 t479 t495 t496 2 true t498 t499 w _ ?side1 ?side2 A5.out).mono ?_); (case side1 => repeat (first | (with_reducible first | exact HI482.out | apply IsS83.alloc | apply IsS83.drewN | apply IsS83.drew | apply IsS83.set_1 | apply IsS83.set_2 | refine IsS83.far ?_ NB482_478.out _ | refine IsS83.far ?_ NB482_491.out _) | exact HI482.out)); (case side2 => repeat (first | (with_reducible first | exact HB.out | apply below_alloc | apply pw_below_drewN | apply below_drew1 | refine below_set ?_ (IsS83.ge HI482.out) | refine below_set ?_ GE478.out | refine below_set ?_ GE491.out) | exact HB.out)); rintro e w20 ⟨rfl, hi, hb, hk⟩; refine ⟨_, rfl, ?_⟩; have n0_ := aM (KeepBut.blk hk (g' := gb478) (o := .cells #[.slice none 0 0, .slice none 0 0] 27 (0, 0)) aK NB478_482.out (by simp)); have n1_ := aM (Kd.R_mono (Kd.R_keep (IsS83.apart (show IsS83 w _ g482 t479 t495 t496 from by repeat (first | (with_reducible first | exact HI482.out | apply IsS83.alloc | apply IsS83.drewN | apply IsS83.drew | apply IsS83.set_1 | apply IsS83.set_2 | refine IsS83.far ?_ NB482_478.out _ | refine IsS83.far ?_ NB482_491.out _) | exact HI482.out)) (aR HO485) (by decide)) hk (fun _ h => h.2)) (fun _ h => h.1)); have n2_ := aM (Kd.N_mono (Kd.N_keep (Kd.N_mono (ok := fun k_ => (((((w.heap.size ≤ k_)) ∧ (some k_ ≠ (.slice Ao14 t483.length co14 : Value).ownBlock ∧ (k_ ≠ gb478 ∧ k_ ≠ g482))) ∧ k_ ≠ gb491) ∧ some k_ ≠ (v493 : Value).ownBlock)) (aN HO488) (fun k_ hk_ => (⟨hk_, hk_.1.1.2.2.2⟩ : _ ∧ k_ ≠ g482))) hk (fun _ h => h.2)) (fun _ h => h.1)); have n3_ := aM (KeepBut.blk hk (g' := gb491) (o := .cells #[.slice Ao14 t483.length co14, .slice Ao18 t486.length co18] 27 (0, 0)) aK NB491_482.out (by simp)); have n4_ := aM (Kd.R_mono (Kd.R_keep (IsS83.apart (show IsS83 w _ g482 t479 t495 t496 from by repeat (first | (with_reducible first | exact HI482.out | apply IsS83.alloc | apply IsS83.drewN | apply IsS83.drew | apply IsS83.set_1 | apply IsS83.set_2 | refine IsS83.far ?_ NB482_478.out _ | refine IsS83.far ?_ NB482_491.out _) | exact HI482.out)) (aR HO494) (by decide)) hk (fun _ h => h.2)) (fun _ h => h.1)); have n5_ := aM (hb); have n6_ := aM (hi); clear BK478; clear HO485; clear HO488; clear BK491; clear HO494; clear HB; clear HI482; have BK478 := n0_; have HO485 := n1_; have HO488 := n2_; have BK491 := n3_; have HO494 := n4_; have HB := n5_; have HI482 := n6_; clear n0_ n1_ n2_ n3_ n4_ n5_ n6_; (try clear hb); (try clear hb2); (try clear hk); (try clear hi)))
    replace HO485 := aM (Kd.R_drew HO485.out)
    replace HO488 := aM (Kd.N_drew HO488.out)
    replace HO494 := aM (Kd.R_drew HO494.out)
    replace BK478 := aM (blk_drew BK478.out)
    replace BK491 := aM (blk_drew BK491.out)
    replace HI482 := aM (IsS83.drew HI482.out)
    replace HB := aM (below_drew1 HB.out)
    obtain ⟨Ao22, co22, eo22⟩ := Kd.R_slice HO494.out
    (first | subst eo22 | (injection eo22 with f1_ f2_ f3_; have f4_ := f1_.symm; have f5_ := f3_.symm; clear f1_ f2_ f3_; subst f4_; subst f5_))
    refine start_ (n := 10) (S := fun w' => w'.cell? ⟨gb491, 0, none⟩ = some (.slice Ao14 t483.length co14) ∧ w'.cell? ⟨gb491, 1, none⟩ = some (.slice Ao18 t486.length co18)) (ds := []) #[false, false, false, false, false, false, false, false, false, false] (by kernel_rfl) rfl rfl ⟨(blk_cell BK491.out 0).trans rfl, (blk_cell BK491.out 1).trans rfl⟩ (fun hHeld => ?_); refine with_tabW spec_DrawIsPartialRepair.tab5 spec_DrawIsPartialRepair.bits5 (fun HT_ HW_ => ?_)
    generalize w20.drew = w21 at HO485 HO488 HO494 BK478 BK491 HI482 HB hHeld ⊢
    refine pU 1 17 ?_
    refine pU 2 18 ?_
    refine pU 3 19 ?_
    refine pU 4 20 ?_
    refine pU 5 21 ?_
    refine tU2 0 16 hHeld ?_
    refine oU 6 22 (fun K hK => ?_)
    refine goes_ Try.func66 (by kernel_rfl) rfl #[.pointer (some ⟨g482, 0, none⟩), .int .i64 (wrap64 ((t492.length : Int) + 1))] (by rfl) rfl rfl aA ?_
    with_reducible refine (spec_l1Below.calls g482 t479 t498 t499 (wrap64 ((t492.length : Int) + 1)) t500 t501 t502 w _ ?side1 ?side2 A7.out).mono ?_
    (case side1 => repeat (first | (with_reducible first | exact HI482.out | apply IsS83.alloc | apply IsS83.drewN | apply IsS83.drew | apply IsS83.set_1 | apply IsS83.set_2 | refine IsS83.far ?_ NB482_478.out _ | refine IsS83.far ?_ NB482_491.out _) | exact HI482.out))
    (case side2 => repeat (first | (with_reducible first | exact HB.out | apply below_alloc | apply pw_below_drewN | apply below_drew1 | refine below_set ?_ (IsS83.ge HI482.out) | refine below_set ?_ GE478.out | refine below_set ?_ GE491.out) | exact HB.out))
    rintro e w23 ⟨rfl, hi, hb, hk⟩
    refine ⟨_, rfl, ?_⟩
    have n0_ := aM (KeepBut.blk hk (g' := gb478) (o := .cells #[.slice none 0 0, .slice none 0 0] 27 (0, 0)) aK NB478_482.out (by simp))
    have n1_ := aM (Kd.R_mono (Kd.R_keep (IsS83.apart (show IsS83 w _ g482 t479 t498 t499 from by repeat (first | (with_reducible first | exact HI482.out | apply IsS83.alloc | apply IsS83.drewN | apply IsS83.drew | apply IsS83.set_1 | apply IsS83.set_2 | refine IsS83.far ?_ NB482_478.out _ | refine IsS83.far ?_ NB482_491.out _) | exact HI482.out)) (aR HO485) (by decide)) hk (fun _ h => h.2)) (fun _ h => h.1))
    have n2_ := aM (Kd.N_mono (Kd.N_keep (Kd.N_mono (ok := fun k_ => (((((w.heap.size ≤ k_)) ∧ (some k_ ≠ (.slice Ao14 t483.length co14 : Value).ownBlock ∧ (k_ ≠ gb478 ∧ k_ ≠ g482))) ∧ k_ ≠ gb491) ∧ some k_ ≠ (.slice Ao22 t492.length co22 : Value).ownBlock)) (aN HO488) (fun k_ hk_ => (⟨hk_, hk_.1.1.2.2.2⟩ : _ ∧ k_ ≠ g482))) hk (fun _ h => h.2)) (fun _ h => h.1))
    have n3_ := aM (KeepBut.blk hk (g' := gb491) (o := .cells #[.slice Ao14 t483.length co14, .slice Ao18 t486.length co18] 27 (0, 0)) aK NB491_482.out (by simp))
    have n4_ := aM (Kd.R_mono (Kd.R_keep (IsS83.apart (show IsS83 w _ g482 t479 t498 t499 from by repeat (first | (with_reducible first | exact HI482.out | apply IsS83.alloc | apply IsS83.drewN | apply IsS83.drew | apply IsS83.set_1 | apply IsS83.set_2 | refine IsS83.far ?_ NB482_478.out _ | refine IsS83.far ?_ NB482_491.out _) | exact HI482.out)) (aR HO494) (by decide)) hk (fun _ h => h.2)) (fun _ h => h.1))
    have n5_ := aM (hb)
    have n6_ := aM (hi)
    clear BK478
    clear HO485
    clear HO488
    clear BK491
    clear HO494
    clear HB
    clear HI482
    have BK478 := n0_
    have HO485 := n1_
    have HO488 := n2_
    have BK491 := n3_
    have HO494 := n4_
    have HB := n5_
    have HI482 := n6_
    clear n0_ n1_ n2_ n3_ n4_ n5_ n6_
    (try clear hb)
    (try clear hb2)
    (try clear hk)
    (try clear hi)
    have q24 : (t500 : Int) ≤ ((t492.length : Int) : Int) := aD
    obtain ⟨i024, hi024, _, hsz24, _⟩ := info_parts info3
    have hcut24 := cut_to (P := Try.prog) 32 3 .i64 Try.underlying32 hi024 Ao22 t492.length co22 t500 (aD) q24 (Kd.R_reads' HO494.out).2.1
    have hr24 := Kd.R_take (m := (t500 : Int).toNat) HO494.out (by omega)
    have hy24 : y503.length = (t500 : Int).toNat := (by rw [Ny503.out, List.length_take]; omega)
    rw [← Ny503.out] at hr24
    rw [← hy24] at hr24 hcut24
    clear hy24 hi024 hsz24 HO494
    have HO505 := aM hr24
    clear hr24
    replace q24 := eq_true q24
    refine hK.out _ _ ⟨(blk_cell BK491.out 0).trans rfl, (blk_cell BK491.out 1).trans rfl⟩ (fun hHeld => ?_)
    clear hK K
    refine nU 22 ?_
    refine pU 7 23 ?_
    refine one_ (i := 8) (N := none) #[true, true, true, true, true, true, true, true, true, false] rfl rfl (one_of HT_.out (by kernel_rfl)) (by decide) (fun K hK => ?_)
    have hs25 : w23.cell? ⟨gb478, 0, none⟩ = some (.slice none 0 0) := (blk_cell BK478.out 0).trans rfl
    have hfs25 := blk_frozen BK478.out 0
    have hns25_1 := NB491_478.out
    have hms25_1 := NB478_491.out
    have hs26 : w23.cell? ⟨gb478, 1, none⟩ = some (.slice none 0 0) := (blk_cell BK478.out 1).trans rfl
    have hfs26 := blk_frozen BK478.out 1
    have hns26_1 := NB491_478.out
    have hms26_1 := NB478_491.out
    refine skip_ (w1 := ?_) (by rfl) rfl ?_ ?_
    rotate_left
    ·go_simp
     rfl
    refine hK.out _ _ ⟨((cell_far (p := ⟨gb478, _, none⟩) NB491_478.out _).trans (((cell_far (p := ⟨gb478, _, none⟩) NB491_478.out _).trans (hHeld.1)))), ((cell_far (p := ⟨gb478, _, none⟩) NB491_478.out _).trans (((cell_far (p := ⟨gb478, _, none⟩) NB491_478.out _).trans (hHeld.2))))⟩ (fun hHeld => ?_)
    clear hK K
    refine pU 9 3 ?_
    refine done_ (done_of HT_.out (by kernel_rfl)) ?_
    try go_wp2
    refine bodyPost_ret (results_ct rfl _ _ gb478 27 #[.slice Ao14 t483.length co14, .slice Ao18 t486.length co18] (0, 0) _ rfl (by (with_reducible repeat refine pB ?_); refine blk_put (cs := #[.slice Ao14 t483.length co14, .slice none 0 0]) ?_ 1 _ rfl; (with_reducible repeat refine pB ?_); refine blk_put (cs := #[.slice none 0 0, .slice none 0 0]) ?_ 0 _ rfl; (with_reducible repeat refine pB ?_); exact BK478.out) Try.underlying27 rfl (by kernel_rfl)) rfl ?_
    exact ⟨_, _, _, aE, by (with_reducible repeat apply pR); exact Kd.R_mono (Kd.R_far (p := ⟨gb478, 1, none⟩) (Kd.R_far (p := ⟨gb478, 0, none⟩) (Kd.R_types HO485.out BK478.out (by decide)) (fun _ hk => hk.2) (.slice Ao14 t483.length co14)) (fun _ hk => hk.2) (.slice Ao18 t486.length co18)) (fun _ hk => hk.1.1), by (with_reducible repeat apply pN); exact Kd.N_mono (Kd.N_far (p := ⟨gb478, 1, none⟩) (Kd.N_far (p := ⟨gb478, 0, none⟩) (Kd.N_mono HO488.out (fun k_ hk => (⟨hk, hk.1.1.2.2.1⟩ : _ ∧ k_ ≠ gb478))) (fun _ hk => hk.2) (.slice Ao14 t483.length co14)) (fun _ hk => hk.2) (.slice Ao18 t486.length co18)) (fun _ hk => ⟨hk.1.1.1.1, ⟨hk.1.1.1.2.1, by first | exact hk.1.2 | exact own_ne_len hk.1.2⟩⟩), by (with_reducible repeat apply pR); exact Kd.R_mono (Kd.R_far (p := ⟨gb478, 1, none⟩) (Kd.R_far (p := ⟨gb478, 0, none⟩) (Kd.R_types HO505.out BK478.out (by decide)) (fun _ hk => hk.2) (.slice Ao14 t483.length co14)) (fun _ hk => hk.2) (.slice Ao18 t486.length co18)) (fun _ hk => hk.1.1), by repeat (first | (with_reducible first | exact HB.out | apply below_alloc | apply pw_below_drewN | apply below_drew1 | refine below_set ?_ (IsS83.ge HI482.out) | refine below_set ?_ GE478.out | refine below_set ?_ GE491.out) | exact HB.out)⟩
   ·rw [if_neg c9] at H
    exact absurd H (by simp)
  ·rw [if_neg c8] at H
   exact absurd H (by simp)
 ·replace c6 := Bool.eq_false_iff.mpr c6
  subst c6
  have H1 : ((spec_l4Places.f k t479 t498 t499 t483 t486).bind fun bt506 => (some (t483, t486, bt506.1))) = some (r1, r2, r3) := by rw [if_neg (show ¬ (false = true) by decide)] at H; exact H
  clear H
  have H := H1
  clear H1
  replace H := bM H
  obtain ⟨⟨t506, t509, t510⟩, A270, H⟩ := H
  dsimp only at H
  have A27 := aM A270
  clear A270
  simp only [Option.some.injEq, Prod.mk.injEq] at H
  obtain ⟨rfl, rfl, rfl⟩ := H
  go_enter Try.func63, Try.ntmps63
  try go_wp2_with (first | ((with_reducible refine gate_dst (N := 2) rfl ?_); refine bE 2 (cs := #[.slice none 0 0, .slice none 0 0]) (t := 27) ?_; intro gb478 hg w28 hbox hb; have BK478 := aM (hbox); have GW478 := aM ((by rw [hg]; exact (below_size aB) : w.heap.size ≤ gb478)); have GE478 := aM ((by rw [hg]; exact (below_size aB) : w.heap.size ≤ gb478)); replace HB := aM (below_step aB hb); clear hb hbox hg) | ((with_reducible refine gate_callee (f := 43) rfl ?_); refine goesL_ (some 8) rfl rfl Try.func43 (by kernel_rfl) rfl #[.slice A0 l0.length c0] rfl aA ?_; (with_reducible refine (spec_l1New.calls k _ _ l0 t479 t480 t481 w _ ?side1 ?side2 ?side3 A2.out).mono ?_); (case side1 => exact aG); (case side2 => exact HR0.out); (case side3 => exact HC0.out); rintro e w29 ⟨g482, rfl, hi, hb, hb2⟩; refine ⟨_, rfl, ?_⟩; have HI482 := aM (hi); have NB482_478 := aM (IsS83.ne_blk hi (blk_below (g := gb478) (o := .cells #[.slice none 0 0, .slice none 0 0] 27 (0, 0)) aK hb2) (by decide)); have NB478_482 := aM (Ne.symm (IsS83.ne_blk hi (blk_below (g := gb478) (o := .cells #[.slice none 0 0, .slice none 0 0] 27 (0, 0)) aK hb2) (by decide))); replace BK478 := aM (blk_below (g := gb478) (o := .cells #[.slice none 0 0, .slice none 0 0] 27 (0, 0)) aK hb2); replace HB := aM (hb); (try clear hb); (try clear hb2); (try clear hk); (try clear hi)) | ((with_reducible refine gate_callee (f := 42) rfl ?_); refine goesL_ (some 10) rfl rfl Try.func42 (by kernel_rfl) rfl #[.pointer (some ⟨g482, 0, none⟩)] rfl aA ?_; (with_reducible refine (spec_l4Any.calls k g482 t479 t480 t481 t483 t486 t489 t490 w _ ?side1 ?side2 A3.out).mono ?_); (case side1 => repeat (first | (with_reducible first | exact HI482.out | apply IsS83.alloc | apply IsS83.drewN | apply IsS83.drew | apply IsS83.set_1 | apply IsS83.set_2 | refine IsS83.far ?_ NB482_478.out _) | exact HI482.out)); (case side2 => repeat (first | (with_reducible first | exact HB.out | apply below_alloc | apply pw_below_drewN | apply below_drew1 | refine below_set ?_ (IsS83.ge HI482.out) | refine below_set ?_ GE478.out) | exact HB.out)); rintro e w30 ⟨v484, v487, rfl, ho0, ho1, hi, hb, hk⟩; refine ⟨_, rfl, ?_⟩; have HO485 := aM (Kd.R_lower (Kd.R_newM (M := fun k_ => (w.heap.size ≤ k_)) (Kd.R_mono (ok' := fun k_ => True) ho0 (fun _ hk_ => trivial)) (below_size (by repeat (first | (with_reducible first | exact HB.out | apply below_alloc | apply pw_below_drewN | apply below_drew1 | refine below_set ?_ (IsS83.ge HI482.out) | refine below_set ?_ GE478.out) | exact HB.out))) (fun k_ h_ => h_)) (below_size (by repeat (first | (with_reducible first | exact HB.out | apply below_alloc | apply pw_below_drewN | apply below_drew1 | refine below_set ?_ (IsS83.ge HI482.out) | refine below_set ?_ GE478.out) | exact HB.out)))); have HO488 := aM (Kd.N_lower (Kd.N_mono (ok' := fun k_ => (w.heap.size ≤ k_) ∧ some k_ ≠ (v484 : Value).ownBlock ∧ k_ ≠ gb478 ∧ k_ ≠ g482) ho1 (fun k_ hk_ => ⟨(Nat.le_trans (below_size (by repeat (first | (with_reducible first | exact HB.out | apply below_alloc | apply pw_below_drewN | apply below_drew1 | refine below_set ?_ (IsS83.ge HI482.out) | refine below_set ?_ GE478.out) | exact HB.out))) hk_.1), hk_.2, (Kd.freshB (g := gb478) (o := .cells #[.slice none 0 0, .slice none 0 0] 27 (0, 0)) aK k_ hk_.1), (IsS83.fresh (by repeat (first | (with_reducible first | exact HI482.out | apply IsS83.alloc | apply IsS83.drewN | apply IsS83.drew | apply IsS83.set_1 | apply IsS83.set_2 | refine IsS83.far ?_ NB482_478.out _) | exact HI482.out)) k_ hk_.1)⟩)) (below_size (by repeat (first | (with_reducible first | exact HB.out | apply below_alloc | apply pw_below_drewN | apply below_drew1 | refine below_set ?_ (IsS83.ge HI482.out) | refine below_set ?_ GE478.out) | exact HB.out)))); replace BK478 := aM (KeepBut.blk hk (g' := gb478) (o := .cells #[.slice none 0 0, .slice none 0 0] 27 (0, 0)) aK NB478_482.out (by simp)); replace HB := aM (hb); replace HI482 := aM (hi); (try clear hb); (try clear hb2); (try clear hk); (try clear hi); (try clear ho0); (try clear ho1)) | ((with_reducible refine gate_dst (N := 5) rfl ?_); refine bE 5 (cs := #[.slice none 0 0, .slice none 0 0]) (t := 27) ?_; intro gb491 hg w31 hbox hb; have BK491 := aM (hbox); have GW491 := aM ((by rw [hg]; exact (below_size (by repeat (first | (with_reducible first | exact HB.out | apply below_alloc | apply pw_below_drewN | apply below_drew1 | refine below_set ?_ (IsS83.ge HI482.out) | refine below_set ?_ GE478.out) | exact HB.out))) : w.heap.size ≤ gb491)); have GE491 := aM ((by rw [hg]; exact (below_size (by repeat (first | (with_reducible first | exact HB.out | apply below_alloc | apply pw_below_drewN | apply below_drew1 | refine below_set ?_ (IsS83.ge HI482.out) | refine below_set ?_ GE478.out) | exact HB.out))) : w.heap.size ≤ gb491)); have NB478_491 := aM ((by rw [hg]; exact Nat.ne_of_lt (blk_lt (g := gb478) (o := .cells #[.slice none 0 0, .slice none 0 0] 27 (0, 0)) aK) : gb478 ≠ gb491)); have NB491_478 := aM ((by rw [hg]; exact Nat.ne_of_gt (blk_lt (g := gb478) (o := .cells #[.slice none 0 0, .slice none 0 0] 27 (0, 0)) aK) : gb491 ≠ gb478)); have NB482_491 := aM ((by rw [hg]; exact Nat.ne_of_lt (IsS83.lt (show IsS83 w _ g482 t479 t489 t490 from by repeat (first | (with_reducible first | exact HI482.out | apply IsS83.alloc | apply IsS83.drewN | apply IsS83.drew | apply IsS83.set_1 | apply IsS83.set_2 | refine IsS83.far ?_ NB482_478.out _) | exact HI482.out))) : g482 ≠ gb491)); have NB491_482 := aM ((by rw [hg]; exact Nat.ne_of_gt (IsS83.lt (show IsS83 w _ g482 t479 t489 t490 from by repeat (first | (with_reducible first | exact HI482.out | apply IsS83.alloc | apply IsS83.drewN | apply IsS83.drew | apply IsS83.set_1 | apply IsS83.set_2 | refine IsS83.far ?_ NB482_478.out _) | exact HI482.out))) : gb491 ≠ g482)); replace HO485 := aM (Kd.R_below (aR HO485) hb); replace HO488 := aM (Kd.N_below (Kd.N_elderB (aN HO488) gb491 (Nat.le_of_eq hg.symm)) hb); replace BK478 := aM (blk_below (g := gb478) (o := .cells #[.slice none 0 0, .slice none 0 0] 27 (0, 0)) aK hb); replace HB := aM (below_step (by repeat (first | (with_reducible first | exact HB.out | apply below_alloc | apply pw_below_drewN | apply below_drew1 | refine below_set ?_ (IsS83.ge HI482.out) | refine below_set ?_ GE478.out) | exact HB.out)) hb); replace HI482 := aM (IsS83.below (by repeat (first | (with_reducible first | exact HI482.out | apply IsS83.alloc | apply IsS83.drewN | apply IsS83.drew | apply IsS83.set_1 | apply IsS83.set_2 | refine IsS83.far ?_ NB482_478.out _) | exact HI482.out)) hb); clear hb hbox hg; obtain ⟨Ao32, co32, eo32⟩ := Kd.R_slice HO485.out; subst eo32; have hnb33 := NB491_478.out; have hnc33 := NB478_491.out; have hnb34 := NB491_482.out; have hnc34 := NB482_491.out; have hcz35_0 : w31.cell? ⟨gb491, 0, none⟩ = some (.slice none 0 0) := (blk_cell BK491.out 0).trans rfl; have hcz35_1 : w31.cell? ⟨gb491, 1, none⟩ = some (.slice none 0 0) := (blk_cell BK491.out 1).trans rfl; have hfz35_0 := blk_frozen BK491.out 0; have hfz35_1 := blk_frozen BK491.out 1; obtain ⟨Ao36, co36, eo36⟩ := Kd.N_slice HO488.out; subst eo36) | ((with_reducible refine gate_callee (f := 87) rfl ?_); refine goesL_ (some 13) rfl rfl Try.func87 (by kernel_rfl) rfl #[.pointer (some ⟨g482, 0, none⟩), .agg #[.slice Ao32 t483.length co32, .slice Ao36 t486.length co36]] rfl aA ?_; (with_reducible refine (spec_l5Repair.calls k g482 t479 t489 t490 _ _ t483 _ _ t486 t492 t495 t496 w _ ?side1 ?side2 ?side3 ?side4 ?side5 ?side6 A4.out).mono ?_); (case side1 => repeat (first | (with_reducible first | exact HI482.out | apply IsS83.alloc | apply IsS83.drewN | apply IsS83.drew | apply IsS83.set_1 | apply IsS83.set_2 | refine IsS83.far ?_ NB482_478.out _ | refine IsS83.far ?_ NB482_491.out _) | exact HI482.out)); (case side2 => repeat (first | (with_reducible first | exact HB.out | apply below_alloc | apply pw_below_drewN | apply below_drew1 | refine below_set ?_ (IsS83.ge HI482.out) | refine below_set ?_ GE478.out | refine below_set ?_ GE491.out) | exact HB.out)); (case side3 => exact Kd.C_foot_own (IsS83.apart (show IsS83 w _ g482 t479 t489 t490 from by repeat (first | (with_reducible first | exact HI482.out | apply IsS83.alloc | apply IsS83.drewN | apply IsS83.drew | apply IsS83.set_1 | apply IsS83.set_2 | refine IsS83.far ?_ NB482_478.out _ | refine IsS83.far ?_ NB482_491.out _) | exact HI482.out)) (by (with_reducible repeat apply pR); exact (Kd.R_mono (Kd.R_far (p := ⟨gb491, 1, none⟩) (Kd.R_far (p := ⟨gb491, 0, none⟩) (Kd.R_types HO485.out BK491.out (by decide)) (fun _ hk => hk.2) (.slice Ao32 t483.length co32)) (fun _ hk => hk.2) (.slice Ao36 t486.length co36)) (fun _ h_ => h_.1))) (by decide)) (fun _ h_ => h_.2)); (case side4 => exact (Kd.R_reads' HO485.out).2.1); (case side5 => exact Kd.C_foot_ownV (base := 0) (Kd.N_V (Kd.N_mono (ok := fun k_ => ((((w.heap.size ≤ k_)) ∧ (some k_ ≠ (.slice Ao32 t483.length co32 : Value).ownBlock ∧ (k_ ≠ gb478 ∧ k_ ≠ g482))) ∧ k_ ≠ gb491)) (by (with_reducible repeat apply pN); exact (Kd.N_mono (Kd.N_far (p := ⟨gb491, 1, none⟩) (Kd.N_far (p := ⟨gb491, 0, none⟩) (Kd.N_mono HO488.out (fun k_ hk => (⟨hk, hk.2⟩ : _ ∧ k_ ≠ gb491))) (fun _ hk => hk.2) (.slice Ao32 t483.length co32)) (fun _ hk => hk.2) (.slice Ao36 t486.length co36)) (fun _ h_ => h_.1))) (fun k_ hk_ => (⟨hk_, hk_.1.2.2.2⟩ : _ ∧ k_ ≠ g482)))) (fun _ h_ => h_.2)); (case side6 => exact (Kd.N_reads' HO488.out).2.1); rintro e w37 ⟨v493, rfl, ho0, hi, hb, hk⟩; refine ⟨_, rfl, ?_⟩; have HO494 := aM (Kd.R_lower (Kd.R_newM (M := fun k_ => (w.heap.size ≤ k_)) ho0 (below_size (by repeat (first | (with_reducible first | exact HB.out | apply below_alloc | apply pw_below_drewN | apply below_drew1 | refine below_set ?_ (IsS83.ge HI482.out) | refine below_set ?_ GE478.out | refine below_set ?_ GE491.out) | exact HB.out))) (fun k_ h_ => h_)) (below_size (by repeat (first | (with_reducible first | exact HB.out | apply below_alloc | apply pw_below_drewN | apply below_drew1 | refine below_set ?_ (IsS83.ge HI482.out) | refine below_set ?_ GE478.out | refine below_set ?_ GE491.out) | exact HB.out)))); replace BK478 := aM (KeepBut.blk hk (g' := gb478) (o := .cells #[.slice none 0 0, .slice none 0 0] 27 (0, 0)) (by (with_reducible repeat refine pB ?_); refine blk_far ?_ NB478_491.out _; (with_reducible repeat refine pB ?_); refine blk_far ?_ NB478_491.out _; (with_reducible repeat refine pB ?_); exact BK478.out) NB478_482.out (by simp)); replace HO485 := aM (Kd.R_mono (Kd.R_keep (IsS83.apart (show IsS83 w _ g482 t479 t489 t490 from by repeat (first | (with_reducible first | exact HI482.out | apply IsS83.alloc | apply IsS83.drewN | apply IsS83.drew | apply IsS83.set_1 | apply IsS83.set_2 | refine IsS83.far ?_ NB482_478.out _ | refine IsS83.far ?_ NB482_491.out _) | exact HI482.out)) (by (with_reducible repeat apply pR); exact (Kd.R_mono (Kd.R_far (p := ⟨gb491, 1, none⟩) (Kd.R_far (p := ⟨gb491, 0, none⟩) (Kd.R_types HO485.out BK491.out (by decide)) (fun _ hk => hk.2) (.slice Ao32 t483.length co32)) (fun _ hk => hk.2) (.slice Ao36 t486.length co36)) (fun _ h_ => h_.1))) (by decide)) hk (fun _ h => h.2)) (fun _ h => h.1)); replace HO488 := aM (Kd.N_mono (Kd.N_told (Kd.N_oldK (Kd.N_mono (ok := fun k_ => ((((w.heap.size ≤ k_)) ∧ (some k_ ≠ (.slice Ao32 t483.length co32 : Value).ownBlock ∧ (k_ ≠ gb478 ∧ k_ ≠ g482))) ∧ k_ ≠ gb491)) (by (with_reducible repeat apply pN); exact (Kd.N_mono (Kd.N_far (p := ⟨gb491, 1, none⟩) (Kd.N_far (p := ⟨gb491, 0, none⟩) (Kd.N_mono HO488.out (fun k_ hk => (⟨hk, hk.2⟩ : _ ∧ k_ ≠ gb491))) (fun _ hk => hk.2) (.slice Ao32 t483.length co32)) (fun _ hk => hk.2) (.slice Ao36 t486.length co36)) (fun _ h_ => h_.1))) (fun k_ hk_ => (⟨hk_, hk_.1.2.2.2⟩ : _ ∧ k_ ≠ g482))) hk) (Kd.R_base ho0)) (fun _ h_ => h_.1)); replace BK491 := aM (KeepBut.blk hk (g' := gb491) (o := .cells #[.slice Ao32 t483.length co32, .slice Ao36 t486.length co36] 27 (0, 0)) (by (with_reducible repeat refine pB ?_); refine blk_put (cs := #[.slice Ao32 t483.length co32, .slice none 0 0]) ?_ 1 _ rfl; (with_reducible repeat refine pB ?_); refine blk_put (cs := #[.slice none 0 0, .slice none 0 0]) ?_ 0 _ rfl; (with_reducible repeat refine pB ?_); exact BK491.out) NB491_482.out (by simp)); replace HB := aM (hb); replace HI482 := aM (hi); (try clear hb); (try clear hb2); (try clear hk); (try clear hi); (try clear ho0)) | ((with_reducible refine gate_callee (f := 88) rfl ?_); refine goesL_ (some 15) rfl rfl Try.func88 (by kernel_rfl) rfl #[.pointer (some ⟨g482, 0, none⟩), .int .i64 2] rfl aA ?_; (with_reducible refine (spec_l1Once.calls g482 t479 t495 t496 2 false t498 t499 w _ ?side1 ?side2 A5.out).mono ?_); (case side1 => repeat (first | (with_reducible first | exact HI482.out | apply IsS83.alloc | apply IsS83.drewN | apply IsS83.drew | apply IsS83.set_1 | apply IsS83.set_2 | refine IsS83.far ?_ NB482_478.out _ | refine IsS83.far ?_ NB482_491.out _) | exact HI482.out)); (case side2 => repeat (first | (with_reducible first | exact HB.out | apply below_alloc | apply pw_below_drewN | apply below_drew1 | refine below_set ?_ (IsS83.ge HI482.out) | refine below_set ?_ GE478.out | refine below_set ?_ GE491.out) | exact HB.out)); rintro e w38 ⟨rfl, hi, hb, hk⟩; refine ⟨_, rfl, ?_⟩; have n0_ := aM (KeepBut.blk hk (g' := gb478) (o := .cells #[.slice none 0 0, .slice none 0 0] 27 (0, 0)) aK NB478_482.out (by simp)); have n1_ := aM (Kd.R_mono (Kd.R_keep (IsS83.apart (show IsS83 w _ g482 t479 t495 t496 from by repeat (first | (with_reducible first | exact HI482.out | apply IsS83.alloc | apply IsS83.drewN | apply IsS83.drew | apply IsS83.set_1 | apply IsS83.set_2 | refine IsS83.far ?_ NB482_478.out _ | refine IsS83.far ?_ NB482_491.out _) | exact HI482.out)) (aR HO485) (by decide)) hk (fun _ h => h.2)) (fun _ h => h.1)); have n2_ := aM (Kd.N_mono (Kd.N_keep (Kd.N_mono (ok := fun k_ => (((((w.heap.size ≤ k_)) ∧ (some k_ ≠ (.slice Ao32 t483.length co32 : Value).ownBlock ∧ (k_ ≠ gb478 ∧ k_ ≠ g482))) ∧ k_ ≠ gb491) ∧ some k_ ≠ (v493 : Value).ownBlock)) (aN HO488) (fun k_ hk_ => (⟨hk_, hk_.1.1.2.2.2⟩ : _ ∧ k_ ≠ g482))) hk (fun _ h => h.2)) (fun _ h => h.1)); have n3_ := aM (KeepBut.blk hk (g' := gb491) (o := .cells #[.slice Ao32 t483.length co32, .slice Ao36 t486.length co36] 27 (0, 0)) aK NB491_482.out (by simp)); have n4_ := aM (Kd.R_mono (Kd.R_keep (IsS83.apart (show IsS83 w _ g482 t479 t495 t496 from by repeat (first | (with_reducible first | exact HI482.out | apply IsS83.alloc | apply IsS83.drewN | apply IsS83.drew | apply IsS83.set_1 | apply IsS83.set_2 | refine IsS83.far ?_ NB482_478.out _ | refine IsS83.far ?_ NB482_491.out _) | exact HI482.out)) (aR HO494) (by decide)) hk (fun _ h => h.2)) (fun _ h => h.1)); have n5_ := aM (hb); have n6_ := aM (hi); clear BK478; clear HO485; clear HO488; clear BK491; clear HO494; clear HB; clear HI482; have BK478 := n0_; have HO485 := n1_; have HO488 := n2_; have BK491 := n3_; have HO494 := n4_; have HB := n5_; have HI482 := n6_; clear n0_ n1_ n2_ n3_ n4_ n5_ n6_; (try clear hb); (try clear hb2); (try clear hk); (try clear hi)))
  replace HO485 := aM (Kd.R_drew HO485.out)
  replace HO488 := aM (Kd.N_drew HO488.out)
  replace HO494 := aM (Kd.R_drew HO494.out)
  replace BK478 := aM (blk_drew BK478.out)
  replace BK491 := aM (blk_drew BK491.out)
  replace HI482 := aM (IsS83.drew HI482.out)
  replace HB := aM (below_drew1 HB.out)
  refine start_ (n := 6) (S := fun w' => w'.cell? ⟨gb491, 0, none⟩ = some (.slice Ao32 t483.length co32) ∧ w'.cell? ⟨gb491, 1, none⟩ = some (.slice Ao36 t486.length co36)) (ds := []) #[false, false, false, false, false, false] (by kernel_rfl) rfl rfl ⟨(blk_cell BK491.out 0).trans rfl, (blk_cell BK491.out 1).trans rfl⟩ (fun hHeld => ?_)
  generalize w38.drew = w39 at HO485 HO488 HO494 BK478 BK491 HI482 HB hHeld ⊢
  refine pure_ (i := 1) (N := some 25) (v := ?_) (a' := ?_) #[false, true, false, false, false, false] rfl rfl (by kernel_rfl) (fun _ _ _ h => h) (Or.inl ⟨by rfl, ?_⟩) ?_ ?_
  rotate_left
  ·exact aI
  rotate_left
  ·exact aP
  refine take_ (i := 0) (N := some 24) (v := ?_) (a' := ?_) #[true, true, false, false, false, false] rfl rfl (by kernel_rfl) (fun _ _ _ h => h) (Or.inl ⟨by rfl, ?_⟩) hHeld ?_ ?_
  rotate_left
  ·rintro w' ⟨s0, s1⟩
   go_simp
   with_reducible rfl
  rotate_left
  ·exact aP
  refine take_ (i := 2) (N := some 26) (v := ?_) (a' := ?_) #[true, true, true, false, false, false] rfl rfl (by kernel_rfl) (fun _ _ _ h => h) (Or.inl ⟨by rfl, ?_⟩) hHeld ?_ ?_
  rotate_left
  ·rintro w' ⟨s0, s1⟩
   go_simp
   with_reducible rfl
  rotate_left
  ·exact aP
  refine one_ (i := 3) (N := some 27) #[true, true, true, true, false, false] rfl rfl (by kernel_rfl) (by decide) (fun K hK => ?_)
  refine goes_ Try.func89 (by kernel_rfl) rfl #[.pointer (some ⟨g482, 0, none⟩), .agg #[.slice Ao32 t483.length co32, .slice Ao36 t486.length co36]] (by rfl) rfl rfl aA ?_
  with_reducible refine (spec_l4Places.calls k g482 t479 t498 t499 _ _ t483 _ _ t486 t506 t509 t510 w _ ?side1 ?side2 ?side3 ?side4 ?side5 ?side6 A27.out).mono ?_
  (case side1 => repeat (first | (with_reducible first | exact HI482.out | apply IsS83.alloc | apply IsS83.drewN | apply IsS83.drew | apply IsS83.set_1 | apply IsS83.set_2 | refine IsS83.far ?_ NB482_478.out _ | refine IsS83.far ?_ NB482_491.out _) | exact HI482.out))
  (case side2 => repeat (first | (with_reducible first | exact HB.out | apply below_alloc | apply pw_below_drewN | apply below_drew1 | refine below_set ?_ (IsS83.ge HI482.out) | refine below_set ?_ GE478.out | refine below_set ?_ GE491.out) | exact HB.out))
  (case side3 => exact Kd.C_foot_own (IsS83.apart (show IsS83 w _ g482 t479 t498 t499 from by repeat (first | (with_reducible first | exact HI482.out | apply IsS83.alloc | apply IsS83.drewN | apply IsS83.drew | apply IsS83.set_1 | apply IsS83.set_2 | refine IsS83.far ?_ NB482_478.out _ | refine IsS83.far ?_ NB482_491.out _) | exact HI482.out)) (aR HO485) (by decide)) (fun _ h_ => h_.2))
  (case side4 => exact (Kd.R_reads' HO485.out).2.1)
  (case side5 => exact Kd.C_foot_ownV (base := 0) (Kd.N_V (Kd.N_mono (ok := fun k_ => (((((w.heap.size ≤ k_)) ∧ (some k_ ≠ (.slice Ao32 t483.length co32 : Value).ownBlock ∧ (k_ ≠ gb478 ∧ k_ ≠ g482))) ∧ k_ ≠ gb491) ∧ some k_ ≠ (v493 : Value).ownBlock)) (aN HO488) (fun k_ hk_ => (⟨hk_, hk_.1.1.2.2.2⟩ : _ ∧ k_ ≠ g482)))) (fun _ h_ => h_.2))
  (case side6 => exact (Kd.N_reads' HO488.out).2.1)
  rintro e w40 ⟨v507, rfl, ho0, hi, hb, hk⟩
  refine ⟨_, rfl, ?_⟩
  have n0_ := aM (KeepBut.blk hk (g' := gb478) (o := .cells #[.slice none 0 0, .slice none 0 0] 27 (0, 0)) aK NB478_482.out (by simp))
  have n1_ := aM (Kd.R_mono (Kd.R_keep (IsS83.apart (show IsS83 w _ g482 t479 t498 t499 from by repeat (first | (with_reducible first | exact HI482.out | apply IsS83.alloc | apply IsS83.drewN | apply IsS83.drew | apply IsS83.set_1 | apply IsS83.set_2 | refine IsS83.far ?_ NB482_478.out _ | refine IsS83.far ?_ NB482_491.out _) | exact HI482.out)) (aR HO485) (by decide)) hk (fun _ h => h.2)) (fun _ h => h.1))
  have n2_ := aM (Kd.N_mono (Kd.N_told (Kd.N_oldK (Kd.N_mono (ok := fun k_ => (((((w.heap.size ≤ k_)) ∧ (some k_ ≠ (.slice Ao32 t483.length co32 : Value).ownBlock ∧ (k_ ≠ gb478 ∧ k_ ≠ g482))) ∧ k_ ≠ gb491) ∧ some k_ ≠ (v493 : Value).ownBlock)) (aN HO488) (fun k_ hk_ => (⟨hk_, hk_.1.1.2.2.2⟩ : _ ∧ k_ ≠ g482))) hk) (Kd.R_base ho0)) (fun _ h_ => h_.1))
  have n3_ := aM (KeepBut.blk hk (g' := gb491) (o := .cells #[.slice Ao32 t483.length co32, .slice Ao36 t486.length co36] 27 (0, 0)) aK NB491_482.out (by simp))
  have n4_ := aM (Kd.R_mono (Kd.R_told (Kd.R_oldK (IsS83.apart (show IsS83 w _ g482 t479 t498 t499 from by repeat (first | (with_reducible first | exact HI482.out | apply IsS83.alloc | apply IsS83.drewN | apply IsS83.drew | apply IsS83.set_1 | apply IsS83.set_2 | refine IsS83.far ?_ NB482_478.out _ | refine IsS83.far ?_ NB482_491.out _) | exact HI482.out)) (aR HO494) (by decide)) hk) (Kd.R_base ho0)) (fun _ h_ => h_.1))
  have n5_ := aM (Kd.R_lower (Kd.R_new' (Kd.R_newM (M := fun k_ => (w.heap.size ≤ k_)) ho0 (below_size (by repeat (first | (with_reducible first | exact HB.out | apply below_alloc | apply pw_below_drewN | apply below_drew1 | refine below_set ?_ (IsS83.ge HI482.out) | refine below_set ?_ GE478.out | refine below_set ?_ GE491.out) | exact HB.out))) (fun k_ h_ => h_)) (Kd.R_lt (aR HO494))) (below_size (by repeat (first | (with_reducible first | exact HB.out | apply below_alloc | apply pw_below_drewN | apply below_drew1 | refine below_set ?_ (IsS83.ge HI482.out) | refine below_set ?_ GE478.out | refine below_set ?_ GE491.out) | exact HB.out))))
  have n6_ := aM (hb)
  have n7_ := aM (hi)
  clear BK478
  clear HO485
  clear HO488
  clear BK491
  clear HO494
  clear HB
  clear HI482
  have BK478 := n0_
  have HO485 := n1_
  have HO488 := n2_
  have BK491 := n3_
  have HO494 := n4_
  have HO508 := n5_
  have HB := n6_
  have HI482 := n7_
  clear n0_ n1_ n2_ n3_ n4_ n5_ n6_ n7_
  (try clear hb)
  (try clear hb2)
  (try clear hk)
  (try clear hi)
  (try clear ho0)
  refine hK.out _ _ ⟨(blk_cell BK491.out 0).trans rfl, (blk_cell BK491.out 1).trans rfl⟩ (fun hHeld => ?_)
  clear hK K
  refine nU 27 ?_
  refine one_ (i := 4) (N := none) #[true, true, true, true, true, false] rfl rfl (by kernel_rfl) (by decide) (fun K hK => ?_)
  have hs41 : w40.cell? ⟨gb478, 0, none⟩ = some (.slice none 0 0) := (blk_cell BK478.out 0).trans rfl
  have hfs41 := blk_frozen BK478.out 0
  have hns41_1 := NB491_478.out
  have hms41_1 := NB478_491.out
  have hs42 : w40.cell? ⟨gb478, 1, none⟩ = some (.slice none 0 0) := (blk_cell BK478.out 1).trans rfl
  have hfs42 := blk_frozen BK478.out 1
  have hns42_1 := NB491_478.out
  have hms42_1 := NB478_491.out
  refine skip_ (w1 := ?_) (by rfl) rfl ?_ ?_
  rotate_left
  ·go_simp
   rfl
  refine hK.out _ _ ⟨((cell_far (p := ⟨gb478, _, none⟩) NB491_478.out _).trans (((cell_far (p := ⟨gb478, _, none⟩) NB491_478.out _).trans (hHeld.1)))), ((cell_far (p := ⟨gb478, _, none⟩) NB491_478.out _).trans (((cell_far (p := ⟨gb478, _, none⟩) NB491_478.out _).trans (hHeld.2))))⟩ (fun hHeld => ?_)
  clear hK K
  refine pure_ (i := 5) (N := some 3) (v := ?_) (a' := ?_) #[true, true, true, true, true, true] rfl rfl (by kernel_rfl) (fun _ _ _ h => h) (Or.inl ⟨by rfl, ?_⟩) ?_ ?_
  rotate_left
  ·exact aI
  rotate_left
  ·exact aP
  refine done_ (by kernel_rfl) ?_
  try go_wp2
  refine bodyPost_ret (results_ct rfl _ _ gb478 27 #[.slice Ao32 t483.length co32, .slice Ao36 t486.length co36] (0, 0) _ rfl (by (with_reducible repeat refine pB ?_); refine blk_put (cs := #[.slice Ao32 t483.length co32, .slice none 0 0]) ?_ 1 _ rfl; (with_reducible repeat refine pB ?_); refine blk_put (cs := #[.slice none 0 0, .slice none 0 0]) ?_ 0 _ rfl; (with_reducible repeat refine pB ?_); exact BK478.out) Try.underlying27 rfl (by kernel_rfl)) rfl ?_
  exact ⟨_, _, _, aE, by (with_reducible repeat apply pR); exact Kd.R_mono (Kd.R_far (p := ⟨gb478, 1, none⟩) (Kd.R_far (p := ⟨gb478, 0, none⟩) (Kd.R_types HO485.out BK478.out (by decide)) (fun _ hk => hk.2) (.slice Ao32 t483.length co32)) (fun _ hk => hk.2) (.slice Ao36 t486.length co36)) (fun _ hk => hk.1.1), by (with_reducible repeat apply pN); exact Kd.N_mono (Kd.N_far (p := ⟨gb478, 1, none⟩) (Kd.N_far (p := ⟨gb478, 0, none⟩) (Kd.N_mono HO488.out (fun k_ hk => (⟨hk, hk.1.1.1.2.2.1⟩ : _ ∧ k_ ≠ gb478))) (fun _ hk => hk.2) (.slice Ao32 t483.length co32)) (fun _ hk => hk.2) (.slice Ao36 t486.length co36)) (fun _ hk => ⟨hk.1.1.1.1.1, ⟨hk.1.1.1.1.2.1, hk.1.2⟩⟩), by (with_reducible repeat apply pR); exact Kd.R_mono (Kd.R_far (p := ⟨gb478, 1, none⟩) (Kd.R_far (p := ⟨gb478, 0, none⟩) (Kd.R_types HO508.out BK478.out (by decide)) (fun _ hk => hk.2) (.slice Ao32 t483.length co32)) (fun _ hk => hk.2) (.slice Ao36 t486.length co36)) (fun _ hk => hk.1.1.1), by repeat (first | (with_reducible first | exact HB.out | apply below_alloc | apply pw_below_drewN | apply below_drew1 | refine below_set ?_ (IsS83.ge HI482.out) | refine below_set ?_ GE478.out | refine below_set ?_ GE491.out) | exact HB.out)⟩

/-! ### spec_DrawExtendToRepair: function 26 -/
def spec_DrawExtendToRepair.f (k : Nat) (l0 : List Int) : Option ((List (S70)) × (List (S35)) × List Int) := (spec_DrawIsPartialRepair.f k l0).bind fun bt512 => (some (bt512.1, bt512.2.1, bt512.2.2))
set_option maxHeartbeats 8000000 in
set_option maxRecDepth 100000 in
theorem spec_DrawExtendToRepair.calls (k : Nat) (A0 : Option Addr) (c0 : Nat) (l0 : List Int) (r1 : List (S70)) (r2 : List (S35)) (r3 : List Int) (w : World) (hr0 : Kd.C (Kd.int .u8) w A0 l0.length l0) (hc0 : l0.length ≤ c0) (h : spec_DrawExtendToRepair.f k l0 = some (r1, r2, r3)) :
  Calls Try.prog 26 #[.slice A0 l0.length c0] w fun e w' => ∃ v0_ v1_ v2_ : Value, e = .returned (.tuple #[.agg #[v0_, v1_], v2_]) ∧ Kd.R k70 70 w' w.heap.size (fun k_ => (w.heap.size ≤ k_)) v0_ r1 ∧ Kd.N k35 35 w' w.heap.size (fun k_ => (w.heap.size ≤ k_) ∧ some k_ ≠ (v0_ : Value).ownBlock ∧ some k_ ≠ (v2_ : Value).ownBlock) v1_ r2 ∧ Kd.R (Kd.int .i64) 3 w' w.heap.size (fun k_ => (w.heap.size ≤ k_)) v2_ r3 ∧ Below w.heap.size w w' := by
 have hu27 := Try.underlying27
 have HR0 := aM hr0
 have HC0 := aM hc0
 clear hr0 hc0
 have HB := aM (Below.refl w.heap.size w)
 have H : ((spec_DrawIsPartialRepair.f k l0).bind fun bt512 => (some (bt512.1, bt512.2.1, bt512.2.2))) = some (r1, r2, r3) := h
 clear h
 replace H := bM H
 obtain ⟨⟨t512, t515, t518⟩, A20, H⟩ := H
 dsimp only at H
 have A2 := aM A20
 clear A20
 simp only [Option.some.injEq, Prod.mk.injEq] at H
 obtain ⟨rfl, rfl, rfl⟩ := H
 go_enter Try.func26, Try.ntmps26
 go_wp2_with (first | ((with_reducible refine gate_dst (N := 2) rfl ?_); refine bE 2 (cs := #[.slice none 0 0, .slice none 0 0]) (t := 27) ?_; intro gb511 hg w3 hbox hb; have BK511 := aM (hbox); have GW511 := aM ((by rw [hg]; exact (below_size aB) : w.heap.size ≤ gb511)); have GE511 := aM ((by rw [hg]; exact (below_size aB) : w.heap.size ≤ gb511)); replace HB := aM (below_step aB hb); clear hb hbox hg) | ((with_reducible refine gate_callee (f := 63) rfl ?_); refine goesL_ (some 5) rfl rfl Try.func63 (by kernel_rfl) rfl #[.slice A0 l0.length c0] rfl aA ?_; (with_reducible refine (spec_DrawIsPartialRepair.calls k _ _ l0 t512 t515 t518 _ ?side1 ?side2 A2.out).mono ?_); (case side1 => exact aC); (case side2 => exact HC0.out); rintro e w4 ⟨v513, v516, v519, rfl, ho0, ho1, ho2, hb⟩; refine ⟨_, rfl, ?_⟩; have HO514 := aM (Kd.R_lower (Kd.R_newM (M := fun k_ => (w.heap.size ≤ k_)) (Kd.R_mono (ok' := fun k_ => True) ho0 (fun _ hk_ => trivial)) (below_size aG) (fun k_ h_ => h_)) (below_size aG)); have HO517 := aM (Kd.N_lower (Kd.N_mono (ok' := fun k_ => (w.heap.size ≤ k_) ∧ some k_ ≠ (v513 : Value).ownBlock ∧ some k_ ≠ (v519 : Value).ownBlock ∧ k_ ≠ gb511) ho1 (fun k_ hk_ => ⟨(Nat.le_trans (below_size aG) hk_.1), hk_.2.1, hk_.2.2, (Kd.freshB (g := gb511) (o := .cells #[.slice none 0 0, .slice none 0 0] 27 (0, 0)) aK k_ hk_.1)⟩)) (below_size aG)); have HO520 := aM (Kd.R_lower (Kd.R_newM (M := fun k_ => (w.heap.size ≤ k_)) (Kd.R_mono (ok' := fun k_ => True) ho2 (fun _ hk_ => trivial)) (below_size aG) (fun k_ h_ => h_)) (below_size aG)); replace BK511 := aM (blk_below (g := gb511) (o := .cells #[.slice none 0 0, .slice none 0 0] 27 (0, 0)) aK hb); replace HB := aM (below_step aG hb); (try clear hb); (try clear hb2); (try clear hk); (try clear hi); (try clear ho0); (try clear ho1); (try clear ho2); obtain ⟨Ao5, co5, eo5⟩ := Kd.R_slice HO514.out; subst eo5; have hcz6_0 : w4.cell? ⟨gb511, 0, none⟩ = some (.slice none 0 0) := (blk_cell BK511.out 0).trans rfl; have hcz6_1 : w4.cell? ⟨gb511, 1, none⟩ = some (.slice none 0 0) := (blk_cell BK511.out 1).trans rfl; have hfz6_0 := blk_frozen BK511.out 0; have hfz6_1 := blk_frozen BK511.out 1; obtain ⟨Ao7, co7, eo7⟩ := Kd.N_slice HO517.out; subst eo7))
 refine bodyPost_ret (results_ct rfl _ _ gb511 27 #[.slice Ao5 t512.length co5, .slice Ao7 t515.length co7] (0, 0) _ rfl (by (with_reducible repeat refine pB ?_); refine blk_put (cs := #[.slice Ao5 t512.length co5, .slice none 0 0]) ?_ 1 _ rfl; (with_reducible repeat refine pB ?_); refine blk_put (cs := #[.slice none 0 0, .slice none 0 0]) ?_ 0 _ rfl; (with_reducible repeat refine pB ?_); exact BK511.out) Try.underlying27 rfl (by kernel_rfl)) rfl ?_
 exact ⟨_, _, _, aE, by (with_reducible repeat apply pR); exact Kd.R_mono (Kd.R_far (p := ⟨gb511, 1, none⟩) (Kd.R_far (p := ⟨gb511, 0, none⟩) (Kd.R_types HO514.out BK511.out (by decide)) (fun _ hk => hk.2) (.slice Ao5 t512.length co5)) (fun _ hk => hk.2) (.slice Ao7 t515.length co7)) (fun _ hk => hk.1.1), by (with_reducible repeat apply pN); exact Kd.N_mono (Kd.N_far (p := ⟨gb511, 1, none⟩) (Kd.N_far (p := ⟨gb511, 0, none⟩) (Kd.N_mono HO517.out (fun k_ hk => (⟨hk, hk.2.2.2⟩ : _ ∧ k_ ≠ gb511))) (fun _ hk => hk.2) (.slice Ao5 t512.length co5)) (fun _ hk => hk.2) (.slice Ao7 t515.length co7)) (fun _ hk => ⟨hk.1.1, ⟨hk.1.2.1, hk.1.2.2.1⟩⟩), by (with_reducible repeat apply pR); exact Kd.R_mono (Kd.R_far (p := ⟨gb511, 1, none⟩) (Kd.R_far (p := ⟨gb511, 0, none⟩) (Kd.R_types HO520.out BK511.out (by decide)) (fun _ hk => hk.2) (.slice Ao5 t512.length co5)) (fun _ hk => hk.2) (.slice Ao7 t515.length co7)) (fun _ hk => hk.1.1), aG⟩

-- NOT PRINTED: function 102 (slices_IndexFunc_int_int)

-- NOT PRINTED: function 98 (slices_ContainsFunc_int_int)

end Go.Proofs.Ytbdeimhlohhhiaa.PFnExtendToRepair
