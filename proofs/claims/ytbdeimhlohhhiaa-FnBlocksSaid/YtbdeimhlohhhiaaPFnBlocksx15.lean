-- Laid by a program of this claim: what the functions come to, some of them proved by hand.
import Derived.Test.YtbdeimhlohhhiaaPFnBlocksx0
import Derived.Test.YtbdeimhlohhhiaaPFnBlocksx11
import Derived.Test.YtbdeimhlohhhiaaPFnBlocksx13
import Derived.Test.YtbdeimhlohhhiaaPFnBlocksx14
namespace Go.Proofs.Ytbdeimhlohhhiaa.PFnBlocks
open Go.RowKit Go.Proofs.YtbdeimhlohhhiaaW.PrintWords Go.Proofs.YtbdeimhlohhhiaaW.PrintLast Go.Proofs.YtbdeimhlohhhiaaW.PrintMore
attribute [local go_sem] max2_int min2_int max_two min_two max_three min_three max_four min_four   -- for this text's walks alone
set_option linter.unusedVariables false
set_option linter.unusedSimpArgs false

/-! ### impl_BlockSizes: function 14 -/
def impl_BlockSizes.l0 : Nat → List Int → List (List Int) → Int → Int → Option (List Int)
 | 0, _, _, _, _ => none
 | k + 1, x3, x8, x9, x10 => if x10 < x9 then (if 0 ≤ x10 then (if x10 < (x8.length : Int) then (if x3.length < 17592186044416 then (impl_BlockSizes.l0 k (x3 ++ [((rd_L4 x8 x10).length : Int)]) x8 x9 (wrap64 (x10 + 1))) else (none)) else (none)) else (none)) else (some x3)
def impl_BlockSizes.f (k : Nat) (l0_0 : List (S70)) (l0_1 : List (S35)) : Option (List Int) := (impl_Blocks.f k l0_0 l0_1).bind fun t484 => (impl_BlockSizes.l0 k (([] : List Int)) t484 (t484.length : Int) 0)
set_option maxHeartbeats 8000000 in
set_option maxRecDepth 100000 in
theorem impl_BlockSizes.calls (k : Nat) (A0_0 : Option Addr) (c0_0 : Nat) (l0_0 : List (S70)) (A0_1 : Option Addr) (c0_1 : Nat) (l0_1 : List (S35)) (r : List Int) (w : World) (hr0_0 : Kd.C k70 w A0_0 l0_0.length l0_0) (hc0_0 : l0_0.length ≤ c0_0) (hr0_1 : Kd.C k35 w A0_1 l0_1.length l0_1) (hc0_1 : l0_1.length ≤ c0_1) (h : impl_BlockSizes.f k l0_0 l0_1 = some r) :
  Calls Try.prog 14 #[.agg #[.slice A0_0 l0_0.length c0_0, .slice A0_1 l0_1.length c0_1]] w fun e w' => ∃ v0_ : Value, e = .returned (v0_) ∧ Kd.R (Kd.int .i64) 3 w' w.heap.size (fun _ => True) v0_ r ∧ Below w.heap.size w w' := by
 have hu27 := Try.underlying27
 have HR0_0 := aM hr0_0
 have HC0_0 := aM hc0_0
 clear hr0_0 hc0_0
 have HR0_1 := aM hr0_1
 have HC0_1 := aM hc0_1
 clear hr0_1 hc0_1
 have HB := aM (Below.refl w.heap.size w)
 have H : ((impl_Blocks.f k l0_0 l0_1).bind fun t484 => (impl_BlockSizes.l0 k (([] : List Int)) t484 (t484.length : Int) 0)) = some r := h
 clear h
 obtain ⟨y481, hy481⟩ : ∃ y_ : List Int, y_ = (([] : List Int)) := ⟨_, rfl⟩
 first | replace H := bY hy481 H | rw [← hy481] at H
 have Ny481 := aM hy481
 clear hy481
 replace H := bM H
 obtain ⟨t484, A20, H⟩ := H
 have A2 := aM A20
 clear A20
 have H' := aM H
 clear H
 go_enter Try.func14, Try.ntmps14
 go_wp2_with (first | ((with_reducible refine gate_dst (N := 1) rfl ?_); refine bE 1 (cs := #[.slice A0_0 l0_0.length c0_0, .slice A0_1 l0_1.length c0_1]) (t := 27) ?_; intro gb480 hg w3 hbox hb; have BK480 := aM (hbox); have GW480 := aM ((by rw [hg]; exact (below_size aB) : w.heap.size ≤ gb480)); have GE480 := aM ((by rw [hg]; exact (below_size aB) : w.heap.size ≤ gb480)); replace HB := aM (below_step aB hb); clear hb hbox hg) | ((with_reducible refine gate_dst (N := 6) rfl ?_); refine Kd.R_lit (Kd.int .i64) _ 3 ?hg (N := 6) ?hd (xs := ([] : List Int)) (inner := []) (ok := fun _ => True) (okp := fun _ => True) ?hr ?hp (fun _ hk => hk) trivial (Below.refl _ _) (Nat.le_refl _) (by simp) ?_; (case hd => rfl); (case hg => rfl); (case hr => first | (go_simp; done) | (go_simp; rfl)); (case hp => exact (Reps.none _ _)); intro v482 w4 ho5 hb hg_ hnew_; clear hg_ hnew_; (first | rw [← Ny481.out] at ho5 | (simp only [Int.reduceToNat] at ho5; rw [← Ny481.out] at ho5)); have HO483 := aM (Kd.R_lower ho5 (below_size aG)); replace BK480 := aM (blk_below (g := gb480) (o := .cells #[.slice A0_0 l0_0.length c0_0, .slice A0_1 l0_1.length c0_1] 27 (0, 0)) aK hb); replace HB := aM (below_step aG hb); clear hb ho5; have hcz6_0 : w4.cell? ⟨gb480, 0, none⟩ = some (.slice A0_0 l0_0.length c0_0) := (blk_cell BK480.out 0).trans rfl; have hcz6_1 : w4.cell? ⟨gb480, 1, none⟩ = some (.slice A0_1 l0_1.length c0_1) := (blk_cell BK480.out 1).trans rfl; have hfz6_0 := blk_frozen BK480.out 0; have hfz6_1 := blk_frozen BK480.out 1) | ((with_reducible refine gate_callee (f := 9) rfl ?_); refine goesL_ (some 8) rfl rfl Try.func9 (by kernel_rfl) rfl #[.agg #[.slice A0_0 l0_0.length c0_0, .slice A0_1 l0_1.length c0_1]] rfl aA ?_; (with_reducible refine (impl_Blocks.calls k _ _ l0_0 _ _ l0_1 t484 _ ?side1 ?side2 ?side3 ?side4 A2.out).mono ?_); (case side1 => exact aC); (case side2 => exact HC0_0.out); (case side3 => exact aC); (case side4 => exact HC0_1.out); rintro e w7 ⟨v485, rfl, ho0, hb⟩; refine ⟨_, rfl, ?_⟩; have HO486 := aM (Kd.S_lower (Kd.S_new' ho0 (Kd.R_lt (aR HO483))) (below_size aG)); replace HO483 := aM (Kd.R_below (aR HO483) hb); replace BK480 := aM (blk_below (g := gb480) (o := .cells #[.slice A0_0 l0_0.length c0_0, .slice A0_1 l0_1.length c0_1] 27 (0, 0)) aK hb); replace HB := aM (below_step aG hb); (try clear hb); (try clear hb2); (try clear hk); (try clear hi); (try clear ho0); obtain ⟨Ao8, co8, eo8⟩ := Kd.S_slice HO486.out; subst eo8))
 go_loopg [3, 10] k (fun kq v3 v10 w' => ∃ (x3_1 : List Int) (x10_1 : Int), v10 = .int .i64 x10_1 ∧ Aside0 (impl_BlockSizes.l0 kq x3_1 t484 (t484.length : Int) x10_1 = some r) ∧ Aside0 (kq ≤ k) ∧ Aside0 (Kd.R (Kd.int .i64) 3 w' w.heap.size (fun _ => True) v3 x3_1) ∧ Aside0 (Kd.S (Kd.slice 3 (Kd.int .i64)) 32 w' w.heap.size (fun k_ => some k_ ≠ (v3 : Value).ownBlock) (.slice Ao8 t484.length co8) t484) ∧ Aside0 (w'.heap[gb480]? = some (.cells #[(.slice A0_0 l0_0.length c0_0), (.slice A0_1 l0_1.length c0_1)] 27 (0, 0))) ∧ Aside0 (Below w.heap.size w w'))
 case atStart => exact ⟨(y481), (0), aX, H', ⟨Nat.le_refl _⟩, ⟨aR HO483⟩, ⟨by (with_reducible repeat (first | apply Kd.S_alloc | apply Kd.S_drewN | apply Kd.S_drew)); exact Kd.S_mono HO486.out (fun _ hk => hk.2)⟩, ⟨aK⟩, ⟨aG⟩⟩
 case round =>
  clear H'
  try clear c1
  try clear p2
  try clear hcz6_0
  try clear hcz6_1
  try clear hfz6_0
  try clear hfz6_1
  obtain ⟨x3_1, x10_1, rfl, HA, HK1, HO_3, HO_8, BK480, HB⟩ := hrel
  cases gk with
  | zero => exact absurd HA.out (by simp [impl_BlockSizes.l0])
  | succ k1 =>
   have H := HA.out
   clear HA
   simp only [impl_BlockSizes.l0] at H
   by_cases c9 : x10_1 < (t484.length : Int)
   ·rw [if_pos c9] at H
    have c9b0 : decide (x10_1 < (t484.length : Int)) = true := decide_eq_true c9
    clear c9
    by_cases c10 : 0 ≤ x10_1
    ·rw [if_pos c10] at H
     have c10b0 : decide (0 ≤ x10_1) = true := decide_eq_true c10
     clear c10
     by_cases c11 : x10_1 < (t484.length : Int)
     ·rw [if_pos c11] at H
      have c11b0 : decide (x10_1 < (t484.length : Int)) = true := decide_eq_true c11
      clear c11
      by_cases c12 : x3_1.length < 17592186044416
      ·rw [if_pos c12] at H
       have LMc12 := aM c12
       clear c12
       obtain ⟨y488, hy488⟩ : ∃ y_ : List Int, y_ = (x3_1 ++ [((rd_L4 t484 x10_1).length : Int)]) := ⟨_, rfl⟩
       first | replace H := bY hy488 H | rw [← hy488] at H
       have Ny488 := aM hy488
       clear hy488
       have H' := aM H
       clear H
       have p487 : 0 ≤ (x10_1 : Int) := aD
       have q487 : x10_1 < (t484.length : Int) := aD
       obtain ⟨ad487, A487_0, c487_0, e487, hx487_0, hl487_0, hi487_0⟩ := at_L4 (Kd.S_reads' HO_8.out).2.2 x10_1 p487 q487
       cases e487
       obtain ⟨ce487, hce487, hMe487, hcc487⟩ := Kd.S_get HO_8.out [] x10_1 p487 (by first | exact q487 | exact aD | (have e_ := (Kd.S_reads' HO_8.out).1; omega))
       obtain ⟨ve487_0, rfl, ge487_0⟩ := hMe487
       have hv487_0 := hcc487 0 _ rfl
       rw [Nat.add_zero, show ((Kd.slice 3 (Kd.int .i64))).sz = 1 from rfl, Nat.mul_one] at hv487_0
       replace hv487_0 := Option.some.inj (hv487_0.symm.trans hx487_0)
       rw [hv487_0] at ge487_0
       have HL487_0 := aM (show Kd.R (Kd.int .i64) 3 _ _ _ _ (rd_L4 t484 x10_1) from ge487_0)
       clear hv487_0 ge487_0
       clear hcc487 hce487
       have HR487_0 := aM hi487_0
       have HC487_0 := aM hl487_0
       clear hi487_0 hl487_0
       replace p487 := eq_true p487
       replace q487 := eq_true q487
       go_wp2_with (first | ((with_reducible refine gate_builtin (b := .append) (xs := #[.tmp 14, .tmp 17]) rfl ?_); at_builtin; refine Kd.R_append (Kd.int .i64) (w0 := w) w.heap.size rfl (.tmp 14) (.tmp 17) 32 3 (.int .i64 0) 8 rfl Try.underlying32 info3 rfl (by decide) (by omega) u3 x3_1 ((rd_L4 t484 x10_1).length : Int) [.int .i64 ((rd_L4 t484 x10_1).length : Int)] (fun _ => True) (fun _ => False) rfl rfl ?aP (fun _ hk => hk.elim) ?aF ?aO ?aB ?aS ?aL ?_; (case aP => exact rfl); (case aB => exact aG); (case aF => exact (fun _ _ => trivial)); (case aO => exact (aR HO_3)); (case aS => exact (below_size aG)); (case aL => have := LMc12.out; omega); intro v489 w13 ho hb hg hat; rw [← Ny488.out] at ho; have HO490 := aM (ho); replace HO_8 := aM (Kd.S_after (ok := (fun _ => True)) (by (with_reducible repeat (first | apply Kd.S_alloc | apply Kd.S_drewN | apply Kd.S_drew)); exact Kd.S_mono HO_8.out (fun _ hk => ⟨trivial, hk⟩)) hg hat); replace BK480 := aM (blk_grown (g := gb480) (o := .cells #[.slice A0_0 l0_0.length c0_0, .slice A0_1 l0_1.length c0_1] 27 (0, 0)) aK hg (Kd.R_ne HO_3.out BK480.out (by decide))); replace HL487_0 := aM (Kd.R_after (ok := (fun k_ => some k_ ≠ (.slice (some ad487) t484.length co8 : Value).ownBlock)) (by (with_reducible repeat (first | apply Kd.R_alloc | apply Kd.R_drewN | apply Kd.R_drew)); exact Kd.R_mono HL487_0.out (fun _ hk => ⟨hk.2, hk.1⟩)) hg hat); replace HB := aM (hb); clear HO_3; clear ho hb hg hat))
       go_roundg k1
       case measure => have := HK1.out; omega
       case rel => exact ⟨(y488), (wrap64 (x10_1 + 1)), aX, H', ⟨by have := HK1.out; omega⟩, ⟨aR HO490⟩, ⟨by (with_reducible repeat (first | apply Kd.S_alloc | apply Kd.S_drewN | apply Kd.S_drew)); exact Kd.S_mono HO_8.out (fun _ hk => hk.2)⟩, ⟨aK⟩, ⟨aG⟩⟩
      ·rw [if_neg c12] at H
       exact absurd H (by simp)
     ·rw [if_neg c11] at H
      exact absurd H (by simp)
    ·rw [if_neg c10] at H
     exact absurd H (by simp)
   ·rw [if_neg c9] at H
    have c9b0 : decide (x10_1 < (t484.length : Int)) = false := decide_eq_false c9
    clear c9
    obtain rfl := Option.some.inj H
    go_wp2
    go_ret
    exact ⟨_, aE, aR HO_3, aG⟩

/-! ### impl_ConflictingFacts: function 15 -/
def impl_ConflictingFacts.l0 : Nat → List Int → List (List Int) → Int → Int → Option (List Int)
 | 0, _, _, _, _ => none
 | k + 1, x3, x8, x9, x10 => if x10 < x9 then (if 0 ≤ x10 then (if x10 < (x8.length : Int) then (if ((rd_L4 x8 x10).length : Int) > 1 then (if x3.length + (rd_L4 x8 x10).length < 17592186044416 then (impl_ConflictingFacts.l0 k (x3 ++ (rd_L4 x8 x10)) x8 x9 (wrap64 (x10 + 1))) else (none)) else (impl_ConflictingFacts.l0 k x3 x8 x9 (wrap64 (x10 + 1)))) else (none)) else (none)) else (some x3)
def impl_ConflictingFacts.f (k : Nat) (l0_0 : List (S70)) (l0_1 : List (S35)) : Option (List Int) := (impl_Blocks.f k l0_0 l0_1).bind fun t495 => (impl_ConflictingFacts.l0 k (([] : List Int)) t495 (t495.length : Int) 0)
set_option maxHeartbeats 8000000 in
set_option maxRecDepth 100000 in
theorem impl_ConflictingFacts.calls (k : Nat) (A0_0 : Option Addr) (c0_0 : Nat) (l0_0 : List (S70)) (A0_1 : Option Addr) (c0_1 : Nat) (l0_1 : List (S35)) (r : List Int) (w : World) (hr0_0 : Kd.C k70 w A0_0 l0_0.length l0_0) (hc0_0 : l0_0.length ≤ c0_0) (hr0_1 : Kd.C k35 w A0_1 l0_1.length l0_1) (hc0_1 : l0_1.length ≤ c0_1) (h : impl_ConflictingFacts.f k l0_0 l0_1 = some r) :
  Calls Try.prog 15 #[.agg #[.slice A0_0 l0_0.length c0_0, .slice A0_1 l0_1.length c0_1]] w fun e w' => ∃ v0_ : Value, e = .returned (v0_) ∧ Kd.R (Kd.int .i64) 3 w' w.heap.size (fun _ => True) v0_ r ∧ Below w.heap.size w w' := by
 have hu27 := Try.underlying27
 have HR0_0 := aM hr0_0
 have HC0_0 := aM hc0_0
 clear hr0_0 hc0_0
 have HR0_1 := aM hr0_1
 have HC0_1 := aM hc0_1
 clear hr0_1 hc0_1
 have HB := aM (Below.refl w.heap.size w)
 have H : ((impl_Blocks.f k l0_0 l0_1).bind fun t495 => (impl_ConflictingFacts.l0 k (([] : List Int)) t495 (t495.length : Int) 0)) = some r := h
 clear h
 obtain ⟨y492, hy492⟩ : ∃ y_ : List Int, y_ = (([] : List Int)) := ⟨_, rfl⟩
 first | replace H := bY hy492 H | rw [← hy492] at H
 have Ny492 := aM hy492
 clear hy492
 replace H := bM H
 obtain ⟨t495, A20, H⟩ := H
 have A2 := aM A20
 clear A20
 have H' := aM H
 clear H
 go_enter Try.func15, Try.ntmps15
 go_wp2_with (first | ((with_reducible refine gate_dst (N := 1) rfl ?_); refine bE 1 (cs := #[.slice A0_0 l0_0.length c0_0, .slice A0_1 l0_1.length c0_1]) (t := 27) ?_; intro gb491 hg w3 hbox hb; have BK491 := aM (hbox); have GW491 := aM ((by rw [hg]; exact (below_size aB) : w.heap.size ≤ gb491)); have GE491 := aM ((by rw [hg]; exact (below_size aB) : w.heap.size ≤ gb491)); replace HB := aM (below_step aB hb); clear hb hbox hg) | ((with_reducible refine gate_dst (N := 6) rfl ?_); refine Kd.R_lit (Kd.int .i64) _ 3 ?hg (N := 6) ?hd (xs := ([] : List Int)) (inner := []) (ok := fun _ => True) (okp := fun _ => True) ?hr ?hp (fun _ hk => hk) trivial (Below.refl _ _) (Nat.le_refl _) (by simp) ?_; (case hd => rfl); (case hg => rfl); (case hr => first | (go_simp; done) | (go_simp; rfl)); (case hp => exact (Reps.none _ _)); intro v493 w4 ho5 hb hg_ hnew_; clear hg_ hnew_; (first | rw [← Ny492.out] at ho5 | (simp only [Int.reduceToNat] at ho5; rw [← Ny492.out] at ho5)); have HO494 := aM (Kd.R_lower ho5 (below_size aG)); replace BK491 := aM (blk_below (g := gb491) (o := .cells #[.slice A0_0 l0_0.length c0_0, .slice A0_1 l0_1.length c0_1] 27 (0, 0)) aK hb); replace HB := aM (below_step aG hb); clear hb ho5; have hcz6_0 : w4.cell? ⟨gb491, 0, none⟩ = some (.slice A0_0 l0_0.length c0_0) := (blk_cell BK491.out 0).trans rfl; have hcz6_1 : w4.cell? ⟨gb491, 1, none⟩ = some (.slice A0_1 l0_1.length c0_1) := (blk_cell BK491.out 1).trans rfl; have hfz6_0 := blk_frozen BK491.out 0; have hfz6_1 := blk_frozen BK491.out 1) | ((with_reducible refine gate_callee (f := 9) rfl ?_); refine goesL_ (some 8) rfl rfl Try.func9 (by kernel_rfl) rfl #[.agg #[.slice A0_0 l0_0.length c0_0, .slice A0_1 l0_1.length c0_1]] rfl aA ?_; (with_reducible refine (impl_Blocks.calls k _ _ l0_0 _ _ l0_1 t495 _ ?side1 ?side2 ?side3 ?side4 A2.out).mono ?_); (case side1 => exact aC); (case side2 => exact HC0_0.out); (case side3 => exact aC); (case side4 => exact HC0_1.out); rintro e w7 ⟨v496, rfl, ho0, hb⟩; refine ⟨_, rfl, ?_⟩; have HO497 := aM (Kd.S_lower (Kd.S_new' ho0 (Kd.R_lt (aR HO494))) (below_size aG)); replace HO494 := aM (Kd.R_below (aR HO494) hb); replace BK491 := aM (blk_below (g := gb491) (o := .cells #[.slice A0_0 l0_0.length c0_0, .slice A0_1 l0_1.length c0_1] 27 (0, 0)) aK hb); replace HB := aM (below_step aG hb); (try clear hb); (try clear hb2); (try clear hk); (try clear hi); (try clear ho0); obtain ⟨Ao8, co8, eo8⟩ := Kd.S_slice HO497.out; subst eo8))
 go_loopg [3, 10] k (fun kq v3 v10 w' => ∃ (x3_1 : List Int) (x10_1 : Int), v10 = .int .i64 x10_1 ∧ Aside0 (impl_ConflictingFacts.l0 kq x3_1 t495 (t495.length : Int) x10_1 = some r) ∧ Aside0 (kq ≤ k) ∧ Aside0 (Kd.R (Kd.int .i64) 3 w' w.heap.size (fun _ => True) v3 x3_1) ∧ Aside0 (Kd.S (Kd.slice 3 (Kd.int .i64)) 32 w' w.heap.size (fun k_ => some k_ ≠ (v3 : Value).ownBlock) (.slice Ao8 t495.length co8) t495) ∧ Aside0 (w'.heap[gb491]? = some (.cells #[(.slice A0_0 l0_0.length c0_0), (.slice A0_1 l0_1.length c0_1)] 27 (0, 0))) ∧ Aside0 (Below w.heap.size w w'))
 case atStart => exact ⟨(y492), (0), aX, H', ⟨Nat.le_refl _⟩, ⟨aR HO494⟩, ⟨by (with_reducible repeat (first | apply Kd.S_alloc | apply Kd.S_drewN | apply Kd.S_drew)); exact Kd.S_mono HO497.out (fun _ hk => hk.2)⟩, ⟨aK⟩, ⟨aG⟩⟩
 case round =>
  clear H'
  try clear c1
  try clear p2
  try clear hcz6_0
  try clear hcz6_1
  try clear hfz6_0
  try clear hfz6_1
  obtain ⟨x3_1, x10_1, rfl, HA, HK1, HO_3, HO_8, BK491, HB⟩ := hrel
  cases gk with
  | zero => exact absurd HA.out (by simp [impl_ConflictingFacts.l0])
  | succ k1 =>
   have H := HA.out
   clear HA
   simp only [impl_ConflictingFacts.l0] at H
   by_cases c9 : x10_1 < (t495.length : Int)
   ·rw [if_pos c9] at H
    have c9b0 : decide (x10_1 < (t495.length : Int)) = true := decide_eq_true c9
    clear c9
    by_cases c10 : 0 ≤ x10_1
    ·rw [if_pos c10] at H
     have c10b0 : decide (0 ≤ x10_1) = true := decide_eq_true c10
     clear c10
     by_cases c11 : x10_1 < (t495.length : Int)
     ·rw [if_pos c11] at H
      have c11b0 : decide (x10_1 < (t495.length : Int)) = true := decide_eq_true c11
      clear c11
      by_cases c12 : ((rd_L4 t495 x10_1).length : Int) > 1
      ·rw [if_pos c12] at H
       have c12b0 : decide (1 < ((rd_L4 t495 x10_1).length : Int)) = true := decide_eq_true c12
       have c12b1 : decide (1 < (rd_L4 t495 x10_1).length) = true := decide_eq_true (by omega)
       clear c12
       by_cases c13 : x3_1.length + (rd_L4 t495 x10_1).length < 17592186044416
       ·rw [if_pos c13] at H
        have LMc13 := aM c13
        clear c13
        obtain ⟨y499, hy499⟩ : ∃ y_ : List Int, y_ = (x3_1 ++ (rd_L4 t495 x10_1)) := ⟨_, rfl⟩
        first | replace H := bY hy499 H | rw [← hy499] at H
        have Ny499 := aM hy499
        clear hy499
        have H' := aM H
        clear H
        have p498 : 0 ≤ (x10_1 : Int) := aD
        have q498 : x10_1 < (t495.length : Int) := aD
        obtain ⟨ad498, A498_0, c498_0, e498, hx498_0, hl498_0, hi498_0⟩ := at_L4 (Kd.S_reads' HO_8.out).2.2 x10_1 p498 q498
        cases e498
        obtain ⟨ce498, hce498, hMe498, hcc498⟩ := Kd.S_get HO_8.out [] x10_1 p498 (by first | exact q498 | exact aD | (have e_ := (Kd.S_reads' HO_8.out).1; omega))
        obtain ⟨ve498_0, rfl, ge498_0⟩ := hMe498
        have hv498_0 := hcc498 0 _ rfl
        rw [Nat.add_zero, show ((Kd.slice 3 (Kd.int .i64))).sz = 1 from rfl, Nat.mul_one] at hv498_0
        replace hv498_0 := Option.some.inj (hv498_0.symm.trans hx498_0)
        rw [hv498_0] at ge498_0
        have HL498_0 := aM (show Kd.R (Kd.int .i64) 3 _ _ _ _ (rd_L4 t495 x10_1) from ge498_0)
        clear hv498_0 ge498_0
        clear hcc498 hce498
        have HR498_0 := aM hi498_0
        have HC498_0 := aM hl498_0
        clear hi498_0 hl498_0
        replace p498 := eq_true p498
        replace q498 := eq_true q498
        go_wp2_with (first | ((with_reducible refine gate_builtin (b := .append) (xs := #[.tmp 17, .tmp 18]) rfl ?_); at_builtin; refine Kd.R_append_rows (Kd.int .i64) (w0 := w) w.heap.size rfl (.tmp 17) (.tmp 18) 32 3 (.int .i64 0) 8 rfl Try.underlying32 info3 rfl (by decide) (by omega) u3 x3_1 (rd_L4 t495 x10_1) _ _ _ (fun _ => True) (fun _ => False) rfl rfl ?aO ?aR (fun _ _ h => h) (fun _ h => h.elim) ?aF ?aB ?aS ?aL ?_; (case aR => repeat (first | exact (by repeat (first | (with_reducible exact HR498_0.out) | (with_reducible refine Kd.C_alloc ?_ _) | (with_reducible refine Kd.C_drewN ?_ _) | (with_reducible refine Kd.C_drew ?_) | exact HR498_0.out)) | (with_reducible refine Kd.C_alloc ?_ _) | (with_reducible refine Kd.C_drewN ?_ _) | (with_reducible refine Kd.C_drew ?_))); (case aB => exact aG); (case aF => exact (fun _ _ => trivial)); (case aO => exact (aR HO_3)); (case aS => exact (below_size aG)); (case aL => have := LMc13.out; omega); intro v500 w14 ho hb hg hat; rw [← Ny499.out] at ho; have HO501 := aM (ho); replace HO_8 := aM (Kd.S_after (ok := (fun _ => True)) (by (with_reducible repeat (first | apply Kd.S_alloc | apply Kd.S_drewN | apply Kd.S_drew)); exact Kd.S_mono HO_8.out (fun _ hk => ⟨trivial, hk⟩)) hg hat); replace BK491 := aM (blk_grown (g := gb491) (o := .cells #[.slice A0_0 l0_0.length c0_0, .slice A0_1 l0_1.length c0_1] 27 (0, 0)) aK hg (Kd.R_ne HO_3.out BK491.out (by decide))); replace HL498_0 := aM (Kd.R_after (ok := (fun k_ => some k_ ≠ (.slice (some ad498) t495.length co8 : Value).ownBlock)) (by (with_reducible repeat (first | apply Kd.R_alloc | apply Kd.R_drewN | apply Kd.R_drew)); exact Kd.R_mono HL498_0.out (fun _ hk => ⟨hk.2, hk.1⟩)) hg hat); replace HB := aM (hb); clear HO_3; clear ho hb hg hat))
        go_roundg k1
        case measure => have := HK1.out; omega
        case rel => exact ⟨(y499), (wrap64 (x10_1 + 1)), aX, H', ⟨by have := HK1.out; omega⟩, ⟨aR HO501⟩, ⟨by (with_reducible repeat (first | apply Kd.S_alloc | apply Kd.S_drewN | apply Kd.S_drew)); exact Kd.S_mono HO_8.out (fun _ hk => hk.2)⟩, ⟨aK⟩, ⟨aG⟩⟩
       ·rw [if_neg c13] at H
        exact absurd H (by simp)
      ·rw [if_neg c12] at H
       have c12b0 : decide (1 < ((rd_L4 t495 x10_1).length : Int)) = false := decide_eq_false c12
       have c12b1 : decide (1 < (rd_L4 t495 x10_1).length) = false := decide_eq_false (by omega)
       clear c12
       have H' := aM H
       clear H
       have p498 : 0 ≤ (x10_1 : Int) := aD
       have q498 : x10_1 < (t495.length : Int) := aD
       obtain ⟨ad498, A498_0, c498_0, e498, hx498_0, hl498_0, hi498_0⟩ := at_L4 (Kd.S_reads' HO_8.out).2.2 x10_1 p498 q498
       cases e498
       obtain ⟨ce498, hce498, hMe498, hcc498⟩ := Kd.S_get HO_8.out [] x10_1 p498 (by first | exact q498 | exact aD | (have e_ := (Kd.S_reads' HO_8.out).1; omega))
       obtain ⟨ve498_0, rfl, ge498_0⟩ := hMe498
       have hv498_0 := hcc498 0 _ rfl
       rw [Nat.add_zero, show ((Kd.slice 3 (Kd.int .i64))).sz = 1 from rfl, Nat.mul_one] at hv498_0
       replace hv498_0 := Option.some.inj (hv498_0.symm.trans hx498_0)
       rw [hv498_0] at ge498_0
       have HL498_0 := aM (show Kd.R (Kd.int .i64) 3 _ _ _ _ (rd_L4 t495 x10_1) from ge498_0)
       clear hv498_0 ge498_0
       clear hcc498 hce498
       have HR498_0 := aM hi498_0
       have HC498_0 := aM hl498_0
       clear hi498_0 hl498_0
       replace p498 := eq_true p498
       replace q498 := eq_true q498
       go_wp2
       go_roundg k1
       case measure => have := HK1.out; omega
       case rel => exact ⟨(x3_1), (wrap64 (x10_1 + 1)), aX, H', ⟨by have := HK1.out; omega⟩, ⟨aR HO_3⟩, ⟨aS HO_8⟩, ⟨aK⟩, ⟨aG⟩⟩
     ·rw [if_neg c11] at H
      exact absurd H (by simp)
    ·rw [if_neg c10] at H
     exact absurd H (by simp)
   ·rw [if_neg c9] at H
    have c9b0 : decide (x10_1 < (t495.length : Int)) = false := decide_eq_false c9
    clear c9
    obtain rfl := Option.some.inj H
    go_wp2
    go_ret
    exact ⟨_, aE, aR HO_3, aG⟩

/-! ### impl_IsConsistent: function 16 -/
def impl_IsConsistent.f (k : Nat) (l0_0 : List (S70)) (l0_1 : List (S35)) : Option (Bool) := (impl_IsValidDatabase.f l0_0 l0_1).bind fun t503 => (if t503 = true then ((impl_blocks.f k l0_0 l0_1).bind fun t504 => (some ((t504.length : Int) == (l0_1.length : Int)))) else (some false))
set_option maxHeartbeats 8000000 in
set_option maxRecDepth 100000 in
theorem impl_IsConsistent.calls (k : Nat) (A0_0 : Option Addr) (c0_0 : Nat) (l0_0 : List (S70)) (A0_1 : Option Addr) (c0_1 : Nat) (l0_1 : List (S35)) (r : Bool) (w : World) (hr0_0 : Kd.C k70 w A0_0 l0_0.length l0_0) (hc0_0 : l0_0.length ≤ c0_0) (hr0_1 : Kd.C k35 w A0_1 l0_1.length l0_1) (hc0_1 : l0_1.length ≤ c0_1) (h : impl_IsConsistent.f k l0_0 l0_1 = some r) :
  Calls Try.prog 16 #[.agg #[.slice A0_0 l0_0.length c0_0, .slice A0_1 l0_1.length c0_1]] w fun e w' => e = .returned (.bool r) ∧ Below w.heap.size w w' := by
 have hu27 := Try.underlying27
 obtain ⟨W, hW⟩ : ∃ W, w.alloc (.cells #[.slice A0_0 l0_0.length c0_0, .slice A0_1 l0_1.length c0_1] 27) = W := ⟨_, rfl⟩
 have q0 := qa (w := W) (p := ⟨w.heap.size, 0, none⟩) (v := .slice A0_0 l0_0.length c0_0) (by subst hW; go_simp)
 have q1 := qa (w := W) (p := ⟨w.heap.size, 1, none⟩) (v := .slice A0_1 l0_1.length c0_1) (by subst hW; go_simp)
 have HB : Below w.heap.size w W := by subst hW; exact zB
 have HW := Below.refl W.heap.size W
 have hb := aM HB
 have rg_ := @bcl w
 have rd_ := @bdr w
 have rG_ := @bcl W
 have rD_ := @bdr W
 unfold impl_IsConsistent.f at h
 replace h := bs h; obtain ⟨t503, B0, h⟩ := h
 replace h := ib h; rcases h with ⟨rfl, h⟩ | ⟨rfl, h⟩
 replace h := bs h; obtain ⟨t504, B2, h⟩ := h
 obtain rfl := si h
 rotate_left
 obtain rfl := si h
 rotate_left
 all_goals (go_enter Try.func16, Try.ntmps16; go_wp2; (repeat ((refine nw (w0 := w) zB ?_; intro W1 HB hb hd; have HW : Below W.heap.size W W1 := zB; (first | (refine Txt.rg (id := 1) [0, 1, 2, 3, 6, 7, 8, 4, 5, 9, 10, 11] (by kernel_rfl) (by kernel_rfl) ?_; simp only [List.map_cons, List.map_nil, List.getD_cons_zero, List.getD_cons_succ])); (repeat (first | (refine Txt.off rfl ?_; simp only [Act.put, List.setIfInBounds_toArray, List.set_cons_zero, List.set_cons_succ]) | (refine Txt.take rfl rfl ?_; intro K hK; go_big_quiet_op; go_big_quiet_on) | (refine Txt.call rfl rfl Try.func20 (by kernel_rfl) rfl (impl_IsValidDatabase.calls _ _ _ _ _ _ ?_ _ ?_ ?_ ?_ ?_ ?h) rfl ?_; (case h => exact zA); (iterate 4 (first | exact zC | exact zA)); rintro e w1 ⟨rfl, hb⟩; replace hb := aM hb; have HW : Below W.heap.size W w1 := zB; have HB : Below w.heap.size w w1 := zB; refine ⟨_, rfl, zS, ?_⟩; simp only [Act.put, List.setIfInBounds_toArray, List.set_cons_zero, List.set_cons_succ]) | (refine Txt.call rfl rfl Try.func44 (by kernel_rfl) rfl (impl_blocks.calls ?_ _ _ _ _ _ _ ?_ _ ?_ ?_ ?_ ?_ ?h) rfl ?_; (case h => exact zA); (iterate 4 (first | exact zC | exact zA)); rintro e w1 ⟨v0, rfl, ho0, hb⟩; obtain ⟨A0, c0, rfl, hc0, hC0⟩ := Kd.R_reads (Kd.S_R ho0); replace hb := aM hb; have HW : Below W.heap.size W w1 := zB; have HB : Below w.heap.size w w1 := zB; refine ⟨_, rfl, zS, ?_⟩; simp only [Act.put, List.setIfInBounds_toArray, List.set_cons_zero, List.set_cons_succ]))); refine Txt.nil ?_); (try go_wp2))); go_ret; exact zE zB)

end Go.Proofs.Ytbdeimhlohhhiaa.PFnBlocks
