-- Laid by a program of this claim: what the functions come to, some of them proved by hand.
import Derived.Test.YtbdeimhlohhhiaaPFnBlocksx0
import Derived.Test.YtbdeimhlohhhiaaPFnBlocksx12
namespace Go.Proofs.Ytbdeimhlohhhiaa.PFnBlocks
open Go.RowKit Go.Proofs.YtbdeimhlohhhiaaW.PrintWords Go.Proofs.YtbdeimhlohhhiaaW.PrintLast Go.Proofs.YtbdeimhlohhhiaaW.PrintMore
attribute [local go_sem] max2_int min2_int max_two min_two max_three min_three max_four min_four   -- for this text's walks alone
set_option linter.unusedVariables false
set_option linter.unusedSimpArgs false

/-! ### impl_blocks: function 44 -/
def impl_blocks.l0 : Nat → List (List Int) → List (S35) → Int → Int → List (S70) → List (S35) → Option ((List (List Int)))
 | 0, _, _, _, _, _, _ => none
 | k + 1, x3, x9, x10, x11, x415000, x415001 => if x11 < x10 then (if 0 ≤ x11 then (if x11 < (x9.length : Int) then (if (wrap64 ((x3.length : Int) - 1)) ≥ 0 then (if 0 ≤ (wrap64 ((x3.length : Int) - 1)) then (if (wrap64 ((x3.length : Int) - 1)) < (x3.length : Int) then (if 0 < ((rd_L4 x3 (wrap64 ((x3.length : Int) - 1))).length : Int) then (if 0 ≤ (rd (rd_L4 x3 (wrap64 ((x3.length : Int) - 1))) 0) then (if (rd (rd_L4 x3 (wrap64 ((x3.length : Int) - 1))) 0) < (x415001.length : Int) then ((impl_sameKey.f x415000 ((rd_T35 x415001 (rd (rd_L4 x3 (wrap64 ((x3.length : Int) - 1))) 0)).f0) ((rd_T35 x415001 (rd (rd_L4 x3 (wrap64 ((x3.length : Int) - 1))) 0)).f1) ((rd_T35 x9 x11).f0) ((rd_T35 x9 x11).f1)).bind fun t423 => (if t423 = true then (if (rd_L4 x3 (wrap64 ((x3.length : Int) - 1))).length < 17592186044416 then (impl_blocks.l0 k (x3.set ((wrap64 ((x3.length : Int) - 1)) : Int).toNat ((rd_L4 x3 (wrap64 ((x3.length : Int) - 1))) ++ [x11])) x9 x10 (wrap64 (x11 + 1)) x415000 x415001) else (none)) else (if x3.length < 5864062014805 then (impl_blocks.l0 k (x3 ++ [(([x11] : List Int))]) x9 x10 (wrap64 (x11 + 1)) x415000 x415001) else (none)))) else (none)) else (none)) else (none)) else (none)) else (none)) else (if x3.length < 5864062014805 then (impl_blocks.l0 k (x3 ++ [(([x11] : List Int))]) x9 x10 (wrap64 (x11 + 1)) x415000 x415001) else (none))) else (none)) else (none)) else (some x3)
def impl_blocks.f (k : Nat) (l0_0 : List (S70)) (l0_1 : List (S35)) : Option ((List (List Int))) := impl_blocks.l0 k (([] : List (List Int))) l0_1 (l0_1.length : Int) 0 l0_0 l0_1
def impl_blocks.T6 : Bool × List (List Nat × List Nat) := (true, [([], []), ([0], [0]), ([1], [1]), ([2], [2]), ([3, 2], [2, 3]), ([2], [2]), ([5, 2], [2, 5]), ([2], [2]), ([2], [2]), ([7, 8, 2], [2, 7, 8]), ([9, 2], [2, 9]), ([10, 2], [2, 10]), ([11, 2], [2, 11]), ([6, 12, 2], [2, 6, 12]), ([13, 2], [2, 13]), ([2], [2]), ([4, 14, 15, 2, 2], [2, 4, 14, 15]), ([2, 16], [2, 16])])
def impl_blocks.B6 : List Nat := [0, 1, 3, 7, 15, 7, 39, 7, 7, 391, 903, 1927, 3975, 8167, 16359, 7, 65535, 131071]
theorem impl_blocks.tab6 : rtab .any (opsOf Try.f44 6) = impl_blocks.T6 := by kernel_rfl
theorem impl_blocks.bits6 : waitsOk impl_blocks.T6.2 impl_blocks.B6 = true := by kernel_rfl
set_option maxHeartbeats 8000000 in
set_option maxRecDepth 100000 in
theorem impl_blocks.calls (k : Nat) (A0_0 : Option Addr) (c0_0 : Nat) (l0_0 : List (S70)) (A0_1 : Option Addr) (c0_1 : Nat) (l0_1 : List (S35)) (r : List (List Int)) (w : World) (hr0_0 : Kd.C k70 w A0_0 l0_0.length l0_0) (hc0_0 : l0_0.length ≤ c0_0) (hr0_1 : Kd.C k35 w A0_1 l0_1.length l0_1) (hc0_1 : l0_1.length ≤ c0_1) (h : impl_blocks.f k l0_0 l0_1 = some r) :
  Calls Try.prog 44 #[.agg #[.slice A0_0 l0_0.length c0_0, .slice A0_1 l0_1.length c0_1]] w fun e w' => ∃ v0_ : Value, e = .returned (v0_) ∧ Kd.S (Kd.slice 3 (Kd.int .i64)) 32 w' w.heap.size (fun _ => True) v0_ r ∧ Below w.heap.size w w' := by
 have hu27 := Try.underlying27
 have hu35 := Try.underlying35
 have HR0_0 := aM hr0_0
 have HC0_0 := aM hc0_0
 clear hr0_0 hc0_0
 have HR0_1 := aM hr0_1
 have HC0_1 := aM hc0_1
 clear hr0_1 hc0_1
 have HB := aM (Below.refl w.heap.size w)
 have H : (impl_blocks.l0 k (([] : List (List Int))) l0_1 (l0_1.length : Int) 0 l0_0 l0_1) = some r := h
 clear h
 obtain ⟨y415, hy415⟩ : ∃ y_ : List (List Int), y_ = (([] : List (List Int))) := ⟨_, rfl⟩
 first | replace H := bY hy415 H | rw [← hy415] at H
 have Ny415 := aM hy415
 clear hy415
 have H' := aM H
 clear H
 go_enter Try.func44, Try.ntmps44
 go_wp2_with (first | ((with_reducible refine gate_dst (N := 1) rfl ?_); refine bE 1 (cs := #[.slice A0_0 l0_0.length c0_0, .slice A0_1 l0_1.length c0_1]) (t := 27) ?_; intro gb414 hg w2 hbox hb; have BK414 := aM (hbox); have GW414 := aM ((by rw [hg]; exact (below_size aB) : w.heap.size ≤ gb414)); have GE414 := aM ((by rw [hg]; exact (below_size aB) : w.heap.size ≤ gb414)); replace HB := aM (below_step aB hb); clear hb hbox hg) | ((with_reducible refine gate_dst (N := 7) rfl ?_); refine Kd.S_lit (Kd.slice 3 (Kd.int .i64)) _ 32 ?hg (N := 7) ?hd (xs := ([] : List (List Int))) (inner := []) (ok := fun _ => True) (okp := fun _ => True) ?hr ?hp (fun _ hk => hk) trivial (Below.refl _ _) (Nat.le_refl _) (by simp) ?_; (case hd => rfl); (case hg => rfl); (case hr => first | (go_simp; done) | (go_simp; rfl)); (case hp => exact (Reps.none _ _)); intro v416 w3 ho4 hb hg_ hnew_; clear hg_ hnew_; (first | rw [← Ny415.out] at ho4 | (simp only [Int.reduceToNat] at ho4; rw [← Ny415.out] at ho4)); have HO417 := aM (Kd.S_lower ho4 (below_size aG)); replace BK414 := aM (blk_below (g := gb414) (o := .cells #[.slice A0_0 l0_0.length c0_0, .slice A0_1 l0_1.length c0_1] 27 (0, 0)) aK hb); replace HB := aM (below_step aG hb); clear hb ho4; have hcz5_0 : w3.cell? ⟨gb414, 0, none⟩ = some (.slice A0_0 l0_0.length c0_0) := (blk_cell BK414.out 0).trans rfl; have hcz5_1 : w3.cell? ⟨gb414, 1, none⟩ = some (.slice A0_1 l0_1.length c0_1) := (blk_cell BK414.out 1).trans rfl; have hfz5_0 := blk_frozen BK414.out 0; have hfz5_1 := blk_frozen BK414.out 1))
 go_loopg [3, 11] k (fun kq v3 v11 w' => ∃ (x3_1 : List (List Int)) (x11_1 : Int), v11 = .int .i64 x11_1 ∧ Aside0 (impl_blocks.l0 kq x3_1 l0_1 (l0_1.length : Int) x11_1 l0_0 l0_1 = some r) ∧ Aside0 (kq ≤ k) ∧ Aside0 (Kd.S (Kd.slice 3 (Kd.int .i64)) 32 w' w.heap.size (fun _ => True) v3 x3_1) ∧ Aside0 (w'.heap[gb414]? = some (.cells #[(.slice A0_0 l0_0.length c0_0), (.slice A0_1 l0_1.length c0_1)] 27 (0, 0))) ∧ Aside0 (Below w.heap.size w w'))
 case atStart => exact ⟨(y415), (0), aX, H', ⟨Nat.le_refl _⟩, ⟨aS HO417⟩, ⟨aK⟩, ⟨aG⟩⟩
 case round =>
  clear H'
  try clear p2
  try clear c4
  try clear hcz5_0
  try clear hcz5_1
  try clear hfz5_0
  try clear hfz5_1
  obtain ⟨x3_1, x11_1, rfl, HA, HK1, HO_3, BK414, HB⟩ := hrel
  cases gk with
  | zero => exact absurd HA.out (by simp [impl_blocks.l0])
  | succ k1 =>
   have H := HA.out
   clear HA
   simp only [impl_blocks.l0] at H
   by_cases c6 : x11_1 < (l0_1.length : Int)
   ·rw [if_pos c6] at H
    have c6b0 : decide (x11_1 < (l0_1.length : Int)) = true := decide_eq_true c6
    clear c6
    by_cases c7 : 0 ≤ x11_1
    ·rw [if_pos c7] at H
     have c7b0 : decide (0 ≤ x11_1) = true := decide_eq_true c7
     clear c7
     by_cases c8 : x11_1 < (l0_1.length : Int)
     ·rw [if_pos c8] at H
      have c8b0 : decide (x11_1 < (l0_1.length : Int)) = true := decide_eq_true c8
      clear c8
      by_cases c9 : (wrap64 ((x3_1.length : Int) - 1)) ≥ 0
      ·rw [if_pos c9] at H
       have c9b0 : decide (0 ≤ (wrap64 ((x3_1.length : Int) - 1))) = true := decide_eq_true c9
       clear c9
       obtain ⟨ji10, hji10⟩ : ∃ j_ : Int, (wrap64 ((x3_1.length : Int) - 1)) = j_ := ⟨_, rfl⟩
       replace H : (if 0 ≤ (ji10) then (if (ji10) < (x3_1.length : Int) then (if 0 < ((rd_L4 x3_1 (ji10)).length : Int) then (if 0 ≤ (rd (rd_L4 x3_1 (ji10)) 0) then (if (rd (rd_L4 x3_1 (ji10)) 0) < (l0_1.length : Int) then ((impl_sameKey.f l0_0 ((rd_T35 l0_1 (rd (rd_L4 x3_1 (ji10)) 0)).f0) ((rd_T35 l0_1 (rd (rd_L4 x3_1 (ji10)) 0)).f1) ((rd_T35 l0_1 x11_1).f0) ((rd_T35 l0_1 x11_1).f1)).bind fun t423 => (if t423 = true then (if (rd_L4 x3_1 (ji10)).length < 17592186044416 then (impl_blocks.l0 k1 (x3_1.set ((ji10) : Int).toNat ((rd_L4 x3_1 (ji10)) ++ [x11_1])) l0_1 (l0_1.length : Int) (wrap64 (x11_1 + 1)) l0_0 l0_1) else (none)) else (if x3_1.length < 5864062014805 then (impl_blocks.l0 k1 (x3_1 ++ [(([x11_1] : List Int))]) l0_1 (l0_1.length : Int) (wrap64 (x11_1 + 1)) l0_0 l0_1) else (none)))) else (none)) else (none)) else (none)) else (none)) else (none)) = some r := by first | (rw [hji10] at H; exact H) | (simp only [hji10] at H ⊢; exact H)
       (try rw [hji10] at c9b0)
       have hji10w : (IntKind.i64.wrap ((x3_1.length : Int) - 1)) = ji10 := (i64_w _).trans hji10
       by_cases c11 : 0 ≤ (ji10)
       ·rw [if_pos c11] at H
        have c11b0 : decide (0 ≤ (ji10)) = true := decide_eq_true c11
        clear c11
        by_cases c12 : (ji10) < (x3_1.length : Int)
        ·rw [if_pos c12] at H
         have c12b0 : decide ((ji10) < (x3_1.length : Int)) = true := decide_eq_true c12
         clear c12
         by_cases c13 : 0 < ((rd_L4 x3_1 (ji10)).length : Int)
         ·rw [if_pos c13] at H
          have c13b0 : decide (0 < ((rd_L4 x3_1 (ji10)).length : Int)) = true := decide_eq_true c13
          have c13b1 : decide (0 < (rd_L4 x3_1 (ji10)).length) = true := decide_eq_true (by omega)
          clear c13
          by_cases c14 : 0 ≤ (rd (rd_L4 x3_1 (ji10)) 0)
          ·rw [if_pos c14] at H
           have c14b0 : decide (0 ≤ (rd (rd_L4 x3_1 (ji10)) 0)) = true := decide_eq_true c14
           clear c14
           by_cases c15 : (rd (rd_L4 x3_1 (ji10)) 0) < (l0_1.length : Int)
           ·rw [if_pos c15] at H
            have c15b0 : decide ((rd (rd_L4 x3_1 (ji10)) 0) < (l0_1.length : Int)) = true := decide_eq_true c15
            clear c15
            replace H := bM H
            obtain ⟨t423, A160, H⟩ := H
            have A16 := aM A160
            clear A160
            by_cases c17 : t423 = true
            ·subst c17
             replace H := iT H
             by_cases c18 : (rd_L4 x3_1 (ji10)).length < 17592186044416
             ·rw [if_pos c18] at H
              have LMc18 := aM c18
              clear c18
              obtain ⟨y425, hy425⟩ : ∃ y_ : List Int, y_ = ((rd_L4 x3_1 (ji10)) ++ [x11_1]) := ⟨_, rfl⟩
              first | replace H := bY hy425 H | rw [← hy425] at H
              have Ny425 := aM hy425
              clear hy425
              obtain ⟨y428, hy428⟩ : ∃ y_ : List (List Int), y_ = (x3_1.set ((ji10) : Int).toNat y425) := ⟨_, rfl⟩
              first | replace H := bY hy428 H | rw [← hy428] at H
              have Ny428 := aM hy428
              clear hy428
              have H' := aM H
              clear H
              have p418 : 0 ≤ (x11_1 : Int) := aD
              have q418 : x11_1 < (l0_1.length : Int) := aD
              obtain ⟨ad418, A418_1, c418_1, e418, hx418_0, hx418_1, hl418_1, hi418_1⟩ := at_T35 HR0_1.out x11_1 p418 q418
              cases e418
              replace hx418_0 := (HB.out.cell (World.block_lt_of_cell? w _ hx418_0)).trans hx418_0
              replace hx418_1 := (HB.out.cell (World.block_lt_of_cell? w _ hx418_1)).trans hx418_1
              have HR418_1 := aM hi418_1
              have HC418_1 := aM hl418_1
              clear hi418_1 hl418_1
              replace p418 := eq_true p418
              replace q418 := eq_true q418
              try go_wp2_with (first | ((with_reducible refine gate_dst (N := 5) rfl ?_); refine bE 5 (cs := #[.int .i64 0, .slice none 0 0]) (t := 35) ?_; intro gb419 hg w20 hbox hb; have BK419 := aM (hbox); have GW419 := aM ((by rw [hg]; exact (below_size aG) : w.heap.size ≤ gb419)); have GE419 := aM ((by rw [hg]; exact (below_size aG) : w.heap.size ≤ gb419)); have NB414_419 := aM ((by rw [hg]; exact Nat.ne_of_lt (blk_lt (g := gb414) (o := .cells #[.slice A0_0 l0_0.length c0_0, .slice (some ad418) l0_1.length c0_1] 27 (0, 0)) aK) : gb414 ≠ gb419)); have NB419_414 := aM ((by rw [hg]; exact Nat.ne_of_gt (blk_lt (g := gb414) (o := .cells #[.slice A0_0 l0_0.length c0_0, .slice (some ad418) l0_1.length c0_1] 27 (0, 0)) aK) : gb419 ≠ gb414)); replace HO_3 := aM (Kd.S_below (aS HO_3) hb); replace BK414 := aM (blk_below (g := gb414) (o := .cells #[.slice A0_0 l0_0.length c0_0, .slice (some ad418) l0_1.length c0_1] 27 (0, 0)) aK hb); replace HB := aM (below_step aG hb); clear hb hbox hg; have hnb21 := NB419_414.out; have hnc21 := NB414_419.out; have hcz22_0 : w20.cell? ⟨gb419, 0, none⟩ = some (.int .i64 0) := (blk_cell BK419.out 0).trans rfl; have hcz22_1 : w20.cell? ⟨gb419, 1, none⟩ = some (.slice none 0 0) := (blk_cell BK419.out 1).trans rfl; have hfz22_0 := blk_frozen BK419.out 0; have hfz22_1 := blk_frozen BK419.out 1; obtain ⟨Ao23, co23, eo23⟩ := Kd.S_slice HO_3.out; subst eo23))
              have n0_ : Aside0 (Kd.S (Kd.slice 3 (Kd.int .i64)) 32 ((w20.setCell ⟨gb419, 0, none⟩ (.int .i64 ((rd_T35 l0_1 x11_1).f0))).setCell ⟨gb419, 1, none⟩ (.slice A418_1 ((rd_T35 l0_1 x11_1).f1).length c418_1)) w.heap.size (fun _ => True) (.slice Ao23 x3_1.length co23) x3_1) := ⟨by (with_reducible repeat (first | apply Kd.S_alloc | apply Kd.S_drewN | apply Kd.S_drew)); exact Kd.S_mono (Kd.S_far (p := ⟨gb419, 1, none⟩) (Kd.S_far (p := ⟨gb419, 0, none⟩) (Kd.S_types HO_3.out BK419.out (by decide)) (fun _ hk => hk.2) (.int .i64 ((rd_T35 l0_1 x11_1).f0))) (fun _ hk => hk.2) (.slice A418_1 ((rd_T35 l0_1 x11_1).f1).length c418_1)) (fun _ hk => trivial)⟩
              have n1_ : Aside0 (((w20.setCell ⟨gb419, 0, none⟩ (.int .i64 ((rd_T35 l0_1 x11_1).f0))).setCell ⟨gb419, 1, none⟩ (.slice A418_1 ((rd_T35 l0_1 x11_1).f1).length c418_1)).heap[gb414]? = some (.cells #[.slice A0_0 l0_0.length c0_0, .slice (some ad418) l0_1.length c0_1] 27 (0, 0))) := ⟨by (with_reducible repeat (first | refine blk_drewN ?_ _ | refine blk_drew ?_ | refine blk_alloc ?_ _)); refine blk_far ?_ NB414_419.out _; (with_reducible repeat (first | refine blk_drewN ?_ _ | refine blk_drew ?_ | refine blk_alloc ?_ _)); refine blk_far ?_ NB414_419.out _; (with_reducible repeat (first | refine blk_drewN ?_ _ | refine blk_drew ?_ | refine blk_alloc ?_ _)); exact BK414.out⟩
              have n2_ : Aside0 (((w20.setCell ⟨gb419, 0, none⟩ (.int .i64 ((rd_T35 l0_1 x11_1).f0))).setCell ⟨gb419, 1, none⟩ (.slice A418_1 ((rd_T35 l0_1 x11_1).f1).length c418_1)).heap[gb419]? = some (.cells #[.int .i64 ((rd_T35 l0_1 x11_1).f0), .slice A418_1 ((rd_T35 l0_1 x11_1).f1).length c418_1] 35 (0, 0))) := ⟨by (with_reducible repeat (first | refine blk_drewN ?_ _ | refine blk_drew ?_ | refine blk_alloc ?_ _)); refine blk_put (cs := #[.int .i64 ((rd_T35 l0_1 x11_1).f0), .slice none 0 0]) ?_ 1 _ rfl; (with_reducible repeat (first | refine blk_drewN ?_ _ | refine blk_drew ?_ | refine blk_alloc ?_ _)); refine blk_put (cs := #[.int .i64 0, .slice none 0 0]) ?_ 0 _ rfl; (with_reducible repeat (first | refine blk_drewN ?_ _ | refine blk_drew ?_ | refine blk_alloc ?_ _)); exact BK419.out⟩
              have n3_ : Aside0 (Below w.heap.size w ((w20.setCell ⟨gb419, 0, none⟩ (.int .i64 ((rd_T35 l0_1 x11_1).f0))).setCell ⟨gb419, 1, none⟩ (.slice A418_1 ((rd_T35 l0_1 x11_1).f1).length c418_1))) := ⟨aG⟩
              (try clear HO_3)
              (try clear BK414)
              (try clear BK419)
              (try clear HB)
              generalize ((w20.setCell ⟨gb419, 0, none⟩ (.int .i64 ((rd_T35 l0_1 x11_1).f0))).setCell ⟨gb419, 1, none⟩ (.slice A418_1 ((rd_T35 l0_1 x11_1).f1).length c418_1)) = w24 at n0_ n1_ n2_ n3_ ⊢
              have HO_3 := n0_
              have BK414 := n1_
              have BK419 := n2_
              have HB := n3_
              clear n0_ n1_ n2_ n3_
              replace HO_3 := aM (Kd.S_drew HO_3.out)
              replace BK414 := aM (blk_drew BK414.out)
              replace BK419 := aM (blk_drew BK419.out)
              replace HB := aM (below_drew1 HB.out)
              have p420 : 0 ≤ ((ji10) : Int) := aD
              have q420 : (ji10) < (x3_1.length : Int) := aD
              obtain ⟨ad420, A420_0, c420_0, e420, hx420_0, hl420_0, hi420_0⟩ := at_L4 (Kd.S_reads' HO_3.out).2.2 (ji10) p420 q420
              cases e420
              obtain ⟨ce420, hce420, hMe420, hcc420⟩ := Kd.S_get HO_3.out [] (ji10) p420 (by first | exact q420 | exact aD | (have e_ := (Kd.S_reads' HO_3.out).1; omega))
              obtain ⟨ve420_0, rfl, ge420_0⟩ := hMe420
              have hv420_0 := hcc420 0 _ rfl
              rw [Nat.add_zero, show ((Kd.slice 3 (Kd.int .i64))).sz = 1 from rfl, Nat.mul_one] at hv420_0
              replace hv420_0 := Option.some.inj (hv420_0.symm.trans hx420_0)
              rw [hv420_0] at ge420_0
              have HL420_0 := aM (show Kd.R (Kd.int .i64) 3 _ _ _ _ (rd_L4 x3_1 (ji10)) from ge420_0)
              clear hv420_0 ge420_0
              have HX420_0 := aM hx420_0
              clear hcc420 hce420
              have HR420_0 := aM hi420_0
              have HC420_0 := aM hl420_0
              clear hi420_0 hl420_0
              replace p420 := eq_true p420
              replace q420 := eq_true q420
              have p421 : 0 ≤ (0 : Int) := (by omega)
              have q421 : 0 < ((rd_L4 x3_1 (ji10)).length : Int) := aD
              obtain ⟨ad421, e421, hx421_0⟩ := Kd.at_int (by repeat (first | (with_reducible exact HR420_0.out) | (with_reducible refine Kd.C_alloc ?_ _) | (with_reducible refine Kd.C_drewN ?_ _) | (with_reducible refine Kd.C_drew ?_) | exact HR420_0.out)) 0 p421 q421
              cases e421
              have qi421 : (0 < (rd_L4 x3_1 (ji10)).length) = True := eq_true (by omega)
              (try rw [show ((0 : Int)).toNat = 0 from rfl] at hx421_0)
              (try rw [Addr.add_zero'] at hx421_0)
              replace p421 := eq_true p421
              replace q421 := eq_true q421
              have p422 : 0 ≤ ((rd (rd_L4 x3_1 (ji10)) 0) : Int) := aD
              have q422 : (rd (rd_L4 x3_1 (ji10)) 0) < (l0_1.length : Int) := aD
              obtain ⟨ad422, A422_1, c422_1, e422, hx422_0, hx422_1, hl422_1, hi422_1⟩ := at_T35 HR0_1.out (rd (rd_L4 x3_1 (ji10)) 0) p422 q422
              have hw422_1 := hx422_1
              have hw422_0 := hx422_0
              obtain rfl : ad418 = ad422 := (by injection e422)
              replace hx422_0 := (HB.out.cell (World.block_lt_of_cell? w _ hx422_0)).trans hx422_0
              replace hx422_1 := (HB.out.cell (World.block_lt_of_cell? w _ hx422_1)).trans hx422_1
              have HR422_1 := aM hi422_1
              have HC422_1 := aM hl422_1
              clear hi422_1 hl422_1
              replace p422 := eq_true p422
              replace q422 := eq_true q422
              refine start_ (n := 18) (S := fun w' => w'.cell? ⟨gb414, 0, none⟩ = some (.slice A0_0 l0_0.length c0_0) ∧ w'.cell? ⟨gb414, 1, none⟩ = some (.slice (some ad418) l0_1.length c0_1) ∧ w'.cell? ⟨gb419, 0, none⟩ = some (.int .i64 ((rd_T35 l0_1 x11_1).f0)) ∧ w'.cell? ⟨gb419, 1, none⟩ = some (.slice A418_1 ((rd_T35 l0_1 x11_1).f1).length c418_1) ∧ w'.cell? (ad420.add ((ji10)).toNat) = some (.slice (some ad421) (rd_L4 x3_1 (ji10)).length c420_0) ∧ w'.cell? ad421 = some (.int .i64 (rd (rd_L4 x3_1 (ji10)) 0)) ∧ w'.cell? (ad418.add (((rd (rd_L4 x3_1 (ji10)) 0)).toNat * 2)) = some (.int .i64 ((rd_T35 l0_1 (rd (rd_L4 x3_1 (ji10)) 0)).f0)) ∧ w'.cell? ⟨(ad418.add (((rd (rd_L4 x3_1 (ji10)) 0)).toNat * 2)).block, (ad418.add (((rd (rd_L4 x3_1 (ji10)) 0)).toNat * 2)).off + 1, none⟩ = some (.slice A422_1 ((rd_T35 l0_1 (rd (rd_L4 x3_1 (ji10)) 0)).f1).length c422_1)) (ds := []) #[false, false, false, false, false, false, false, false, false, false, false, false, false, false, false, false, false, false] (by kernel_rfl) rfl rfl ⟨(blk_cell BK414.out 0).trans rfl, (blk_cell BK414.out 1).trans rfl, (blk_cell BK419.out 0).trans rfl, (blk_cell BK419.out 1).trans rfl, hx420_0, hx421_0, (pw_cell_below HB.out hw422_0), (pw_cell_below HB.out hw422_1)⟩ (fun hHeld => ?_); refine with_tabW impl_blocks.tab6 impl_blocks.bits6 (fun HT_ HW_ => ?_)
              generalize w24.drew = w25 at HO_3 BK414 BK419 HB HL420_0 HR420_0 HR422_1 HX420_0 hx420_0 hx421_0 hx422_0 hx422_1 hHeld ⊢
              refine pU 0 19 ?_
              refine pU 1 20 ?_
              refine pU 2 21 ?_
              refine pU 3 22 ?_
              refine pU 5 24 ?_
              refine pU 7 26 ?_
              refine pU 8 27 ?_
              refine pU 9 28 ?_
              refine tU8 4 23 hHeld ?_
              refine tU8 6 25 hHeld ?_
              refine tU8 10 29 hHeld ?_
              refine pU 11 30 ?_
              refine tU8 12 31 hHeld ?_
              refine pU 13 32 ?_
              refine tU8 14 33 hHeld ?_
              refine tU8 15 34 hHeld ?_
              refine oU 16 35 (fun K hK => ?_)
              refine goes_ Try.func78 (by kernel_rfl) rfl #[.slice A0_0 l0_0.length c0_0, .agg #[.int .i64 ((rd_T35 l0_1 (rd (rd_L4 x3_1 (ji10)) 0)).f0), .slice A422_1 ((rd_T35 l0_1 (rd (rd_L4 x3_1 (ji10)) 0)).f1).length c422_1], .agg #[.int .i64 ((rd_T35 l0_1 x11_1).f0), .slice A418_1 ((rd_T35 l0_1 x11_1).f1).length c418_1]] (by rfl) rfl rfl (by (try simp only [List.map_toArray, List.map_cons, List.map_nil]); first | done | (simp only [hji10]; rfl) | rfl | (simp only [List.length_drop, List.length_take]; rfl)) ?_
              with_reducible refine (impl_sameKey.calls _ _ l0_0 ((rd_T35 l0_1 (rd (rd_L4 x3_1 (ji10)) 0)).f0) _ _ ((rd_T35 l0_1 (rd (rd_L4 x3_1 (ji10)) 0)).f1) ((rd_T35 l0_1 x11_1).f0) _ _ ((rd_T35 l0_1 x11_1).f1) true _ ?side1 ?side2 ?side3 ?side4 ?side5 ?side6 A16.out).mono ?_
              (case side1 => exact aC)
              (case side2 => exact HC0_0.out)
              (case side3 => exact aC)
              (case side4 => exact HC422_1.out)
              (case side5 => exact aC)
              (case side6 => exact HC418_1.out)
              rintro e w26 ⟨rfl, hb⟩
              have HS4_ := (hb.cell (World.block_lt_of_cell? _ _ (hHeld.2.2.2.2.1))).trans (hHeld.2.2.2.2.1)
              have HS5_ := (hb.cell (World.block_lt_of_cell? _ _ (hHeld.2.2.2.2.2.1))).trans (hHeld.2.2.2.2.2.1)
              refine ⟨_, rfl, ?_⟩
              have n0_ := aM (Kd.S_below (aS HO_3) hb)
              have n1_ := aM (Kd.R_below (aR HL420_0) hb)
              have n2_ := aM (blk_below (g := gb414) (o := .cells #[.slice A0_0 l0_0.length c0_0, .slice (some ad418) l0_1.length c0_1] 27 (0, 0)) aK hb)
              have n3_ := aM (blk_below (g := gb419) (o := .cells #[.int .i64 ((rd_T35 l0_1 x11_1).f0), .slice A418_1 ((rd_T35 l0_1 x11_1).f1).length c418_1] 35 (0, 0)) aK hb)
              have n4_ := aM (Kd.C_below (by repeat (first | (with_reducible exact HR420_0.out) | (with_reducible refine Kd.C_alloc ?_ _) | (with_reducible refine Kd.C_drewN ?_ _) | (with_reducible refine Kd.C_drew ?_) | exact HR420_0.out)) hb)
              have n5_ := aM (pw_cell_below hb HX420_0.out)
              have n6_ := aM (below_step aG hb)
              clear HO_3
              clear HL420_0
              clear BK414
              clear BK419
              clear HR420_0
              clear HX420_0
              clear HB
              have HO_3 := n0_
              have HL420_0 := n1_
              have BK414 := n2_
              have BK419 := n3_
              have HR420_0 := n4_
              have HX420_0 := n5_
              have HB := n6_
              clear n0_ n1_ n2_ n3_ n4_ n5_ n6_
              (try clear hb)
              (try clear hb2)
              (try clear hk)
              (try clear hi)
              refine hK.out _ _ ⟨(blk_cell BK414.out 0).trans rfl, (blk_cell BK414.out 1).trans rfl, (blk_cell BK419.out 0).trans rfl, (blk_cell BK419.out 1).trans rfl, HS4_, HS5_, (pw_cell_below HB.out hw422_0), (pw_cell_below HB.out hw422_1)⟩ (fun hHeld => ?_)
              clear hK K
              refine nU 35 ?_
              refine pU 17 36 ?_
              refine done_ (done_of HT_.out (by kernel_rfl)) ?_
              have p424 : 0 ≤ ((ji10) : Int) := aD
              have q424 : (ji10) < (x3_1.length : Int) := aD
              obtain ⟨ad424, A424_0, c424_0, e424, hx424_0, hl424_0, hi424_0⟩ := at_L4 (Kd.S_reads' HO_3.out).2.2 (ji10) p424 q424
              obtain rfl : ad420 = ad424 := (by injection e424)
              obtain ⟨ce424, hce424, hMe424, hcc424⟩ := Kd.S_get HO_3.out [] (ji10) p424 (by first | exact q424 | exact aD | (have e_ := (Kd.S_reads' HO_3.out).1; omega))
              obtain ⟨ve424_0, rfl, ge424_0⟩ := hMe424
              have hv424_0 := hcc424 0 _ rfl
              rw [Nat.add_zero, show ((Kd.slice 3 (Kd.int .i64))).sz = 1 from rfl, Nat.mul_one] at hv424_0
              replace hv424_0 := Option.some.inj (hv424_0.symm.trans hx424_0)
              rw [hv424_0] at ge424_0
              have HL424_0 := aM (show Kd.R (Kd.int .i64) 3 _ _ _ _ (rd_L4 x3_1 (ji10)) from ge424_0)
              clear hv424_0 ge424_0
              have HX424_0 := aM hx424_0
              clear hcc424 hce424
              have HR424_0 := aM hi424_0
              have HC424_0 := aM hl424_0
              clear hi424_0 hl424_0
              replace p424 := eq_true p424
              replace q424 := eq_true q424
              obtain ⟨go27, co27, eo27, gb27, gl27, cl27, HG27⟩ := Kd.S_form HO_3.out (by have h_ : ((ji10) : Int) < ((x3_1.length : Int) : Int) := aD; have h2_ : 0 ≤ ((ji10) : Int) := (aD); omega)
              (first | cases eo27 | (injection eo27 with ea_ en_ ec_; (first | subst ea_ | (injection ea_ with ea_; subst ea_)); subst ec_; clear en_))
              have GB27 := aM gb27
              have GG27 := aM HG27
              clear gb27 gl27 HG27
              (first | simp only [add_plain] at hx420_0 | skip)
              (first | simp only [add_plain] at hx424_0 | skip)
              obtain ⟨oki27, ce27, hcl27, hM27, hcc27, _, _, hH27⟩ := Kd.S_elem HO_3.out [] ((ji10) : Int) (aD) (by have h_ : ((ji10) : Int) < ((x3_1.length : Int) : Int) := aD; first | exact h_ | (have e_ := (Kd.S_reads' HO_3.out).1; omega) | simpa using h_)
              obtain ⟨ve27_0, rfl, ge27_0⟩ := hM27
              have hv27 := hcc27 0 _ rfl
              have hX27 := HX424_0.out
              (try simp only [add_plain] at hX27)
              (try simp only [Nat.add_zero] at hv27)
              (try rw [show ((Kd.slice 3 (Kd.int .i64))).sz = 1 from rfl, Nat.mul_one] at hv27)
              replace hv27 := Option.some.inj (hv27.symm.trans hX27)
              subst hv27
              clear hX27 hcc27 hcl27
              have UU27 := aM (show Kd.R (Kd.int .i64) 3 _ w.heap.size oki27 (.slice A424_0 (rd_L4 x3_1 (ji10)).length c424_0) (rd_L4 x3_1 (ji10)) from ge27_0)
              have HH27 := aM hH27
              have HN27 := aM (Kd.S_reads' HO_3.out).1
              clear hH27 ge27_0
              try go_wp2_with (first | ((with_reducible refine gate_builtin (b := .append) (xs := #[.tmp 42, .tmp 44]) rfl ?_); at_builtin; refine Kd.R_append (Kd.int .i64) (w0 := w) w.heap.size rfl (.tmp 42) (.tmp 44) 32 3 (.int .i64 0) 8 rfl Try.underlying32 info3 rfl (by decide) (by omega) (.slice A424_0 (rd_L4 x3_1 (ji10)).length c424_0) (rd_L4 x3_1 (ji10)) x11_1 [.int .i64 x11_1] (fun k_ => oki27 k_ ∨ ((fun _ => True)) k_ ∧ w26.heap.size ≤ k_) (fun _ => False) rfl rfl ?aP (fun _ hk => hk.elim) ?aF ?aO ?aB ?aS ?aL ?_; (case aP => exact rfl); (case aB => exact aG); (case aF => exact (fun k_ hk => .inr ⟨trivial, hk⟩)); (case aO => exact (by (with_reducible repeat (first | apply Kd.R_alloc | apply Kd.R_drewN | apply Kd.R_drew)); exact Kd.R_mono UU27.out (fun _ hk => .inl hk))); (case aS => exact (below_size aG)); (case aL => have := LMc18.out; omega); intro v426 w28 ho hb hg hat; rw [← Ny425.out] at ho; have n0_ := aM (blk_grown (g := gb414) (o := .cells #[.slice A0_0 l0_0.length c0_0, .slice (some ad418) l0_1.length c0_1] 27 (0, 0)) aK hg (Kd.R_ne HL424_0.out BK414.out (by decide))); have n1_ := aM (blk_grown (g := gb419) (o := .cells #[.int .i64 ((rd_T35 l0_1 x11_1).f0), .slice A418_1 ((rd_T35 l0_1 x11_1).f1).length c418_1] 35 (0, 0)) aK hg (Kd.R_ne HL424_0.out BK419.out (by decide))); have n2_ := aM (hb); have n3_ := aM (Kd.H_grown (Kd.H_widen (by repeat (first | exact HH27.out | refine Kd.H_alloc ?_ _ | refine Kd.H_drewN ?_ _ | refine Kd.H_drew ?_))) hg (fun k_ e_ => .inl (UU27.out.1 k_ e_))); have n4_ := aM (ho); clear BK414; clear BK419; clear HB; clear HH27; clear HO_3; clear UU27; clear HL420_0; clear HL424_0; have BK414 := n0_; have BK419 := n1_; have HB := n2_; have HH27 := n3_; have HO427 := n4_; clear n0_ n1_ n2_ n3_ n4_; clear ho hb hg hat; have p19 : 0 ≤ ((ji10) : Int) := aD; have q19 : ((ji10) : Int) < ((x3_1.length : Int) : Int) := aD; replace p19 := eq_true p19; replace q19 := eq_true q19; obtain ⟨Ao31, co31, eo31⟩ := Kd.R_slice HO427.out; subst eo31; obtain ⟨_, _, hraw29, _, _, hcc29, _⟩ := Kd.H_raw HH27.out (aD) (by have h_ : ((ji10) : Int) < ((x3_1.length : Int) : Int) := aD; first | exact h_ | (have e_ := (HN27.out); omega) | simpa using h_); obtain ⟨_, hfr29⟩ := Kd.H_at HH27.out (aD) (by have h_ : ((ji10) : Int) < ((x3_1.length : Int) : Int) := aD; first | exact h_ | (have e_ := (HN27.out); omega) | simpa using h_); have hx29_0 := hcc29 0 _ rfl; have hf29_0 := hfr29 0; (try simp only [Nat.add_zero] at hx29_0 hf29_0); (try rw [show ((Kd.slice 3 (Kd.int .i64))).sz = 1 from rfl, Nat.mul_one] at hx29_0); (try rw [show ((Kd.slice 3 (Kd.int .i64))).sz = 1 from rfl, Nat.mul_one] at hf29_0); have HP29 := Kd.S_seg0 HH27.out (aD) (by have h_ : ((ji10) : Int) < ((x3_1.length : Int) : Int) := aD; first | exact h_ | (have e_ := (HN27.out); omega) | simpa using h_) (seg := [.slice Ao31 y425.length co31]) (j := 0) (show 1 ≤ 1 from by decide) (x' := y425) (Kd.M_row HO427.out) (fun _ hk => hk); (try simp only [show ((Kd.slice 3 (Kd.int .i64))).sz = 1 from rfl, Nat.mul_one, Nat.add_zero] at HP29); clear hcc29 hfr29) | ((with_reducible refine gate_store (t := 32) (p := 46) rfl ?_); refine store_event (t := 32) (p := 46) (v := ?vo_w30) (w1 := (w28.setCell ⟨go27, ((ji10) : Int).toNat, none⟩ (.slice Ao31 y425.length co31))) ?hg ?ho ?hn ?hr ?_; (case ho => rfl); (case hg => rfl); (case hn => rfl); (case hr => first | (go_simp; done) | (go_simp; rfl) | (obtain ⟨A_, c_, e_⟩ := Kd.R_slice HO427.out; subst e_; first | (go_simp; done) | (go_simp; rfl)) | (obtain ⟨A_, c_, e_⟩ := Kd.R_slice HO_3.out; subst e_; first | (go_simp; done) | (go_simp; rfl))); intro w30 hw; have hg : w28.grownBy w30 (some go27) := (by rw [hw]; exact HP29.2); have hp_ : Kd.S (Kd.slice 3 (Kd.int .i64)) 32 w30 w.heap.size (fun _ => True) (.slice (some ⟨go27, 0, none⟩) x3_1.length co23) y428 := (by rw [hw, Ny428.out]; exact HP29.1); clear HP29; have n0_ := aM (blk_grown (g := gb414) (o := .cells #[.slice A0_0 l0_0.length c0_0, .slice (some ad418) l0_1.length c0_1] 27 (0, 0)) aK hg (Kd.R_ne hraw29 BK414.out (by decide))); have n1_ := aM (blk_grown (g := gb419) (o := .cells #[.int .i64 ((rd_T35 l0_1 x11_1).f0), .slice A418_1 ((rd_T35 l0_1 x11_1).f1).length c418_1] 35 (0, 0)) aK hg (Kd.R_ne hraw29 BK419.out (by decide))); have n2_ := aM ((by rw [hw]; exact below_set HB.out GB27.out : Below w.heap.size w w30)); have n3_ := aM (hp_); clear BK414; clear BK419; clear HB; clear HO427; clear HH27; have BK414 := n0_; have BK419 := n1_; have HB := n2_; have HO_3 := n3_; clear n0_ n1_ n2_ n3_; clear hg hw hp_ hraw29))
              go_roundg k1
              case measure => have := HK1.out; omega
              case rel => exact ⟨(y428), (wrap64 (x11_1 + 1)), aX, H', ⟨by have := HK1.out; omega⟩, ⟨aS HO_3⟩, ⟨aK⟩, ⟨aG⟩⟩
             ·rw [if_neg c18] at H
              exact absurd H (by simp)
            ·replace c17 := Bool.eq_false_iff.mpr c17
             subst c17
             have H1 : (if x3_1.length < 5864062014805 then (impl_blocks.l0 k1 (x3_1 ++ [(([x11_1] : List Int))]) l0_1 (l0_1.length : Int) (wrap64 (x11_1 + 1)) l0_0 l0_1) else (none)) = some r := by rw [if_neg (show ¬ (false = true) by decide)] at H; exact H
             clear H
             have H := H1
             clear H1
             obtain ⟨y429, hy429⟩ : ∃ y_ : List Int, y_ = (([x11_1] : List Int)) := ⟨_, rfl⟩
             first | replace H := bY hy429 H | rw [← hy429] at H
             have Ny429 := aM hy429
             clear hy429
             by_cases c32 : x3_1.length < 5864062014805
             ·rw [if_pos c32] at H
              have LMc32 := aM c32
              clear c32
              obtain ⟨y432, hy432⟩ : ∃ y_ : List (List Int), y_ = (x3_1 ++ [y429]) := ⟨_, rfl⟩
              first | replace H := bY hy432 H | rw [← hy432] at H
              have Ny432 := aM hy432
              clear hy432
              have H' := aM H
              clear H
              have p418 : 0 ≤ (x11_1 : Int) := aD
              have q418 : x11_1 < (l0_1.length : Int) := aD
              obtain ⟨ad418, A418_1, c418_1, e418, hx418_0, hx418_1, hl418_1, hi418_1⟩ := at_T35 HR0_1.out x11_1 p418 q418
              cases e418
              replace hx418_0 := (HB.out.cell (World.block_lt_of_cell? w _ hx418_0)).trans hx418_0
              replace hx418_1 := (HB.out.cell (World.block_lt_of_cell? w _ hx418_1)).trans hx418_1
              have HR418_1 := aM hi418_1
              have HC418_1 := aM hl418_1
              clear hi418_1 hl418_1
              replace p418 := eq_true p418
              replace q418 := eq_true q418
              try go_wp2_with (first | ((with_reducible refine gate_dst (N := 5) rfl ?_); refine bE 5 (cs := #[.int .i64 0, .slice none 0 0]) (t := 35) ?_; intro gb419 hg w33 hbox hb; have BK419 := aM (hbox); have GW419 := aM ((by rw [hg]; exact (below_size aG) : w.heap.size ≤ gb419)); have GE419 := aM ((by rw [hg]; exact (below_size aG) : w.heap.size ≤ gb419)); have NB414_419 := aM ((by rw [hg]; exact Nat.ne_of_lt (blk_lt (g := gb414) (o := .cells #[.slice A0_0 l0_0.length c0_0, .slice (some ad418) l0_1.length c0_1] 27 (0, 0)) aK) : gb414 ≠ gb419)); have NB419_414 := aM ((by rw [hg]; exact Nat.ne_of_gt (blk_lt (g := gb414) (o := .cells #[.slice A0_0 l0_0.length c0_0, .slice (some ad418) l0_1.length c0_1] 27 (0, 0)) aK) : gb419 ≠ gb414)); replace HO_3 := aM (Kd.S_below (aS HO_3) hb); replace BK414 := aM (blk_below (g := gb414) (o := .cells #[.slice A0_0 l0_0.length c0_0, .slice (some ad418) l0_1.length c0_1] 27 (0, 0)) aK hb); replace HB := aM (below_step aG hb); clear hb hbox hg; have hnb34 := NB419_414.out; have hnc34 := NB414_419.out; have hcz35_0 : w33.cell? ⟨gb419, 0, none⟩ = some (.int .i64 0) := (blk_cell BK419.out 0).trans rfl; have hcz35_1 : w33.cell? ⟨gb419, 1, none⟩ = some (.slice none 0 0) := (blk_cell BK419.out 1).trans rfl; have hfz35_0 := blk_frozen BK419.out 0; have hfz35_1 := blk_frozen BK419.out 1; obtain ⟨Ao36, co36, eo36⟩ := Kd.S_slice HO_3.out; subst eo36))
              have n0_ : Aside0 (Kd.S (Kd.slice 3 (Kd.int .i64)) 32 ((w33.setCell ⟨gb419, 0, none⟩ (.int .i64 ((rd_T35 l0_1 x11_1).f0))).setCell ⟨gb419, 1, none⟩ (.slice A418_1 ((rd_T35 l0_1 x11_1).f1).length c418_1)) w.heap.size (fun _ => True) (.slice Ao36 x3_1.length co36) x3_1) := ⟨by (with_reducible repeat (first | apply Kd.S_alloc | apply Kd.S_drewN | apply Kd.S_drew)); exact Kd.S_mono (Kd.S_far (p := ⟨gb419, 1, none⟩) (Kd.S_far (p := ⟨gb419, 0, none⟩) (Kd.S_types HO_3.out BK419.out (by decide)) (fun _ hk => hk.2) (.int .i64 ((rd_T35 l0_1 x11_1).f0))) (fun _ hk => hk.2) (.slice A418_1 ((rd_T35 l0_1 x11_1).f1).length c418_1)) (fun _ hk => trivial)⟩
              have n1_ : Aside0 (((w33.setCell ⟨gb419, 0, none⟩ (.int .i64 ((rd_T35 l0_1 x11_1).f0))).setCell ⟨gb419, 1, none⟩ (.slice A418_1 ((rd_T35 l0_1 x11_1).f1).length c418_1)).heap[gb414]? = some (.cells #[.slice A0_0 l0_0.length c0_0, .slice (some ad418) l0_1.length c0_1] 27 (0, 0))) := ⟨by (with_reducible repeat (first | refine blk_drewN ?_ _ | refine blk_drew ?_ | refine blk_alloc ?_ _)); refine blk_far ?_ NB414_419.out _; (with_reducible repeat (first | refine blk_drewN ?_ _ | refine blk_drew ?_ | refine blk_alloc ?_ _)); refine blk_far ?_ NB414_419.out _; (with_reducible repeat (first | refine blk_drewN ?_ _ | refine blk_drew ?_ | refine blk_alloc ?_ _)); exact BK414.out⟩
              have n2_ : Aside0 (((w33.setCell ⟨gb419, 0, none⟩ (.int .i64 ((rd_T35 l0_1 x11_1).f0))).setCell ⟨gb419, 1, none⟩ (.slice A418_1 ((rd_T35 l0_1 x11_1).f1).length c418_1)).heap[gb419]? = some (.cells #[.int .i64 ((rd_T35 l0_1 x11_1).f0), .slice A418_1 ((rd_T35 l0_1 x11_1).f1).length c418_1] 35 (0, 0))) := ⟨by (with_reducible repeat (first | refine blk_drewN ?_ _ | refine blk_drew ?_ | refine blk_alloc ?_ _)); refine blk_put (cs := #[.int .i64 ((rd_T35 l0_1 x11_1).f0), .slice none 0 0]) ?_ 1 _ rfl; (with_reducible repeat (first | refine blk_drewN ?_ _ | refine blk_drew ?_ | refine blk_alloc ?_ _)); refine blk_put (cs := #[.int .i64 0, .slice none 0 0]) ?_ 0 _ rfl; (with_reducible repeat (first | refine blk_drewN ?_ _ | refine blk_drew ?_ | refine blk_alloc ?_ _)); exact BK419.out⟩
              have n3_ : Aside0 (Below w.heap.size w ((w33.setCell ⟨gb419, 0, none⟩ (.int .i64 ((rd_T35 l0_1 x11_1).f0))).setCell ⟨gb419, 1, none⟩ (.slice A418_1 ((rd_T35 l0_1 x11_1).f1).length c418_1))) := ⟨aG⟩
              (try clear HO_3)
              (try clear BK414)
              (try clear BK419)
              (try clear HB)
              generalize ((w33.setCell ⟨gb419, 0, none⟩ (.int .i64 ((rd_T35 l0_1 x11_1).f0))).setCell ⟨gb419, 1, none⟩ (.slice A418_1 ((rd_T35 l0_1 x11_1).f1).length c418_1)) = w37 at n0_ n1_ n2_ n3_ ⊢
              have HO_3 := n0_
              have BK414 := n1_
              have BK419 := n2_
              have HB := n3_
              clear n0_ n1_ n2_ n3_
              replace HO_3 := aM (Kd.S_drew HO_3.out)
              replace BK414 := aM (blk_drew BK414.out)
              replace BK419 := aM (blk_drew BK419.out)
              replace HB := aM (below_drew1 HB.out)
              have p420 : 0 ≤ ((ji10) : Int) := aD
              have q420 : (ji10) < (x3_1.length : Int) := aD
              obtain ⟨ad420, A420_0, c420_0, e420, hx420_0, hl420_0, hi420_0⟩ := at_L4 (Kd.S_reads' HO_3.out).2.2 (ji10) p420 q420
              cases e420
              obtain ⟨ce420, hce420, hMe420, hcc420⟩ := Kd.S_get HO_3.out [] (ji10) p420 (by first | exact q420 | exact aD | (have e_ := (Kd.S_reads' HO_3.out).1; omega))
              obtain ⟨ve420_0, rfl, ge420_0⟩ := hMe420
              have hv420_0 := hcc420 0 _ rfl
              rw [Nat.add_zero, show ((Kd.slice 3 (Kd.int .i64))).sz = 1 from rfl, Nat.mul_one] at hv420_0
              replace hv420_0 := Option.some.inj (hv420_0.symm.trans hx420_0)
              rw [hv420_0] at ge420_0
              have HL420_0 := aM (show Kd.R (Kd.int .i64) 3 _ _ _ _ (rd_L4 x3_1 (ji10)) from ge420_0)
              clear hv420_0 ge420_0
              have HX420_0 := aM hx420_0
              clear hcc420 hce420
              have HR420_0 := aM hi420_0
              have HC420_0 := aM hl420_0
              clear hi420_0 hl420_0
              replace p420 := eq_true p420
              replace q420 := eq_true q420
              have p421 : 0 ≤ (0 : Int) := (by omega)
              have q421 : 0 < ((rd_L4 x3_1 (ji10)).length : Int) := aD
              obtain ⟨ad421, e421, hx421_0⟩ := Kd.at_int (by repeat (first | (with_reducible exact HR420_0.out) | (with_reducible refine Kd.C_alloc ?_ _) | (with_reducible refine Kd.C_drewN ?_ _) | (with_reducible refine Kd.C_drew ?_) | exact HR420_0.out)) 0 p421 q421
              cases e421
              have qi421 : (0 < (rd_L4 x3_1 (ji10)).length) = True := eq_true (by omega)
              (try rw [show ((0 : Int)).toNat = 0 from rfl] at hx421_0)
              (try rw [Addr.add_zero'] at hx421_0)
              replace p421 := eq_true p421
              replace q421 := eq_true q421
              have p422 : 0 ≤ ((rd (rd_L4 x3_1 (ji10)) 0) : Int) := aD
              have q422 : (rd (rd_L4 x3_1 (ji10)) 0) < (l0_1.length : Int) := aD
              obtain ⟨ad422, A422_1, c422_1, e422, hx422_0, hx422_1, hl422_1, hi422_1⟩ := at_T35 HR0_1.out (rd (rd_L4 x3_1 (ji10)) 0) p422 q422
              have hw422_1 := hx422_1
              have hw422_0 := hx422_0
              obtain rfl : ad418 = ad422 := (by injection e422)
              replace hx422_0 := (HB.out.cell (World.block_lt_of_cell? w _ hx422_0)).trans hx422_0
              replace hx422_1 := (HB.out.cell (World.block_lt_of_cell? w _ hx422_1)).trans hx422_1
              have HR422_1 := aM hi422_1
              have HC422_1 := aM hl422_1
              clear hi422_1 hl422_1
              replace p422 := eq_true p422
              replace q422 := eq_true q422
              refine start_ (n := 18) (S := fun w' => w'.cell? ⟨gb414, 0, none⟩ = some (.slice A0_0 l0_0.length c0_0) ∧ w'.cell? ⟨gb414, 1, none⟩ = some (.slice (some ad418) l0_1.length c0_1) ∧ w'.cell? ⟨gb419, 0, none⟩ = some (.int .i64 ((rd_T35 l0_1 x11_1).f0)) ∧ w'.cell? ⟨gb419, 1, none⟩ = some (.slice A418_1 ((rd_T35 l0_1 x11_1).f1).length c418_1) ∧ w'.cell? (ad420.add ((ji10)).toNat) = some (.slice (some ad421) (rd_L4 x3_1 (ji10)).length c420_0) ∧ w'.cell? ad421 = some (.int .i64 (rd (rd_L4 x3_1 (ji10)) 0)) ∧ w'.cell? (ad418.add (((rd (rd_L4 x3_1 (ji10)) 0)).toNat * 2)) = some (.int .i64 ((rd_T35 l0_1 (rd (rd_L4 x3_1 (ji10)) 0)).f0)) ∧ w'.cell? ⟨(ad418.add (((rd (rd_L4 x3_1 (ji10)) 0)).toNat * 2)).block, (ad418.add (((rd (rd_L4 x3_1 (ji10)) 0)).toNat * 2)).off + 1, none⟩ = some (.slice A422_1 ((rd_T35 l0_1 (rd (rd_L4 x3_1 (ji10)) 0)).f1).length c422_1)) (ds := []) #[false, false, false, false, false, false, false, false, false, false, false, false, false, false, false, false, false, false] (by kernel_rfl) rfl rfl ⟨(blk_cell BK414.out 0).trans rfl, (blk_cell BK414.out 1).trans rfl, (blk_cell BK419.out 0).trans rfl, (blk_cell BK419.out 1).trans rfl, hx420_0, hx421_0, (pw_cell_below HB.out hw422_0), (pw_cell_below HB.out hw422_1)⟩ (fun hHeld => ?_); refine with_tabW impl_blocks.tab6 impl_blocks.bits6 (fun HT_ HW_ => ?_)
              generalize w37.drew = w38 at HO_3 BK414 BK419 HB HL420_0 HR420_0 HR422_1 HX420_0 hx420_0 hx421_0 hx422_0 hx422_1 hHeld ⊢
              refine pU 0 19 ?_
              refine pU 1 20 ?_
              refine pU 2 21 ?_
              refine pU 3 22 ?_
              refine pU 5 24 ?_
              refine pU 7 26 ?_
              refine pU 8 27 ?_
              refine pU 9 28 ?_
              refine tU8 4 23 hHeld ?_
              refine tU8 6 25 hHeld ?_
              refine tU8 10 29 hHeld ?_
              refine pU 11 30 ?_
              refine tU8 12 31 hHeld ?_
              refine pU 13 32 ?_
              refine tU8 14 33 hHeld ?_
              refine tU8 15 34 hHeld ?_
              refine oU 16 35 (fun K hK => ?_)
              refine goes_ Try.func78 (by kernel_rfl) rfl #[.slice A0_0 l0_0.length c0_0, .agg #[.int .i64 ((rd_T35 l0_1 (rd (rd_L4 x3_1 (ji10)) 0)).f0), .slice A422_1 ((rd_T35 l0_1 (rd (rd_L4 x3_1 (ji10)) 0)).f1).length c422_1], .agg #[.int .i64 ((rd_T35 l0_1 x11_1).f0), .slice A418_1 ((rd_T35 l0_1 x11_1).f1).length c418_1]] (by rfl) rfl rfl (by (try simp only [List.map_toArray, List.map_cons, List.map_nil]); first | done | (simp only [hji10]; rfl) | rfl | (simp only [List.length_drop, List.length_take]; rfl)) ?_
              with_reducible refine (impl_sameKey.calls _ _ l0_0 ((rd_T35 l0_1 (rd (rd_L4 x3_1 (ji10)) 0)).f0) _ _ ((rd_T35 l0_1 (rd (rd_L4 x3_1 (ji10)) 0)).f1) ((rd_T35 l0_1 x11_1).f0) _ _ ((rd_T35 l0_1 x11_1).f1) false _ ?side1 ?side2 ?side3 ?side4 ?side5 ?side6 A16.out).mono ?_
              (case side1 => exact aC)
              (case side2 => exact HC0_0.out)
              (case side3 => exact aC)
              (case side4 => exact HC422_1.out)
              (case side5 => exact aC)
              (case side6 => exact HC418_1.out)
              rintro e w39 ⟨rfl, hb⟩
              have HS4_ := (hb.cell (World.block_lt_of_cell? _ _ (hHeld.2.2.2.2.1))).trans (hHeld.2.2.2.2.1)
              have HS5_ := (hb.cell (World.block_lt_of_cell? _ _ (hHeld.2.2.2.2.2.1))).trans (hHeld.2.2.2.2.2.1)
              refine ⟨_, rfl, ?_⟩
              have n0_ := aM (Kd.S_below (aS HO_3) hb)
              have n1_ := aM (Kd.R_below (aR HL420_0) hb)
              have n2_ := aM (blk_below (g := gb414) (o := .cells #[.slice A0_0 l0_0.length c0_0, .slice (some ad418) l0_1.length c0_1] 27 (0, 0)) aK hb)
              have n3_ := aM (blk_below (g := gb419) (o := .cells #[.int .i64 ((rd_T35 l0_1 x11_1).f0), .slice A418_1 ((rd_T35 l0_1 x11_1).f1).length c418_1] 35 (0, 0)) aK hb)
              have n4_ := aM (Kd.C_below (by repeat (first | (with_reducible exact HR420_0.out) | (with_reducible refine Kd.C_alloc ?_ _) | (with_reducible refine Kd.C_drewN ?_ _) | (with_reducible refine Kd.C_drew ?_) | exact HR420_0.out)) hb)
              have n5_ := aM (pw_cell_below hb HX420_0.out)
              have n6_ := aM (below_step aG hb)
              clear HO_3
              clear HL420_0
              clear BK414
              clear BK419
              clear HR420_0
              clear HX420_0
              clear HB
              have HO_3 := n0_
              have HL420_0 := n1_
              have BK414 := n2_
              have BK419 := n3_
              have HR420_0 := n4_
              have HX420_0 := n5_
              have HB := n6_
              clear n0_ n1_ n2_ n3_ n4_ n5_ n6_
              (try clear hb)
              (try clear hb2)
              (try clear hk)
              (try clear hi)
              refine hK.out _ _ ⟨(blk_cell BK414.out 0).trans rfl, (blk_cell BK414.out 1).trans rfl, (blk_cell BK419.out 0).trans rfl, (blk_cell BK419.out 1).trans rfl, HS4_, HS5_, (pw_cell_below HB.out hw422_0), (pw_cell_below HB.out hw422_1)⟩ (fun hHeld => ?_)
              clear hK K
              refine nU 35 ?_
              refine pU 17 36 ?_
              refine done_ (done_of HT_.out (by kernel_rfl)) ?_
              try go_wp2_with (first | ((with_reducible refine gate_dst (N := 49) rfl ?_); refine Kd.R_lit (Kd.int .i64) _ 3 ?hg (N := 49) ?hd (xs := ([x11_1] : List Int)) (inner := [.int .i64 x11_1]) (ok := fun _ => True) (okp := fun _ => True) ?hr ?hp (fun _ hk => hk) trivial (Below.refl _ _) (Nat.le_refl _) (by simp) ?_; (case hd => rfl); (case hg => rfl); (case hr => first | (go_simp; done) | (go_simp; rfl)); (case hp => exact (Reps.one (show Kd.M (Kd.int .i64) _ _ _ x11_1 [.int .i64 x11_1] from rfl) (Reps.none _ _))); intro v430 w40 ho41 hb hg_ hnew_; clear hg_ hnew_; (first | rw [← Ny429.out] at ho41 | (simp only [Int.reduceToNat] at ho41; rw [← Ny429.out] at ho41)); have n0_ := aM (Kd.S_elder' (aS HO_3) (Kd.R_base ho41) hb); have n1_ := aM (Kd.R_elder' (aR HL420_0) (Kd.R_base ho41) hb); have n2_ := aM (Kd.R_lower (Kd.R_new' ho41 (Kd.R_lt (aR HL420_0))) (below_size aG)); have n3_ := aM (blk_below (g := gb414) (o := .cells #[.slice A0_0 l0_0.length c0_0, .slice (some ad418) l0_1.length c0_1] 27 (0, 0)) aK hb); have n4_ := aM (blk_below (g := gb419) (o := .cells #[.int .i64 ((rd_T35 l0_1 x11_1).f0), .slice A418_1 ((rd_T35 l0_1 x11_1).f1).length c418_1] 35 (0, 0)) aK hb); have n5_ := aM (Kd.C_below (by repeat (first | (with_reducible exact HR420_0.out) | (with_reducible refine Kd.C_alloc ?_ _) | (with_reducible refine Kd.C_drewN ?_ _) | (with_reducible refine Kd.C_drew ?_) | exact HR420_0.out)) hb); have n6_ := aM (pw_cell_below hb HX420_0.out); have n7_ := aM (below_step aG hb); clear HO_3; clear HL420_0; clear BK414; clear BK419; clear HR420_0; clear HX420_0; clear HB; have HO_3 := n0_; have HL420_0 := n1_; have HO431 := n2_; have BK414 := n3_; have BK419 := n4_; have HR420_0 := n5_; have HX420_0 := n6_; have HB := n7_; clear n0_ n1_ n2_ n3_ n4_ n5_ n6_ n7_; clear hb ho41; obtain ⟨Ao43, co43, eo43⟩ := Kd.R_slice HO431.out; subst eo43) | ((with_reducible refine gate_builtin (b := .append) (xs := #[.tmp 47, .tmp 50]) rfl ?_); at_builtin; refine Kd.S_append (Kd.slice 3 (Kd.int .i64)) (w0 := w) w.heap.size rfl (.tmp 47) (.tmp 50) 29 32 (.slice none 0 0) 24 rfl Try.underlying29 info32 rfl (by decide) (by omega) (.slice (some ad420) x3_1.length co36) x3_1 y429 [.slice Ao43 y429.length co43] (fun _ => True) (fun k_ => some k_ = (.slice Ao43 y429.length co43 : Value).ownBlock) rfl rfl ?aP (fun k_ hk_ => ((Kd.R_mono (ok' := fun k_ => ((fun _ => True)) k_ ∧ some k_ ≠ (.slice (some ad420) x3_1.length co36 : Value).ownBlock) (Kd.R_apart' (HO431.out) (Kd.S_typed HO_3.out) (by decide)) (fun k_ hk => ⟨trivial, hk.2⟩))).1 k_ hk_.symm) ?aF ?aO ?aB ?aS ?aL ?_; (case aP => exact Kd.M_row (Kd.R_mono (Kd.R_tight rfl (Kd.R_mono (ok' := fun k_ => ((fun _ => True)) k_ ∧ some k_ ≠ (.slice (some ad420) x3_1.length co36 : Value).ownBlock) (Kd.R_apart' (HO431.out) (Kd.S_typed HO_3.out) (by decide)) (fun k_ hk => ⟨trivial, hk.2⟩))) (fun _ h_ => h_))); (case aB => exact aG); (case aF => exact (fun _ _ => trivial)); (case aO => exact (by (with_reducible repeat (first | apply Kd.S_alloc | apply Kd.S_drewN | apply Kd.S_drew)); exact Kd.S_mono HO_3.out (fun k_ hk => ⟨trivial, fun e_ => hk.2 e_⟩))); (case aS => exact (below_size aG)); (case aL => have := LMc32.out; omega); intro v433 w42 ho hb hg hat; rw [← Ny432.out] at ho; have n0_ := aM (blk_grown (g := gb414) (o := .cells #[.slice A0_0 l0_0.length c0_0, .slice (some ad418) l0_1.length c0_1] 27 (0, 0)) aK hg (Kd.S_ne HO_3.out BK414.out (by decide))); have n1_ := aM (blk_grown (g := gb419) (o := .cells #[.int .i64 ((rd_T35 l0_1 x11_1).f0), .slice A418_1 ((rd_T35 l0_1 x11_1).f1).length c418_1] 35 (0, 0)) aK hg (Kd.S_ne HO_3.out BK419.out (by decide))); have n2_ := aM (Kd.R_after (ok := (fun k_ => some k_ ≠ (.slice Ao43 y429.length co43 : Value).ownBlock)) (by (with_reducible repeat (first | apply Kd.R_alloc | apply Kd.R_drewN | apply Kd.R_drew)); exact Kd.R_mono HL420_0.out (fun _ hk => ⟨hk.2, hk.1.2⟩)) hg hat); have n3_ := aM (hb); have n4_ := aM (ho); clear BK414; clear BK419; clear HL420_0; clear HB; clear HO_3; clear HO431; have BK414 := n0_; have BK419 := n1_; have HL420_0 := n2_; have HB := n3_; have HO434 := n4_; clear n0_ n1_ n2_ n3_ n4_; clear ho hb hg hat))
              go_roundg k1
              case measure => have := HK1.out; omega
              case rel => exact ⟨(y432), (wrap64 (x11_1 + 1)), aX, H', ⟨by have := HK1.out; omega⟩, ⟨aS HO434⟩, ⟨aK⟩, ⟨aG⟩⟩
             ·rw [if_neg c32] at H
              exact absurd H (by simp)
           ·rw [if_neg c15] at H
            exact absurd H (by simp)
          ·rw [if_neg c14] at H
           exact absurd H (by simp)
         ·rw [if_neg c13] at H
          exact absurd H (by simp)
        ·rw [if_neg c12] at H
         exact absurd H (by simp)
       ·rw [if_neg c11] at H
        exact absurd H (by simp)
      ·rw [if_neg c9] at H
       have c9b0 : decide (0 ≤ (wrap64 ((x3_1.length : Int) - 1))) = false := decide_eq_false c9
       clear c9
       obtain ⟨y435, hy435⟩ : ∃ y_ : List Int, y_ = (([x11_1] : List Int)) := ⟨_, rfl⟩
       first | replace H := bY hy435 H | rw [← hy435] at H
       have Ny435 := aM hy435
       clear hy435
       by_cases c44 : x3_1.length < 5864062014805
       ·rw [if_pos c44] at H
        have LMc44 := aM c44
        clear c44
        obtain ⟨y438, hy438⟩ : ∃ y_ : List (List Int), y_ = (x3_1 ++ [y435]) := ⟨_, rfl⟩
        first | replace H := bY hy438 H | rw [← hy438] at H
        have Ny438 := aM hy438
        clear hy438
        have H' := aM H
        clear H
        have p418 : 0 ≤ (x11_1 : Int) := aD
        have q418 : x11_1 < (l0_1.length : Int) := aD
        obtain ⟨ad418, A418_1, c418_1, e418, hx418_0, hx418_1, hl418_1, hi418_1⟩ := at_T35 HR0_1.out x11_1 p418 q418
        cases e418
        replace hx418_0 := (HB.out.cell (World.block_lt_of_cell? w _ hx418_0)).trans hx418_0
        replace hx418_1 := (HB.out.cell (World.block_lt_of_cell? w _ hx418_1)).trans hx418_1
        have HR418_1 := aM hi418_1
        have HC418_1 := aM hl418_1
        clear hi418_1 hl418_1
        replace p418 := eq_true p418
        replace q418 := eq_true q418
        try go_wp2_with (first | ((with_reducible refine gate_dst (N := 5) rfl ?_); refine bE 5 (cs := #[.int .i64 0, .slice none 0 0]) (t := 35) ?_; intro gb419 hg w45 hbox hb; have BK419 := aM (hbox); have GW419 := aM ((by rw [hg]; exact (below_size aG) : w.heap.size ≤ gb419)); have GE419 := aM ((by rw [hg]; exact (below_size aG) : w.heap.size ≤ gb419)); have NB414_419 := aM ((by rw [hg]; exact Nat.ne_of_lt (blk_lt (g := gb414) (o := .cells #[.slice A0_0 l0_0.length c0_0, .slice (some ad418) l0_1.length c0_1] 27 (0, 0)) aK) : gb414 ≠ gb419)); have NB419_414 := aM ((by rw [hg]; exact Nat.ne_of_gt (blk_lt (g := gb414) (o := .cells #[.slice A0_0 l0_0.length c0_0, .slice (some ad418) l0_1.length c0_1] 27 (0, 0)) aK) : gb419 ≠ gb414)); replace HO_3 := aM (Kd.S_below (aS HO_3) hb); replace BK414 := aM (blk_below (g := gb414) (o := .cells #[.slice A0_0 l0_0.length c0_0, .slice (some ad418) l0_1.length c0_1] 27 (0, 0)) aK hb); replace HB := aM (below_step aG hb); clear hb hbox hg; have hnb46 := NB419_414.out; have hnc46 := NB414_419.out; have hcz47_0 : w45.cell? ⟨gb419, 0, none⟩ = some (.int .i64 0) := (blk_cell BK419.out 0).trans rfl; have hcz47_1 : w45.cell? ⟨gb419, 1, none⟩ = some (.slice none 0 0) := (blk_cell BK419.out 1).trans rfl; have hfz47_0 := blk_frozen BK419.out 0; have hfz47_1 := blk_frozen BK419.out 1; obtain ⟨Ao48, co48, eo48⟩ := Kd.S_slice HO_3.out; subst eo48))
        have n0_ : Aside0 (Kd.S (Kd.slice 3 (Kd.int .i64)) 32 ((w45.setCell ⟨gb419, 0, none⟩ (.int .i64 ((rd_T35 l0_1 x11_1).f0))).setCell ⟨gb419, 1, none⟩ (.slice A418_1 ((rd_T35 l0_1 x11_1).f1).length c418_1)) w.heap.size (fun _ => True) (.slice Ao48 x3_1.length co48) x3_1) := ⟨by (with_reducible repeat (first | apply Kd.S_alloc | apply Kd.S_drewN | apply Kd.S_drew)); exact Kd.S_mono (Kd.S_far (p := ⟨gb419, 1, none⟩) (Kd.S_far (p := ⟨gb419, 0, none⟩) (Kd.S_types HO_3.out BK419.out (by decide)) (fun _ hk => hk.2) (.int .i64 ((rd_T35 l0_1 x11_1).f0))) (fun _ hk => hk.2) (.slice A418_1 ((rd_T35 l0_1 x11_1).f1).length c418_1)) (fun _ hk => trivial)⟩
        have n1_ : Aside0 (((w45.setCell ⟨gb419, 0, none⟩ (.int .i64 ((rd_T35 l0_1 x11_1).f0))).setCell ⟨gb419, 1, none⟩ (.slice A418_1 ((rd_T35 l0_1 x11_1).f1).length c418_1)).heap[gb414]? = some (.cells #[.slice A0_0 l0_0.length c0_0, .slice (some ad418) l0_1.length c0_1] 27 (0, 0))) := ⟨by (with_reducible repeat (first | refine blk_drewN ?_ _ | refine blk_drew ?_ | refine blk_alloc ?_ _)); refine blk_far ?_ NB414_419.out _; (with_reducible repeat (first | refine blk_drewN ?_ _ | refine blk_drew ?_ | refine blk_alloc ?_ _)); refine blk_far ?_ NB414_419.out _; (with_reducible repeat (first | refine blk_drewN ?_ _ | refine blk_drew ?_ | refine blk_alloc ?_ _)); exact BK414.out⟩
        have n2_ : Aside0 (((w45.setCell ⟨gb419, 0, none⟩ (.int .i64 ((rd_T35 l0_1 x11_1).f0))).setCell ⟨gb419, 1, none⟩ (.slice A418_1 ((rd_T35 l0_1 x11_1).f1).length c418_1)).heap[gb419]? = some (.cells #[.int .i64 ((rd_T35 l0_1 x11_1).f0), .slice A418_1 ((rd_T35 l0_1 x11_1).f1).length c418_1] 35 (0, 0))) := ⟨by (with_reducible repeat (first | refine blk_drewN ?_ _ | refine blk_drew ?_ | refine blk_alloc ?_ _)); refine blk_put (cs := #[.int .i64 ((rd_T35 l0_1 x11_1).f0), .slice none 0 0]) ?_ 1 _ rfl; (with_reducible repeat (first | refine blk_drewN ?_ _ | refine blk_drew ?_ | refine blk_alloc ?_ _)); refine blk_put (cs := #[.int .i64 0, .slice none 0 0]) ?_ 0 _ rfl; (with_reducible repeat (first | refine blk_drewN ?_ _ | refine blk_drew ?_ | refine blk_alloc ?_ _)); exact BK419.out⟩
        have n3_ : Aside0 (Below w.heap.size w ((w45.setCell ⟨gb419, 0, none⟩ (.int .i64 ((rd_T35 l0_1 x11_1).f0))).setCell ⟨gb419, 1, none⟩ (.slice A418_1 ((rd_T35 l0_1 x11_1).f1).length c418_1))) := ⟨aG⟩
        (try clear HO_3)
        (try clear BK414)
        (try clear BK419)
        (try clear HB)
        generalize ((w45.setCell ⟨gb419, 0, none⟩ (.int .i64 ((rd_T35 l0_1 x11_1).f0))).setCell ⟨gb419, 1, none⟩ (.slice A418_1 ((rd_T35 l0_1 x11_1).f1).length c418_1)) = w49 at n0_ n1_ n2_ n3_ ⊢
        have HO_3 := n0_
        have BK414 := n1_
        have BK419 := n2_
        have HB := n3_
        clear n0_ n1_ n2_ n3_
        replace HO_3 := aM (Kd.S_drew HO_3.out)
        replace BK414 := aM (blk_drew BK414.out)
        replace BK419 := aM (blk_drew BK419.out)
        replace HB := aM (below_drew1 HB.out)
        refine start_ (n := 18) (S := fun w' => True) (ds := []) #[false, false, false, false, false, false, false, false, false, false, false, false, false, false, false, false, false, false] (by kernel_rfl) rfl rfl trivial (fun hHeld => ?_); refine with_tabW impl_blocks.tab6 impl_blocks.bits6 (fun HT_ HW_ => ?_)
        generalize w49.drew = w50 at HO_3 BK414 BK419 HB hHeld ⊢
        refine pU 0 19 ?_
        refine pU 1 20 ?_
        refine pU 2 21 ?_
        refine pure_ (i := 3) (N := some 22) (v := undef) (a' := ?_) #[true, true, true, true, false, false, false, false, false, false, false, false, false, false, false, false, false, false] rfl rfl (any_of HT_.out (by kernel_rfl)) (fun _ _ _ h => h) (Or.inr ⟨by rfl, rfl⟩) ?_ ?_
        rotate_left
        ·exact aP
        refine pure_ (i := 4) (N := some 23) (v := undef) (a' := ?_) #[true, true, true, true, true, false, false, false, false, false, false, false, false, false, false, false, false, false] rfl rfl (any_of HT_.out (by kernel_rfl)) (fun _ _ _ h => h) (Or.inr ⟨by rfl, rfl⟩) ?_ ?_
        rotate_left
        ·exact aP
        refine pure_ (i := 5) (N := some 24) (v := undef) (a' := ?_) #[true, true, true, true, true, true, false, false, false, false, false, false, false, false, false, false, false, false] rfl rfl (any_of HT_.out (by kernel_rfl)) (fun _ _ _ h => h) (Or.inr ⟨by rfl, rfl⟩) ?_ ?_
        rotate_left
        ·exact aP
        refine pure_ (i := 6) (N := some 25) (v := undef) (a' := ?_) #[true, true, true, true, true, true, true, false, false, false, false, false, false, false, false, false, false, false] rfl rfl (any_of HT_.out (by kernel_rfl)) (fun _ _ _ h => h) (Or.inr ⟨by rfl, rfl⟩) ?_ ?_
        rotate_left
        ·exact aP
        refine pure_ (i := 7) (N := some 26) (v := undef) (a' := ?_) #[true, true, true, true, true, true, true, true, false, false, false, false, false, false, false, false, false, false] rfl rfl (any_of HT_.out (by kernel_rfl)) (fun _ _ _ h => h) (Or.inr ⟨by rfl, rfl⟩) ?_ ?_
        rotate_left
        ·exact aP
        refine pure_ (i := 8) (N := some 27) (v := undef) (a' := ?_) #[true, true, true, true, true, true, true, true, true, false, false, false, false, false, false, false, false, false] rfl rfl (any_of HT_.out (by kernel_rfl)) (fun _ _ _ h => h) (Or.inr ⟨by rfl, rfl⟩) ?_ ?_
        rotate_left
        ·exact aP
        refine pure_ (i := 9) (N := some 28) (v := undef) (a' := ?_) #[true, true, true, true, true, true, true, true, true, true, false, false, false, false, false, false, false, false] rfl rfl (any_of HT_.out (by kernel_rfl)) (fun _ _ _ h => h) (Or.inr ⟨by rfl, rfl⟩) ?_ ?_
        rotate_left
        ·exact aP
        refine pure_ (i := 10) (N := some 29) (v := undef) (a' := ?_) #[true, true, true, true, true, true, true, true, true, true, true, false, false, false, false, false, false, false] rfl rfl (any_of HT_.out (by kernel_rfl)) (fun _ _ _ h => h) (Or.inr ⟨by rfl, rfl⟩) ?_ ?_
        rotate_left
        ·exact aP
        refine pure_ (i := 11) (N := some 30) (v := undef) (a' := ?_) #[true, true, true, true, true, true, true, true, true, true, true, true, false, false, false, false, false, false] rfl rfl (any_of HT_.out (by kernel_rfl)) (fun _ _ _ h => h) (Or.inr ⟨by rfl, rfl⟩) ?_ ?_
        rotate_left
        ·exact aP
        refine pure_ (i := 12) (N := some 31) (v := undef) (a' := ?_) #[true, true, true, true, true, true, true, true, true, true, true, true, true, false, false, false, false, false] rfl rfl (any_of HT_.out (by kernel_rfl)) (fun _ _ _ h => h) (Or.inr ⟨by rfl, rfl⟩) ?_ ?_
        rotate_left
        ·exact aP
        refine pure_ (i := 13) (N := some 32) (v := undef) (a' := ?_) #[true, true, true, true, true, true, true, true, true, true, true, true, true, true, false, false, false, false] rfl rfl (any_of HT_.out (by kernel_rfl)) (fun _ _ _ h => h) (Or.inr ⟨by rfl, rfl⟩) ?_ ?_
        rotate_left
        ·exact aP
        refine pure_ (i := 14) (N := some 33) (v := undef) (a' := ?_) #[true, true, true, true, true, true, true, true, true, true, true, true, true, true, true, false, false, false] rfl rfl (any_of HT_.out (by kernel_rfl)) (fun _ _ _ h => h) (Or.inr ⟨by rfl, rfl⟩) ?_ ?_
        rotate_left
        ·exact aP
        refine pure_ (i := 15) (N := some 34) (v := undef) (a' := ?_) #[true, true, true, true, true, true, true, true, true, true, true, true, true, true, true, true, false, false] rfl rfl (any_of HT_.out (by kernel_rfl)) (fun _ _ _ h => h) (Or.inr ⟨by rfl, rfl⟩) ?_ ?_
        rotate_left
        ·exact aP
        refine pure_ (i := 16) (N := some 35) (v := undef) (a' := ?_) #[true, true, true, true, true, true, true, true, true, true, true, true, true, true, true, true, true, false] rfl rfl (any_of HT_.out (by kernel_rfl)) (fun _ _ _ h => h) (Or.inr ⟨by rfl, rfl⟩) ?_ ?_
        rotate_left
        ·exact aP
        refine pU 17 36 ?_
        refine done_ (done_of HT_.out (by kernel_rfl)) ?_
        try go_wp2_with (first | ((with_reducible refine gate_dst (N := 49) rfl ?_); refine Kd.R_lit (Kd.int .i64) _ 3 ?hg (N := 49) ?hd (xs := ([x11_1] : List Int)) (inner := [.int .i64 x11_1]) (ok := fun _ => True) (okp := fun _ => True) ?hr ?hp (fun _ hk => hk) trivial (Below.refl _ _) (Nat.le_refl _) (by simp) ?_; (case hd => rfl); (case hg => rfl); (case hr => first | (go_simp; done) | (go_simp; rfl)); (case hp => exact (Reps.one (show Kd.M (Kd.int .i64) _ _ _ x11_1 [.int .i64 x11_1] from rfl) (Reps.none _ _))); intro v436 w51 ho52 hb hg_ hnew_; clear hg_ hnew_; (first | rw [← Ny435.out] at ho52 | (simp only [Int.reduceToNat] at ho52; rw [← Ny435.out] at ho52)); have n0_ := aM (Kd.S_elder' (aS HO_3) (Kd.R_base ho52) hb); have n1_ := aM (Kd.R_lower ho52 (below_size aG)); have n2_ := aM (blk_below (g := gb414) (o := .cells #[.slice A0_0 l0_0.length c0_0, .slice (some ad418) l0_1.length c0_1] 27 (0, 0)) aK hb); have n3_ := aM (blk_below (g := gb419) (o := .cells #[.int .i64 ((rd_T35 l0_1 x11_1).f0), .slice A418_1 ((rd_T35 l0_1 x11_1).f1).length c418_1] 35 (0, 0)) aK hb); have n4_ := aM (below_step aG hb); clear HO_3; clear BK414; clear BK419; clear HB; have HO_3 := n0_; have HO437 := n1_; have BK414 := n2_; have BK419 := n3_; have HB := n4_; clear n0_ n1_ n2_ n3_ n4_; clear hb ho52; obtain ⟨Ao54, co54, eo54⟩ := Kd.R_slice HO437.out; subst eo54) | ((with_reducible refine gate_builtin (b := .append) (xs := #[.tmp 47, .tmp 50]) rfl ?_); at_builtin; refine Kd.S_append (Kd.slice 3 (Kd.int .i64)) (w0 := w) w.heap.size rfl (.tmp 47) (.tmp 50) 29 32 (.slice none 0 0) 24 rfl Try.underlying29 info32 rfl (by decide) (by omega) (.slice Ao48 x3_1.length co48) x3_1 y435 [.slice Ao54 y435.length co54] (fun _ => True) (fun k_ => some k_ = (.slice Ao54 y435.length co54 : Value).ownBlock) rfl rfl ?aP (fun k_ hk_ => ((Kd.R_mono (ok' := fun k_ => ((fun _ => True)) k_ ∧ some k_ ≠ (.slice Ao48 x3_1.length co48 : Value).ownBlock) (Kd.R_apart' (HO437.out) (Kd.S_typed HO_3.out) (by decide)) (fun k_ hk => ⟨trivial, hk.2⟩))).1 k_ hk_.symm) ?aF ?aO ?aB ?aS ?aL ?_; (case aP => exact Kd.M_row (Kd.R_mono (Kd.R_tight rfl (Kd.R_mono (ok' := fun k_ => ((fun _ => True)) k_ ∧ some k_ ≠ (.slice Ao48 x3_1.length co48 : Value).ownBlock) (Kd.R_apart' (HO437.out) (Kd.S_typed HO_3.out) (by decide)) (fun k_ hk => ⟨trivial, hk.2⟩))) (fun _ h_ => h_))); (case aB => exact aG); (case aF => exact (fun _ _ => trivial)); (case aO => exact (by (with_reducible repeat (first | apply Kd.S_alloc | apply Kd.S_drewN | apply Kd.S_drew)); exact Kd.S_mono HO_3.out (fun k_ hk => ⟨trivial, fun e_ => hk.2 e_⟩))); (case aS => exact (below_size aG)); (case aL => have := LMc44.out; omega); intro v439 w53 ho hb hg hat; rw [← Ny438.out] at ho; have n0_ := aM (blk_grown (g := gb414) (o := .cells #[.slice A0_0 l0_0.length c0_0, .slice (some ad418) l0_1.length c0_1] 27 (0, 0)) aK hg (Kd.S_ne HO_3.out BK414.out (by decide))); have n1_ := aM (blk_grown (g := gb419) (o := .cells #[.int .i64 ((rd_T35 l0_1 x11_1).f0), .slice A418_1 ((rd_T35 l0_1 x11_1).f1).length c418_1] 35 (0, 0)) aK hg (Kd.S_ne HO_3.out BK419.out (by decide))); have n2_ := aM (hb); have n3_ := aM (ho); clear BK414; clear BK419; clear HB; clear HO_3; clear HO437; have BK414 := n0_; have BK419 := n1_; have HB := n2_; have HO440 := n3_; clear n0_ n1_ n2_ n3_; clear ho hb hg hat))
        go_roundg k1
        case measure => have := HK1.out; omega
        case rel => exact ⟨(y438), (wrap64 (x11_1 + 1)), aX, H', ⟨by have := HK1.out; omega⟩, ⟨aS HO440⟩, ⟨aK⟩, ⟨aG⟩⟩
       ·rw [if_neg c44] at H
        exact absurd H (by simp)
     ·rw [if_neg c8] at H
      exact absurd H (by simp)
    ·rw [if_neg c7] at H
     exact absurd H (by simp)
   ·rw [if_neg c6] at H
    have c6b0 : decide (x11_1 < (l0_1.length : Int)) = false := decide_eq_false c6
    clear c6
    obtain rfl := Option.some.inj H
    go_wp2
    go_ret
    exact ⟨_, aE, aS HO_3, aG⟩

end Go.Proofs.Ytbdeimhlohhhiaa.PFnBlocks
