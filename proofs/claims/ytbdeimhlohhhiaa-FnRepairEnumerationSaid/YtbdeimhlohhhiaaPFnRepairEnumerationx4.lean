import Derived.Test.YtbdeimhlohhhiaaPFnRepairEnumerationx0
import Derived.Test.YtbdeimhlohhhiaaPFnRepairEnumerationx3
namespace Go.Proofs.Ytbdeimhlohhhiaa.PFnRepairEnumeration
open Go.RowKit Go.Proofs.YtbdeimhlohhhiaaW.PrintWords Go.Proofs.YtbdeimhlohhhiaaW.PrintLast Go.Proofs.YtbdeimhlohhhiaaW.PrintMore
attribute [local go_sem] max2_int min2_int max_two min_two max_three min_three max_four min_four
set_option linter.unusedVariables false
set_option linter.unusedSimpArgs false

/-! ### impl_blocks: function 44 -/
def impl_blocks.l0 : Nat → List (List Int) → List (S35) → Int → Int → List (S70) → List (S35) → Option ((List (List Int)))
 | 0, _, _, _, _, _, _ => none
 | k + 1, x3, x9, x10, x11, x122000, x122001 => if x11 < x10 then (if 0 ≤ x11 then (if x11 < (x9.length : Int) then (if (wrap64 ((x3.length : Int) - 1)) ≥ 0 then (if 0 ≤ (wrap64 ((x3.length : Int) - 1)) then (if (wrap64 ((x3.length : Int) - 1)) < (x3.length : Int) then (if 0 < ((rd_L4 x3 (wrap64 ((x3.length : Int) - 1))).length : Int) then (if 0 ≤ (rd (rd_L4 x3 (wrap64 ((x3.length : Int) - 1))) 0) then (if (rd (rd_L4 x3 (wrap64 ((x3.length : Int) - 1))) 0) < (x122001.length : Int) then ((impl_sameKey.f x122000 ((rd_T35 x122001 (rd (rd_L4 x3 (wrap64 ((x3.length : Int) - 1))) 0)).f0) ((rd_T35 x122001 (rd (rd_L4 x3 (wrap64 ((x3.length : Int) - 1))) 0)).f1) ((rd_T35 x9 x11).f0) ((rd_T35 x9 x11).f1)).bind fun t130 => (if t130 = true then (if (rd_L4 x3 (wrap64 ((x3.length : Int) - 1))).length < 17592186044416 then (impl_blocks.l0 k (x3.set ((wrap64 ((x3.length : Int) - 1)) : Int).toNat ((rd_L4 x3 (wrap64 ((x3.length : Int) - 1))) ++ [x11])) x9 x10 (wrap64 (x11 + 1)) x122000 x122001) else (none)) else (if x3.length < 5864062014805 then (impl_blocks.l0 k (x3 ++ [(([x11] : List Int))]) x9 x10 (wrap64 (x11 + 1)) x122000 x122001) else (none)))) else (none)) else (none)) else (none)) else (none)) else (none)) else (if x3.length < 5864062014805 then (impl_blocks.l0 k (x3 ++ [(([x11] : List Int))]) x9 x10 (wrap64 (x11 + 1)) x122000 x122001) else (none))) else (none)) else (none)) else (some x3)
def impl_blocks.f (k : Nat) (l0_0 : List (S70)) (l0_1 : List (S35)) : Option ((List (List Int))) := impl_blocks.l0 k (([] : List (List Int))) l0_1 (l0_1.length : Int) 0 l0_0 l0_1
def impl_blocks.T6 : Bool × List (List Nat × List Nat) := (true, [([], []), ([0], [0]), ([1], [1]), ([2], [2]), ([3, 2], [2, 3]), ([2], [2]), ([5, 2], [2, 5]), ([2], [2]), ([2], [2]), ([7, 8, 2], [2, 7, 8]), ([9, 2], [2, 9]), ([10, 2], [2, 10]), ([11, 2], [2, 11]), ([6, 12, 2], [2, 6, 12]), ([13, 2], [2, 13]), ([2], [2]), ([4, 14, 15, 2, 2], [2, 4, 14, 15]), ([2, 16], [2, 16])])
def impl_blocks.B6 : List Nat := [0, 1, 3, 7, 15, 7, 39, 7, 7, 391, 903, 1927, 3975, 8167, 16359, 7, 65535, 131071]
theorem impl_blocks.tab6 : rtab .any (opsOf Try.f44 6) = impl_blocks.T6 := by kernel_rfl
theorem impl_blocks.bits6 : waitsOk impl_blocks.T6.2 impl_blocks.B6 = true := by kernel_rfl
set_option maxHeartbeats 8000000 in
set_option maxRecDepth 100000 in
theorem impl_blocks.calls (k : Nat) (A0_0 : Option Addr) (c0_0 : Nat) (l0_0 : List (S70)) (A0_1 : Option Addr) (c0_1 : Nat) (l0_1 : List (S35)) (r : List (List Int)) (w : World) (hr0_0 : Kd.C k70 w A0_0 l0_0.length l0_0) (hc0_0 : l0_0.length ≤ c0_0) (hr0_1 : Kd.C k35 w A0_1 l0_1.length l0_1) (hc0_1 : l0_1.length ≤ c0_1) (h : impl_blocks.f k l0_0 l0_1 = some r) :
  Calls Try.prog 44 #[.agg #[.slice A0_0 l0_0.length c0_0, .slice A0_1 l0_1.length c0_1]] w fun e w' => ∃ v0_ : Value, e = .returned (v0_) ∧ Kd.S (Kd.slice 3 (Kd.int .i64)) 32 w' w.heap.size (fun _ => True) v0_ r ∧ Below w.heap.size w w' := by
 have hu27 := Try.underlying27
 have hu35 := Try.underlying35
 have HR0_0 := aM hr0_0
 have HC0_0 := aM hc0_0
 clear hr0_0 hc0_0
 have HR0_1 := aM hr0_1
 have HC0_1 := aM hc0_1
 clear hr0_1 hc0_1
 have HB := aM (Below.refl w.heap.size w)
 have H : (impl_blocks.l0 k (([] : List (List Int))) l0_1 (l0_1.length : Int) 0 l0_0 l0_1) = some r := h
 clear h
 obtain ⟨y122, hy122⟩ : ∃ y_ : List (List Int), y_ = (([] : List (List Int))) := ⟨_, rfl⟩
 first | replace H := bY hy122 H | rw [← hy122] at H
 have Ny122 := aM hy122
 clear hy122
 have H' := aM H
 clear H
 go_enter Try.func44, Try.ntmps44
 go_wp2_with (first | ((with_reducible refine gate_dst (N := 1) rfl ?_); refine bE 1 (cs := #[.slice A0_0 l0_0.length c0_0, .slice A0_1 l0_1.length c0_1]) (t := 27) ?_; intro gb121 hg w2 hbox hb; have BK121 := aM (hbox); have GW121 := aM ((by rw [hg]; exact (below_size aB) : w.heap.size ≤ gb121)); have GE121 := aM ((by rw [hg]; exact (below_size aB) : w.heap.size ≤ gb121)); replace HB := aM (below_step aB hb); clear hb hbox hg) | ((with_reducible refine gate_dst (N := 7) rfl ?_); refine Kd.S_lit (Kd.slice 3 (Kd.int .i64)) _ 32 ?hg (N := 7) ?hd (xs := ([] : List (List Int))) (inner := []) (ok := fun _ => True) (okp := fun _ => True) ?hr ?hp (fun _ hk => hk) trivial (Below.refl _ _) (Nat.le_refl _) (by simp) ?_; (case hd => rfl); (case hg => rfl); (case hr => first | (go_simp; done) | (go_simp; rfl)); (case hp => exact (Reps.none _ _)); intro v123 w3 ho4 hb hg_ hnew_; clear hg_ hnew_; (first | rw [← Ny122.out] at ho4 | (simp only [Int.reduceToNat] at ho4; rw [← Ny122.out] at ho4)); have HO124 := aM (Kd.S_lower ho4 (below_size aG)); replace BK121 := aM (kB gb121 #[.slice A0_0 l0_0.length c0_0, .slice A0_1 l0_1.length c0_1] 27 hb); replace HB := aM (below_step aG hb); clear hb ho4; have hcz5_0 : w3.cell? ⟨gb121, 0, none⟩ = some (.slice A0_0 l0_0.length c0_0) := (blk_cell BK121.out 0).trans rfl; have hcz5_1 : w3.cell? ⟨gb121, 1, none⟩ = some (.slice A0_1 l0_1.length c0_1) := (blk_cell BK121.out 1).trans rfl; have hfz5_0 := blk_frozen BK121.out 0; have hfz5_1 := blk_frozen BK121.out 1))
 go_loopg [3, 11] k (fun kq v3 v11 w' => ∃ (x3_1 : List (List Int)) (x11_1 : Int), v11 = .int .i64 x11_1 ∧ Aside0 (impl_blocks.l0 kq x3_1 l0_1 (l0_1.length : Int) x11_1 l0_0 l0_1 = some r) ∧ Aside0 (kq ≤ k) ∧ Aside0 (Kd.S (Kd.slice 3 (Kd.int .i64)) 32 w' w.heap.size (fun _ => True) v3 x3_1) ∧ Aside0 (w'.heap[gb121]? = some (.cells #[(.slice A0_0 l0_0.length c0_0), (.slice A0_1 l0_1.length c0_1)] 27 (0, 0))) ∧ Aside0 (Below w.heap.size w w'))
 case atStart => exact ⟨(y122), (0), aX, H', ⟨Nat.le_refl _⟩, ⟨aS HO124⟩, ⟨aK⟩, ⟨aG⟩⟩
 case round =>
  clear H'
  try clear p2
  try clear c4
  try clear hcz5_0
  try clear hcz5_1
  try clear hfz5_0
  try clear hfz5_1
  obtain ⟨x3_1, x11_1, rfl, HA, HK1, HO_3, BK121, HB⟩ := hrel
  cases gk with
  | zero => exact absurd HA.out (by simp [impl_blocks.l0])
  | succ k1 =>
   have H := HA.out
   clear HA
   simp only [impl_blocks.l0] at H
   by_cases c6 : x11_1 < (l0_1.length : Int)
   ·rw [if_pos c6] at H
    have c6b0 : decide (x11_1 < (l0_1.length : Int)) = true := decide_eq_true c6
    clear c6
    by_cases c7 : 0 ≤ x11_1
    ·rw [if_pos c7] at H
     have c7b0 : decide (0 ≤ x11_1) = true := decide_eq_true c7
     clear c7
     by_cases c8 : x11_1 < (l0_1.length : Int)
     ·rw [if_pos c8] at H
      have c8b0 : decide (x11_1 < (l0_1.length : Int)) = true := decide_eq_true c8
      clear c8
      by_cases c9 : (wrap64 ((x3_1.length : Int) - 1)) ≥ 0
      ·rw [if_pos c9] at H
       have c9b0 : decide (0 ≤ (wrap64 ((x3_1.length : Int) - 1))) = true := decide_eq_true c9
       clear c9
       obtain ⟨ji10, hji10⟩ : ∃ j_ : Int, (wrap64 ((x3_1.length : Int) - 1)) = j_ := ⟨_, rfl⟩
       replace H : (if 0 ≤ (ji10) then (if (ji10) < (x3_1.length : Int) then (if 0 < ((rd_L4 x3_1 (ji10)).length : Int) then (if 0 ≤ (rd (rd_L4 x3_1 (ji10)) 0) then (if (rd (rd_L4 x3_1 (ji10)) 0) < (l0_1.length : Int) then ((impl_sameKey.f l0_0 ((rd_T35 l0_1 (rd (rd_L4 x3_1 (ji10)) 0)).f0) ((rd_T35 l0_1 (rd (rd_L4 x3_1 (ji10)) 0)).f1) ((rd_T35 l0_1 x11_1).f0) ((rd_T35 l0_1 x11_1).f1)).bind fun t130 => (if t130 = true then (if (rd_L4 x3_1 (ji10)).length < 17592186044416 then (impl_blocks.l0 k1 (x3_1.set ((ji10) : Int).toNat ((rd_L4 x3_1 (ji10)) ++ [x11_1])) l0_1 (l0_1.length : Int) (wrap64 (x11_1 + 1)) l0_0 l0_1) else (none)) else (if x3_1.length < 5864062014805 then (impl_blocks.l0 k1 (x3_1 ++ [(([x11_1] : List Int))]) l0_1 (l0_1.length : Int) (wrap64 (x11_1 + 1)) l0_0 l0_1) else (none)))) else (none)) else (none)) else (none)) else (none)) else (none)) = some r := by first | (rw [hji10] at H; exact H) | (simp only [hji10] at H ⊢; exact H)
       (try rw [hji10] at c9b0)
       have hji10w : (IntKind.i64.wrap ((x3_1.length : Int) - 1)) = ji10 := (i64_w _).trans hji10
       by_cases c11 : 0 ≤ (ji10)
       ·rw [if_pos c11] at H
        have c11b0 : decide (0 ≤ (ji10)) = true := decide_eq_true c11
        clear c11
        by_cases c12 : (ji10) < (x3_1.length : Int)
        ·rw [if_pos c12] at H
         have c12b0 : decide ((ji10) < (x3_1.length : Int)) = true := decide_eq_true c12
         clear c12
         by_cases c13 : 0 < ((rd_L4 x3_1 (ji10)).length : Int)
         ·rw [if_pos c13] at H
          have c13b0 : decide (0 < ((rd_L4 x3_1 (ji10)).length : Int)) = true := decide_eq_true c13
          have c13b1 : decide (0 < (rd_L4 x3_1 (ji10)).length) = true := decide_eq_true (by omega)
          clear c13
          by_cases c14 : 0 ≤ (rd (rd_L4 x3_1 (ji10)) 0)
          ·rw [if_pos c14] at H
           have c14b0 : decide (0 ≤ (rd (rd_L4 x3_1 (ji10)) 0)) = true := decide_eq_true c14
           clear c14
           by_cases c15 : (rd (rd_L4 x3_1 (ji10)) 0) < (l0_1.length : Int)
           ·rw [if_pos c15] at H
            have c15b0 : decide ((rd (rd_L4 x3_1 (ji10)) 0) < (l0_1.length : Int)) = true := decide_eq_true c15
            clear c15
            replace H := bM H
            obtain ⟨t130, A160, H⟩ := H
            have A16 := aM A160
            clear A160
            by_cases c17 : t130 = true
            ·subst c17
             replace H := iT H
             by_cases c18 : (rd_L4 x3_1 (ji10)).length < 17592186044416
             ·rw [if_pos c18] at H
              have LMc18 := aM c18
              clear c18
              obtain ⟨y132, hy132⟩ : ∃ y_ : List Int, y_ = ((rd_L4 x3_1 (ji10)) ++ [x11_1]) := ⟨_, rfl⟩
              first | replace H := bY hy132 H | rw [← hy132] at H
              have Ny132 := aM hy132
              clear hy132
              obtain ⟨y135, hy135⟩ : ∃ y_ : List (List Int), y_ = (x3_1.set ((ji10) : Int).toNat y132) := ⟨_, rfl⟩
              first | replace H := bY hy135 H | rw [← hy135] at H
              have Ny135 := aM hy135
              clear hy135
              have H' := aM H
              clear H
              have p125 : 0 ≤ (x11_1 : Int) := aD
              have q125 : x11_1 < (l0_1.length : Int) := aD
              obtain ⟨ad125, A125_1, c125_1, e125, hx125_0, hx125_1, hl125_1, hi125_1⟩ := at_T35 HR0_1.out x11_1 p125 q125
              cases e125
              replace hx125_0 := (HB.out.cell (World.block_lt_of_cell? w _ hx125_0)).trans hx125_0
              replace hx125_1 := (HB.out.cell (World.block_lt_of_cell? w _ hx125_1)).trans hx125_1
              have HR125_1 := aM hi125_1
              have HC125_1 := aM hl125_1
              clear hi125_1 hl125_1
              replace p125 := eq_true p125
              replace q125 := eq_true q125
              try go_wp2_with (first | ((with_reducible refine gate_dst (N := 5) rfl ?_); refine bE 5 (cs := #[.int .i64 0, .slice none 0 0]) (t := 35) ?_; intro gb126 hg w20 hbox hb; have BK126 := aM (hbox); have GW126 := aM ((by rw [hg]; exact (below_size aG) : w.heap.size ≤ gb126)); have GE126 := aM ((by rw [hg]; exact (below_size aG) : w.heap.size ≤ gb126)); have NB121_126 := aM ((by rw [hg]; exact Nat.ne_of_lt (blk_lt (g := gb121) (o := .cells #[.slice A0_0 l0_0.length c0_0, .slice (some ad125) l0_1.length c0_1] 27 (0, 0)) aK) : gb121 ≠ gb126)); have NB126_121 := aM ((by rw [hg]; exact Nat.ne_of_gt (blk_lt (g := gb121) (o := .cells #[.slice A0_0 l0_0.length c0_0, .slice (some ad125) l0_1.length c0_1] 27 (0, 0)) aK) : gb126 ≠ gb121)); replace HO_3 := aM (Kd.S_below (aS HO_3) hb); replace BK121 := aM (kB gb121 #[.slice A0_0 l0_0.length c0_0, .slice (some ad125) l0_1.length c0_1] 27 hb); replace HB := aM (below_step aG hb); clear hb hbox hg; have hnb21 := NB126_121.out; have hnc21 := NB121_126.out; have hcz22_0 : w20.cell? ⟨gb126, 0, none⟩ = some (.int .i64 0) := (blk_cell BK126.out 0).trans rfl; have hcz22_1 : w20.cell? ⟨gb126, 1, none⟩ = some (.slice none 0 0) := (blk_cell BK126.out 1).trans rfl; have hfz22_0 := blk_frozen BK126.out 0; have hfz22_1 := blk_frozen BK126.out 1; obtain ⟨Ao23, co23, eo23⟩ := Kd.S_slice HO_3.out; subst eo23))
              have n0_ : Aside0 (Kd.S (Kd.slice 3 (Kd.int .i64)) 32 ((w20.setCell ⟨gb126, 0, none⟩ (.int .i64 ((rd_T35 l0_1 x11_1).f0))).setCell ⟨gb126, 1, none⟩ (.slice A125_1 ((rd_T35 l0_1 x11_1).f1).length c125_1)) w.heap.size (fun _ => True) (.slice Ao23 x3_1.length co23) x3_1) := ⟨by (with_reducible repeat apply pS); exact Kd.S_mono (Kd.S_far (p := ⟨gb126, 1, none⟩) (Kd.S_far (p := ⟨gb126, 0, none⟩) (Kd.S_types HO_3.out BK126.out (by decide)) (fun _ hk => hk.2) (.int .i64 ((rd_T35 l0_1 x11_1).f0))) (fun _ hk => hk.2) (.slice A125_1 ((rd_T35 l0_1 x11_1).f1).length c125_1)) (fun _ hk => trivial)⟩
              have n1_ : Aside0 (((w20.setCell ⟨gb126, 0, none⟩ (.int .i64 ((rd_T35 l0_1 x11_1).f0))).setCell ⟨gb126, 1, none⟩ (.slice A125_1 ((rd_T35 l0_1 x11_1).f1).length c125_1)).heap[gb121]? = some (.cells #[.slice A0_0 l0_0.length c0_0, .slice (some ad125) l0_1.length c0_1] 27 (0, 0))) := ⟨by (with_reducible repeat refine pB ?_); refine blk_far ?_ NB121_126.out _; (with_reducible repeat refine pB ?_); refine blk_far ?_ NB121_126.out _; (with_reducible repeat refine pB ?_); exact BK121.out⟩
              have n2_ : Aside0 (((w20.setCell ⟨gb126, 0, none⟩ (.int .i64 ((rd_T35 l0_1 x11_1).f0))).setCell ⟨gb126, 1, none⟩ (.slice A125_1 ((rd_T35 l0_1 x11_1).f1).length c125_1)).heap[gb126]? = some (.cells #[.int .i64 ((rd_T35 l0_1 x11_1).f0), .slice A125_1 ((rd_T35 l0_1 x11_1).f1).length c125_1] 35 (0, 0))) := ⟨by (with_reducible repeat refine pB ?_); refine blk_put (cs := #[.int .i64 ((rd_T35 l0_1 x11_1).f0), .slice none 0 0]) ?_ 1 _ rfl; (with_reducible repeat refine pB ?_); refine blk_put (cs := #[.int .i64 0, .slice none 0 0]) ?_ 0 _ rfl; (with_reducible repeat refine pB ?_); exact BK126.out⟩
              have n3_ : Aside0 (Below w.heap.size w ((w20.setCell ⟨gb126, 0, none⟩ (.int .i64 ((rd_T35 l0_1 x11_1).f0))).setCell ⟨gb126, 1, none⟩ (.slice A125_1 ((rd_T35 l0_1 x11_1).f1).length c125_1))) := ⟨aG⟩
              (try clear HO_3)
              (try clear BK121)
              (try clear BK126)
              (try clear HB)
              generalize ((w20.setCell ⟨gb126, 0, none⟩ (.int .i64 ((rd_T35 l0_1 x11_1).f0))).setCell ⟨gb126, 1, none⟩ (.slice A125_1 ((rd_T35 l0_1 x11_1).f1).length c125_1)) = w24 at n0_ n1_ n2_ n3_ ⊢
              have HO_3 := n0_
              have BK121 := n1_
              have BK126 := n2_
              have HB := n3_
              clear n0_ n1_ n2_ n3_
              replace HO_3 := aM (Kd.S_drew HO_3.out)
              replace BK121 := aM (blk_drew BK121.out)
              replace BK126 := aM (blk_drew BK126.out)
              replace HB := aM (below_drew1 HB.out)
              have p127 : 0 ≤ ((ji10) : Int) := aD
              have q127 : (ji10) < (x3_1.length : Int) := aD
              obtain ⟨ad127, A127_0, c127_0, e127, hx127_0, hl127_0, hi127_0⟩ := at_L4 (Kd.S_reads' HO_3.out).2.2 (ji10) p127 q127
              cases e127
              obtain ⟨ce127, hce127, hMe127, hcc127⟩ := Kd.S_get HO_3.out [] (ji10) p127 (by first | exact q127 | exact aD | (have e_ := (Kd.S_reads' HO_3.out).1; omega))
              obtain ⟨ve127_0, rfl, ge127_0⟩ := hMe127
              have hv127_0 := hcc127 0 _ rfl
              rw [Nat.add_zero, show ((Kd.slice 3 (Kd.int .i64))).sz = 1 from rfl, Nat.mul_one] at hv127_0
              replace hv127_0 := Option.some.inj (hv127_0.symm.trans hx127_0)
              rw [hv127_0] at ge127_0
              have HL127_0 := aM (show Kd.R (Kd.int .i64) 3 _ _ _ _ (rd_L4 x3_1 (ji10)) from ge127_0)
              clear hv127_0 ge127_0
              have HX127_0 := aM hx127_0
              clear hcc127 hce127
              have HR127_0 := aM hi127_0
              have HC127_0 := aM hl127_0
              clear hi127_0 hl127_0
              replace p127 := eq_true p127
              replace q127 := eq_true q127
              have p128 : 0 ≤ (0 : Int) := (by omega)
              have q128 : 0 < ((rd_L4 x3_1 (ji10)).length : Int) := aD
              obtain ⟨ad128, e128, hx128_0⟩ := Kd.at_int (by repeat (first | (with_reducible exact HR127_0.out) | (with_reducible refine pC ?_) | exact HR127_0.out)) 0 p128 q128
              cases e128
              have qi128 : (0 < (rd_L4 x3_1 (ji10)).length) = True := eq_true (by omega)
              (try rw [show ((0 : Int)).toNat = 0 from rfl] at hx128_0)
              (try rw [Addr.add_zero'] at hx128_0)
              replace p128 := eq_true p128
              replace q128 := eq_true q128
              have p129 : 0 ≤ ((rd (rd_L4 x3_1 (ji10)) 0) : Int) := aD
              have q129 : (rd (rd_L4 x3_1 (ji10)) 0) < (l0_1.length : Int) := aD
              obtain ⟨ad129, A129_1, c129_1, e129, hx129_0, hx129_1, hl129_1, hi129_1⟩ := at_T35 HR0_1.out (rd (rd_L4 x3_1 (ji10)) 0) p129 q129
              have hw129_1 := hx129_1
              have hw129_0 := hx129_0
              obtain rfl : ad125 = ad129 := (by injection e129)
              replace hx129_0 := (HB.out.cell (World.block_lt_of_cell? w _ hx129_0)).trans hx129_0
              replace hx129_1 := (HB.out.cell (World.block_lt_of_cell? w _ hx129_1)).trans hx129_1
              have HR129_1 := aM hi129_1
              have HC129_1 := aM hl129_1
              clear hi129_1 hl129_1
              replace p129 := eq_true p129
              replace q129 := eq_true q129
              refine start_ (n := 18) (S := fun w' => w'.cell? ⟨gb121, 0, none⟩ = some (.slice A0_0 l0_0.length c0_0) ∧ w'.cell? ⟨gb121, 1, none⟩ = some (.slice (some ad125) l0_1.length c0_1) ∧ w'.cell? ⟨gb126, 0, none⟩ = some (.int .i64 ((rd_T35 l0_1 x11_1).f0)) ∧ w'.cell? ⟨gb126, 1, none⟩ = some (.slice A125_1 ((rd_T35 l0_1 x11_1).f1).length c125_1) ∧ w'.cell? (ad127.add ((ji10)).toNat) = some (.slice (some ad128) (rd_L4 x3_1 (ji10)).length c127_0) ∧ w'.cell? ad128 = some (.int .i64 (rd (rd_L4 x3_1 (ji10)) 0)) ∧ w'.cell? (ad125.add (((rd (rd_L4 x3_1 (ji10)) 0)).toNat * 2)) = some (.int .i64 ((rd_T35 l0_1 (rd (rd_L4 x3_1 (ji10)) 0)).f0)) ∧ w'.cell? ⟨(ad125.add (((rd (rd_L4 x3_1 (ji10)) 0)).toNat * 2)).block, (ad125.add (((rd (rd_L4 x3_1 (ji10)) 0)).toNat * 2)).off + 1, none⟩ = some (.slice A129_1 ((rd_T35 l0_1 (rd (rd_L4 x3_1 (ji10)) 0)).f1).length c129_1)) (ds := []) #[false, false, false, false, false, false, false, false, false, false, false, false, false, false, false, false, false, false] (by kernel_rfl) rfl rfl ⟨(blk_cell BK121.out 0).trans rfl, (blk_cell BK121.out 1).trans rfl, (blk_cell BK126.out 0).trans rfl, (blk_cell BK126.out 1).trans rfl, hx127_0, hx128_0, (pw_cell_below HB.out hw129_0), (pw_cell_below HB.out hw129_1)⟩ (fun hHeld => ?_); refine with_tabW impl_blocks.tab6 impl_blocks.bits6 (fun HT_ HW_ => ?_)
              generalize w24.drew = w25 at HO_3 BK121 BK126 HB HL127_0 HR127_0 HR129_1 HX127_0 hx127_0 hx128_0 hx129_0 hx129_1 hHeld ⊢
              refine pU 0 19 ?_
              refine pU 1 20 ?_
              refine pU 2 21 ?_
              refine pU 3 22 ?_
              refine pU 5 24 ?_
              refine pU 7 26 ?_
              refine pU 8 27 ?_
              refine pU 9 28 ?_
              refine tU8 4 23 hHeld ?_
              refine tU8 6 25 hHeld ?_
              refine tU8 10 29 hHeld ?_
              refine pU 11 30 ?_
              refine tU8 12 31 hHeld ?_
              refine pU 13 32 ?_
              refine tU8 14 33 hHeld ?_
              refine tU8 15 34 hHeld ?_
              refine oU 16 35 (fun K hK => ?_)
              refine goes_ Try.func78 (by kernel_rfl) rfl #[.slice A0_0 l0_0.length c0_0, .agg #[.int .i64 ((rd_T35 l0_1 (rd (rd_L4 x3_1 (ji10)) 0)).f0), .slice A129_1 ((rd_T35 l0_1 (rd (rd_L4 x3_1 (ji10)) 0)).f1).length c129_1], .agg #[.int .i64 ((rd_T35 l0_1 x11_1).f0), .slice A125_1 ((rd_T35 l0_1 x11_1).f1).length c125_1]] (by rfl) rfl rfl (by (try simp only [List.map_toArray, List.map_cons, List.map_nil]); first | done | (simp only [hji10]; rfl) | rfl | (simp only [List.length_drop, List.length_take]; rfl)) ?_
              with_reducible refine (impl_sameKey.calls _ _ l0_0 ((rd_T35 l0_1 (rd (rd_L4 x3_1 (ji10)) 0)).f0) _ _ ((rd_T35 l0_1 (rd (rd_L4 x3_1 (ji10)) 0)).f1) ((rd_T35 l0_1 x11_1).f0) _ _ ((rd_T35 l0_1 x11_1).f1) true _ ?side1 ?side2 ?side3 ?side4 ?side5 ?side6 A16.out).mono ?_
              (case side1 => exact aC)
              (case side2 => exact HC0_0.out)
              (case side3 => exact aC)
              (case side4 => exact HC129_1.out)
              (case side5 => exact aC)
              (case side6 => exact HC125_1.out)
              rintro e w26 ⟨rfl, hb⟩
              have HS4_ := (hb.cell (World.block_lt_of_cell? _ _ (hHeld.2.2.2.2.1))).trans (hHeld.2.2.2.2.1)
              have HS5_ := (hb.cell (World.block_lt_of_cell? _ _ (hHeld.2.2.2.2.2.1))).trans (hHeld.2.2.2.2.2.1)
              refine ⟨_, rfl, ?_⟩
              have n0_ := aM (Kd.S_below (aS HO_3) hb)
              have n1_ := aM (Kd.R_below (aR HL127_0) hb)
              have n2_ := aM (kB gb121 #[.slice A0_0 l0_0.length c0_0, .slice (some ad125) l0_1.length c0_1] 27 hb)
              have n3_ := aM (kB gb126 #[.int .i64 ((rd_T35 l0_1 x11_1).f0), .slice A125_1 ((rd_T35 l0_1 x11_1).f1).length c125_1] 35 hb)
              have n4_ := aM (Kd.C_below (by repeat (first | (with_reducible exact HR127_0.out) | (with_reducible refine pC ?_) | exact HR127_0.out)) hb)
              have n5_ := aM (pw_cell_below hb HX127_0.out)
              have n6_ := aM (below_step aG hb)
              clear HO_3
              clear HL127_0
              clear BK121
              clear BK126
              clear HR127_0
              clear HX127_0
              clear HB
              have HO_3 := n0_
              have HL127_0 := n1_
              have BK121 := n2_
              have BK126 := n3_
              have HR127_0 := n4_
              have HX127_0 := n5_
              have HB := n6_
              clear n0_ n1_ n2_ n3_ n4_ n5_ n6_
              (try clear hb)
              (try clear hb2)
              (try clear hk)
              (try clear hi)
              refine hK.out _ _ ⟨(blk_cell BK121.out 0).trans rfl, (blk_cell BK121.out 1).trans rfl, (blk_cell BK126.out 0).trans rfl, (blk_cell BK126.out 1).trans rfl, HS4_, HS5_, (pw_cell_below HB.out hw129_0), (pw_cell_below HB.out hw129_1)⟩ (fun hHeld => ?_)
              clear hK K
              refine nU 35 ?_
              refine pU 17 36 ?_
              refine done_ (done_of HT_.out (by kernel_rfl)) ?_
              have p131 : 0 ≤ ((ji10) : Int) := aD
              have q131 : (ji10) < (x3_1.length : Int) := aD
              obtain ⟨ad131, A131_0, c131_0, e131, hx131_0, hl131_0, hi131_0⟩ := at_L4 (Kd.S_reads' HO_3.out).2.2 (ji10) p131 q131
              obtain rfl : ad127 = ad131 := (by injection e131)
              obtain ⟨ce131, hce131, hMe131, hcc131⟩ := Kd.S_get HO_3.out [] (ji10) p131 (by first | exact q131 | exact aD | (have e_ := (Kd.S_reads' HO_3.out).1; omega))
              obtain ⟨ve131_0, rfl, ge131_0⟩ := hMe131
              have hv131_0 := hcc131 0 _ rfl
              rw [Nat.add_zero, show ((Kd.slice 3 (Kd.int .i64))).sz = 1 from rfl, Nat.mul_one] at hv131_0
              replace hv131_0 := Option.some.inj (hv131_0.symm.trans hx131_0)
              rw [hv131_0] at ge131_0
              have HL131_0 := aM (show Kd.R (Kd.int .i64) 3 _ _ _ _ (rd_L4 x3_1 (ji10)) from ge131_0)
              clear hv131_0 ge131_0
              have HX131_0 := aM hx131_0
              clear hcc131 hce131
              have HR131_0 := aM hi131_0
              have HC131_0 := aM hl131_0
              clear hi131_0 hl131_0
              replace p131 := eq_true p131
              replace q131 := eq_true q131
              obtain ⟨go27, co27, eo27, gb27, gl27, cl27, HG27⟩ := Kd.S_form HO_3.out (by have h_ : ((ji10) : Int) < ((x3_1.length : Int) : Int) := aD; have h2_ : 0 ≤ ((ji10) : Int) := (aD); omega)
              (first | cases eo27 | (injection eo27 with ea_ en_ ec_; (first | subst ea_ | (injection ea_ with ea_; subst ea_)); subst ec_; clear en_))
              have GB27 := aM gb27
              have GG27 := aM HG27
              clear gb27 gl27 HG27
              (first | simp only [add_plain] at hx127_0 | skip)
              (first | simp only [add_plain] at hx131_0 | skip)
              obtain ⟨oki27, ce27, hcl27, hM27, hcc27, _, _, hH27⟩ := Kd.S_elem HO_3.out [] ((ji10) : Int) (aD) (by have h_ : ((ji10) : Int) < ((x3_1.length : Int) : Int) := aD; first | exact h_ | (have e_ := (Kd.S_reads' HO_3.out).1; omega) | simpa using h_)
              obtain ⟨ve27_0, rfl, ge27_0⟩ := hM27
              have hv27 := hcc27 0 _ rfl
              have hX27 := HX131_0.out
              (try simp only [add_plain] at hX27)
              (try simp only [Nat.add_zero] at hv27)
              (try rw [show ((Kd.slice 3 (Kd.int .i64))).sz = 1 from rfl, Nat.mul_one] at hv27)
              replace hv27 := Option.some.inj (hv27.symm.trans hX27)
              subst hv27
              clear hX27 hcc27 hcl27
              have UU27 := aM (show Kd.R (Kd.int .i64) 3 _ w.heap.size oki27 (.slice A131_0 (rd_L4 x3_1 (ji10)).length c131_0) (rd_L4 x3_1 (ji10)) from ge27_0)
              have HH27 := aM hH27
              have HN27 := aM (Kd.S_reads' HO_3.out).1
              clear hH27 ge27_0
              try go_wp2_with (first | ((with_reducible refine gate_builtin (b := .append) (xs := #[.tmp 42, .tmp 44]) rfl ?_); at_builtin; refine Kd.R_append (Kd.int .i64) (w0 := w) w.heap.size rfl (.tmp 42) (.tmp 44) 32 3 (.int .i64 0) 8 rfl Try.underlying32 info3 rfl (by decide) (by omega) (.slice A131_0 (rd_L4 x3_1 (ji10)).length c131_0) (rd_L4 x3_1 (ji10)) x11_1 [.int .i64 x11_1] (fun k_ => oki27 k_ ∨ ((fun _ => True)) k_ ∧ w26.heap.size ≤ k_) (fun _ => False) rfl rfl ?aP (fun _ hk => hk.elim) ?aF ?aO ?aB ?aS ?aL ?_; (case aP => exact rfl); (case aB => exact aG); (case aF => exact (fun k_ hk => .inr ⟨trivial, hk⟩)); (case aO => exact (by (with_reducible repeat apply pR); exact Kd.R_mono UU27.out (fun _ hk => .inl hk))); (case aS => exact (below_size aG)); (case aL => have := LMc18.out; omega); intro v133 w28 ho hb hg hat; rw [← Ny132.out] at ho; have n0_ := aM (blk_grown (g := gb121) (o := .cells #[.slice A0_0 l0_0.length c0_0, .slice (some ad125) l0_1.length c0_1] 27 (0, 0)) aK hg (Kd.R_ne HL131_0.out BK121.out (by decide))); have n1_ := aM (blk_grown (g := gb126) (o := .cells #[.int .i64 ((rd_T35 l0_1 x11_1).f0), .slice A125_1 ((rd_T35 l0_1 x11_1).f1).length c125_1] 35 (0, 0)) aK hg (Kd.R_ne HL131_0.out BK126.out (by decide))); have n2_ := aM (hb); have n3_ := aM (Kd.H_grown (Kd.H_widen (by repeat (first | exact HH27.out | refine Kd.H_alloc ?_ _ | refine Kd.H_drewN ?_ _ | refine Kd.H_drew ?_))) hg (fun k_ e_ => .inl (UU27.out.1 k_ e_))); have n4_ := aM (ho); clear BK121; clear BK126; clear HB; clear HH27; clear HO_3; clear UU27; clear HL127_0; clear HL131_0; have BK121 := n0_; have BK126 := n1_; have HB := n2_; have HH27 := n3_; have HO134 := n4_; clear n0_ n1_ n2_ n3_ n4_; clear ho hb hg hat; have p19 : 0 ≤ ((ji10) : Int) := aD; have q19 : ((ji10) : Int) < ((x3_1.length : Int) : Int) := aD; replace p19 := eq_true p19; replace q19 := eq_true q19; obtain ⟨Ao31, co31, eo31⟩ := Kd.R_slice HO134.out; subst eo31; obtain ⟨_, _, hraw29, _, _, hcc29, _⟩ := Kd.H_raw HH27.out (aD) (by have h_ : ((ji10) : Int) < ((x3_1.length : Int) : Int) := aD; first | exact h_ | (have e_ := (HN27.out); omega) | simpa using h_); obtain ⟨_, hfr29⟩ := Kd.H_at HH27.out (aD) (by have h_ : ((ji10) : Int) < ((x3_1.length : Int) : Int) := aD; first | exact h_ | (have e_ := (HN27.out); omega) | simpa using h_); have hx29_0 := hcc29 0 _ rfl; have hf29_0 := hfr29 0; (try simp only [Nat.add_zero] at hx29_0 hf29_0); (try rw [show ((Kd.slice 3 (Kd.int .i64))).sz = 1 from rfl, Nat.mul_one] at hx29_0); (try rw [show ((Kd.slice 3 (Kd.int .i64))).sz = 1 from rfl, Nat.mul_one] at hf29_0); have HP29 := Kd.S_seg0 HH27.out (aD) (by have h_ : ((ji10) : Int) < ((x3_1.length : Int) : Int) := aD; first | exact h_ | (have e_ := (HN27.out); omega) | simpa using h_) (seg := [.slice Ao31 y132.length co31]) (j := 0) (show 1 ≤ 1 from by decide) (x' := y132) (Kd.M_row HO134.out) (fun _ hk => hk); (try simp only [show ((Kd.slice 3 (Kd.int .i64))).sz = 1 from rfl, Nat.mul_one, Nat.add_zero] at HP29); clear hcc29 hfr29) | ((with_reducible refine gate_store (t := 32) (p := 46) rfl ?_); refine store_event (t := 32) (p := 46) (v := ?vo_w30) (w1 := (w28.setCell ⟨go27, ((ji10) : Int).toNat, none⟩ (.slice Ao31 y132.length co31))) ?hg ?ho ?hn ?hr ?_; (case ho => rfl); (case hg => rfl); (case hn => rfl); (case hr => first | (go_simp; done) | (go_simp; rfl) | (obtain ⟨A_, c_, e_⟩ := Kd.R_slice HO134.out; subst e_; first | (go_simp; done) | (go_simp; rfl)) | (obtain ⟨A_, c_, e_⟩ := Kd.R_slice HO_3.out; subst e_; first | (go_simp; done) | (go_simp; rfl))); intro w30 hw; have hg : w28.grownBy w30 (some go27) := (by rw [hw]; exact HP29.2); have hp_ : Kd.S (Kd.slice 3 (Kd.int .i64)) 32 w30 w.heap.size (fun _ => True) (.slice (some ⟨go27, 0, none⟩) x3_1.length co23) y135 := (by rw [hw, Ny135.out]; exact HP29.1); clear HP29; have n0_ := aM (blk_grown (g := gb121) (o := .cells #[.slice A0_0 l0_0.length c0_0, .slice (some ad125) l0_1.length c0_1] 27 (0, 0)) aK hg (Kd.R_ne hraw29 BK121.out (by decide))); have n1_ := aM (blk_grown (g := gb126) (o := .cells #[.int .i64 ((rd_T35 l0_1 x11_1).f0), .slice A125_1 ((rd_T35 l0_1 x11_1).f1).length c125_1] 35 (0, 0)) aK hg (Kd.R_ne hraw29 BK126.out (by decide))); have n2_ := aM ((by rw [hw]; exact below_set HB.out GB27.out : Below w.heap.size w w30)); have n3_ := aM (hp_); clear BK121; clear BK126; clear HB; clear HO134; clear HH27; have BK121 := n0_; have BK126 := n1_; have HB := n2_; have HO_3 := n3_; clear n0_ n1_ n2_ n3_; clear hg hw hp_ hraw29))
              go_roundg k1
              case measure => have := HK1.out; omega
              case rel => exact ⟨(y135), (wrap64 (x11_1 + 1)), aX, H', ⟨by have := HK1.out; omega⟩, ⟨aS HO_3⟩, ⟨aK⟩, ⟨aG⟩⟩
             ·rw [if_neg c18] at H
              exact absurd H (by simp)
            ·replace c17 := Bool.eq_false_iff.mpr c17
             subst c17
             have H1 : (if x3_1.length < 5864062014805 then (impl_blocks.l0 k1 (x3_1 ++ [(([x11_1] : List Int))]) l0_1 (l0_1.length : Int) (wrap64 (x11_1 + 1)) l0_0 l0_1) else (none)) = some r := by rw [if_neg (show ¬ (false = true) by decide)] at H; exact H
             clear H
             have H := H1
             clear H1
             obtain ⟨y136, hy136⟩ : ∃ y_ : List Int, y_ = (([x11_1] : List Int)) := ⟨_, rfl⟩
             first | replace H := bY hy136 H | rw [← hy136] at H
             have Ny136 := aM hy136
             clear hy136
             by_cases c32 : x3_1.length < 5864062014805
             ·rw [if_pos c32] at H
              have LMc32 := aM c32
              clear c32
              obtain ⟨y139, hy139⟩ : ∃ y_ : List (List Int), y_ = (x3_1 ++ [y136]) := ⟨_, rfl⟩
              first | replace H := bY hy139 H | rw [← hy139] at H
              have Ny139 := aM hy139
              clear hy139
              have H' := aM H
              clear H
              have p125 : 0 ≤ (x11_1 : Int) := aD
              have q125 : x11_1 < (l0_1.length : Int) := aD
              obtain ⟨ad125, A125_1, c125_1, e125, hx125_0, hx125_1, hl125_1, hi125_1⟩ := at_T35 HR0_1.out x11_1 p125 q125
              cases e125
              replace hx125_0 := (HB.out.cell (World.block_lt_of_cell? w _ hx125_0)).trans hx125_0
              replace hx125_1 := (HB.out.cell (World.block_lt_of_cell? w _ hx125_1)).trans hx125_1
              have HR125_1 := aM hi125_1
              have HC125_1 := aM hl125_1
              clear hi125_1 hl125_1
              replace p125 := eq_true p125
              replace q125 := eq_true q125
              try go_wp2_with (first | ((with_reducible refine gate_dst (N := 5) rfl ?_); refine bE 5 (cs := #[.int .i64 0, .slice none 0 0]) (t := 35) ?_; intro gb126 hg w33 hbox hb; have BK126 := aM (hbox); have GW126 := aM ((by rw [hg]; exact (below_size aG) : w.heap.size ≤ gb126)); have GE126 := aM ((by rw [hg]; exact (below_size aG) : w.heap.size ≤ gb126)); have NB121_126 := aM ((by rw [hg]; exact Nat.ne_of_lt (blk_lt (g := gb121) (o := .cells #[.slice A0_0 l0_0.length c0_0, .slice (some ad125) l0_1.length c0_1] 27 (0, 0)) aK) : gb121 ≠ gb126)); have NB126_121 := aM ((by rw [hg]; exact Nat.ne_of_gt (blk_lt (g := gb121) (o := .cells #[.slice A0_0 l0_0.length c0_0, .slice (some ad125) l0_1.length c0_1] 27 (0, 0)) aK) : gb126 ≠ gb121)); replace HO_3 := aM (Kd.S_below (aS HO_3) hb); replace BK121 := aM (kB gb121 #[.slice A0_0 l0_0.length c0_0, .slice (some ad125) l0_1.length c0_1] 27 hb); replace HB := aM (below_step aG hb); clear hb hbox hg; have hnb34 := NB126_121.out; have hnc34 := NB121_126.out; have hcz35_0 : w33.cell? ⟨gb126, 0, none⟩ = some (.int .i64 0) := (blk_cell BK126.out 0).trans rfl; have hcz35_1 : w33.cell? ⟨gb126, 1, none⟩ = some (.slice none 0 0) := (blk_cell BK126.out 1).trans rfl; have hfz35_0 := blk_frozen BK126.out 0; have hfz35_1 := blk_frozen BK126.out 1; obtain ⟨Ao36, co36, eo36⟩ := Kd.S_slice HO_3.out; subst eo36))
              have n0_ : Aside0 (Kd.S (Kd.slice 3 (Kd.int .i64)) 32 ((w33.setCell ⟨gb126, 0, none⟩ (.int .i64 ((rd_T35 l0_1 x11_1).f0))).setCell ⟨gb126, 1, none⟩ (.slice A125_1 ((rd_T35 l0_1 x11_1).f1).length c125_1)) w.heap.size (fun _ => True) (.slice Ao36 x3_1.length co36) x3_1) := ⟨by (with_reducible repeat apply pS); exact Kd.S_mono (Kd.S_far (p := ⟨gb126, 1, none⟩) (Kd.S_far (p := ⟨gb126, 0, none⟩) (Kd.S_types HO_3.out BK126.out (by decide)) (fun _ hk => hk.2) (.int .i64 ((rd_T35 l0_1 x11_1).f0))) (fun _ hk => hk.2) (.slice A125_1 ((rd_T35 l0_1 x11_1).f1).length c125_1)) (fun _ hk => trivial)⟩
              have n1_ : Aside0 (((w33.setCell ⟨gb126, 0, none⟩ (.int .i64 ((rd_T35 l0_1 x11_1).f0))).setCell ⟨gb126, 1, none⟩ (.slice A125_1 ((rd_T35 l0_1 x11_1).f1).length c125_1)).heap[gb121]? = some (.cells #[.slice A0_0 l0_0.length c0_0, .slice (some ad125) l0_1.length c0_1] 27 (0, 0))) := ⟨by (with_reducible repeat refine pB ?_); refine blk_far ?_ NB121_126.out _; (with_reducible repeat refine pB ?_); refine blk_far ?_ NB121_126.out _; (with_reducible repeat refine pB ?_); exact BK121.out⟩
              have n2_ : Aside0 (((w33.setCell ⟨gb126, 0, none⟩ (.int .i64 ((rd_T35 l0_1 x11_1).f0))).setCell ⟨gb126, 1, none⟩ (.slice A125_1 ((rd_T35 l0_1 x11_1).f1).length c125_1)).heap[gb126]? = some (.cells #[.int .i64 ((rd_T35 l0_1 x11_1).f0), .slice A125_1 ((rd_T35 l0_1 x11_1).f1).length c125_1] 35 (0, 0))) := ⟨by (with_reducible repeat refine pB ?_); refine blk_put (cs := #[.int .i64 ((rd_T35 l0_1 x11_1).f0), .slice none 0 0]) ?_ 1 _ rfl; (with_reducible repeat refine pB ?_); refine blk_put (cs := #[.int .i64 0, .slice none 0 0]) ?_ 0 _ rfl; (with_reducible repeat refine pB ?_); exact BK126.out⟩
              have n3_ : Aside0 (Below w.heap.size w ((w33.setCell ⟨gb126, 0, none⟩ (.int .i64 ((rd_T35 l0_1 x11_1).f0))).setCell ⟨gb126, 1, none⟩ (.slice A125_1 ((rd_T35 l0_1 x11_1).f1).length c125_1))) := ⟨aG⟩
              (try clear HO_3)
              (try clear BK121)
              (try clear BK126)
              (try clear HB)
              generalize ((w33.setCell ⟨gb126, 0, none⟩ (.int .i64 ((rd_T35 l0_1 x11_1).f0))).setCell ⟨gb126, 1, none⟩ (.slice A125_1 ((rd_T35 l0_1 x11_1).f1).length c125_1)) = w37 at n0_ n1_ n2_ n3_ ⊢
              have HO_3 := n0_
              have BK121 := n1_
              have BK126 := n2_
              have HB := n3_
              clear n0_ n1_ n2_ n3_
              replace HO_3 := aM (Kd.S_drew HO_3.out)
              replace BK121 := aM (blk_drew BK121.out)
              replace BK126 := aM (blk_drew BK126.out)
              replace HB := aM (below_drew1 HB.out)
              have p127 : 0 ≤ ((ji10) : Int) := aD
              have q127 : (ji10) < (x3_1.length : Int) := aD
              obtain ⟨ad127, A127_0, c127_0, e127, hx127_0, hl127_0, hi127_0⟩ := at_L4 (Kd.S_reads' HO_3.out).2.2 (ji10) p127 q127
              cases e127
              obtain ⟨ce127, hce127, hMe127, hcc127⟩ := Kd.S_get HO_3.out [] (ji10) p127 (by first | exact q127 | exact aD | (have e_ := (Kd.S_reads' HO_3.out).1; omega))
              obtain ⟨ve127_0, rfl, ge127_0⟩ := hMe127
              have hv127_0 := hcc127 0 _ rfl
              rw [Nat.add_zero, show ((Kd.slice 3 (Kd.int .i64))).sz = 1 from rfl, Nat.mul_one] at hv127_0
              replace hv127_0 := Option.some.inj (hv127_0.symm.trans hx127_0)
              rw [hv127_0] at ge127_0
              have HL127_0 := aM (show Kd.R (Kd.int .i64) 3 _ _ _ _ (rd_L4 x3_1 (ji10)) from ge127_0)
              clear hv127_0 ge127_0
              have HX127_0 := aM hx127_0
              clear hcc127 hce127
              have HR127_0 := aM hi127_0
              have HC127_0 := aM hl127_0
              clear hi127_0 hl127_0
              replace p127 := eq_true p127
              replace q127 := eq_true q127
              have p128 : 0 ≤ (0 : Int) := (by omega)
              have q128 : 0 < ((rd_L4 x3_1 (ji10)).length : Int) := aD
              obtain ⟨ad128, e128, hx128_0⟩ := Kd.at_int (by repeat (first | (with_reducible exact HR127_0.out) | (with_reducible refine pC ?_) | exact HR127_0.out)) 0 p128 q128
              cases e128
              have qi128 : (0 < (rd_L4 x3_1 (ji10)).length) = True := eq_true (by omega)
              (try rw [show ((0 : Int)).toNat = 0 from rfl] at hx128_0)
              (try rw [Addr.add_zero'] at hx128_0)
              replace p128 := eq_true p128
              replace q128 := eq_true q128
              have p129 : 0 ≤ ((rd (rd_L4 x3_1 (ji10)) 0) : Int) := aD
              have q129 : (rd (rd_L4 x3_1 (ji10)) 0) < (l0_1.length : Int) := aD
              obtain ⟨ad129, A129_1, c129_1, e129, hx129_0, hx129_1, hl129_1, hi129_1⟩ := at_T35 HR0_1.out (rd (rd_L4 x3_1 (ji10)) 0) p129 q129
              have hw129_1 := hx129_1
              have hw129_0 := hx129_0
              obtain rfl : ad125 = ad129 := (by injection e129)
              replace hx129_0 := (HB.out.cell (World.block_lt_of_cell? w _ hx129_0)).trans hx129_0
              replace hx129_1 := (HB.out.cell (World.block_lt_of_cell? w _ hx129_1)).trans hx129_1
              have HR129_1 := aM hi129_1
              have HC129_1 := aM hl129_1
              clear hi129_1 hl129_1
              replace p129 := eq_true p129
              replace q129 := eq_true q129
              refine start_ (n := 18) (S := fun w' => w'.cell? ⟨gb121, 0, none⟩ = some (.slice A0_0 l0_0.length c0_0) ∧ w'.cell? ⟨gb121, 1, none⟩ = some (.slice (some ad125) l0_1.length c0_1) ∧ w'.cell? ⟨gb126, 0, none⟩ = some (.int .i64 ((rd_T35 l0_1 x11_1).f0)) ∧ w'.cell? ⟨gb126, 1, none⟩ = some (.slice A125_1 ((rd_T35 l0_1 x11_1).f1).length c125_1) ∧ w'.cell? (ad127.add ((ji10)).toNat) = some (.slice (some ad128) (rd_L4 x3_1 (ji10)).length c127_0) ∧ w'.cell? ad128 = some (.int .i64 (rd (rd_L4 x3_1 (ji10)) 0)) ∧ w'.cell? (ad125.add (((rd (rd_L4 x3_1 (ji10)) 0)).toNat * 2)) = some (.int .i64 ((rd_T35 l0_1 (rd (rd_L4 x3_1 (ji10)) 0)).f0)) ∧ w'.cell? ⟨(ad125.add (((rd (rd_L4 x3_1 (ji10)) 0)).toNat * 2)).block, (ad125.add (((rd (rd_L4 x3_1 (ji10)) 0)).toNat * 2)).off + 1, none⟩ = some (.slice A129_1 ((rd_T35 l0_1 (rd (rd_L4 x3_1 (ji10)) 0)).f1).length c129_1)) (ds := []) #[false, false, false, false, false, false, false, false, false, false, false, false, false, false, false, false, false, false] (by kernel_rfl) rfl rfl ⟨(blk_cell BK121.out 0).trans rfl, (blk_cell BK121.out 1).trans rfl, (blk_cell BK126.out 0).trans rfl, (blk_cell BK126.out 1).trans rfl, hx127_0, hx128_0, (pw_cell_below HB.out hw129_0), (pw_cell_below HB.out hw129_1)⟩ (fun hHeld => ?_); refine with_tabW impl_blocks.tab6 impl_blocks.bits6 (fun HT_ HW_ => ?_)
              generalize w37.drew = w38 at HO_3 BK121 BK126 HB HL127_0 HR127_0 HR129_1 HX127_0 hx127_0 hx128_0 hx129_0 hx129_1 hHeld ⊢
              refine pU 0 19 ?_
              refine pU 1 20 ?_
              refine pU 2 21 ?_
              refine pU 3 22 ?_
              refine pU 5 24 ?_
              refine pU 7 26 ?_
              refine pU 8 27 ?_
              refine pU 9 28 ?_
              refine tU8 4 23 hHeld ?_
              refine tU8 6 25 hHeld ?_
              refine tU8 10 29 hHeld ?_
              refine pU 11 30 ?_
              refine tU8 12 31 hHeld ?_
              refine pU 13 32 ?_
              refine tU8 14 33 hHeld ?_
              refine tU8 15 34 hHeld ?_
              refine oU 16 35 (fun K hK => ?_)
              refine goes_ Try.func78 (by kernel_rfl) rfl #[.slice A0_0 l0_0.length c0_0, .agg #[.int .i64 ((rd_T35 l0_1 (rd (rd_L4 x3_1 (ji10)) 0)).f0), .slice A129_1 ((rd_T35 l0_1 (rd (rd_L4 x3_1 (ji10)) 0)).f1).length c129_1], .agg #[.int .i64 ((rd_T35 l0_1 x11_1).f0), .slice A125_1 ((rd_T35 l0_1 x11_1).f1).length c125_1]] (by rfl) rfl rfl (by (try simp only [List.map_toArray, List.map_cons, List.map_nil]); first | done | (simp only [hji10]; rfl) | rfl | (simp only [List.length_drop, List.length_take]; rfl)) ?_
              with_reducible refine (impl_sameKey.calls _ _ l0_0 ((rd_T35 l0_1 (rd (rd_L4 x3_1 (ji10)) 0)).f0) _ _ ((rd_T35 l0_1 (rd (rd_L4 x3_1 (ji10)) 0)).f1) ((rd_T35 l0_1 x11_1).f0) _ _ ((rd_T35 l0_1 x11_1).f1) false _ ?side1 ?side2 ?side3 ?side4 ?side5 ?side6 A16.out).mono ?_
              (case side1 => exact aC)
              (case side2 => exact HC0_0.out)
              (case side3 => exact aC)
              (case side4 => exact HC129_1.out)
              (case side5 => exact aC)
              (case side6 => exact HC125_1.out)
              rintro e w39 ⟨rfl, hb⟩
              have HS4_ := (hb.cell (World.block_lt_of_cell? _ _ (hHeld.2.2.2.2.1))).trans (hHeld.2.2.2.2.1)
              have HS5_ := (hb.cell (World.block_lt_of_cell? _ _ (hHeld.2.2.2.2.2.1))).trans (hHeld.2.2.2.2.2.1)
              refine ⟨_, rfl, ?_⟩
              have n0_ := aM (Kd.S_below (aS HO_3) hb)
              have n1_ := aM (Kd.R_below (aR HL127_0) hb)
              have n2_ := aM (kB gb121 #[.slice A0_0 l0_0.length c0_0, .slice (some ad125) l0_1.length c0_1] 27 hb)
              have n3_ := aM (kB gb126 #[.int .i64 ((rd_T35 l0_1 x11_1).f0), .slice A125_1 ((rd_T35 l0_1 x11_1).f1).length c125_1] 35 hb)
              have n4_ := aM (Kd.C_below (by repeat (first | (with_reducible exact HR127_0.out) | (with_reducible refine pC ?_) | exact HR127_0.out)) hb)
              have n5_ := aM (pw_cell_below hb HX127_0.out)
              have n6_ := aM (below_step aG hb)
              clear HO_3
              clear HL127_0
              clear BK121
              clear BK126
              clear HR127_0
              clear HX127_0
              clear HB
              have HO_3 := n0_
              have HL127_0 := n1_
              have BK121 := n2_
              have BK126 := n3_
              have HR127_0 := n4_
              have HX127_0 := n5_
              have HB := n6_
              clear n0_ n1_ n2_ n3_ n4_ n5_ n6_
              (try clear hb)
              (try clear hb2)
              (try clear hk)
              (try clear hi)
              refine hK.out _ _ ⟨(blk_cell BK121.out 0).trans rfl, (blk_cell BK121.out 1).trans rfl, (blk_cell BK126.out 0).trans rfl, (blk_cell BK126.out 1).trans rfl, HS4_, HS5_, (pw_cell_below HB.out hw129_0), (pw_cell_below HB.out hw129_1)⟩ (fun hHeld => ?_)
              clear hK K
              refine nU 35 ?_
              refine pU 17 36 ?_
              refine done_ (done_of HT_.out (by kernel_rfl)) ?_
              try go_wp2_with (first | ((with_reducible refine gate_dst (N := 49) rfl ?_); refine Kd.R_lit (Kd.int .i64) _ 3 ?hg (N := 49) ?hd (xs := ([x11_1] : List Int)) (inner := [.int .i64 x11_1]) (ok := fun _ => True) (okp := fun _ => True) ?hr ?hp (fun _ hk => hk) trivial (Below.refl _ _) (Nat.le_refl _) (by simp) ?_; (case hd => rfl); (case hg => rfl); (case hr => first | (go_simp; done) | (go_simp; rfl)); (case hp => exact (Reps.one (show Kd.M (Kd.int .i64) _ _ _ x11_1 [.int .i64 x11_1] from rfl) (Reps.none _ _))); intro v137 w40 ho41 hb hg_ hnew_; clear hg_ hnew_; (first | rw [← Ny136.out] at ho41 | (simp only [Int.reduceToNat] at ho41; rw [← Ny136.out] at ho41)); have n0_ := aM (Kd.S_elder' (aS HO_3) (Kd.R_base ho41) hb); have n1_ := aM (Kd.R_elder' (aR HL127_0) (Kd.R_base ho41) hb); have n2_ := aM (Kd.R_lower (Kd.R_new' ho41 (Kd.R_lt (aR HL127_0))) (below_size aG)); have n3_ := aM (kB gb121 #[.slice A0_0 l0_0.length c0_0, .slice (some ad125) l0_1.length c0_1] 27 hb); have n4_ := aM (kB gb126 #[.int .i64 ((rd_T35 l0_1 x11_1).f0), .slice A125_1 ((rd_T35 l0_1 x11_1).f1).length c125_1] 35 hb); have n5_ := aM (Kd.C_below (by repeat (first | (with_reducible exact HR127_0.out) | (with_reducible refine pC ?_) | exact HR127_0.out)) hb); have n6_ := aM (pw_cell_below hb HX127_0.out); have n7_ := aM (below_step aG hb); clear HO_3; clear HL127_0; clear BK121; clear BK126; clear HR127_0; clear HX127_0; clear HB; have HO_3 := n0_; have HL127_0 := n1_; have HO138 := n2_; have BK121 := n3_; have BK126 := n4_; have HR127_0 := n5_; have HX127_0 := n6_; have HB := n7_; clear n0_ n1_ n2_ n3_ n4_ n5_ n6_ n7_; clear hb ho41; obtain ⟨Ao43, co43, eo43⟩ := Kd.R_slice HO138.out; subst eo43) | ((with_reducible refine gate_builtin (b := .append) (xs := #[.tmp 47, .tmp 50]) rfl ?_); at_builtin; refine Kd.S_append (Kd.slice 3 (Kd.int .i64)) (w0 := w) w.heap.size rfl (.tmp 47) (.tmp 50) 29 32 (.slice none 0 0) 24 rfl Try.underlying29 info32 rfl (by decide) (by omega) (.slice (some ad127) x3_1.length co36) x3_1 y136 [.slice Ao43 y136.length co43] (fun _ => True) (fun k_ => some k_ = (.slice Ao43 y136.length co43 : Value).ownBlock) rfl rfl ?aP (fun k_ hk_ => ((Kd.R_mono (ok' := fun k_ => ((fun _ => True)) k_ ∧ some k_ ≠ (.slice (some ad127) x3_1.length co36 : Value).ownBlock) (Kd.R_apart' (HO138.out) (Kd.S_typed HO_3.out) (by decide)) (fun k_ hk => ⟨trivial, hk.2⟩))).1 k_ hk_.symm) ?aF ?aO ?aB ?aS ?aL ?_; (case aP => exact Kd.M_row (Kd.R_mono (Kd.R_tight rfl (Kd.R_mono (ok' := fun k_ => ((fun _ => True)) k_ ∧ some k_ ≠ (.slice (some ad127) x3_1.length co36 : Value).ownBlock) (Kd.R_apart' (HO138.out) (Kd.S_typed HO_3.out) (by decide)) (fun k_ hk => ⟨trivial, hk.2⟩))) (fun _ h_ => h_))); (case aB => exact aG); (case aF => exact (fun _ _ => trivial)); (case aO => exact (by (with_reducible repeat apply pS); exact Kd.S_mono HO_3.out (fun k_ hk => ⟨trivial, fun e_ => hk.2 e_⟩))); (case aS => exact (below_size aG)); (case aL => have := LMc32.out; omega); intro v140 w42 ho hb hg hat; rw [← Ny139.out] at ho; have n0_ := aM (blk_grown (g := gb121) (o := .cells #[.slice A0_0 l0_0.length c0_0, .slice (some ad125) l0_1.length c0_1] 27 (0, 0)) aK hg (Kd.S_ne HO_3.out BK121.out (by decide))); have n1_ := aM (blk_grown (g := gb126) (o := .cells #[.int .i64 ((rd_T35 l0_1 x11_1).f0), .slice A125_1 ((rd_T35 l0_1 x11_1).f1).length c125_1] 35 (0, 0)) aK hg (Kd.S_ne HO_3.out BK126.out (by decide))); have n2_ := aM (Kd.R_after (ok := (fun k_ => some k_ ≠ (.slice Ao43 y136.length co43 : Value).ownBlock)) (by (with_reducible repeat apply pR); exact Kd.R_mono HL127_0.out (fun _ hk => ⟨hk.2, hk.1.2⟩)) hg hat); have n3_ := aM (hb); have n4_ := aM (ho); clear BK121; clear BK126; clear HL127_0; clear HB; clear HO_3; clear HO138; have BK121 := n0_; have BK126 := n1_; have HL127_0 := n2_; have HB := n3_; have HO141 := n4_; clear n0_ n1_ n2_ n3_ n4_; clear ho hb hg hat))
              go_roundg k1
              case measure => have := HK1.out; omega
              case rel => exact ⟨(y139), (wrap64 (x11_1 + 1)), aX, H', ⟨by have := HK1.out; omega⟩, ⟨aS HO141⟩, ⟨aK⟩, ⟨aG⟩⟩
             ·rw [if_neg c32] at H
              exact absurd H (by simp)
           ·rw [if_neg c15] at H
            exact absurd H (by simp)
          ·rw [if_neg c14] at H
           exact absurd H (by simp)
         ·rw [if_neg c13] at H
          exact absurd H (by simp)
        ·rw [if_neg c12] at H
         exact absurd H (by simp)
       ·rw [if_neg c11] at H
        exact absurd H (by simp)
      ·rw [if_neg c9] at H
       have c9b0 : decide (0 ≤ (wrap64 ((x3_1.length : Int) - 1))) = false := decide_eq_false c9
       clear c9
       obtain ⟨y142, hy142⟩ : ∃ y_ : List Int, y_ = (([x11_1] : List Int)) := ⟨_, rfl⟩
       first | replace H := bY hy142 H | rw [← hy142] at H
       have Ny142 := aM hy142
       clear hy142
       by_cases c44 : x3_1.length < 5864062014805
       ·rw [if_pos c44] at H
        have LMc44 := aM c44
        clear c44
        obtain ⟨y145, hy145⟩ : ∃ y_ : List (List Int), y_ = (x3_1 ++ [y142]) := ⟨_, rfl⟩
        first | replace H := bY hy145 H | rw [← hy145] at H
        have Ny145 := aM hy145
        clear hy145
        have H' := aM H
        clear H
        have p125 : 0 ≤ (x11_1 : Int) := aD
        have q125 : x11_1 < (l0_1.length : Int) := aD
        obtain ⟨ad125, A125_1, c125_1, e125, hx125_0, hx125_1, hl125_1, hi125_1⟩ := at_T35 HR0_1.out x11_1 p125 q125
        cases e125
        replace hx125_0 := (HB.out.cell (World.block_lt_of_cell? w _ hx125_0)).trans hx125_0
        replace hx125_1 := (HB.out.cell (World.block_lt_of_cell? w _ hx125_1)).trans hx125_1
        have HR125_1 := aM hi125_1
        have HC125_1 := aM hl125_1
        clear hi125_1 hl125_1
        replace p125 := eq_true p125
        replace q125 := eq_true q125
        try go_wp2_with (first | ((with_reducible refine gate_dst (N := 5) rfl ?_); refine bE 5 (cs := #[.int .i64 0, .slice none 0 0]) (t := 35) ?_; intro gb126 hg w45 hbox hb; have BK126 := aM (hbox); have GW126 := aM ((by rw [hg]; exact (below_size aG) : w.heap.size ≤ gb126)); have GE126 := aM ((by rw [hg]; exact (below_size aG) : w.heap.size ≤ gb126)); have NB121_126 := aM ((by rw [hg]; exact Nat.ne_of_lt (blk_lt (g := gb121) (o := .cells #[.slice A0_0 l0_0.length c0_0, .slice (some ad125) l0_1.length c0_1] 27 (0, 0)) aK) : gb121 ≠ gb126)); have NB126_121 := aM ((by rw [hg]; exact Nat.ne_of_gt (blk_lt (g := gb121) (o := .cells #[.slice A0_0 l0_0.length c0_0, .slice (some ad125) l0_1.length c0_1] 27 (0, 0)) aK) : gb126 ≠ gb121)); replace HO_3 := aM (Kd.S_below (aS HO_3) hb); replace BK121 := aM (kB gb121 #[.slice A0_0 l0_0.length c0_0, .slice (some ad125) l0_1.length c0_1] 27 hb); replace HB := aM (below_step aG hb); clear hb hbox hg; have hnb46 := NB126_121.out; have hnc46 := NB121_126.out; have hcz47_0 : w45.cell? ⟨gb126, 0, none⟩ = some (.int .i64 0) := (blk_cell BK126.out 0).trans rfl; have hcz47_1 : w45.cell? ⟨gb126, 1, none⟩ = some (.slice none 0 0) := (blk_cell BK126.out 1).trans rfl; have hfz47_0 := blk_frozen BK126.out 0; have hfz47_1 := blk_frozen BK126.out 1; obtain ⟨Ao48, co48, eo48⟩ := Kd.S_slice HO_3.out; subst eo48))
        have n0_ : Aside0 (Kd.S (Kd.slice 3 (Kd.int .i64)) 32 ((w45.setCell ⟨gb126, 0, none⟩ (.int .i64 ((rd_T35 l0_1 x11_1).f0))).setCell ⟨gb126, 1, none⟩ (.slice A125_1 ((rd_T35 l0_1 x11_1).f1).length c125_1)) w.heap.size (fun _ => True) (.slice Ao48 x3_1.length co48) x3_1) := ⟨by (with_reducible repeat apply pS); exact Kd.S_mono (Kd.S_far (p := ⟨gb126, 1, none⟩) (Kd.S_far (p := ⟨gb126, 0, none⟩) (Kd.S_types HO_3.out BK126.out (by decide)) (fun _ hk => hk.2) (.int .i64 ((rd_T35 l0_1 x11_1).f0))) (fun _ hk => hk.2) (.slice A125_1 ((rd_T35 l0_1 x11_1).f1).length c125_1)) (fun _ hk => trivial)⟩
        have n1_ : Aside0 (((w45.setCell ⟨gb126, 0, none⟩ (.int .i64 ((rd_T35 l0_1 x11_1).f0))).setCell ⟨gb126, 1, none⟩ (.slice A125_1 ((rd_T35 l0_1 x11_1).f1).length c125_1)).heap[gb121]? = some (.cells #[.slice A0_0 l0_0.length c0_0, .slice (some ad125) l0_1.length c0_1] 27 (0, 0))) := ⟨by (with_reducible repeat refine pB ?_); refine blk_far ?_ NB121_126.out _; (with_reducible repeat refine pB ?_); refine blk_far ?_ NB121_126.out _; (with_reducible repeat refine pB ?_); exact BK121.out⟩
        have n2_ : Aside0 (((w45.setCell ⟨gb126, 0, none⟩ (.int .i64 ((rd_T35 l0_1 x11_1).f0))).setCell ⟨gb126, 1, none⟩ (.slice A125_1 ((rd_T35 l0_1 x11_1).f1).length c125_1)).heap[gb126]? = some (.cells #[.int .i64 ((rd_T35 l0_1 x11_1).f0), .slice A125_1 ((rd_T35 l0_1 x11_1).f1).length c125_1] 35 (0, 0))) := ⟨by (with_reducible repeat refine pB ?_); refine blk_put (cs := #[.int .i64 ((rd_T35 l0_1 x11_1).f0), .slice none 0 0]) ?_ 1 _ rfl; (with_reducible repeat refine pB ?_); refine blk_put (cs := #[.int .i64 0, .slice none 0 0]) ?_ 0 _ rfl; (with_reducible repeat refine pB ?_); exact BK126.out⟩
        have n3_ : Aside0 (Below w.heap.size w ((w45.setCell ⟨gb126, 0, none⟩ (.int .i64 ((rd_T35 l0_1 x11_1).f0))).setCell ⟨gb126, 1, none⟩ (.slice A125_1 ((rd_T35 l0_1 x11_1).f1).length c125_1))) := ⟨aG⟩
        (try clear HO_3)
        (try clear BK121)
        (try clear BK126)
        (try clear HB)
        generalize ((w45.setCell ⟨gb126, 0, none⟩ (.int .i64 ((rd_T35 l0_1 x11_1).f0))).setCell ⟨gb126, 1, none⟩ (.slice A125_1 ((rd_T35 l0_1 x11_1).f1).length c125_1)) = w49 at n0_ n1_ n2_ n3_ ⊢
        have HO_3 := n0_
        have BK121 := n1_
        have BK126 := n2_
        have HB := n3_
        clear n0_ n1_ n2_ n3_
        replace HO_3 := aM (Kd.S_drew HO_3.out)
        replace BK121 := aM (blk_drew BK121.out)
        replace BK126 := aM (blk_drew BK126.out)
        replace HB := aM (below_drew1 HB.out)
        refine start_ (n := 18) (S := fun w' => True) (ds := []) #[false, false, false, false, false, false, false, false, false, false, false, false, false, false, false, false, false, false] (by kernel_rfl) rfl rfl trivial (fun hHeld => ?_); refine with_tabW impl_blocks.tab6 impl_blocks.bits6 (fun HT_ HW_ => ?_)
        generalize w49.drew = w50 at HO_3 BK121 BK126 HB hHeld ⊢
        refine pU 0 19 ?_
        refine pU 1 20 ?_
        refine pU 2 21 ?_
        refine pure_ (i := 3) (N := some 22) (v := undef) (a' := ?_) #[true, true, true, true, false, false, false, false, false, false, false, false, false, false, false, false, false, false] rfl rfl (any_of HT_.out (by kernel_rfl)) (fun _ _ _ h => h) (Or.inr ⟨by rfl, rfl⟩) ?_ ?_
        rotate_left
        ·exact aP
        refine pure_ (i := 4) (N := some 23) (v := undef) (a' := ?_) #[true, true, true, true, true, false, false, false, false, false, false, false, false, false, false, false, false, false] rfl rfl (any_of HT_.out (by kernel_rfl)) (fun _ _ _ h => h) (Or.inr ⟨by rfl, rfl⟩) ?_ ?_
        rotate_left
        ·exact aP
        refine pure_ (i := 5) (N := some 24) (v := undef) (a' := ?_) #[true, true, true, true, true, true, false, false, false, false, false, false, false, false, false, false, false, false] rfl rfl (any_of HT_.out (by kernel_rfl)) (fun _ _ _ h => h) (Or.inr ⟨by rfl, rfl⟩) ?_ ?_
        rotate_left
        ·exact aP
        refine pure_ (i := 6) (N := some 25) (v := undef) (a' := ?_) #[true, true, true, true, true, true, true, false, false, false, false, false, false, false, false, false, false, false] rfl rfl (any_of HT_.out (by kernel_rfl)) (fun _ _ _ h => h) (Or.inr ⟨by rfl, rfl⟩) ?_ ?_
        rotate_left
        ·exact aP
        refine pure_ (i := 7) (N := some 26) (v := undef) (a' := ?_) #[true, true, true, true, true, true, true, true, false, false, false, false, false, false, false, false, false, false] rfl rfl (any_of HT_.out (by kernel_rfl)) (fun _ _ _ h => h) (Or.inr ⟨by rfl, rfl⟩) ?_ ?_
        rotate_left
        ·exact aP
        refine pure_ (i := 8) (N := some 27) (v := undef) (a' := ?_) #[true, true, true, true, true, true, true, true, true, false, false, false, false, false, false, false, false, false] rfl rfl (any_of HT_.out (by kernel_rfl)) (fun _ _ _ h => h) (Or.inr ⟨by rfl, rfl⟩) ?_ ?_
        rotate_left
        ·exact aP
        refine pure_ (i := 9) (N := some 28) (v := undef) (a' := ?_) #[true, true, true, true, true, true, true, true, true, true, false, false, false, false, false, false, false, false] rfl rfl (any_of HT_.out (by kernel_rfl)) (fun _ _ _ h => h) (Or.inr ⟨by rfl, rfl⟩) ?_ ?_
        rotate_left
        ·exact aP
        refine pure_ (i := 10) (N := some 29) (v := undef) (a' := ?_) #[true, true, true, true, true, true, true, true, true, true, true, false, false, false, false, false, false, false] rfl rfl (any_of HT_.out (by kernel_rfl)) (fun _ _ _ h => h) (Or.inr ⟨by rfl, rfl⟩) ?_ ?_
        rotate_left
        ·exact aP
        refine pure_ (i := 11) (N := some 30) (v := undef) (a' := ?_) #[true, true, true, true, true, true, true, true, true, true, true, true, false, false, false, false, false, false] rfl rfl (any_of HT_.out (by kernel_rfl)) (fun _ _ _ h => h) (Or.inr ⟨by rfl, rfl⟩) ?_ ?_
        rotate_left
        ·exact aP
        refine pure_ (i := 12) (N := some 31) (v := undef) (a' := ?_) #[true, true, true, true, true, true, true, true, true, true, true, true, true, false, false, false, false, false] rfl rfl (any_of HT_.out (by kernel_rfl)) (fun _ _ _ h => h) (Or.inr ⟨by rfl, rfl⟩) ?_ ?_
        rotate_left
        ·exact aP
        refine pure_ (i := 13) (N := some 32) (v := undef) (a' := ?_) #[true, true, true, true, true, true, true, true, true, true, true, true, true, true, false, false, false, false] rfl rfl (any_of HT_.out (by kernel_rfl)) (fun _ _ _ h => h) (Or.inr ⟨by rfl, rfl⟩) ?_ ?_
        rotate_left
        ·exact aP
        refine pure_ (i := 14) (N := some 33) (v := undef) (a' := ?_) #[true, true, true, true, true, true, true, true, true, true, true, true, true, true, true, false, false, false] rfl rfl (any_of HT_.out (by kernel_rfl)) (fun _ _ _ h => h) (Or.inr ⟨by rfl, rfl⟩) ?_ ?_
        rotate_left
        ·exact aP
        refine pure_ (i := 15) (N := some 34) (v := undef) (a' := ?_) #[true, true, true, true, true, true, true, true, true, true, true, true, true, true, true, true, false, false] rfl rfl (any_of HT_.out (by kernel_rfl)) (fun _ _ _ h => h) (Or.inr ⟨by rfl, rfl⟩) ?_ ?_
        rotate_left
        ·exact aP
        refine pure_ (i := 16) (N := some 35) (v := undef) (a' := ?_) #[true, true, true, true, true, true, true, true, true, true, true, true, true, true, true, true, true, false] rfl rfl (any_of HT_.out (by kernel_rfl)) (fun _ _ _ h => h) (Or.inr ⟨by rfl, rfl⟩) ?_ ?_
        rotate_left
        ·exact aP
        refine pU 17 36 ?_
        refine done_ (done_of HT_.out (by kernel_rfl)) ?_
        try go_wp2_with (first | ((with_reducible refine gate_dst (N := 49) rfl ?_); refine Kd.R_lit (Kd.int .i64) _ 3 ?hg (N := 49) ?hd (xs := ([x11_1] : List Int)) (inner := [.int .i64 x11_1]) (ok := fun _ => True) (okp := fun _ => True) ?hr ?hp (fun _ hk => hk) trivial (Below.refl _ _) (Nat.le_refl _) (by simp) ?_; (case hd => rfl); (case hg => rfl); (case hr => first | (go_simp; done) | (go_simp; rfl)); (case hp => exact (Reps.one (show Kd.M (Kd.int .i64) _ _ _ x11_1 [.int .i64 x11_1] from rfl) (Reps.none _ _))); intro v143 w51 ho52 hb hg_ hnew_; clear hg_ hnew_; (first | rw [← Ny142.out] at ho52 | (simp only [Int.reduceToNat] at ho52; rw [← Ny142.out] at ho52)); have n0_ := aM (Kd.S_elder' (aS HO_3) (Kd.R_base ho52) hb); have n1_ := aM (Kd.R_lower ho52 (below_size aG)); have n2_ := aM (kB gb121 #[.slice A0_0 l0_0.length c0_0, .slice (some ad125) l0_1.length c0_1] 27 hb); have n3_ := aM (kB gb126 #[.int .i64 ((rd_T35 l0_1 x11_1).f0), .slice A125_1 ((rd_T35 l0_1 x11_1).f1).length c125_1] 35 hb); have n4_ := aM (below_step aG hb); clear HO_3; clear BK121; clear BK126; clear HB; have HO_3 := n0_; have HO144 := n1_; have BK121 := n2_; have BK126 := n3_; have HB := n4_; clear n0_ n1_ n2_ n3_ n4_; clear hb ho52; obtain ⟨Ao54, co54, eo54⟩ := Kd.R_slice HO144.out; subst eo54) | ((with_reducible refine gate_builtin (b := .append) (xs := #[.tmp 47, .tmp 50]) rfl ?_); at_builtin; refine Kd.S_append (Kd.slice 3 (Kd.int .i64)) (w0 := w) w.heap.size rfl (.tmp 47) (.tmp 50) 29 32 (.slice none 0 0) 24 rfl Try.underlying29 info32 rfl (by decide) (by omega) (.slice Ao48 x3_1.length co48) x3_1 y142 [.slice Ao54 y142.length co54] (fun _ => True) (fun k_ => some k_ = (.slice Ao54 y142.length co54 : Value).ownBlock) rfl rfl ?aP (fun k_ hk_ => ((Kd.R_mono (ok' := fun k_ => ((fun _ => True)) k_ ∧ some k_ ≠ (.slice Ao48 x3_1.length co48 : Value).ownBlock) (Kd.R_apart' (HO144.out) (Kd.S_typed HO_3.out) (by decide)) (fun k_ hk => ⟨trivial, hk.2⟩))).1 k_ hk_.symm) ?aF ?aO ?aB ?aS ?aL ?_; (case aP => exact Kd.M_row (Kd.R_mono (Kd.R_tight rfl (Kd.R_mono (ok' := fun k_ => ((fun _ => True)) k_ ∧ some k_ ≠ (.slice Ao48 x3_1.length co48 : Value).ownBlock) (Kd.R_apart' (HO144.out) (Kd.S_typed HO_3.out) (by decide)) (fun k_ hk => ⟨trivial, hk.2⟩))) (fun _ h_ => h_))); (case aB => exact aG); (case aF => exact (fun _ _ => trivial)); (case aO => exact (by (with_reducible repeat apply pS); exact Kd.S_mono HO_3.out (fun k_ hk => ⟨trivial, fun e_ => hk.2 e_⟩))); (case aS => exact (below_size aG)); (case aL => have := LMc44.out; omega); intro v146 w53 ho hb hg hat; rw [← Ny145.out] at ho; have n0_ := aM (blk_grown (g := gb121) (o := .cells #[.slice A0_0 l0_0.length c0_0, .slice (some ad125) l0_1.length c0_1] 27 (0, 0)) aK hg (Kd.S_ne HO_3.out BK121.out (by decide))); have n1_ := aM (blk_grown (g := gb126) (o := .cells #[.int .i64 ((rd_T35 l0_1 x11_1).f0), .slice A125_1 ((rd_T35 l0_1 x11_1).f1).length c125_1] 35 (0, 0)) aK hg (Kd.S_ne HO_3.out BK126.out (by decide))); have n2_ := aM (hb); have n3_ := aM (ho); clear BK121; clear BK126; clear HB; clear HO_3; clear HO144; have BK121 := n0_; have BK126 := n1_; have HB := n2_; have HO147 := n3_; clear n0_ n1_ n2_ n3_; clear ho hb hg hat))
        go_roundg k1
        case measure => have := HK1.out; omega
        case rel => exact ⟨(y145), (wrap64 (x11_1 + 1)), aX, H', ⟨by have := HK1.out; omega⟩, ⟨aS HO147⟩, ⟨aK⟩, ⟨aG⟩⟩
       ·rw [if_neg c44] at H
        exact absurd H (by simp)
     ·rw [if_neg c8] at H
      exact absurd H (by simp)
    ·rw [if_neg c7] at H
     exact absurd H (by simp)
   ·rw [if_neg c6] at H
    have c6b0 : decide (x11_1 < (l0_1.length : Int)) = false := decide_eq_false c6
    clear c6
    obtain rfl := Option.some.inj H
    go_wp2
    go_ret
    exact ⟨_, aE, aS HO_3, aG⟩

end Go.Proofs.Ytbdeimhlohhhiaa.PFnRepairEnumeration
