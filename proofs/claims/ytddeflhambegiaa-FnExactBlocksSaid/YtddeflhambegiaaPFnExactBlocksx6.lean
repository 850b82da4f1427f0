-- Laid by a program of this claim: what the functions come to, some of them proved by hand.
import Derived.Test.YtddeflhambegiaaPFnExactBlocksx0
import Derived.Test.YtddeflhambegiaaPFnExactBlocksx5
namespace Go.Proofs.Ytddeflhambegiaa.PFnExactBlocks
open Go.RowKit Go.Proofs.YtddeflhambegiaaW.PrintWords Go.Proofs.YtddeflhambegiaaW.PrintLast Go.Proofs.YtddeflhambegiaaW.PrintMore
attribute [local go_sem] max2_int min2_int max_two min_two max_three min_three max_four min_four   -- for this text's walks alone
set_option linter.unusedVariables false
set_option linter.unusedSimpArgs false

/-! ### impl_blocks: function 92 -/
def impl_blocks.l0 : Nat → List (List Int) → List (S27) → Int → Int → List (S81) → List (S27) → Option ((List (List Int)))
 | 0, _, _, _, _, _, _ => none
 | k + 1, x3, x9, x10, x11, x258000, x258001 => if x11 < x10 then (if 0 ≤ x11 then (if x11 < (x9.length : Int) then (if (wrap64 ((x3.length : Int) - 1)) ≥ 0 then (if 0 ≤ (wrap64 ((x3.length : Int) - 1)) then (if (wrap64 ((x3.length : Int) - 1)) < (x3.length : Int) then (if 0 < ((rd_L3 x3 (wrap64 ((x3.length : Int) - 1))).length : Int) then (if 0 ≤ (rd (rd_L3 x3 (wrap64 ((x3.length : Int) - 1))) 0) then (if (rd (rd_L3 x3 (wrap64 ((x3.length : Int) - 1))) 0) < (x258001.length : Int) then ((impl_sameKey.f x258000 ((rd_T27 x258001 (rd (rd_L3 x3 (wrap64 ((x3.length : Int) - 1))) 0)).f0) ((rd_T27 x258001 (rd (rd_L3 x3 (wrap64 ((x3.length : Int) - 1))) 0)).f1) ((rd_T27 x9 x11).f0) ((rd_T27 x9 x11).f1)).bind fun t266 => (if t266 = true then (if (rd_L3 x3 (wrap64 ((x3.length : Int) - 1))).length < 17592186044416 then (impl_blocks.l0 k (x3.set ((wrap64 ((x3.length : Int) - 1)) : Int).toNat ((rd_L3 x3 (wrap64 ((x3.length : Int) - 1))) ++ [x11])) x9 x10 (wrap64 (x11 + 1)) x258000 x258001) else (none)) else (if x3.length < 5864062014805 then (impl_blocks.l0 k (x3 ++ [(([x11] : List Int))]) x9 x10 (wrap64 (x11 + 1)) x258000 x258001) else (none)))) else (none)) else (none)) else (none)) else (none)) else (none)) else (if x3.length < 5864062014805 then (impl_blocks.l0 k (x3 ++ [(([x11] : List Int))]) x9 x10 (wrap64 (x11 + 1)) x258000 x258001) else (none))) else (none)) else (none)) else (some x3)
def impl_blocks.f (k : Nat) (l0_0 : List (S81)) (l0_1 : List (S27)) : Option ((List (List Int))) := impl_blocks.l0 k (([] : List (List Int))) l0_1 (l0_1.length : Int) 0 l0_0 l0_1
def impl_blocks.T6 : Bool × List (List Nat × List Nat) := (true, [([], []), ([0], [0]), ([1], [1]), ([2], [2]), ([3, 2], [2, 3]), ([2], [2]), ([5, 2], [2, 5]), ([2], [2]), ([2], [2]), ([7, 8, 2], [2, 7, 8]), ([9, 2], [2, 9]), ([10, 2], [2, 10]), ([11, 2], [2, 11]), ([6, 12, 2], [2, 6, 12]), ([13, 2], [2, 13]), ([2], [2]), ([4, 14, 15, 2, 2], [2, 4, 14, 15]), ([2, 16], [2, 16])])
def impl_blocks.B6 : List Nat := [0, 1, 3, 7, 15, 7, 39, 7, 7, 391, 903, 1927, 3975, 8167, 16359, 7, 65535, 131071]
theorem impl_blocks.tab6 : rtab .any (opsOf Try.f92 6) = impl_blocks.T6 := by kernel_rfl
theorem impl_blocks.bits6 : waitsOk impl_blocks.T6.2 impl_blocks.B6 = true := by kernel_rfl
set_option maxHeartbeats 8000000 in
set_option maxRecDepth 100000 in
theorem impl_blocks.calls (k : Nat) (A0_0 : Option Addr) (c0_0 : Nat) (l0_0 : List (S81)) (A0_1 : Option Addr) (c0_1 : Nat) (l0_1 : List (S27)) (r : List (List Int)) (w : World) (hr0_0 : Kd.C k81 w A0_0 l0_0.length l0_0) (hc0_0 : l0_0.length ≤ c0_0) (hr0_1 : Kd.C k27 w A0_1 l0_1.length l0_1) (hc0_1 : l0_1.length ≤ c0_1) (h : impl_blocks.f k l0_0 l0_1 = some r) :
  Calls Try.prog 92 #[.agg #[.slice A0_0 l0_0.length c0_0, .slice A0_1 l0_1.length c0_1]] w fun e w' => ∃ v0_ : Value, e = .returned (v0_) ∧ Kd.S (Kd.slice 3 (Kd.int .i64)) 22 w' w.heap.size (fun _ => True) v0_ r ∧ Below w.heap.size w w' := by
 have hu60 := Try.underlying60
 have hu27 := Try.underlying27
 have HR0_0 := aM hr0_0
 have HC0_0 := aM hc0_0
 clear hr0_0 hc0_0
 have HR0_1 := aM hr0_1
 have HC0_1 := aM hc0_1
 clear hr0_1 hc0_1
 have HB := aM (Below.refl w.heap.size w)
 have H : (impl_blocks.l0 k (([] : List (List Int))) l0_1 (l0_1.length : Int) 0 l0_0 l0_1) = some r := h
 clear h
 obtain ⟨y258, hy258⟩ : ∃ y_ : List (List Int), y_ = (([] : List (List Int))) := ⟨_, rfl⟩
 replace H : (impl_blocks.l0 k y258 l0_1 (l0_1.length : Int) 0 l0_0 l0_1) = some r := by first | (rw [hy258]; with_reducible exact H) | (have H2_ := (Option.bind_some _ _).symm.trans H; rw [hy258]; with_reducible exact H2_) | (have H2_ := (Option.bind_some _ _).symm.trans H; with_reducible exact H2_) | with_reducible exact H | (rw [hy258]; exact H) | exact H
 have Ny258 := aM hy258
 clear hy258
 have H' := aM H
 clear H
 go_enter Try.func92, Try.ntmps92
 go_wp2_with (first | ((with_reducible refine gate_dst (N := 1) rfl ?_); refine box_event ?hg (N := 1) ?hd (cs := #[.slice A0_0 l0_0.length c0_0, .slice A0_1 l0_1.length c0_1]) (t := 60) ?hr ?_; (case hd => rfl); (case hg => rfl); (case hr => first | (go_simp; done) | (go_simp; rfl)); intro gb257 hg w2 hbox hb; have n0_ := aM (below_step aB hb); have n1_ := aM (hbox); have n2_ := aM ((by rw [hg]; exact (below_size aB) : w.heap.size ≤ gb257)); have n3_ := aM ((by rw [hg]; exact (below_size aB) : w.heap.size ≤ gb257)); clear HB; have HB := n0_; have BK257 := n1_; have GW257 := n2_; have GE257 := n3_; clear n0_ n1_ n2_ n3_; clear hb hbox hg) | ((with_reducible refine gate_dst (N := 7) rfl ?_); refine Kd.S_lit (Kd.slice 3 (Kd.int .i64)) _ 22 ?hg (N := 7) ?hd (xs := ([] : List (List Int))) (inner := []) (ok := fun _ => True) (okp := fun _ => True) ?hr ?hp (fun _ hk => hk) trivial (Below.refl _ _) (Nat.le_refl _) (by simp) ?_; (case hd => rfl); (case hg => rfl); (case hr => first | (go_simp; done) | (go_simp; rfl)); (case hp => exact (Reps.none _ _)); intro v259 w3 ho4 hb hg_ hnew_; clear hg_ hnew_; (first | rw [← Ny258.out] at ho4 | (simp only [Int.reduceToNat] at ho4; rw [← Ny258.out] at ho4)); have n0_ := aM (Kd.S_lower ho4 (below_size aG)); have n1_ := aM (blk_below (g := gb257) (o := .cells #[.slice A0_0 l0_0.length c0_0, .slice A0_1 l0_1.length c0_1] 60 (0, 0)) aK hb); have n2_ := aM (below_step aG hb); clear BK257; clear HB; have HO260 := n0_; have BK257 := n1_; have HB := n2_; clear n0_ n1_ n2_; clear hb ho4; have hcz5_0 : w3.cell? ⟨gb257, 0, none⟩ = some (.slice A0_0 l0_0.length c0_0) := (blk_cell BK257.out 0).trans rfl; have hcz5_1 : w3.cell? ⟨gb257, 1, none⟩ = some (.slice A0_1 l0_1.length c0_1) := (blk_cell BK257.out 1).trans rfl; have hfz5_0 := blk_frozen BK257.out 0; have hfz5_1 := blk_frozen BK257.out 1))
 go_loopg [3, 11] k (fun kq v3 v11 w' => ∃ (x3_1 : List (List Int)) (x11_1 : Int), v11 = .int .i64 x11_1 ∧ Aside0 (impl_blocks.l0 kq x3_1 l0_1 (l0_1.length : Int) x11_1 l0_0 l0_1 = some r) ∧ Aside0 (kq ≤ k) ∧ Aside0 (Kd.S (Kd.slice 3 (Kd.int .i64)) 22 w' w.heap.size (fun _ => True) v3 x3_1) ∧ Aside0 (w'.heap[gb257]? = some (.cells #[(.slice A0_0 l0_0.length c0_0), (.slice A0_1 l0_1.length c0_1)] 60 (0, 0))) ∧ Aside0 (Below w.heap.size w w'))
 case atStart => exact ⟨(y258), (0), (by first | rfl | (simp; done) | (simp [*]; done)), H', ⟨Nat.le_refl _⟩, ⟨aS HO260⟩, ⟨by (with_reducible repeat (first | refine blk_drewN ?_ _ | refine blk_drew ?_ | refine blk_alloc ?_ _)); exact BK257.out⟩, ⟨by repeat (first | (with_reducible first | exact HB.out | apply below_alloc | apply pw_below_drewN | apply below_drew1 | refine below_set ?_ GE257.out) | exact HB.out)⟩⟩
 case round =>
  clear H'
  try clear p2
  try clear hcz5_0
  try clear hcz5_1
  try clear hfz5_0
  try clear hfz5_1
  obtain ⟨x3_1, x11_1, rfl, HA, HK1, HO_3, BK257, HB⟩ := hrel
  cases gk with
  | zero => exact absurd HA.out (by simp [impl_blocks.l0])
  | succ k1 =>
   have H := HA.out
   clear HA
   simp only [impl_blocks.l0] at H
   by_cases c6 : x11_1 < (l0_1.length : Int)
   ·rw [if_pos c6] at H
    have c6b0 : decide (x11_1 < (l0_1.length : Int)) = true := decide_eq_true c6
    clear c6
    by_cases c7 : 0 ≤ x11_1
    ·rw [if_pos c7] at H
     have c7b0 : decide (0 ≤ x11_1) = true := decide_eq_true c7
     clear c7
     by_cases c8 : x11_1 < (l0_1.length : Int)
     ·rw [if_pos c8] at H
      have c8b0 : decide (x11_1 < (l0_1.length : Int)) = true := decide_eq_true c8
      clear c8
      by_cases c9 : (wrap64 ((x3_1.length : Int) - 1)) ≥ 0
      ·rw [if_pos c9] at H
       have c9b0 : decide (0 ≤ (wrap64 ((x3_1.length : Int) - 1))) = true := decide_eq_true c9
       clear c9
       obtain ⟨ji10, hji10⟩ : ∃ j_ : Int, (wrap64 ((x3_1.length : Int) - 1)) = j_ := ⟨_, rfl⟩
       replace H : (if 0 ≤ (ji10) then (if (ji10) < (x3_1.length : Int) then (if 0 < ((rd_L3 x3_1 (ji10)).length : Int) then (if 0 ≤ (rd (rd_L3 x3_1 (ji10)) 0) then (if (rd (rd_L3 x3_1 (ji10)) 0) < (l0_1.length : Int) then ((impl_sameKey.f l0_0 ((rd_T27 l0_1 (rd (rd_L3 x3_1 (ji10)) 0)).f0) ((rd_T27 l0_1 (rd (rd_L3 x3_1 (ji10)) 0)).f1) ((rd_T27 l0_1 x11_1).f0) ((rd_T27 l0_1 x11_1).f1)).bind fun t266 => (if t266 = true then (if (rd_L3 x3_1 (ji10)).length < 17592186044416 then (impl_blocks.l0 k1 (x3_1.set ((ji10) : Int).toNat ((rd_L3 x3_1 (ji10)) ++ [x11_1])) l0_1 (l0_1.length : Int) (wrap64 (x11_1 + 1)) l0_0 l0_1) else (none)) else (if x3_1.length < 5864062014805 then (impl_blocks.l0 k1 (x3_1 ++ [(([x11_1] : List Int))]) l0_1 (l0_1.length : Int) (wrap64 (x11_1 + 1)) l0_0 l0_1) else (none)))) else (none)) else (none)) else (none)) else (none)) else (none)) = some r := by first | (rw [hji10] at H; exact H) | (simp only [hji10] at H ⊢; exact H)
       (try rw [hji10] at c9b0)
       have hji10w : (IntKind.i64.wrap ((x3_1.length : Int) - 1)) = ji10 := (i64_w _).trans hji10
       by_cases c11 : 0 ≤ (ji10)
       ·rw [if_pos c11] at H
        have c11b0 : decide (0 ≤ (ji10)) = true := decide_eq_true c11
        clear c11
        by_cases c12 : (ji10) < (x3_1.length : Int)
        ·rw [if_pos c12] at H
         have c12b0 : decide ((ji10) < (x3_1.length : Int)) = true := decide_eq_true c12
         clear c12
         by_cases c13 : 0 < ((rd_L3 x3_1 (ji10)).length : Int)
         ·rw [if_pos c13] at H
          have c13b0 : decide (0 < ((rd_L3 x3_1 (ji10)).length : Int)) = true := decide_eq_true c13
          have c13b1 : decide (0 < (rd_L3 x3_1 (ji10)).length) = true := decide_eq_true (by omega)
          clear c13
          by_cases c14 : 0 ≤ (rd (rd_L3 x3_1 (ji10)) 0)
          ·rw [if_pos c14] at H
           have c14b0 : decide (0 ≤ (rd (rd_L3 x3_1 (ji10)) 0)) = true := decide_eq_true c14
           clear c14
           by_cases c15 : (rd (rd_L3 x3_1 (ji10)) 0) < (l0_1.length : Int)
           ·rw [if_pos c15] at H
            have c15b0 : decide ((rd (rd_L3 x3_1 (ji10)) 0) < (l0_1.length : Int)) = true := decide_eq_true c15
            clear c15
            replace H := Option.bind_eq_some_iff.mp H
            obtain ⟨t266, A160, H⟩ := H
            replace H : (if t266 = true then (if (rd_L3 x3_1 (ji10)).length < 17592186044416 then (impl_blocks.l0 k1 (x3_1.set ((ji10) : Int).toNat ((rd_L3 x3_1 (ji10)) ++ [x11_1])) l0_1 (l0_1.length : Int) (wrap64 (x11_1 + 1)) l0_0 l0_1) else (none)) else (if x3_1.length < 5864062014805 then (impl_blocks.l0 k1 (x3_1 ++ [(([x11_1] : List Int))]) l0_1 (l0_1.length : Int) (wrap64 (x11_1 + 1)) l0_0 l0_1) else (none))) = some r := H
            have A16 := aM A160
            clear A160
            by_cases c17 : t266 = true
            ·subst c17
             have H1 : (if (rd_L3 x3_1 (ji10)).length < 17592186044416 then (impl_blocks.l0 k1 (x3_1.set ((ji10) : Int).toNat ((rd_L3 x3_1 (ji10)) ++ [x11_1])) l0_1 (l0_1.length : Int) (wrap64 (x11_1 + 1)) l0_0 l0_1) else (none)) = some r := by rw [if_pos rfl] at H; exact H
             clear H
             have H := H1
             clear H1
             by_cases c18 : (rd_L3 x3_1 (ji10)).length < 17592186044416
             ·rw [if_pos c18] at H
              have LMc18 := aM c18
              clear c18
              obtain ⟨y268, hy268⟩ : ∃ y_ : List Int, y_ = ((rd_L3 x3_1 (ji10)) ++ [x11_1]) := ⟨_, rfl⟩
              replace H : (impl_blocks.l0 k1 (x3_1.set ((ji10) : Int).toNat y268) l0_1 (l0_1.length : Int) (wrap64 (x11_1 + 1)) l0_0 l0_1) = some r := by first | (rw [hy268]; with_reducible exact H) | (have H2_ := (Option.bind_some _ _).symm.trans H; rw [hy268]; with_reducible exact H2_) | (have H2_ := (Option.bind_some _ _).symm.trans H; with_reducible exact H2_) | with_reducible exact H | (rw [hy268]; exact H) | exact H
              have Ny268 := aM hy268
              clear hy268
              obtain ⟨y271, hy271⟩ : ∃ y_ : List (List Int), y_ = (x3_1.set ((ji10) : Int).toNat y268) := ⟨_, rfl⟩
              replace H : (impl_blocks.l0 k1 y271 l0_1 (l0_1.length : Int) (wrap64 (x11_1 + 1)) l0_0 l0_1) = some r := by first | (rw [hy271]; with_reducible exact H) | (have H2_ := (Option.bind_some _ _).symm.trans H; rw [hy271]; with_reducible exact H2_) | (have H2_ := (Option.bind_some _ _).symm.trans H; with_reducible exact H2_) | with_reducible exact H | (rw [hy271]; exact H) | exact H
              have Ny271 := aM hy271
              clear hy271
              have H' := aM H
              clear H
              have p261 : 0 ≤ (x11_1 : Int) := aD
              have q261 : x11_1 < (l0_1.length : Int) := aD
              obtain ⟨ad261, A261_1, c261_1, e261, hx261_0, hx261_1, hl261_1, hi261_1⟩ := at_T27 HR0_1.out x11_1 p261 q261
              cases e261
              replace hx261_0 := (HB.out.cell (World.block_lt_of_cell? w _ hx261_0)).trans hx261_0
              replace hx261_1 := (HB.out.cell (World.block_lt_of_cell? w _ hx261_1)).trans hx261_1
              have HR261_1 := aM hi261_1
              have HC261_1 := aM hl261_1
              clear hi261_1 hl261_1
              replace p261 := eq_true p261
              replace q261 := eq_true q261
              try go_wp2_with (first | ((with_reducible refine gate_dst (N := 5) rfl ?_); refine box_event ?hg (N := 5) ?hd (cs := #[.int .i64 0, .slice none 0 0]) (t := 27) ?hr ?_; (case hd => rfl); (case hg => rfl); (case hr => first | (go_simp; done) | (go_simp; rfl)); intro gb262 hg w20 hbox hb; have n0_ := aM (Kd.S_below (aS HO_3) hb); have n1_ := aM (blk_below (g := gb257) (o := .cells #[.slice A0_0 l0_0.length c0_0, .slice (some ad261) l0_1.length c0_1] 60 (0, 0)) aK hb); have n2_ := aM (below_step aG hb); have n3_ := aM (hbox); have n4_ := aM ((by rw [hg]; exact (below_size aG) : w.heap.size ≤ gb262)); have n5_ := aM ((by rw [hg]; exact (below_size aG) : w.heap.size ≤ gb262)); have n6_ := aM ((by rw [hg]; exact Nat.ne_of_lt (blk_lt (g := gb257) (o := .cells #[.slice A0_0 l0_0.length c0_0, .slice (some ad261) l0_1.length c0_1] 60 (0, 0)) aK) : gb257 ≠ gb262)); have n7_ := aM ((by rw [hg]; exact Nat.ne_of_gt (blk_lt (g := gb257) (o := .cells #[.slice A0_0 l0_0.length c0_0, .slice (some ad261) l0_1.length c0_1] 60 (0, 0)) aK) : gb262 ≠ gb257)); clear HO_3; clear BK257; clear HB; have HO_3 := n0_; have BK257 := n1_; have HB := n2_; have BK262 := n3_; have GW262 := n4_; have GE262 := n5_; have NB257_262 := n6_; have NB262_257 := n7_; clear n0_ n1_ n2_ n3_ n4_ n5_ n6_ n7_; clear hb hbox hg; have hnb21 := NB262_257.out; have hnc21 := NB257_262.out; have hcz22_0 : w20.cell? ⟨gb262, 0, none⟩ = some (.int .i64 0) := (blk_cell BK262.out 0).trans rfl; have hcz22_1 : w20.cell? ⟨gb262, 1, none⟩ = some (.slice none 0 0) := (blk_cell BK262.out 1).trans rfl; have hfz22_0 := blk_frozen BK262.out 0; have hfz22_1 := blk_frozen BK262.out 1; obtain ⟨Ao23, co23, eo23⟩ := Kd.S_slice HO_3.out; subst eo23))
              have n0_ : Aside0 (Kd.S (Kd.slice 3 (Kd.int .i64)) 22 ((w20.setCell ⟨gb262, 0, none⟩ (.int .i64 ((rd_T27 l0_1 x11_1).f0))).setCell ⟨gb262, 1, none⟩ (.slice A261_1 ((rd_T27 l0_1 x11_1).f1).length c261_1)) w.heap.size (fun _ => True) (.slice Ao23 x3_1.length co23) x3_1) := ⟨by (with_reducible repeat (first | apply Kd.S_alloc | apply Kd.S_drewN | apply Kd.S_drew)); exact Kd.S_mono (Kd.S_far (p := ⟨gb262, 1, none⟩) (Kd.S_far (p := ⟨gb262, 0, none⟩) (Kd.S_types HO_3.out BK262.out (by decide)) (fun _ hk => hk.2) (.int .i64 ((rd_T27 l0_1 x11_1).f0))) (fun _ hk => hk.2) (.slice A261_1 ((rd_T27 l0_1 x11_1).f1).length c261_1)) (fun _ hk => trivial)⟩
              have n1_ : Aside0 (((w20.setCell ⟨gb262, 0, none⟩ (.int .i64 ((rd_T27 l0_1 x11_1).f0))).setCell ⟨gb262, 1, none⟩ (.slice A261_1 ((rd_T27 l0_1 x11_1).f1).length c261_1)).heap[gb257]? = some (.cells #[.slice A0_0 l0_0.length c0_0, .slice (some ad261) l0_1.length c0_1] 60 (0, 0))) := ⟨by (with_reducible repeat (first | refine blk_drewN ?_ _ | refine blk_drew ?_ | refine blk_alloc ?_ _)); refine blk_far ?_ NB257_262.out _; (with_reducible repeat (first | refine blk_drewN ?_ _ | refine blk_drew ?_ | refine blk_alloc ?_ _)); refine blk_far ?_ NB257_262.out _; (with_reducible repeat (first | refine blk_drewN ?_ _ | refine blk_drew ?_ | refine blk_alloc ?_ _)); exact BK257.out⟩
              have n2_ : Aside0 (((w20.setCell ⟨gb262, 0, none⟩ (.int .i64 ((rd_T27 l0_1 x11_1).f0))).setCell ⟨gb262, 1, none⟩ (.slice A261_1 ((rd_T27 l0_1 x11_1).f1).length c261_1)).heap[gb262]? = some (.cells #[.int .i64 ((rd_T27 l0_1 x11_1).f0), .slice A261_1 ((rd_T27 l0_1 x11_1).f1).length c261_1] 27 (0, 0))) := ⟨by (with_reducible repeat (first | refine blk_drewN ?_ _ | refine blk_drew ?_ | refine blk_alloc ?_ _)); refine blk_put (cs := #[.int .i64 ((rd_T27 l0_1 x11_1).f0), .slice none 0 0]) ?_ 1 _ rfl; (with_reducible repeat (first | refine blk_drewN ?_ _ | refine blk_drew ?_ | refine blk_alloc ?_ _)); refine blk_put (cs := #[.int .i64 0, .slice none 0 0]) ?_ 0 _ rfl; (with_reducible repeat (first | refine blk_drewN ?_ _ | refine blk_drew ?_ | refine blk_alloc ?_ _)); exact BK262.out⟩
              have n3_ : Aside0 (Below w.heap.size w ((w20.setCell ⟨gb262, 0, none⟩ (.int .i64 ((rd_T27 l0_1 x11_1).f0))).setCell ⟨gb262, 1, none⟩ (.slice A261_1 ((rd_T27 l0_1 x11_1).f1).length c261_1))) := ⟨by repeat (first | (with_reducible first | exact HB.out | apply below_alloc | apply pw_below_drewN | apply below_drew1 | refine below_set ?_ GE257.out | refine below_set ?_ GE262.out) | exact HB.out)⟩
              (try clear HO_3)
              (try clear BK257)
              (try clear BK262)
              (try clear HB)
              generalize ((w20.setCell ⟨gb262, 0, none⟩ (.int .i64 ((rd_T27 l0_1 x11_1).f0))).setCell ⟨gb262, 1, none⟩ (.slice A261_1 ((rd_T27 l0_1 x11_1).f1).length c261_1)) = w24 at n0_ n1_ n2_ n3_ ⊢
              have HO_3 := n0_
              have BK257 := n1_
              have BK262 := n2_
              have HB := n3_
              clear n0_ n1_ n2_ n3_
              have n0_ := aM (Kd.S_drew HO_3.out)
              have n1_ := aM (blk_drew BK257.out)
              have n2_ := aM (blk_drew BK262.out)
              have n3_ := aM (below_drew1 HB.out)
              clear HO_3
              clear BK257
              clear BK262
              clear HB
              have HO_3 := n0_
              have BK257 := n1_
              have BK262 := n2_
              have HB := n3_
              clear n0_ n1_ n2_ n3_
              have p263 : 0 ≤ ((ji10) : Int) := aD
              have q263 : (ji10) < (x3_1.length : Int) := aD
              obtain ⟨ad263, A263_0, c263_0, e263, hx263_0, hl263_0, hi263_0⟩ := at_L3 (Kd.S_reads' HO_3.out).2.2 (ji10) p263 q263
              cases e263
              obtain ⟨ce263, hce263, hMe263, hcc263⟩ := Kd.S_get HO_3.out [] (ji10) p263 (by first | exact q263 | exact aD | (have e_ := (Kd.S_reads' HO_3.out).1; omega))
              obtain ⟨ve263_0, rfl, ge263_0⟩ := hMe263
              have hv263_0 := hcc263 0 _ rfl
              rw [Nat.add_zero, show ((Kd.slice 3 (Kd.int .i64))).sz = 1 from rfl, Nat.mul_one] at hv263_0
              replace hv263_0 := Option.some.inj (hv263_0.symm.trans hx263_0)
              rw [hv263_0] at ge263_0
              have HL263_0 := aM (show Kd.R (Kd.int .i64) 3 _ _ _ _ (rd_L3 x3_1 (ji10)) from ge263_0)
              clear hv263_0 ge263_0
              have HX263_0 := aM hx263_0
              clear hcc263 hce263
              have HR263_0 := aM hi263_0
              have HC263_0 := aM hl263_0
              clear hi263_0 hl263_0
              replace p263 := eq_true p263
              replace q263 := eq_true q263
              have p264 : 0 ≤ (0 : Int) := (by omega)
              have q264 : 0 < ((rd_L3 x3_1 (ji10)).length : Int) := aD
              obtain ⟨ad264, e264, hx264_0⟩ := Kd.at_int (by repeat (first | (with_reducible exact HR263_0.out) | (with_reducible refine Kd.C_alloc ?_ _) | (with_reducible refine Kd.C_drewN ?_ _) | (with_reducible refine Kd.C_drew ?_) | exact HR263_0.out)) 0 p264 q264
              cases e264
              have qi264 : (0 < (rd_L3 x3_1 (ji10)).length) = True := eq_true (by omega)
              (try rw [show ((0 : Int)).toNat = 0 from rfl] at hx264_0)
              (try rw [Addr.add_zero'] at hx264_0)
              replace p264 := eq_true p264
              replace q264 := eq_true q264
              have p265 : 0 ≤ ((rd (rd_L3 x3_1 (ji10)) 0) : Int) := aD
              have q265 : (rd (rd_L3 x3_1 (ji10)) 0) < (l0_1.length : Int) := aD
              obtain ⟨ad265, A265_1, c265_1, e265, hx265_0, hx265_1, hl265_1, hi265_1⟩ := at_T27 HR0_1.out (rd (rd_L3 x3_1 (ji10)) 0) p265 q265
              have hw265_1 := hx265_1
              have hw265_0 := hx265_0
              obtain rfl : ad261 = ad265 := (by injection e265)
              replace hx265_0 := (HB.out.cell (World.block_lt_of_cell? w _ hx265_0)).trans hx265_0
              replace hx265_1 := (HB.out.cell (World.block_lt_of_cell? w _ hx265_1)).trans hx265_1
              have HR265_1 := aM hi265_1
              have HC265_1 := aM hl265_1
              clear hi265_1 hl265_1
              replace p265 := eq_true p265
              replace q265 := eq_true q265
              refine start_ (n := 18) (S := fun w' => w'.cell? ⟨gb257, 0, none⟩ = some (.slice A0_0 l0_0.length c0_0) ∧ w'.cell? ⟨gb257, 1, none⟩ = some (.slice (some ad261) l0_1.length c0_1) ∧ w'.cell? ⟨gb262, 0, none⟩ = some (.int .i64 ((rd_T27 l0_1 x11_1).f0)) ∧ w'.cell? ⟨gb262, 1, none⟩ = some (.slice A261_1 ((rd_T27 l0_1 x11_1).f1).length c261_1) ∧ w'.cell? (ad263.add ((ji10)).toNat) = some (.slice (some ad264) (rd_L3 x3_1 (ji10)).length c263_0) ∧ w'.cell? ad264 = some (.int .i64 (rd (rd_L3 x3_1 (ji10)) 0)) ∧ w'.cell? (ad261.add (((rd (rd_L3 x3_1 (ji10)) 0)).toNat * 2)) = some (.int .i64 ((rd_T27 l0_1 (rd (rd_L3 x3_1 (ji10)) 0)).f0)) ∧ w'.cell? ⟨(ad261.add (((rd (rd_L3 x3_1 (ji10)) 0)).toNat * 2)).block, (ad261.add (((rd (rd_L3 x3_1 (ji10)) 0)).toNat * 2)).off + 1, none⟩ = some (.slice A265_1 ((rd_T27 l0_1 (rd (rd_L3 x3_1 (ji10)) 0)).f1).length c265_1)) (ds := []) #[false, false, false, false, false, false, false, false, false, false, false, false, false, false, false, false, false, false] (by kernel_rfl) rfl rfl ⟨(blk_cell BK257.out 0).trans rfl, (blk_cell BK257.out 1).trans rfl, (blk_cell BK262.out 0).trans rfl, (blk_cell BK262.out 1).trans rfl, hx263_0, hx264_0, (pw_cell_below HB.out hw265_0), (pw_cell_below HB.out hw265_1)⟩ (fun hHeld => ?_); refine with_tabW impl_blocks.tab6 impl_blocks.bits6 (fun HT_ HW_ => ?_)
              generalize w24.drew = w25 at HO_3 BK257 BK262 HB HL263_0 HR263_0 HR265_1 HX263_0 hx263_0 hx264_0 hx265_0 hx265_1 hHeld ⊢
              refine pure_ (i := 0) (N := some 19) (v := ?_) (a' := ?_) #[true, false, false, false, false, false, false, false, false, false, false, false, false, false, false, false, false, false] rfl rfl (any_of HT_.out (by kernel_rfl)) (fun _ _ _ h => h) (Or.inl ⟨by rfl, ?_⟩) ?_ ?_
              rotate_left
              ·exact aI
              rotate_left
              ·exact aP
              refine pure_ (i := 1) (N := some 20) (v := ?_) (a' := ?_) #[true, true, false, false, false, false, false, false, false, false, false, false, false, false, false, false, false, false] rfl rfl (any_of HT_.out (by kernel_rfl)) (fun _ _ _ h => h) (Or.inl ⟨by rfl, ?_⟩) ?_ ?_
              rotate_left
              ·exact aI
              rotate_left
              ·exact aP
              refine pure_ (i := 2) (N := some 21) (v := ?_) (a' := ?_) #[true, true, true, false, false, false, false, false, false, false, false, false, false, false, false, false, false, false] rfl rfl (any_of HT_.out (by kernel_rfl)) (fun _ _ _ h => h) (Or.inl ⟨by rfl, ?_⟩) ?_ ?_
              rotate_left
              ·exact aI
              rotate_left
              ·exact aP
              refine pure_ (i := 3) (N := some 22) (v := ?_) (a' := ?_) #[true, true, true, true, false, false, false, false, false, false, false, false, false, false, false, false, false, false] rfl rfl (any_of HT_.out (by kernel_rfl)) (fun _ _ _ h => h) (Or.inl ⟨by rfl, ?_⟩) ?_ ?_
              rotate_left
              ·exact aI
              rotate_left
              ·exact aP
              refine pure_ (i := 5) (N := some 24) (v := ?_) (a' := ?_) #[true, true, true, true, false, true, false, false, false, false, false, false, false, false, false, false, false, false] rfl rfl (any_of HT_.out (by kernel_rfl)) (fun _ _ _ h => h) (Or.inl ⟨by rfl, ?_⟩) ?_ ?_
              rotate_left
              ·exact aI
              rotate_left
              ·exact aP
              refine pure_ (i := 7) (N := some 26) (v := ?_) (a' := ?_) #[true, true, true, true, false, true, false, true, false, false, false, false, false, false, false, false, false, false] rfl rfl (any_of HT_.out (by kernel_rfl)) (fun _ _ _ h => h) (Or.inl ⟨by rfl, ?_⟩) ?_ ?_
              rotate_left
              ·exact aI
              rotate_left
              ·exact aP
              refine pure_ (i := 8) (N := some 27) (v := ?_) (a' := ?_) #[true, true, true, true, false, true, false, true, true, false, false, false, false, false, false, false, false, false] rfl rfl (any_of HT_.out (by kernel_rfl)) (fun _ _ _ h => h) (Or.inl ⟨by rfl, ?_⟩) ?_ ?_
              rotate_left
              ·exact aI
              rotate_left
              ·exact aP
              refine pure_ (i := 9) (N := some 28) (v := ?_) (a' := ?_) #[true, true, true, true, false, true, false, true, true, true, false, false, false, false, false, false, false, false] rfl rfl (any_of HT_.out (by kernel_rfl)) (fun _ _ _ h => h) (Or.inl ⟨by rfl, ?_⟩) ?_ ?_
              rotate_left
              ·exact aI
              rotate_left
              ·exact aP
              refine take_ (i := 4) (N := some 23) (v := ?_) (a' := ?_) #[true, true, true, true, true, true, false, true, true, true, false, false, false, false, false, false, false, false] rfl rfl (take_ofW HT_.out HW_.out (by kernel_rfl)) (fun _ _ _ h => h) (Or.inl ⟨by rfl, ?_⟩) hHeld ?_ ?_
              rotate_left
              ·rintro w' ⟨s0, s1, s2, s3, s4, s5, s6, s7⟩
               go_simp
               with_reducible rfl
              rotate_left
              ·exact aP
              refine take_ (i := 6) (N := some 25) (v := ?_) (a' := ?_) #[true, true, true, true, true, true, true, true, true, true, false, false, false, false, false, false, false, false] rfl rfl (take_ofW HT_.out HW_.out (by kernel_rfl)) (fun _ _ _ h => h) (Or.inl ⟨by rfl, ?_⟩) hHeld ?_ ?_
              rotate_left
              ·rintro w' ⟨s0, s1, s2, s3, s4, s5, s6, s7⟩
               go_simp
               with_reducible rfl
              rotate_left
              ·exact aP
              refine take_ (i := 10) (N := some 29) (v := ?_) (a' := ?_) #[true, true, true, true, true, true, true, true, true, true, true, false, false, false, false, false, false, false] rfl rfl (take_ofW HT_.out HW_.out (by kernel_rfl)) (fun _ _ _ h => h) (Or.inl ⟨by rfl, ?_⟩) hHeld ?_ ?_
              rotate_left
              ·rintro w' ⟨s0, s1, s2, s3, s4, s5, s6, s7⟩
               go_simp
               with_reducible rfl
              rotate_left
              ·exact aP
              refine pure_ (i := 11) (N := some 30) (v := ?_) (a' := ?_) #[true, true, true, true, true, true, true, true, true, true, true, true, false, false, false, false, false, false] rfl rfl (any_of HT_.out (by kernel_rfl)) (fun _ _ _ h => h) (Or.inl ⟨by rfl, ?_⟩) ?_ ?_
              rotate_left
              ·exact aI
              rotate_left
              ·exact aP
              refine take_ (i := 12) (N := some 31) (v := ?_) (a' := ?_) #[true, true, true, true, true, true, true, true, true, true, true, true, true, false, false, false, false, false] rfl rfl (take_ofW HT_.out HW_.out (by kernel_rfl)) (fun _ _ _ h => h) (Or.inl ⟨by rfl, ?_⟩) hHeld ?_ ?_
              rotate_left
              ·rintro w' ⟨s0, s1, s2, s3, s4, s5, s6, s7⟩
               go_simp
               with_reducible rfl
              rotate_left
              ·exact aP
              refine pure_ (i := 13) (N := some 32) (v := ?_) (a' := ?_) #[true, true, true, true, true, true, true, true, true, true, true, true, true, true, false, false, false, false] rfl rfl (any_of HT_.out (by kernel_rfl)) (fun _ _ _ h => h) (Or.inl ⟨by rfl, ?_⟩) ?_ ?_
              rotate_left
              ·exact aI
              rotate_left
              ·exact aP
              refine take_ (i := 14) (N := some 33) (v := ?_) (a' := ?_) #[true, true, true, true, true, true, true, true, true, true, true, true, true, true, true, false, false, false] rfl rfl (take_ofW HT_.out HW_.out (by kernel_rfl)) (fun _ _ _ h => h) (Or.inl ⟨by rfl, ?_⟩) hHeld ?_ ?_
              rotate_left
              ·rintro w' ⟨s0, s1, s2, s3, s4, s5, s6, s7⟩
               go_simp
               with_reducible rfl
              rotate_left
              ·exact aP
              refine take_ (i := 15) (N := some 34) (v := ?_) (a' := ?_) #[true, true, true, true, true, true, true, true, true, true, true, true, true, true, true, true, false, false] rfl rfl (take_ofW HT_.out HW_.out (by kernel_rfl)) (fun _ _ _ h => h) (Or.inl ⟨by rfl, ?_⟩) hHeld ?_ ?_
              rotate_left
              ·rintro w' ⟨s0, s1, s2, s3, s4, s5, s6, s7⟩
               go_simp
               with_reducible rfl
              rotate_left
              ·exact aP
              refine one_ (i := 16) (N := some 35) #[true, true, true, true, true, true, true, true, true, true, true, true, true, true, true, true, true, false] rfl rfl (one_of HT_.out (by kernel_rfl)) (by decide) (fun K hK => ?_)
              refine goes_ Try.func82 (by kernel_rfl) rfl #[.slice A0_0 l0_0.length c0_0, .agg #[.int .i64 ((rd_T27 l0_1 (rd (rd_L3 x3_1 (ji10)) 0)).f0), .slice A265_1 ((rd_T27 l0_1 (rd (rd_L3 x3_1 (ji10)) 0)).f1).length c265_1], .agg #[.int .i64 ((rd_T27 l0_1 x11_1).f0), .slice A261_1 ((rd_T27 l0_1 x11_1).f1).length c261_1]] (by rfl) rfl rfl (by (try simp only [List.map_toArray, List.map_cons, List.map_nil]); first | done | (simp only [hji10]; rfl) | rfl | (simp only [List.length_drop, List.length_take]; rfl)) ?_
              with_reducible refine (impl_sameKey.calls _ _ l0_0 ((rd_T27 l0_1 (rd (rd_L3 x3_1 (ji10)) 0)).f0) _ _ ((rd_T27 l0_1 (rd (rd_L3 x3_1 (ji10)) 0)).f1) ((rd_T27 l0_1 x11_1).f0) _ _ ((rd_T27 l0_1 x11_1).f1) true _ ?side1 ?side2 ?side3 ?side4 ?side5 ?side6 A16.out).mono ?_
              (case side1 => exact aC)
              (case side2 => exact HC0_0.out)
              (case side3 => exact aC)
              (case side4 => exact HC265_1.out)
              (case side5 => exact aC)
              (case side6 => exact HC261_1.out)
              rintro e w26 ⟨rfl, hb⟩
              have HS4_ := (hb.cell (World.block_lt_of_cell? _ _ (hHeld.2.2.2.2.1))).trans (hHeld.2.2.2.2.1)
              have HS5_ := (hb.cell (World.block_lt_of_cell? _ _ (hHeld.2.2.2.2.2.1))).trans (hHeld.2.2.2.2.2.1)
              refine ⟨_, rfl, ?_⟩
              have n0_ := aM (Kd.S_below (aS HO_3) hb)
              have n1_ := aM (Kd.R_below (aR HL263_0) hb)
              have n2_ := aM (blk_below (g := gb257) (o := .cells #[.slice A0_0 l0_0.length c0_0, .slice (some ad261) l0_1.length c0_1] 60 (0, 0)) aK hb)
              have n3_ := aM (blk_below (g := gb262) (o := .cells #[.int .i64 ((rd_T27 l0_1 x11_1).f0), .slice A261_1 ((rd_T27 l0_1 x11_1).f1).length c261_1] 27 (0, 0)) aK hb)
              have n4_ := aM (Kd.C_below (by repeat (first | (with_reducible exact HR263_0.out) | (with_reducible refine Kd.C_alloc ?_ _) | (with_reducible refine Kd.C_drewN ?_ _) | (with_reducible refine Kd.C_drew ?_) | exact HR263_0.out)) hb)
              have n5_ := aM (pw_cell_below hb HX263_0.out)
              have n6_ := aM (below_step aG hb)
              clear HO_3
              clear HL263_0
              clear BK257
              clear BK262
              clear HR263_0
              clear HX263_0
              clear HB
              have HO_3 := n0_
              have HL263_0 := n1_
              have BK257 := n2_
              have BK262 := n3_
              have HR263_0 := n4_
              have HX263_0 := n5_
              have HB := n6_
              clear n0_ n1_ n2_ n3_ n4_ n5_ n6_
              (try clear hb)
              (try clear hb2)
              (try clear hk)
              (try clear hi)
              refine hK.out _ _ ⟨(blk_cell BK257.out 0).trans rfl, (blk_cell BK257.out 1).trans rfl, (blk_cell BK262.out 0).trans rfl, (blk_cell BK262.out 1).trans rfl, HS4_, HS5_, (pw_cell_below HB.out hw265_0), (pw_cell_below HB.out hw265_1)⟩ (fun hHeld => ?_)
              clear hK K
              refine norm_ (a' := ?_) ?_ ?_
              rotate_left
              ·show Act.put _ (some 35) _ = _
               simp only [Act.put, List.setIfInBounds_toArray, List.set_cons_zero, List.set_cons_succ, i64_w, i32_w]
               rfl
              refine pure_ (i := 17) (N := some 36) (v := ?_) (a' := ?_) #[true, true, true, true, true, true, true, true, true, true, true, true, true, true, true, true, true, true] rfl rfl (any_of HT_.out (by kernel_rfl)) (fun _ _ _ h => h) (Or.inl ⟨by rfl, ?_⟩) ?_ ?_
              rotate_left
              ·exact aI
              rotate_left
              ·exact aP
              refine done_ (done_of HT_.out (by kernel_rfl)) ?_
              have p267 : 0 ≤ ((ji10) : Int) := aD
              have q267 : (ji10) < (x3_1.length : Int) := aD
              obtain ⟨ad267, A267_0, c267_0, e267, hx267_0, hl267_0, hi267_0⟩ := at_L3 (Kd.S_reads' HO_3.out).2.2 (ji10) p267 q267
              obtain rfl : ad263 = ad267 := (by injection e267)
              obtain ⟨ce267, hce267, hMe267, hcc267⟩ := Kd.S_get HO_3.out [] (ji10) p267 (by first | exact q267 | exact aD | (have e_ := (Kd.S_reads' HO_3.out).1; omega))
              obtain ⟨ve267_0, rfl, ge267_0⟩ := hMe267
              have hv267_0 := hcc267 0 _ rfl
              rw [Nat.add_zero, show ((Kd.slice 3 (Kd.int .i64))).sz = 1 from rfl, Nat.mul_one] at hv267_0
              replace hv267_0 := Option.some.inj (hv267_0.symm.trans hx267_0)
              rw [hv267_0] at ge267_0
              have HL267_0 := aM (show Kd.R (Kd.int .i64) 3 _ _ _ _ (rd_L3 x3_1 (ji10)) from ge267_0)
              clear hv267_0 ge267_0
              have HX267_0 := aM hx267_0
              clear hcc267 hce267
              have HR267_0 := aM hi267_0
              have HC267_0 := aM hl267_0
              clear hi267_0 hl267_0
              replace p267 := eq_true p267
              replace q267 := eq_true q267
              obtain ⟨go27, co27, eo27, gb27, gl27, cl27, HG27⟩ := Kd.S_form HO_3.out (by have h_ : ((ji10) : Int) < ((x3_1.length : Int) : Int) := aD; have h2_ : 0 ≤ ((ji10) : Int) := (aD); omega)
              (first | cases eo27 | (injection eo27 with ea_ en_ ec_; (first | subst ea_ | (injection ea_ with ea_; subst ea_)); subst ec_; clear en_))
              have GB27 := aM gb27
              have GG27 := aM HG27
              clear gb27 gl27 HG27
              (first | simp only [add_plain] at hx263_0 | skip)
              (first | simp only [add_plain] at hx267_0 | skip)
              obtain ⟨oki27, ce27, hcl27, hM27, hcc27, _, _, hH27⟩ := Kd.S_elem HO_3.out [] ((ji10) : Int) (aD) (by have h_ : ((ji10) : Int) < ((x3_1.length : Int) : Int) := aD; first | exact h_ | (have e_ := (Kd.S_reads' HO_3.out).1; omega) | simpa using h_)
              obtain ⟨ve27_0, rfl, ge27_0⟩ := hM27
              have hv27 := hcc27 0 _ rfl
              have hX27 := HX267_0.out
              (try simp only [add_plain] at hX27)
              (try simp only [Nat.add_zero] at hv27)
              (try rw [show ((Kd.slice 3 (Kd.int .i64))).sz = 1 from rfl, Nat.mul_one] at hv27)
              replace hv27 := Option.some.inj (hv27.symm.trans hX27)
              subst hv27
              clear hX27 hcc27 hcl27
              have UU27 := aM (show Kd.R (Kd.int .i64) 3 _ w.heap.size oki27 (.slice A267_0 (rd_L3 x3_1 (ji10)).length c267_0) (rd_L3 x3_1 (ji10)) from ge27_0)
              have HH27 := aM hH27
              have HN27 := aM (Kd.S_reads' HO_3.out).1
              clear hH27 ge27_0
              try go_wp2_with (first | ((with_reducible refine gate_builtin (b := .append) (xs := #[.tmp 42, .tmp 44]) rfl ?_); at_builtin; refine Kd.R_append (Kd.int .i64) (w0 := w) w.heap.size rfl (.tmp 42) (.tmp 44) 22 3 (.int .i64 0) 8 rfl Try.underlying22 info3 rfl (by decide) (by omega) (.slice A267_0 (rd_L3 x3_1 (ji10)).length c267_0) (rd_L3 x3_1 (ji10)) x11_1 [.int .i64 x11_1] (fun k_ => oki27 k_ ∨ ((fun _ => True)) k_ ∧ w26.heap.size ≤ k_) (fun _ => False) rfl rfl ?aP (fun _ hk => hk.elim) ?aF ?aO ?aB ?aS ?aL ?_; (case aP => exact rfl); (case aB => exact aG); (case aF => exact (fun k_ hk => .inr ⟨trivial, hk⟩)); (case aO => exact (by (with_reducible repeat (first | apply Kd.R_alloc | apply Kd.R_drewN | apply Kd.R_drew)); exact Kd.R_mono UU27.out (fun _ hk => .inl hk))); (case aS => exact (below_size aG)); (case aL => have := LMc18.out; omega); intro v269 w28 ho hb hg hat; rw [← Ny268.out] at ho; have n0_ := aM (blk_grown (g := gb257) (o := .cells #[.slice A0_0 l0_0.length c0_0, .slice (some ad261) l0_1.length c0_1] 60 (0, 0)) aK hg (Kd.R_ne HL267_0.out BK257.out (by decide))); have n1_ := aM (blk_grown (g := gb262) (o := .cells #[.int .i64 ((rd_T27 l0_1 x11_1).f0), .slice A261_1 ((rd_T27 l0_1 x11_1).f1).length c261_1] 27 (0, 0)) aK hg (Kd.R_ne HL267_0.out BK262.out (by decide))); have n2_ := aM (hb); have n3_ := aM (Kd.H_grown (Kd.H_widen (by repeat (first | exact HH27.out | refine Kd.H_alloc ?_ _ | refine Kd.H_drewN ?_ _ | refine Kd.H_drew ?_))) hg (fun k_ e_ => .inl (UU27.out.1 k_ e_))); have n4_ := aM (ho); clear BK257; clear BK262; clear HB; clear HH27; clear HO_3; clear UU27; clear HL263_0; clear HL267_0; have BK257 := n0_; have BK262 := n1_; have HB := n2_; have HH27 := n3_; have HO270 := n4_; clear n0_ n1_ n2_ n3_ n4_; clear ho hb hg hat; have p19 : 0 ≤ ((ji10) : Int) := aD; have q19 : ((ji10) : Int) < ((x3_1.length : Int) : Int) := aD; replace p19 := eq_true p19; replace q19 := eq_true q19; obtain ⟨Ao31, co31, eo31⟩ := Kd.R_slice HO270.out; subst eo31; obtain ⟨_, _, hraw29, _, _, hcc29, _⟩ := Kd.H_raw HH27.out (aD) (by have h_ : ((ji10) : Int) < ((x3_1.length : Int) : Int) := aD; first | exact h_ | (have e_ := (HN27.out); omega) | simpa using h_); obtain ⟨_, hfr29⟩ := Kd.H_at HH27.out (aD) (by have h_ : ((ji10) : Int) < ((x3_1.length : Int) : Int) := aD; first | exact h_ | (have e_ := (HN27.out); omega) | simpa using h_); have hx29_0 := hcc29 0 _ rfl; have hf29_0 := hfr29 0; (try simp only [Nat.add_zero] at hx29_0 hf29_0); (try rw [show ((Kd.slice 3 (Kd.int .i64))).sz = 1 from rfl, Nat.mul_one] at hx29_0); (try rw [show ((Kd.slice 3 (Kd.int .i64))).sz = 1 from rfl, Nat.mul_one] at hf29_0); have HP29 := Kd.S_seg0 HH27.out (aD) (by have h_ : ((ji10) : Int) < ((x3_1.length : Int) : Int) := aD; first | exact h_ | (have e_ := (HN27.out); omega) | simpa using h_) (seg := [.slice Ao31 y268.length co31]) (j := 0) (show 1 ≤ 1 from by decide) (x' := y268) (Kd.M_row HO270.out) (fun _ hk => hk); (try simp only [show ((Kd.slice 3 (Kd.int .i64))).sz = 1 from rfl, Nat.mul_one, Nat.add_zero] at HP29); clear hcc29 hfr29) | ((with_reducible refine gate_store (t := 22) (p := 46) rfl ?_); refine store_event (t := 22) (p := 46) (v := ?vo_w30) (w1 := (w28.setCell ⟨go27, ((ji10) : Int).toNat, none⟩ (.slice Ao31 y268.length co31))) ?hg ?ho ?hn ?hr ?_; (case ho => rfl); (case hg => rfl); (case hn => rfl); (case hr => first | (go_simp; done) | (go_simp; rfl) | (obtain ⟨A_, c_, e_⟩ := Kd.R_slice HO270.out; subst e_; first | (go_simp; done) | (go_simp; rfl)) | (obtain ⟨A_, c_, e_⟩ := Kd.R_slice HO_3.out; subst e_; first | (go_simp; done) | (go_simp; rfl))); intro w30 hw; have hg : w28.grownBy w30 (some go27) := (by rw [hw]; exact HP29.2); have hp_ : Kd.S (Kd.slice 3 (Kd.int .i64)) 22 w30 w.heap.size (fun _ => True) (.slice (some ⟨go27, 0, none⟩) x3_1.length co23) y271 := (by rw [hw, Ny271.out]; exact HP29.1); clear HP29; have n0_ := aM (blk_grown (g := gb257) (o := .cells #[.slice A0_0 l0_0.length c0_0, .slice (some ad261) l0_1.length c0_1] 60 (0, 0)) aK hg (Kd.R_ne hraw29 BK257.out (by decide))); have n1_ := aM (blk_grown (g := gb262) (o := .cells #[.int .i64 ((rd_T27 l0_1 x11_1).f0), .slice A261_1 ((rd_T27 l0_1 x11_1).f1).length c261_1] 27 (0, 0)) aK hg (Kd.R_ne hraw29 BK262.out (by decide))); have n2_ := aM ((by rw [hw]; exact below_set HB.out GB27.out : Below w.heap.size w w30)); have n3_ := aM (hp_); clear BK257; clear BK262; clear HB; clear HO270; clear HH27; have BK257 := n0_; have BK262 := n1_; have HB := n2_; have HO_3 := n3_; clear n0_ n1_ n2_ n3_; clear hg hw hp_ hraw29))
              go_roundg k1
              case measure => have := HK1.out; omega
              case rel => exact ⟨(y271), (wrap64 (x11_1 + 1)), (by first | rfl | (simp; done) | (simp [*]; done)), H', ⟨by have := HK1.out; omega⟩, ⟨aS HO_3⟩, ⟨by (with_reducible repeat (first | refine blk_drewN ?_ _ | refine blk_drew ?_ | refine blk_alloc ?_ _)); exact BK257.out⟩, ⟨by repeat (first | (with_reducible first | exact HB.out | apply below_alloc | apply pw_below_drewN | apply below_drew1 | refine below_set ?_ GE257.out | refine below_set ?_ GE262.out) | exact HB.out)⟩⟩
             ·rw [if_neg c18] at H
              exact absurd H (by simp)
            ·replace c17 := Bool.eq_false_iff.mpr c17
             subst c17
             have H1 : (if x3_1.length < 5864062014805 then (impl_blocks.l0 k1 (x3_1 ++ [(([x11_1] : List Int))]) l0_1 (l0_1.length : Int) (wrap64 (x11_1 + 1)) l0_0 l0_1) else (none)) = some r := by rw [if_neg (show ¬ (false = true) by decide)] at H; exact H
             clear H
             have H := H1
             clear H1
             obtain ⟨y272, hy272⟩ : ∃ y_ : List Int, y_ = (([x11_1] : List Int)) := ⟨_, rfl⟩
             replace H : (if x3_1.length < 5864062014805 then (impl_blocks.l0 k1 (x3_1 ++ [y272]) l0_1 (l0_1.length : Int) (wrap64 (x11_1 + 1)) l0_0 l0_1) else (none)) = some r := by first | (rw [hy272]; with_reducible exact H) | (have H2_ := (Option.bind_some _ _).symm.trans H; rw [hy272]; with_reducible exact H2_) | (have H2_ := (Option.bind_some _ _).symm.trans H; with_reducible exact H2_) | with_reducible exact H | (rw [hy272]; exact H) | exact H
             have Ny272 := aM hy272
             clear hy272
             by_cases c32 : x3_1.length < 5864062014805
             ·rw [if_pos c32] at H
              have LMc32 := aM c32
              clear c32
              obtain ⟨y275, hy275⟩ : ∃ y_ : List (List Int), y_ = (x3_1 ++ [y272]) := ⟨_, rfl⟩
              replace H : (impl_blocks.l0 k1 y275 l0_1 (l0_1.length : Int) (wrap64 (x11_1 + 1)) l0_0 l0_1) = some r := by first | (rw [hy275]; with_reducible exact H) | (have H2_ := (Option.bind_some _ _).symm.trans H; rw [hy275]; with_reducible exact H2_) | (have H2_ := (Option.bind_some _ _).symm.trans H; with_reducible exact H2_) | with_reducible exact H | (rw [hy275]; exact H) | exact H
              have Ny275 := aM hy275
              clear hy275
              have H' := aM H
              clear H
              have p261 : 0 ≤ (x11_1 : Int) := aD
              have q261 : x11_1 < (l0_1.length : Int) := aD
              obtain ⟨ad261, A261_1, c261_1, e261, hx261_0, hx261_1, hl261_1, hi261_1⟩ := at_T27 HR0_1.out x11_1 p261 q261
              cases e261
              replace hx261_0 := (HB.out.cell (World.block_lt_of_cell? w _ hx261_0)).trans hx261_0
              replace hx261_1 := (HB.out.cell (World.block_lt_of_cell? w _ hx261_1)).trans hx261_1
              have HR261_1 := aM hi261_1
              have HC261_1 := aM hl261_1
              clear hi261_1 hl261_1
              replace p261 := eq_true p261
              replace q261 := eq_true q261
              try go_wp2_with (first | ((with_reducible refine gate_dst (N := 5) rfl ?_); refine box_event ?hg (N := 5) ?hd (cs := #[.int .i64 0, .slice none 0 0]) (t := 27) ?hr ?_; (case hd => rfl); (case hg => rfl); (case hr => first | (go_simp; done) | (go_simp; rfl)); intro gb262 hg w33 hbox hb; have n0_ := aM (Kd.S_below (aS HO_3) hb); have n1_ := aM (blk_below (g := gb257) (o := .cells #[.slice A0_0 l0_0.length c0_0, .slice (some ad261) l0_1.length c0_1] 60 (0, 0)) aK hb); have n2_ := aM (below_step aG hb); have n3_ := aM (hbox); have n4_ := aM ((by rw [hg]; exact (below_size aG) : w.heap.size ≤ gb262)); have n5_ := aM ((by rw [hg]; exact (below_size aG) : w.heap.size ≤ gb262)); have n6_ := aM ((by rw [hg]; exact Nat.ne_of_lt (blk_lt (g := gb257) (o := .cells #[.slice A0_0 l0_0.length c0_0, .slice (some ad261) l0_1.length c0_1] 60 (0, 0)) aK) : gb257 ≠ gb262)); have n7_ := aM ((by rw [hg]; exact Nat.ne_of_gt (blk_lt (g := gb257) (o := .cells #[.slice A0_0 l0_0.length c0_0, .slice (some ad261) l0_1.length c0_1] 60 (0, 0)) aK) : gb262 ≠ gb257)); clear HO_3; clear BK257; clear HB; have HO_3 := n0_; have BK257 := n1_; have HB := n2_; have BK262 := n3_; have GW262 := n4_; have GE262 := n5_; have NB257_262 := n6_; have NB262_257 := n7_; clear n0_ n1_ n2_ n3_ n4_ n5_ n6_ n7_; clear hb hbox hg; have hnb34 := NB262_257.out; have hnc34 := NB257_262.out; have hcz35_0 : w33.cell? ⟨gb262, 0, none⟩ = some (.int .i64 0) := (blk_cell BK262.out 0).trans rfl; have hcz35_1 : w33.cell? ⟨gb262, 1, none⟩ = some (.slice none 0 0) := (blk_cell BK262.out 1).trans rfl; have hfz35_0 := blk_frozen BK262.out 0; have hfz35_1 := blk_frozen BK262.out 1; obtain ⟨Ao36, co36, eo36⟩ := Kd.S_slice HO_3.out; subst eo36))
              have n0_ : Aside0 (Kd.S (Kd.slice 3 (Kd.int .i64)) 22 ((w33.setCell ⟨gb262, 0, none⟩ (.int .i64 ((rd_T27 l0_1 x11_1).f0))).setCell ⟨gb262, 1, none⟩ (.slice A261_1 ((rd_T27 l0_1 x11_1).f1).length c261_1)) w.heap.size (fun _ => True) (.slice Ao36 x3_1.length co36) x3_1) := ⟨by (with_reducible repeat (first | apply Kd.S_alloc | apply Kd.S_drewN | apply Kd.S_drew)); exact Kd.S_mono (Kd.S_far (p := ⟨gb262, 1, none⟩) (Kd.S_far (p := ⟨gb262, 0, none⟩) (Kd.S_types HO_3.out BK262.out (by decide)) (fun _ hk => hk.2) (.int .i64 ((rd_T27 l0_1 x11_1).f0))) (fun _ hk => hk.2) (.slice A261_1 ((rd_T27 l0_1 x11_1).f1).length c261_1)) (fun _ hk => trivial)⟩
              have n1_ : Aside0 (((w33.setCell ⟨gb262, 0, none⟩ (.int .i64 ((rd_T27 l0_1 x11_1).f0))).setCell ⟨gb262, 1, none⟩ (.slice A261_1 ((rd_T27 l0_1 x11_1).f1).length c261_1)).heap[gb257]? = some (.cells #[.slice A0_0 l0_0.length c0_0, .slice (some ad261) l0_1.length c0_1] 60 (0, 0))) := ⟨by (with_reducible repeat (first | refine blk_drewN ?_ _ | refine blk_drew ?_ | refine blk_alloc ?_ _)); refine blk_far ?_ NB257_262.out _; (with_reducible repeat (first | refine blk_drewN ?_ _ | refine blk_drew ?_ | refine blk_alloc ?_ _)); refine blk_far ?_ NB257_262.out _; (with_reducible repeat (first | refine blk_drewN ?_ _ | refine blk_drew ?_ | refine blk_alloc ?_ _)); exact BK257.out⟩
              have n2_ : Aside0 (((w33.setCell ⟨gb262, 0, none⟩ (.int .i64 ((rd_T27 l0_1 x11_1).f0))).setCell ⟨gb262, 1, none⟩ (.slice A261_1 ((rd_T27 l0_1 x11_1).f1).length c261_1)).heap[gb262]? = some (.cells #[.int .i64 ((rd_T27 l0_1 x11_1).f0), .slice A261_1 ((rd_T27 l0_1 x11_1).f1).length c261_1] 27 (0, 0))) := ⟨by (with_reducible repeat (first | refine blk_drewN ?_ _ | refine blk_drew ?_ | refine blk_alloc ?_ _)); refine blk_put (cs := #[.int .i64 ((rd_T27 l0_1 x11_1).f0), .slice none 0 0]) ?_ 1 _ rfl; (with_reducible repeat (first | refine blk_drewN ?_ _ | refine blk_drew ?_ | refine blk_alloc ?_ _)); refine blk_put (cs := #[.int .i64 0, .slice none 0 0]) ?_ 0 _ rfl; (with_reducible repeat (first | refine blk_drewN ?_ _ | refine blk_drew ?_ | refine blk_alloc ?_ _)); exact BK262.out⟩
              have n3_ : Aside0 (Below w.heap.size w ((w33.setCell ⟨gb262, 0, none⟩ (.int .i64 ((rd_T27 l0_1 x11_1).f0))).setCell ⟨gb262, 1, none⟩ (.slice A261_1 ((rd_T27 l0_1 x11_1).f1).length c261_1))) := ⟨by repeat (first | (with_reducible first | exact HB.out | apply below_alloc | apply pw_below_drewN | apply below_drew1 | refine below_set ?_ GE257.out | refine below_set ?_ GE262.out) | exact HB.out)⟩
              (try clear HO_3)
              (try clear BK257)
              (try clear BK262)
              (try clear HB)
              generalize ((w33.setCell ⟨gb262, 0, none⟩ (.int .i64 ((rd_T27 l0_1 x11_1).f0))).setCell ⟨gb262, 1, none⟩ (.slice A261_1 ((rd_T27 l0_1 x11_1).f1).length c261_1)) = w37 at n0_ n1_ n2_ n3_ ⊢
              have HO_3 := n0_
              have BK257 := n1_
              have BK262 := n2_
              have HB := n3_
              clear n0_ n1_ n2_ n3_
              have n0_ := aM (Kd.S_drew HO_3.out)
              have n1_ := aM (blk_drew BK257.out)
              have n2_ := aM (blk_drew BK262.out)
              have n3_ := aM (below_drew1 HB.out)
              clear HO_3
              clear BK257
              clear BK262
              clear HB
              have HO_3 := n0_
              have BK257 := n1_
              have BK262 := n2_
              have HB := n3_
              clear n0_ n1_ n2_ n3_
              have p263 : 0 ≤ ((ji10) : Int) := aD
              have q263 : (ji10) < (x3_1.length : Int) := aD
              obtain ⟨ad263, A263_0, c263_0, e263, hx263_0, hl263_0, hi263_0⟩ := at_L3 (Kd.S_reads' HO_3.out).2.2 (ji10) p263 q263
              cases e263
              obtain ⟨ce263, hce263, hMe263, hcc263⟩ := Kd.S_get HO_3.out [] (ji10) p263 (by first | exact q263 | exact aD | (have e_ := (Kd.S_reads' HO_3.out).1; omega))
              obtain ⟨ve263_0, rfl, ge263_0⟩ := hMe263
              have hv263_0 := hcc263 0 _ rfl
              rw [Nat.add_zero, show ((Kd.slice 3 (Kd.int .i64))).sz = 1 from rfl, Nat.mul_one] at hv263_0
              replace hv263_0 := Option.some.inj (hv263_0.symm.trans hx263_0)
              rw [hv263_0] at ge263_0
              have HL263_0 := aM (show Kd.R (Kd.int .i64) 3 _ _ _ _ (rd_L3 x3_1 (ji10)) from ge263_0)
              clear hv263_0 ge263_0
              have HX263_0 := aM hx263_0
              clear hcc263 hce263
              have HR263_0 := aM hi263_0
              have HC263_0 := aM hl263_0
              clear hi263_0 hl263_0
              replace p263 := eq_true p263
              replace q263 := eq_true q263
              have p264 : 0 ≤ (0 : Int) := (by omega)
              have q264 : 0 < ((rd_L3 x3_1 (ji10)).length : Int) := aD
              obtain ⟨ad264, e264, hx264_0⟩ := Kd.at_int (by repeat (first | (with_reducible exact HR263_0.out) | (with_reducible refine Kd.C_alloc ?_ _) | (with_reducible refine Kd.C_drewN ?_ _) | (with_reducible refine Kd.C_drew ?_) | exact HR263_0.out)) 0 p264 q264
              cases e264
              have qi264 : (0 < (rd_L3 x3_1 (ji10)).length) = True := eq_true (by omega)
              (try rw [show ((0 : Int)).toNat = 0 from rfl] at hx264_0)
              (try rw [Addr.add_zero'] at hx264_0)
              replace p264 := eq_true p264
              replace q264 := eq_true q264
              have p265 : 0 ≤ ((rd (rd_L3 x3_1 (ji10)) 0) : Int) := aD
              have q265 : (rd (rd_L3 x3_1 (ji10)) 0) < (l0_1.length : Int) := aD
              obtain ⟨ad265, A265_1, c265_1, e265, hx265_0, hx265_1, hl265_1, hi265_1⟩ := at_T27 HR0_1.out (rd (rd_L3 x3_1 (ji10)) 0) p265 q265
              have hw265_1 := hx265_1
              have hw265_0 := hx265_0
              obtain rfl : ad261 = ad265 := (by injection e265)
              replace hx265_0 := (HB.out.cell (World.block_lt_of_cell? w _ hx265_0)).trans hx265_0
              replace hx265_1 := (HB.out.cell (World.block_lt_of_cell? w _ hx265_1)).trans hx265_1
              have HR265_1 := aM hi265_1
              have HC265_1 := aM hl265_1
              clear hi265_1 hl265_1
              replace p265 := eq_true p265
              replace q265 := eq_true q265
              refine start_ (n := 18) (S := fun w' => w'.cell? ⟨gb257, 0, none⟩ = some (.slice A0_0 l0_0.length c0_0) ∧ w'.cell? ⟨gb257, 1, none⟩ = some (.slice (some ad261) l0_1.length c0_1) ∧ w'.cell? ⟨gb262, 0, none⟩ = some (.int .i64 ((rd_T27 l0_1 x11_1).f0)) ∧ w'.cell? ⟨gb262, 1, none⟩ = some (.slice A261_1 ((rd_T27 l0_1 x11_1).f1).length c261_1) ∧ w'.cell? (ad263.add ((ji10)).toNat) = some (.slice (some ad264) (rd_L3 x3_1 (ji10)).length c263_0) ∧ w'.cell? ad264 = some (.int .i64 (rd (rd_L3 x3_1 (ji10)) 0)) ∧ w'.cell? (ad261.add (((rd (rd_L3 x3_1 (ji10)) 0)).toNat * 2)) = some (.int .i64 ((rd_T27 l0_1 (rd (rd_L3 x3_1 (ji10)) 0)).f0)) ∧ w'.cell? ⟨(ad261.add (((rd (rd_L3 x3_1 (ji10)) 0)).toNat * 2)).block, (ad261.add (((rd (rd_L3 x3_1 (ji10)) 0)).toNat * 2)).off + 1, none⟩ = some (.slice A265_1 ((rd_T27 l0_1 (rd (rd_L3 x3_1 (ji10)) 0)).f1).length c265_1)) (ds := []) #[false, false, false, false, false, false, false, false, false, false, false, false, false, false, false, false, false, false] (by kernel_rfl) rfl rfl ⟨(blk_cell BK257.out 0).trans rfl, (blk_cell BK257.out 1).trans rfl, (blk_cell BK262.out 0).trans rfl, (blk_cell BK262.out 1).trans rfl, hx263_0, hx264_0, (pw_cell_below HB.out hw265_0), (pw_cell_below HB.out hw265_1)⟩ (fun hHeld => ?_); refine with_tabW impl_blocks.tab6 impl_blocks.bits6 (fun HT_ HW_ => ?_)
              generalize w37.drew = w38 at HO_3 BK257 BK262 HB HL263_0 HR263_0 HR265_1 HX263_0 hx263_0 hx264_0 hx265_0 hx265_1 hHeld ⊢
              refine pure_ (i := 0) (N := some 19) (v := ?_) (a' := ?_) #[true, false, false, false, false, false, false, false, false, false, false, false, false, false, false, false, false, false] rfl rfl (any_of HT_.out (by kernel_rfl)) (fun _ _ _ h => h) (Or.inl ⟨by rfl, ?_⟩) ?_ ?_
              rotate_left
              ·exact aI
              rotate_left
              ·exact aP
              refine pure_ (i := 1) (N := some 20) (v := ?_) (a' := ?_) #[true, true, false, false, false, false, false, false, false, false, false, false, false, false, false, false, false, false] rfl rfl (any_of HT_.out (by kernel_rfl)) (fun _ _ _ h => h) (Or.inl ⟨by rfl, ?_⟩) ?_ ?_
              rotate_left
              ·exact aI
              rotate_left
              ·exact aP
              refine pure_ (i := 2) (N := some 21) (v := ?_) (a' := ?_) #[true, true, true, false, false, false, false, false, false, false, false, false, false, false, false, false, false, false] rfl rfl (any_of HT_.out (by kernel_rfl)) (fun _ _ _ h => h) (Or.inl ⟨by rfl, ?_⟩) ?_ ?_
              rotate_left
              ·exact aI
              rotate_left
              ·exact aP
              refine pure_ (i := 3) (N := some 22) (v := ?_) (a' := ?_) #[true, true, true, true, false, false, false, false, false, false, false, false, false, false, false, false, false, false] rfl rfl (any_of HT_.out (by kernel_rfl)) (fun _ _ _ h => h) (Or.inl ⟨by rfl, ?_⟩) ?_ ?_
              rotate_left
              ·exact aI
              rotate_left
              ·exact aP
              refine pure_ (i := 5) (N := some 24) (v := ?_) (a' := ?_) #[true, true, true, true, false, true, false, false, false, false, false, false, false, false, false, false, false, false] rfl rfl (any_of HT_.out (by kernel_rfl)) (fun _ _ _ h => h) (Or.inl ⟨by rfl, ?_⟩) ?_ ?_
              rotate_left
              ·exact aI
              rotate_left
              ·exact aP
              refine pure_ (i := 7) (N := some 26) (v := ?_) (a' := ?_) #[true, true, true, true, false, true, false, true, false, false, false, false, false, false, false, false, false, false] rfl rfl (any_of HT_.out (by kernel_rfl)) (fun _ _ _ h => h) (Or.inl ⟨by rfl, ?_⟩) ?_ ?_
              rotate_left
              ·exact aI
              rotate_left
              ·exact aP
              refine pure_ (i := 8) (N := some 27) (v := ?_) (a' := ?_) #[true, true, true, true, false, true, false, true, true, false, false, false, false, false, false, false, false, false] rfl rfl (any_of HT_.out (by kernel_rfl)) (fun _ _ _ h => h) (Or.inl ⟨by rfl, ?_⟩) ?_ ?_
              rotate_left
              ·exact aI
              rotate_left
              ·exact aP
              refine pure_ (i := 9) (N := some 28) (v := ?_) (a' := ?_) #[true, true, true, true, false, true, false, true, true, true, false, false, false, false, false, false, false, false] rfl rfl (any_of HT_.out (by kernel_rfl)) (fun _ _ _ h => h) (Or.inl ⟨by rfl, ?_⟩) ?_ ?_
              rotate_left
              ·exact aI
              rotate_left
              ·exact aP
              refine take_ (i := 4) (N := some 23) (v := ?_) (a' := ?_) #[true, true, true, true, true, true, false, true, true, true, false, false, false, false, false, false, false, false] rfl rfl (take_ofW HT_.out HW_.out (by kernel_rfl)) (fun _ _ _ h => h) (Or.inl ⟨by rfl, ?_⟩) hHeld ?_ ?_
              rotate_left
              ·rintro w' ⟨s0, s1, s2, s3, s4, s5, s6, s7⟩
               go_simp
               with_reducible rfl
              rotate_left
              ·exact aP
              refine take_ (i := 6) (N := some 25) (v := ?_) (a' := ?_) #[true, true, true, true, true, true, true, true, true, true, false, false, false, false, false, false, false, false] rfl rfl (take_ofW HT_.out HW_.out (by kernel_rfl)) (fun _ _ _ h => h) (Or.inl ⟨by rfl, ?_⟩) hHeld ?_ ?_
              rotate_left
              ·rintro w' ⟨s0, s1, s2, s3, s4, s5, s6, s7⟩
               go_simp
               with_reducible rfl
              rotate_left
              ·exact aP
              refine take_ (i := 10) (N := some 29) (v := ?_) (a' := ?_) #[true, true, true, true, true, true, true, true, true, true, true, false, false, false, false, false, false, false] rfl rfl (take_ofW HT_.out HW_.out (by kernel_rfl)) (fun _ _ _ h => h) (Or.inl ⟨by rfl, ?_⟩) hHeld ?_ ?_
              rotate_left
              ·rintro w' ⟨s0, s1, s2, s3, s4, s5, s6, s7⟩
               go_simp
               with_reducible rfl
              rotate_left
              ·exact aP
              refine pure_ (i := 11) (N := some 30) (v := ?_) (a' := ?_) #[true, true, true, true, true, true, true, true, true, true, true, true, false, false, false, false, false, false] rfl rfl (any_of HT_.out (by kernel_rfl)) (fun _ _ _ h => h) (Or.inl ⟨by rfl, ?_⟩) ?_ ?_
              rotate_left
              ·exact aI
              rotate_left
              ·exact aP
              refine take_ (i := 12) (N := some 31) (v := ?_) (a' := ?_) #[true, true, true, true, true, true, true, true, true, true, true, true, true, false, false, false, false, false] rfl rfl (take_ofW HT_.out HW_.out (by kernel_rfl)) (fun _ _ _ h => h) (Or.inl ⟨by rfl, ?_⟩) hHeld ?_ ?_
              rotate_left
              ·rintro w' ⟨s0, s1, s2, s3, s4, s5, s6, s7⟩
               go_simp
               with_reducible rfl
              rotate_left
              ·exact aP
              refine pure_ (i := 13) (N := some 32) (v := ?_) (a' := ?_) #[true, true, true, true, true, true, true, true, true, true, true, true, true, true, false, false, false, false] rfl rfl (any_of HT_.out (by kernel_rfl)) (fun _ _ _ h => h) (Or.inl ⟨by rfl, ?_⟩) ?_ ?_
              rotate_left
              ·exact aI
              rotate_left
              ·exact aP
              refine take_ (i := 14) (N := some 33) (v := ?_) (a' := ?_) #[true, true, true, true, true, true, true, true, true, true, true, true, true, true, true, false, false, false] rfl rfl (take_ofW HT_.out HW_.out (by kernel_rfl)) (fun _ _ _ h => h) (Or.inl ⟨by rfl, ?_⟩) hHeld ?_ ?_
              rotate_left
              ·rintro w' ⟨s0, s1, s2, s3, s4, s5, s6, s7⟩
               go_simp
               with_reducible rfl
              rotate_left
              ·exact aP
              refine take_ (i := 15) (N := some 34) (v := ?_) (a' := ?_) #[true, true, true, true, true, true, true, true, true, true, true, true, true, true, true, true, false, false] rfl rfl (take_ofW HT_.out HW_.out (by kernel_rfl)) (fun _ _ _ h => h) (Or.inl ⟨by rfl, ?_⟩) hHeld ?_ ?_
              rotate_left
              ·rintro w' ⟨s0, s1, s2, s3, s4, s5, s6, s7⟩
               go_simp
               with_reducible rfl
              rotate_left
              ·exact aP
              refine one_ (i := 16) (N := some 35) #[true, true, true, true, true, true, true, true, true, true, true, true, true, true, true, true, true, false] rfl rfl (one_of HT_.out (by kernel_rfl)) (by decide) (fun K hK => ?_)
              refine goes_ Try.func82 (by kernel_rfl) rfl #[.slice A0_0 l0_0.length c0_0, .agg #[.int .i64 ((rd_T27 l0_1 (rd (rd_L3 x3_1 (ji10)) 0)).f0), .slice A265_1 ((rd_T27 l0_1 (rd (rd_L3 x3_1 (ji10)) 0)).f1).length c265_1], .agg #[.int .i64 ((rd_T27 l0_1 x11_1).f0), .slice A261_1 ((rd_T27 l0_1 x11_1).f1).length c261_1]] (by rfl) rfl rfl (by (try simp only [List.map_toArray, List.map_cons, List.map_nil]); first | done | (simp only [hji10]; rfl) | rfl | (simp only [List.length_drop, List.length_take]; rfl)) ?_
              with_reducible refine (impl_sameKey.calls _ _ l0_0 ((rd_T27 l0_1 (rd (rd_L3 x3_1 (ji10)) 0)).f0) _ _ ((rd_T27 l0_1 (rd (rd_L3 x3_1 (ji10)) 0)).f1) ((rd_T27 l0_1 x11_1).f0) _ _ ((rd_T27 l0_1 x11_1).f1) false _ ?side1 ?side2 ?side3 ?side4 ?side5 ?side6 A16.out).mono ?_
              (case side1 => exact aC)
              (case side2 => exact HC0_0.out)
              (case side3 => exact aC)
              (case side4 => exact HC265_1.out)
              (case side5 => exact aC)
              (case side6 => exact HC261_1.out)
              rintro e w39 ⟨rfl, hb⟩
              have HS4_ := (hb.cell (World.block_lt_of_cell? _ _ (hHeld.2.2.2.2.1))).trans (hHeld.2.2.2.2.1)
              have HS5_ := (hb.cell (World.block_lt_of_cell? _ _ (hHeld.2.2.2.2.2.1))).trans (hHeld.2.2.2.2.2.1)
              refine ⟨_, rfl, ?_⟩
              have n0_ := aM (Kd.S_below (aS HO_3) hb)
              have n1_ := aM (Kd.R_below (aR HL263_0) hb)
              have n2_ := aM (blk_below (g := gb257) (o := .cells #[.slice A0_0 l0_0.length c0_0, .slice (some ad261) l0_1.length c0_1] 60 (0, 0)) aK hb)
              have n3_ := aM (blk_below (g := gb262) (o := .cells #[.int .i64 ((rd_T27 l0_1 x11_1).f0), .slice A261_1 ((rd_T27 l0_1 x11_1).f1).length c261_1] 27 (0, 0)) aK hb)
              have n4_ := aM (Kd.C_below (by repeat (first | (with_reducible exact HR263_0.out) | (with_reducible refine Kd.C_alloc ?_ _) | (with_reducible refine Kd.C_drewN ?_ _) | (with_reducible refine Kd.C_drew ?_) | exact HR263_0.out)) hb)
              have n5_ := aM (pw_cell_below hb HX263_0.out)
              have n6_ := aM (below_step aG hb)
              clear HO_3
              clear HL263_0
              clear BK257
              clear BK262
              clear HR263_0
              clear HX263_0
              clear HB
              have HO_3 := n0_
              have HL263_0 := n1_
              have BK257 := n2_
              have BK262 := n3_
              have HR263_0 := n4_
              have HX263_0 := n5_
              have HB := n6_
              clear n0_ n1_ n2_ n3_ n4_ n5_ n6_
              (try clear hb)
              (try clear hb2)
              (try clear hk)
              (try clear hi)
              refine hK.out _ _ ⟨(blk_cell BK257.out 0).trans rfl, (blk_cell BK257.out 1).trans rfl, (blk_cell BK262.out 0).trans rfl, (blk_cell BK262.out 1).trans rfl, HS4_, HS5_, (pw_cell_below HB.out hw265_0), (pw_cell_below HB.out hw265_1)⟩ (fun hHeld => ?_)
              clear hK K
              refine norm_ (a' := ?_) ?_ ?_
              rotate_left
              ·show Act.put _ (some 35) _ = _
               simp only [Act.put, List.setIfInBounds_toArray, List.set_cons_zero, List.set_cons_succ, i64_w, i32_w]
               rfl
              refine pure_ (i := 17) (N := some 36) (v := ?_) (a' := ?_) #[true, true, true, true, true, true, true, true, true, true, true, true, true, true, true, true, true, true] rfl rfl (any_of HT_.out (by kernel_rfl)) (fun _ _ _ h => h) (Or.inl ⟨by rfl, ?_⟩) ?_ ?_
              rotate_left
              ·exact aI
              rotate_left
              ·exact aP
              refine done_ (done_of HT_.out (by kernel_rfl)) ?_
              try go_wp2_with (first | ((with_reducible refine gate_dst (N := 49) rfl ?_); refine Kd.R_lit (Kd.int .i64) _ 3 ?hg (N := 49) ?hd (xs := ([x11_1] : List Int)) (inner := [.int .i64 x11_1]) (ok := fun _ => True) (okp := fun _ => True) ?hr ?hp (fun _ hk => hk) trivial (Below.refl _ _) (Nat.le_refl _) (by simp) ?_; (case hd => rfl); (case hg => rfl); (case hr => first | (go_simp; done) | (go_simp; rfl)); (case hp => exact (Reps.one (show Kd.M (Kd.int .i64) _ _ _ x11_1 [.int .i64 x11_1] from rfl) (Reps.none _ _))); intro v273 w40 ho41 hb hg_ hnew_; clear hg_ hnew_; (first | rw [← Ny272.out] at ho41 | (simp only [Int.reduceToNat] at ho41; rw [← Ny272.out] at ho41)); have n0_ := aM (Kd.S_elder' (aS HO_3) (Kd.R_base ho41) hb); have n1_ := aM (Kd.R_elder' (aR HL263_0) (Kd.R_base ho41) hb); have n2_ := aM (Kd.R_lower (Kd.R_new' ho41 (Kd.R_lt (aR HL263_0))) (below_size aG)); have n3_ := aM (blk_below (g := gb257) (o := .cells #[.slice A0_0 l0_0.length c0_0, .slice (some ad261) l0_1.length c0_1] 60 (0, 0)) aK hb); have n4_ := aM (blk_below (g := gb262) (o := .cells #[.int .i64 ((rd_T27 l0_1 x11_1).f0), .slice A261_1 ((rd_T27 l0_1 x11_1).f1).length c261_1] 27 (0, 0)) aK hb); have n5_ := aM (Kd.C_below (by repeat (first | (with_reducible exact HR263_0.out) | (with_reducible refine Kd.C_alloc ?_ _) | (with_reducible refine Kd.C_drewN ?_ _) | (with_reducible refine Kd.C_drew ?_) | exact HR263_0.out)) hb); have n6_ := aM (pw_cell_below hb HX263_0.out); have n7_ := aM (below_step aG hb); clear HO_3; clear HL263_0; clear BK257; clear BK262; clear HR263_0; clear HX263_0; clear HB; have HO_3 := n0_; have HL263_0 := n1_; have HO274 := n2_; have BK257 := n3_; have BK262 := n4_; have HR263_0 := n5_; have HX263_0 := n6_; have HB := n7_; clear n0_ n1_ n2_ n3_ n4_ n5_ n6_ n7_; clear hb ho41; obtain ⟨Ao43, co43, eo43⟩ := Kd.R_slice HO274.out; subst eo43) | ((with_reducible refine gate_builtin (b := .append) (xs := #[.tmp 47, .tmp 50]) rfl ?_); at_builtin; refine Kd.S_append (Kd.slice 3 (Kd.int .i64)) (w0 := w) w.heap.size rfl (.tmp 47) (.tmp 50) 69 22 (.slice none 0 0) 24 rfl Try.underlying69 info22 rfl (by decide) (by omega) (.slice (some ad263) x3_1.length co36) x3_1 y272 [.slice Ao43 y272.length co43] (fun _ => True) (fun k_ => some k_ = (.slice Ao43 y272.length co43 : Value).ownBlock) rfl rfl ?aP (fun k_ hk_ => ((Kd.R_mono (ok' := fun k_ => ((fun _ => True)) k_ ∧ some k_ ≠ (.slice (some ad263) x3_1.length co36 : Value).ownBlock) (Kd.R_apart' (HO274.out) (Kd.S_typed HO_3.out) (by decide)) (fun k_ hk => ⟨trivial, hk.2⟩))).1 k_ hk_.symm) ?aF ?aO ?aB ?aS ?aL ?_; (case aP => exact Kd.M_row (Kd.R_mono (Kd.R_tight rfl (Kd.R_mono (ok' := fun k_ => ((fun _ => True)) k_ ∧ some k_ ≠ (.slice (some ad263) x3_1.length co36 : Value).ownBlock) (Kd.R_apart' (HO274.out) (Kd.S_typed HO_3.out) (by decide)) (fun k_ hk => ⟨trivial, hk.2⟩))) (fun _ h_ => h_))); (case aB => exact aG); (case aF => exact (fun _ _ => trivial)); (case aO => exact (by (with_reducible repeat (first | apply Kd.S_alloc | apply Kd.S_drewN | apply Kd.S_drew)); exact Kd.S_mono HO_3.out (fun k_ hk => ⟨trivial, fun e_ => hk.2 e_⟩))); (case aS => exact (below_size aG)); (case aL => have := LMc32.out; omega); intro v276 w42 ho hb hg hat; rw [← Ny275.out] at ho; have n0_ := aM (blk_grown (g := gb257) (o := .cells #[.slice A0_0 l0_0.length c0_0, .slice (some ad261) l0_1.length c0_1] 60 (0, 0)) aK hg (Kd.S_ne HO_3.out BK257.out (by decide))); have n1_ := aM (blk_grown (g := gb262) (o := .cells #[.int .i64 ((rd_T27 l0_1 x11_1).f0), .slice A261_1 ((rd_T27 l0_1 x11_1).f1).length c261_1] 27 (0, 0)) aK hg (Kd.S_ne HO_3.out BK262.out (by decide))); have n2_ := aM (Kd.R_after (ok := (fun k_ => some k_ ≠ (.slice Ao43 y272.length co43 : Value).ownBlock)) (by (with_reducible repeat (first | apply Kd.R_alloc | apply Kd.R_drewN | apply Kd.R_drew)); exact Kd.R_mono HL263_0.out (fun _ hk => ⟨hk.2, hk.1.2⟩)) hg hat); have n3_ := aM (hb); have n4_ := aM (ho); clear BK257; clear BK262; clear HL263_0; clear HB; clear HO_3; clear HO274; have BK257 := n0_; have BK262 := n1_; have HL263_0 := n2_; have HB := n3_; have HO277 := n4_; clear n0_ n1_ n2_ n3_ n4_; clear ho hb hg hat))
              go_roundg k1
              case measure => have := HK1.out; omega
              case rel => exact ⟨(y275), (wrap64 (x11_1 + 1)), (by first | rfl | (simp; done) | (simp [*]; done)), H', ⟨by have := HK1.out; omega⟩, ⟨aS HO277⟩, ⟨by (with_reducible repeat (first | refine blk_drewN ?_ _ | refine blk_drew ?_ | refine blk_alloc ?_ _)); exact BK257.out⟩, ⟨by repeat (first | (with_reducible first | exact HB.out | apply below_alloc | apply pw_below_drewN | apply below_drew1 | refine below_set ?_ GE257.out | refine below_set ?_ GE262.out) | exact HB.out)⟩⟩
             ·rw [if_neg c32] at H
              exact absurd H (by simp)
           ·rw [if_neg c15] at H
            exact absurd H (by simp)
          ·rw [if_neg c14] at H
           exact absurd H (by simp)
         ·rw [if_neg c13] at H
          exact absurd H (by simp)
        ·rw [if_neg c12] at H
         exact absurd H (by simp)
       ·rw [if_neg c11] at H
        exact absurd H (by simp)
      ·rw [if_neg c9] at H
       have c9b0 : decide (0 ≤ (wrap64 ((x3_1.length : Int) - 1))) = false := decide_eq_false c9
       clear c9
       obtain ⟨y278, hy278⟩ : ∃ y_ : List Int, y_ = (([x11_1] : List Int)) := ⟨_, rfl⟩
       replace H : (if x3_1.length < 5864062014805 then (impl_blocks.l0 k1 (x3_1 ++ [y278]) l0_1 (l0_1.length : Int) (wrap64 (x11_1 + 1)) l0_0 l0_1) else (none)) = some r := by first | (rw [hy278]; with_reducible exact H) | (have H2_ := (Option.bind_some _ _).symm.trans H; rw [hy278]; with_reducible exact H2_) | (have H2_ := (Option.bind_some _ _).symm.trans H; with_reducible exact H2_) | with_reducible exact H | (rw [hy278]; exact H) | exact H
       have Ny278 := aM hy278
       clear hy278
       by_cases c44 : x3_1.length < 5864062014805
       ·rw [if_pos c44] at H
        have LMc44 := aM c44
        clear c44
        obtain ⟨y281, hy281⟩ : ∃ y_ : List (List Int), y_ = (x3_1 ++ [y278]) := ⟨_, rfl⟩
        replace H : (impl_blocks.l0 k1 y281 l0_1 (l0_1.length : Int) (wrap64 (x11_1 + 1)) l0_0 l0_1) = some r := by first | (rw [hy281]; with_reducible exact H) | (have H2_ := (Option.bind_some _ _).symm.trans H; rw [hy281]; with_reducible exact H2_) | (have H2_ := (Option.bind_some _ _).symm.trans H; with_reducible exact H2_) | with_reducible exact H | (rw [hy281]; exact H) | exact H
        have Ny281 := aM hy281
        clear hy281
        have H' := aM H
        clear H
        have p261 : 0 ≤ (x11_1 : Int) := aD
        have q261 : x11_1 < (l0_1.length : Int) := aD
        obtain ⟨ad261, A261_1, c261_1, e261, hx261_0, hx261_1, hl261_1, hi261_1⟩ := at_T27 HR0_1.out x11_1 p261 q261
        cases e261
        replace hx261_0 := (HB.out.cell (World.block_lt_of_cell? w _ hx261_0)).trans hx261_0
        replace hx261_1 := (HB.out.cell (World.block_lt_of_cell? w _ hx261_1)).trans hx261_1
        have HR261_1 := aM hi261_1
        have HC261_1 := aM hl261_1
        clear hi261_1 hl261_1
        replace p261 := eq_true p261
        replace q261 := eq_true q261
        try go_wp2_with (first | ((with_reducible refine gate_dst (N := 5) rfl ?_); refine box_event ?hg (N := 5) ?hd (cs := #[.int .i64 0, .slice none 0 0]) (t := 27) ?hr ?_; (case hd => rfl); (case hg => rfl); (case hr => first | (go_simp; done) | (go_simp; rfl)); intro gb262 hg w45 hbox hb; have n0_ := aM (Kd.S_below (aS HO_3) hb); have n1_ := aM (blk_below (g := gb257) (o := .cells #[.slice A0_0 l0_0.length c0_0, .slice (some ad261) l0_1.length c0_1] 60 (0, 0)) aK hb); have n2_ := aM (below_step aG hb); have n3_ := aM (hbox); have n4_ := aM ((by rw [hg]; exact (below_size aG) : w.heap.size ≤ gb262)); have n5_ := aM ((by rw [hg]; exact (below_size aG) : w.heap.size ≤ gb262)); have n6_ := aM ((by rw [hg]; exact Nat.ne_of_lt (blk_lt (g := gb257) (o := .cells #[.slice A0_0 l0_0.length c0_0, .slice (some ad261) l0_1.length c0_1] 60 (0, 0)) aK) : gb257 ≠ gb262)); have n7_ := aM ((by rw [hg]; exact Nat.ne_of_gt (blk_lt (g := gb257) (o := .cells #[.slice A0_0 l0_0.length c0_0, .slice (some ad261) l0_1.length c0_1] 60 (0, 0)) aK) : gb262 ≠ gb257)); clear HO_3; clear BK257; clear HB; have HO_3 := n0_; have BK257 := n1_; have HB := n2_; have BK262 := n3_; have GW262 := n4_; have GE262 := n5_; have NB257_262 := n6_; have NB262_257 := n7_; clear n0_ n1_ n2_ n3_ n4_ n5_ n6_ n7_; clear hb hbox hg; have hnb46 := NB262_257.out; have hnc46 := NB257_262.out; have hcz47_0 : w45.cell? ⟨gb262, 0, none⟩ = some (.int .i64 0) := (blk_cell BK262.out 0).trans rfl; have hcz47_1 : w45.cell? ⟨gb262, 1, none⟩ = some (.slice none 0 0) := (blk_cell BK262.out 1).trans rfl; have hfz47_0 := blk_frozen BK262.out 0; have hfz47_1 := blk_frozen BK262.out 1; obtain ⟨Ao48, co48, eo48⟩ := Kd.S_slice HO_3.out; subst eo48))
        have n0_ : Aside0 (Kd.S (Kd.slice 3 (Kd.int .i64)) 22 ((w45.setCell ⟨gb262, 0, none⟩ (.int .i64 ((rd_T27 l0_1 x11_1).f0))).setCell ⟨gb262, 1, none⟩ (.slice A261_1 ((rd_T27 l0_1 x11_1).f1).length c261_1)) w.heap.size (fun _ => True) (.slice Ao48 x3_1.length co48) x3_1) := ⟨by (with_reducible repeat (first | apply Kd.S_alloc | apply Kd.S_drewN | apply Kd.S_drew)); exact Kd.S_mono (Kd.S_far (p := ⟨gb262, 1, none⟩) (Kd.S_far (p := ⟨gb262, 0, none⟩) (Kd.S_types HO_3.out BK262.out (by decide)) (fun _ hk => hk.2) (.int .i64 ((rd_T27 l0_1 x11_1).f0))) (fun _ hk => hk.2) (.slice A261_1 ((rd_T27 l0_1 x11_1).f1).length c261_1)) (fun _ hk => trivial)⟩
        have n1_ : Aside0 (((w45.setCell ⟨gb262, 0, none⟩ (.int .i64 ((rd_T27 l0_1 x11_1).f0))).setCell ⟨gb262, 1, none⟩ (.slice A261_1 ((rd_T27 l0_1 x11_1).f1).length c261_1)).heap[gb257]? = some (.cells #[.slice A0_0 l0_0.length c0_0, .slice (some ad261) l0_1.length c0_1] 60 (0, 0))) := ⟨by (with_reducible repeat (first | refine blk_drewN ?_ _ | refine blk_drew ?_ | refine blk_alloc ?_ _)); refine blk_far ?_ NB257_262.out _; (with_reducible repeat (first | refine blk_drewN ?_ _ | refine blk_drew ?_ | refine blk_alloc ?_ _)); refine blk_far ?_ NB257_262.out _; (with_reducible repeat (first | refine blk_drewN ?_ _ | refine blk_drew ?_ | refine blk_alloc ?_ _)); exact BK257.out⟩
        have n2_ : Aside0 (((w45.setCell ⟨gb262, 0, none⟩ (.int .i64 ((rd_T27 l0_1 x11_1).f0))).setCell ⟨gb262, 1, none⟩ (.slice A261_1 ((rd_T27 l0_1 x11_1).f1).length c261_1)).heap[gb262]? = some (.cells #[.int .i64 ((rd_T27 l0_1 x11_1).f0), .slice A261_1 ((rd_T27 l0_1 x11_1).f1).length c261_1] 27 (0, 0))) := ⟨by (with_reducible repeat (first | refine blk_drewN ?_ _ | refine blk_drew ?_ | refine blk_alloc ?_ _)); refine blk_put (cs := #[.int .i64 ((rd_T27 l0_1 x11_1).f0), .slice none 0 0]) ?_ 1 _ rfl; (with_reducible repeat (first | refine blk_drewN ?_ _ | refine blk_drew ?_ | refine blk_alloc ?_ _)); refine blk_put (cs := #[.int .i64 0, .slice none 0 0]) ?_ 0 _ rfl; (with_reducible repeat (first | refine blk_drewN ?_ _ | refine blk_drew ?_ | refine blk_alloc ?_ _)); exact BK262.out⟩
        have n3_ : Aside0 (Below w.heap.size w ((w45.setCell ⟨gb262, 0, none⟩ (.int .i64 ((rd_T27 l0_1 x11_1).f0))).setCell ⟨gb262, 1, none⟩ (.slice A261_1 ((rd_T27 l0_1 x11_1).f1).length c261_1))) := ⟨by repeat (first | (with_reducible first | exact HB.out | apply below_alloc | apply pw_below_drewN | apply below_drew1 | refine below_set ?_ GE257.out | refine below_set ?_ GE262.out) | exact HB.out)⟩
        (try clear HO_3)
        (try clear BK257)
        (try clear BK262)
        (try clear HB)
        generalize ((w45.setCell ⟨gb262, 0, none⟩ (.int .i64 ((rd_T27 l0_1 x11_1).f0))).setCell ⟨gb262, 1, none⟩ (.slice A261_1 ((rd_T27 l0_1 x11_1).f1).length c261_1)) = w49 at n0_ n1_ n2_ n3_ ⊢
        have HO_3 := n0_
        have BK257 := n1_
        have BK262 := n2_
        have HB := n3_
        clear n0_ n1_ n2_ n3_
        have n0_ := aM (Kd.S_drew HO_3.out)
        have n1_ := aM (blk_drew BK257.out)
        have n2_ := aM (blk_drew BK262.out)
        have n3_ := aM (below_drew1 HB.out)
        clear HO_3
        clear BK257
        clear BK262
        clear HB
        have HO_3 := n0_
        have BK257 := n1_
        have BK262 := n2_
        have HB := n3_
        clear n0_ n1_ n2_ n3_
        refine start_ (n := 18) (S := fun w' => True) (ds := []) #[false, false, false, false, false, false, false, false, false, false, false, false, false, false, false, false, false, false] (by kernel_rfl) rfl rfl trivial (fun hHeld => ?_); refine with_tabW impl_blocks.tab6 impl_blocks.bits6 (fun HT_ HW_ => ?_)
        generalize w49.drew = w50 at HO_3 BK257 BK262 HB hHeld ⊢
        refine pure_ (i := 0) (N := some 19) (v := ?_) (a' := ?_) #[true, false, false, false, false, false, false, false, false, false, false, false, false, false, false, false, false, false] rfl rfl (any_of HT_.out (by kernel_rfl)) (fun _ _ _ h => h) (Or.inl ⟨by rfl, ?_⟩) ?_ ?_
        rotate_left
        ·exact aI
        rotate_left
        ·exact aP
        refine pure_ (i := 1) (N := some 20) (v := ?_) (a' := ?_) #[true, true, false, false, false, false, false, false, false, false, false, false, false, false, false, false, false, false] rfl rfl (any_of HT_.out (by kernel_rfl)) (fun _ _ _ h => h) (Or.inl ⟨by rfl, ?_⟩) ?_ ?_
        rotate_left
        ·exact aI
        rotate_left
        ·exact aP
        refine pure_ (i := 2) (N := some 21) (v := ?_) (a' := ?_) #[true, true, true, false, false, false, false, false, false, false, false, false, false, false, false, false, false, false] rfl rfl (any_of HT_.out (by kernel_rfl)) (fun _ _ _ h => h) (Or.inl ⟨by rfl, ?_⟩) ?_ ?_
        rotate_left
        ·exact aI
        rotate_left
        ·exact aP
        refine pure_ (i := 3) (N := some 22) (v := undef) (a' := ?_) #[true, true, true, true, false, false, false, false, false, false, false, false, false, false, false, false, false, false] rfl rfl (any_of HT_.out (by kernel_rfl)) (fun _ _ _ h => h) (Or.inr ⟨by rfl, rfl⟩) ?_ ?_
        rotate_left
        ·exact aP
        refine pure_ (i := 4) (N := some 23) (v := undef) (a' := ?_) #[true, true, true, true, true, false, false, false, false, false, false, false, false, false, false, false, false, false] rfl rfl (any_of HT_.out (by kernel_rfl)) (fun _ _ _ h => h) (Or.inr ⟨by rfl, rfl⟩) ?_ ?_
        rotate_left
        ·exact aP
        refine pure_ (i := 5) (N := some 24) (v := undef) (a' := ?_) #[true, true, true, true, true, true, false, false, false, false, false, false, false, false, false, false, false, false] rfl rfl (any_of HT_.out (by kernel_rfl)) (fun _ _ _ h => h) (Or.inr ⟨by rfl, rfl⟩) ?_ ?_
        rotate_left
        ·exact aP
        refine pure_ (i := 6) (N := some 25) (v := undef) (a' := ?_) #[true, true, true, true, true, true, true, false, false, false, false, false, false, false, false, false, false, false] rfl rfl (any_of HT_.out (by kernel_rfl)) (fun _ _ _ h => h) (Or.inr ⟨by rfl, rfl⟩) ?_ ?_
        rotate_left
        ·exact aP
        refine pure_ (i := 7) (N := some 26) (v := undef) (a' := ?_) #[true, true, true, true, true, true, true, true, false, false, false, false, false, false, false, false, false, false] rfl rfl (any_of HT_.out (by kernel_rfl)) (fun _ _ _ h => h) (Or.inr ⟨by rfl, rfl⟩) ?_ ?_
        rotate_left
        ·exact aP
        refine pure_ (i := 8) (N := some 27) (v := undef) (a' := ?_) #[true, true, true, true, true, true, true, true, true, false, false, false, false, false, false, false, false, false] rfl rfl (any_of HT_.out (by kernel_rfl)) (fun _ _ _ h => h) (Or.inr ⟨by rfl, rfl⟩) ?_ ?_
        rotate_left
        ·exact aP
        refine pure_ (i := 9) (N := some 28) (v := undef) (a' := ?_) #[true, true, true, true, true, true, true, true, true, true, false, false, false, false, false, false, false, false] rfl rfl (any_of HT_.out (by kernel_rfl)) (fun _ _ _ h => h) (Or.inr ⟨by rfl, rfl⟩) ?_ ?_
        rotate_left
        ·exact aP
        refine pure_ (i := 10) (N := some 29) (v := undef) (a' := ?_) #[true, true, true, true, true, true, true, true, true, true, true, false, false, false, false, false, false, false] rfl rfl (any_of HT_.out (by kernel_rfl)) (fun _ _ _ h => h) (Or.inr ⟨by rfl, rfl⟩) ?_ ?_
        rotate_left
        ·exact aP
        refine pure_ (i := 11) (N := some 30) (v := undef) (a' := ?_) #[true, true, true, true, true, true, true, true, true, true, true, true, false, false, false, false, false, false] rfl rfl (any_of HT_.out (by kernel_rfl)) (fun _ _ _ h => h) (Or.inr ⟨by rfl, rfl⟩) ?_ ?_
        rotate_left
        ·exact aP
        refine pure_ (i := 12) (N := some 31) (v := undef) (a' := ?_) #[true, true, true, true, true, true, true, true, true, true, true, true, true, false, false, false, false, false] rfl rfl (any_of HT_.out (by kernel_rfl)) (fun _ _ _ h => h) (Or.inr ⟨by rfl, rfl⟩) ?_ ?_
        rotate_left
        ·exact aP
        refine pure_ (i := 13) (N := some 32) (v := undef) (a' := ?_) #[true, true, true, true, true, true, true, true, true, true, true, true, true, true, false, false, false, false] rfl rfl (any_of HT_.out (by kernel_rfl)) (fun _ _ _ h => h) (Or.inr ⟨by rfl, rfl⟩) ?_ ?_
        rotate_left
        ·exact aP
        refine pure_ (i := 14) (N := some 33) (v := undef) (a' := ?_) #[true, true, true, true, true, true, true, true, true, true, true, true, true, true, true, false, false, false] rfl rfl (any_of HT_.out (by kernel_rfl)) (fun _ _ _ h => h) (Or.inr ⟨by rfl, rfl⟩) ?_ ?_
        rotate_left
        ·exact aP
        refine pure_ (i := 15) (N := some 34) (v := undef) (a' := ?_) #[true, true, true, true, true, true, true, true, true, true, true, true, true, true, true, true, false, false] rfl rfl (any_of HT_.out (by kernel_rfl)) (fun _ _ _ h => h) (Or.inr ⟨by rfl, rfl⟩) ?_ ?_
        rotate_left
        ·exact aP
        refine pure_ (i := 16) (N := some 35) (v := undef) (a' := ?_) #[true, true, true, true, true, true, true, true, true, true, true, true, true, true, true, true, true, false] rfl rfl (any_of HT_.out (by kernel_rfl)) (fun _ _ _ h => h) (Or.inr ⟨by rfl, rfl⟩) ?_ ?_
        rotate_left
        ·exact aP
        refine pure_ (i := 17) (N := some 36) (v := ?_) (a' := ?_) #[true, true, true, true, true, true, true, true, true, true, true, true, true, true, true, true, true, true] rfl rfl (any_of HT_.out (by kernel_rfl)) (fun _ _ _ h => h) (Or.inl ⟨by rfl, ?_⟩) ?_ ?_
        rotate_left
        ·exact aI
        rotate_left
        ·exact aP
        refine done_ (done_of HT_.out (by kernel_rfl)) ?_
        try go_wp2_with (first | ((with_reducible refine gate_dst (N := 49) rfl ?_); refine Kd.R_lit (Kd.int .i64) _ 3 ?hg (N := 49) ?hd (xs := ([x11_1] : List Int)) (inner := [.int .i64 x11_1]) (ok := fun _ => True) (okp := fun _ => True) ?hr ?hp (fun _ hk => hk) trivial (Below.refl _ _) (Nat.le_refl _) (by simp) ?_; (case hd => rfl); (case hg => rfl); (case hr => first | (go_simp; done) | (go_simp; rfl)); (case hp => exact (Reps.one (show Kd.M (Kd.int .i64) _ _ _ x11_1 [.int .i64 x11_1] from rfl) (Reps.none _ _))); intro v279 w51 ho52 hb hg_ hnew_; clear hg_ hnew_; (first | rw [← Ny278.out] at ho52 | (simp only [Int.reduceToNat] at ho52; rw [← Ny278.out] at ho52)); have n0_ := aM (Kd.S_elder' (aS HO_3) (Kd.R_base ho52) hb); have n1_ := aM (Kd.R_lower ho52 (below_size aG)); have n2_ := aM (blk_below (g := gb257) (o := .cells #[.slice A0_0 l0_0.length c0_0, .slice (some ad261) l0_1.length c0_1] 60 (0, 0)) aK hb); have n3_ := aM (blk_below (g := gb262) (o := .cells #[.int .i64 ((rd_T27 l0_1 x11_1).f0), .slice A261_1 ((rd_T27 l0_1 x11_1).f1).length c261_1] 27 (0, 0)) aK hb); have n4_ := aM (below_step aG hb); clear HO_3; clear BK257; clear BK262; clear HB; have HO_3 := n0_; have HO280 := n1_; have BK257 := n2_; have BK262 := n3_; have HB := n4_; clear n0_ n1_ n2_ n3_ n4_; clear hb ho52; obtain ⟨Ao54, co54, eo54⟩ := Kd.R_slice HO280.out; subst eo54) | ((with_reducible refine gate_builtin (b := .append) (xs := #[.tmp 47, .tmp 50]) rfl ?_); at_builtin; refine Kd.S_append (Kd.slice 3 (Kd.int .i64)) (w0 := w) w.heap.size rfl (.tmp 47) (.tmp 50) 69 22 (.slice none 0 0) 24 rfl Try.underlying69 info22 rfl (by decide) (by omega) (.slice Ao48 x3_1.length co48) x3_1 y278 [.slice Ao54 y278.length co54] (fun _ => True) (fun k_ => some k_ = (.slice Ao54 y278.length co54 : Value).ownBlock) rfl rfl ?aP (fun k_ hk_ => ((Kd.R_mono (ok' := fun k_ => ((fun _ => True)) k_ ∧ some k_ ≠ (.slice Ao48 x3_1.length co48 : Value).ownBlock) (Kd.R_apart' (HO280.out) (Kd.S_typed HO_3.out) (by decide)) (fun k_ hk => ⟨trivial, hk.2⟩))).1 k_ hk_.symm) ?aF ?aO ?aB ?aS ?aL ?_; (case aP => exact Kd.M_row (Kd.R_mono (Kd.R_tight rfl (Kd.R_mono (ok' := fun k_ => ((fun _ => True)) k_ ∧ some k_ ≠ (.slice Ao48 x3_1.length co48 : Value).ownBlock) (Kd.R_apart' (HO280.out) (Kd.S_typed HO_3.out) (by decide)) (fun k_ hk => ⟨trivial, hk.2⟩))) (fun _ h_ => h_))); (case aB => exact aG); (case aF => exact (fun _ _ => trivial)); (case aO => exact (by (with_reducible repeat (first | apply Kd.S_alloc | apply Kd.S_drewN | apply Kd.S_drew)); exact Kd.S_mono HO_3.out (fun k_ hk => ⟨trivial, fun e_ => hk.2 e_⟩))); (case aS => exact (below_size aG)); (case aL => have := LMc44.out; omega); intro v282 w53 ho hb hg hat; rw [← Ny281.out] at ho; have n0_ := aM (blk_grown (g := gb257) (o := .cells #[.slice A0_0 l0_0.length c0_0, .slice (some ad261) l0_1.length c0_1] 60 (0, 0)) aK hg (Kd.S_ne HO_3.out BK257.out (by decide))); have n1_ := aM (blk_grown (g := gb262) (o := .cells #[.int .i64 ((rd_T27 l0_1 x11_1).f0), .slice A261_1 ((rd_T27 l0_1 x11_1).f1).length c261_1] 27 (0, 0)) aK hg (Kd.S_ne HO_3.out BK262.out (by decide))); have n2_ := aM (hb); have n3_ := aM (ho); clear BK257; clear BK262; clear HB; clear HO_3; clear HO280; have BK257 := n0_; have BK262 := n1_; have HB := n2_; have HO283 := n3_; clear n0_ n1_ n2_ n3_; clear ho hb hg hat))
        go_roundg k1
        case measure => have := HK1.out; omega
        case rel => exact ⟨(y281), (wrap64 (x11_1 + 1)), (by first | rfl | (simp; done) | (simp [*]; done)), H', ⟨by have := HK1.out; omega⟩, ⟨aS HO283⟩, ⟨by (with_reducible repeat (first | refine blk_drewN ?_ _ | refine blk_drew ?_ | refine blk_alloc ?_ _)); exact BK257.out⟩, ⟨by repeat (first | (with_reducible first | exact HB.out | apply below_alloc | apply pw_below_drewN | apply below_drew1 | refine below_set ?_ GE257.out | refine below_set ?_ GE262.out) | exact HB.out)⟩⟩
       ·rw [if_neg c44] at H
        exact absurd H (by simp)
     ·rw [if_neg c8] at H
      exact absurd H (by simp)
    ·rw [if_neg c7] at H
     exact absurd H (by simp)
   ·rw [if_neg c6] at H
    have c6b0 : decide (x11_1 < (l0_1.length : Int)) = false := decide_eq_false c6
    clear c6
    obtain rfl := Option.some.inj H
    go_wp2
    go_ret
    exact ⟨_, by first | rfl | (simp [errW_none, errW_some] <;> rfl) | (simp [*, errW_none, errW_some] <;> rfl), aS HO_3, by repeat (first | (with_reducible first | exact HB.out | apply below_alloc | apply pw_below_drewN | apply below_drew1 | refine below_set ?_ GE257.out) | exact HB.out)⟩

end Go.Proofs.Ytddeflhambegiaa.PFnExactBlocks
