-- Laid by a program of this claim: what the functions come to, some of them proved by hand.
import Derived.Test.YtehlhbidmanbmaaPFnExactIsRepairx0
import Derived.Test.YtehlhbidmanbmaaPFnExactIsRepairx21
namespace Go.Proofs.Ytehlhbidmanbmaa.PFnExactIsRepair
open Go.RowKit Go.Proofs.YtehlhbidmanbmaaW.PrintWords Go.Proofs.YtehlhbidmanbmaaW.PrintLast Go.Proofs.YtehlhbidmanbmaaW.PrintMore
attribute [local go_sem] max2_int min2_int max_two min_two max_three min_three max_four min_four   -- for this text's walks alone
set_option linter.unusedVariables false
set_option linter.unusedSimpArgs false

/-! ### impl_blocks: function 82 -/
def impl_blocks.l0 : Nat → List (List Int) → List (S50) → Int → Int → List (S86) → List (S50) → Option ((List (List Int)))
 | 0, _, _, _, _, _, _ => none
 | k + 1, x3, x9, x10, x11, x349000, x349001 => if x11 < x10 then (if 0 ≤ x11 then (if x11 < (x9.length : Int) then (if (wrap64 ((x3.length : Int) - 1)) ≥ 0 then (if 0 ≤ (wrap64 ((x3.length : Int) - 1)) then (if (wrap64 ((x3.length : Int) - 1)) < (x3.length : Int) then (if 0 < ((rd_L3 x3 (wrap64 ((x3.length : Int) - 1))).length : Int) then (if 0 ≤ (rd (rd_L3 x3 (wrap64 ((x3.length : Int) - 1))) 0) then (if (rd (rd_L3 x3 (wrap64 ((x3.length : Int) - 1))) 0) < (x349001.length : Int) then ((impl_sameKey.f x349000 ((rd_T50 x349001 (rd (rd_L3 x3 (wrap64 ((x3.length : Int) - 1))) 0)).f0) ((rd_T50 x349001 (rd (rd_L3 x3 (wrap64 ((x3.length : Int) - 1))) 0)).f1) ((rd_T50 x9 x11).f0) ((rd_T50 x9 x11).f1)).bind fun t357 => (if t357 = true then (if (rd_L3 x3 (wrap64 ((x3.length : Int) - 1))).length < 17592186044416 then (impl_blocks.l0 k (x3.set ((wrap64 ((x3.length : Int) - 1)) : Int).toNat ((rd_L3 x3 (wrap64 ((x3.length : Int) - 1))) ++ [x11])) x9 x10 (wrap64 (x11 + 1)) x349000 x349001) else (none)) else (if x3.length < 5864062014805 then (impl_blocks.l0 k (x3 ++ [(([x11] : List Int))]) x9 x10 (wrap64 (x11 + 1)) x349000 x349001) else (none)))) else (none)) else (none)) else (none)) else (none)) else (none)) else (if x3.length < 5864062014805 then (impl_blocks.l0 k (x3 ++ [(([x11] : List Int))]) x9 x10 (wrap64 (x11 + 1)) x349000 x349001) else (none))) else (none)) else (none)) else (some x3)
def impl_blocks.f (k : Nat) (l0_0 : List (S86)) (l0_1 : List (S50)) : Option ((List (List Int))) := impl_blocks.l0 k (([] : List (List Int))) l0_1 (l0_1.length : Int) 0 l0_0 l0_1
theorem impl_blocks.mono_l : ∀ k, (∀ y0 y1 y2 y3 y4 y5, LeO (impl_blocks.l0 k y0 y1 y2 y3 y4 y5) (impl_blocks.l0 (k + 1) y0 y1 y2 y3 y4 y5))
 | 0 => fun _ _ _ _ _ _ r h => by simp [impl_blocks.l0] at h
 | k + 1 => by
  have ih0 := impl_blocks.mono_l k
  ·intro y0 y1 y2 y3 y4 y5
   unfold impl_blocks.l0
   repeat' first
   | (with_reducible exact ih0 _ _ _ _ _ _)
   | (with_reducible exact LeO.refl _)
   | (with_reducible exact LeO.none _)
   | (with_reducible refine LeO.ite ?_ ?_)
   | (with_reducible refine LeO.bind ?_ (fun _ => ?_))
   | exact ih0 _ _ _ _ _ _
   | exact LeO.none _
   | refine LeO.ite ?_ ?_
   | refine LeO.bind ?_ (fun _ => ?_)
theorem impl_blocks.mono : ∀ a0 a1 k, LeO (impl_blocks.f k a0 a1) (impl_blocks.f (k + 1) a0 a1) := by
 intro a0 a1 k
 have ih0 := impl_blocks.mono_l k
 unfold impl_blocks.f
 repeat' first
   | (with_reducible exact ih0 _ _ _ _ _ _)
   | (with_reducible exact LeO.refl _)
   | (with_reducible exact LeO.none _)
   | (with_reducible refine LeO.ite ?_ ?_)
   | (with_reducible refine LeO.bind ?_ (fun _ => ?_))
   | exact ih0 _ _ _ _ _ _
   | exact LeO.none _
   | refine LeO.ite ?_ ?_
   | refine LeO.bind ?_ (fun _ => ?_)
def impl_blocks.T6 : Bool × List (List Nat × List Nat) := (true, [([], []), ([0], [0]), ([1], [1]), ([2], [2]), ([3, 2], [2, 3]), ([2], [2]), ([5, 2], [2, 5]), ([2], [2]), ([2], [2]), ([7, 8, 2], [2, 7, 8]), ([9, 2], [2, 9]), ([10, 2], [2, 10]), ([11, 2], [2, 11]), ([6, 12, 2], [2, 6, 12]), ([13, 2], [2, 13]), ([2], [2]), ([4, 14, 15, 2, 2], [2, 4, 14, 15]), ([2, 16], [2, 16])])
def impl_blocks.B6 : List Nat := [0, 1, 3, 7, 15, 7, 39, 7, 7, 391, 903, 1927, 3975, 8167, 16359, 7, 65535, 131071]
theorem impl_blocks.tab6 : rtab .any (opsOf Try.f82 6) = impl_blocks.T6 := by kernel_rfl
theorem impl_blocks.bits6 : waitsOk impl_blocks.T6.2 impl_blocks.B6 = true := by kernel_rfl
set_option maxHeartbeats 8000000 in
set_option maxRecDepth 100000 in
theorem impl_blocks.calls (k : Nat) (A0_0 : Option Addr) (c0_0 : Nat) (l0_0 : List (S86)) (A0_1 : Option Addr) (c0_1 : Nat) (l0_1 : List (S50)) (r : List (List Int)) (w : World) (hr0_0 : Kd.C k86 w A0_0 l0_0.length l0_0) (hc0_0 : l0_0.length ≤ c0_0) (hr0_1 : Kd.C k50 w A0_1 l0_1.length l0_1) (hc0_1 : l0_1.length ≤ c0_1) (h : impl_blocks.f k l0_0 l0_1 = some r) :
  Calls Try.prog 82 #[.agg #[.slice A0_0 l0_0.length c0_0, .slice A0_1 l0_1.length c0_1]] w fun e w' => ∃ v0_ : Value, e = .returned (v0_) ∧ Kd.S (Kd.slice 3 (Kd.int .i64)) 26 w' w.heap.size (fun _ => True) v0_ r ∧ Below w.heap.size w w' := by
 have hu32 := Try.underlying32
 have hu50 := Try.underlying50
 have HR0_0 := Aside0.mk hr0_0
 have HC0_0 := Aside0.mk hc0_0
 clear hr0_0 hc0_0
 have HR0_1 := Aside0.mk hr0_1
 have HC0_1 := Aside0.mk hc0_1
 clear hr0_1 hc0_1
 have HB := Aside0.mk (Below.refl w.heap.size w)
 have H : (impl_blocks.l0 k (([] : List (List Int))) l0_1 (l0_1.length : Int) 0 l0_0 l0_1) = some r := h
 clear h
 obtain ⟨y349, hy349⟩ : ∃ y_ : List (List Int), y_ = (([] : List (List Int))) := ⟨_, rfl⟩
 replace H : (impl_blocks.l0 k y349 l0_1 (l0_1.length : Int) 0 l0_0 l0_1) = some r := by first | (rw [hy349]; with_reducible exact H) | (have H2_ := (Option.bind_some _ _).symm.trans H; rw [hy349]; with_reducible exact H2_) | (have H2_ := (Option.bind_some _ _).symm.trans H; with_reducible exact H2_) | with_reducible exact H | (rw [hy349]; exact H) | exact H
 have Ny349 := Aside0.mk hy349
 clear hy349
 have H' := Aside0.mk H
 clear H
 go_enter Try.func82, Try.ntmps82
 go_wp2_with (first | ((with_reducible refine gate_dst (N := 1) rfl ?_); refine box_event ?hg (N := 1) ?hd (cs := #[.slice A0_0 l0_0.length c0_0, .slice A0_1 l0_1.length c0_1]) (t := 32) ?hr ?_; (case hd => rfl); (case hg => rfl); (case hr => first | (go_simp; done) | (go_simp; rfl)); intro gb348 hg w2 hbox hb; have n0_ := Aside0.mk (below_step aB hb); have n1_ := Aside0.mk (hbox); have n2_ := Aside0.mk ((by rw [hg]; exact (below_size aB) : w.heap.size ≤ gb348)); have n3_ := Aside0.mk ((by rw [hg]; exact (below_size aB) : w.heap.size ≤ gb348)); clear HB; have HB := n0_; have BK348 := n1_; have GW348 := n2_; have GE348 := n3_; clear n0_ n1_ n2_ n3_; clear hb hbox hg) | ((with_reducible refine gate_dst (N := 7) rfl ?_); refine Kd.S_lit (Kd.slice 3 (Kd.int .i64)) _ 26 ?hg (N := 7) ?hd (xs := ([] : List (List Int))) (inner := []) (ok := fun _ => True) (okp := fun _ => True) ?hr ?hp (fun _ hk => hk) trivial (Below.refl _ _) (Nat.le_refl _) (by simp) ?_; (case hd => rfl); (case hg => rfl); (case hr => first | (go_simp; done) | (go_simp; rfl)); (case hp => exact (Reps.none _ _)); intro v350 w3 ho4 hb hg_ hnew_; clear hg_ hnew_; (first | rw [← Ny349.out] at ho4 | (simp only [Int.reduceToNat] at ho4; rw [← Ny349.out] at ho4)); have n0_ := Aside0.mk (Kd.S_lower ho4 (below_size aG)); have n1_ := Aside0.mk (blk_below (g := gb348) (o := .cells #[.slice A0_0 l0_0.length c0_0, .slice A0_1 l0_1.length c0_1] 32 (0, 0)) aK hb); have n2_ := Aside0.mk (below_step aG hb); clear BK348; clear HB; have HO351 := n0_; have BK348 := n1_; have HB := n2_; clear n0_ n1_ n2_; clear hb ho4; have hcz5_0 : w3.cell? ⟨gb348, 0, none⟩ = some (.slice A0_0 l0_0.length c0_0) := (blk_cell BK348.out 0).trans rfl; have hcz5_1 : w3.cell? ⟨gb348, 1, none⟩ = some (.slice A0_1 l0_1.length c0_1) := (blk_cell BK348.out 1).trans rfl; have hfz5_0 := blk_frozen BK348.out 0; have hfz5_1 := blk_frozen BK348.out 1))
 go_loopg [3, 11] k (fun kq v3 v11 w' => ∃ (x3_1 : List (List Int)) (x11_1 : Int), v11 = .int .i64 x11_1 ∧ Aside0 (impl_blocks.l0 kq x3_1 l0_1 (l0_1.length : Int) x11_1 l0_0 l0_1 = some r) ∧ Aside0 (kq ≤ k) ∧ Aside0 (Kd.S (Kd.slice 3 (Kd.int .i64)) 26 w' w.heap.size (fun _ => True) v3 x3_1) ∧ Aside0 (w'.heap[gb348]? = some (.cells #[(.slice A0_0 l0_0.length c0_0), (.slice A0_1 l0_1.length c0_1)] 32 (0, 0))) ∧ Aside0 (Below w.heap.size w w'))
 case atStart => exact ⟨(y349), (0), (by first | rfl | (simp; done) | (simp [*]; done)), H', ⟨Nat.le_refl _⟩, ⟨by (with_reducible repeat (first | apply Kd.S_alloc | apply Kd.S_drewN | apply Kd.S_drew)); exact HO351.out⟩, ⟨by (with_reducible repeat (first | refine blk_drewN ?_ _ | refine blk_drew ?_ | refine blk_alloc ?_ _)); exact BK348.out⟩, ⟨by repeat (first | (with_reducible first | exact HB.out | apply below_alloc | apply pw_below_drewN | apply below_drew1 | refine below_set ?_ GE348.out) | exact HB.out)⟩⟩
 case round =>
  clear H'
  try clear p2
  try clear hcz5_0
  try clear hcz5_1
  try clear hfz5_0
  try clear hfz5_1
  obtain ⟨x3_1, x11_1, rfl, HA, HK1, HO_3, BK348, HB⟩ := hrel
  cases gk with
  | zero => exact absurd HA.out (by simp [impl_blocks.l0])
  | succ k1 =>
   have H := HA.out
   clear HA
   simp only [impl_blocks.l0] at H
   by_cases c6 : x11_1 < (l0_1.length : Int)
   ·rw [if_pos c6] at H
    have c6b0 : decide (x11_1 < (l0_1.length : Int)) = true := decide_eq_true c6
    clear c6
    by_cases c7 : 0 ≤ x11_1
    ·rw [if_pos c7] at H
     have c7b0 : decide (0 ≤ x11_1) = true := decide_eq_true c7
     clear c7
     by_cases c8 : x11_1 < (l0_1.length : Int)
     ·rw [if_pos c8] at H
      have c8b0 : decide (x11_1 < (l0_1.length : Int)) = true := decide_eq_true c8
      clear c8
      by_cases c9 : (wrap64 ((x3_1.length : Int) - 1)) ≥ 0
      ·rw [if_pos c9] at H
       have c9b0 : decide (0 ≤ (wrap64 ((x3_1.length : Int) - 1))) = true := decide_eq_true c9
       clear c9
       obtain ⟨ji10, hji10⟩ : ∃ j_ : Int, (wrap64 ((x3_1.length : Int) - 1)) = j_ := ⟨_, rfl⟩
       replace H : (if 0 ≤ (ji10) then (if (ji10) < (x3_1.length : Int) then (if 0 < ((rd_L3 x3_1 (ji10)).length : Int) then (if 0 ≤ (rd (rd_L3 x3_1 (ji10)) 0) then (if (rd (rd_L3 x3_1 (ji10)) 0) < (l0_1.length : Int) then ((impl_sameKey.f l0_0 ((rd_T50 l0_1 (rd (rd_L3 x3_1 (ji10)) 0)).f0) ((rd_T50 l0_1 (rd (rd_L3 x3_1 (ji10)) 0)).f1) ((rd_T50 l0_1 x11_1).f0) ((rd_T50 l0_1 x11_1).f1)).bind fun t357 => (if t357 = true then (if (rd_L3 x3_1 (ji10)).length < 17592186044416 then (impl_blocks.l0 k1 (x3_1.set ((ji10) : Int).toNat ((rd_L3 x3_1 (ji10)) ++ [x11_1])) l0_1 (l0_1.length : Int) (wrap64 (x11_1 + 1)) l0_0 l0_1) else (none)) else (if x3_1.length < 5864062014805 then (impl_blocks.l0 k1 (x3_1 ++ [(([x11_1] : List Int))]) l0_1 (l0_1.length : Int) (wrap64 (x11_1 + 1)) l0_0 l0_1) else (none)))) else (none)) else (none)) else (none)) else (none)) else (none)) = some r := by first | (rw [hji10] at H; exact H) | (simp only [hji10] at H ⊢; exact H)
       (try rw [hji10] at c9b0)
       have hji10w : (IntKind.i64.wrap ((x3_1.length : Int) - 1)) = ji10 := (i64_w _).trans hji10
       by_cases c11 : 0 ≤ (ji10)
       ·rw [if_pos c11] at H
        have c11b0 : decide (0 ≤ (ji10)) = true := decide_eq_true c11
        clear c11
        by_cases c12 : (ji10) < (x3_1.length : Int)
        ·rw [if_pos c12] at H
         have c12b0 : decide ((ji10) < (x3_1.length : Int)) = true := decide_eq_true c12
         clear c12
         by_cases c13 : 0 < ((rd_L3 x3_1 (ji10)).length : Int)
         ·rw [if_pos c13] at H
          have c13b0 : decide (0 < ((rd_L3 x3_1 (ji10)).length : Int)) = true := decide_eq_true c13
          have c13b1 : decide (0 < (rd_L3 x3_1 (ji10)).length) = true := decide_eq_true (by omega)
          clear c13
          by_cases c14 : 0 ≤ (rd (rd_L3 x3_1 (ji10)) 0)
          ·rw [if_pos c14] at H
           have c14b0 : decide (0 ≤ (rd (rd_L3 x3_1 (ji10)) 0)) = true := decide_eq_true c14
           clear c14
           by_cases c15 : (rd (rd_L3 x3_1 (ji10)) 0) < (l0_1.length : Int)
           ·rw [if_pos c15] at H
            have c15b0 : decide ((rd (rd_L3 x3_1 (ji10)) 0) < (l0_1.length : Int)) = true := decide_eq_true c15
            clear c15
            replace H := Option.bind_eq_some_iff.mp H
            obtain ⟨t357, A160, H⟩ := H
            replace H : (if t357 = true then (if (rd_L3 x3_1 (ji10)).length < 17592186044416 then (impl_blocks.l0 k1 (x3_1.set ((ji10) : Int).toNat ((rd_L3 x3_1 (ji10)) ++ [x11_1])) l0_1 (l0_1.length : Int) (wrap64 (x11_1 + 1)) l0_0 l0_1) else (none)) else (if x3_1.length < 5864062014805 then (impl_blocks.l0 k1 (x3_1 ++ [(([x11_1] : List Int))]) l0_1 (l0_1.length : Int) (wrap64 (x11_1 + 1)) l0_0 l0_1) else (none))) = some r := H
            have A16 := Aside0.mk A160
            clear A160
            by_cases c17 : t357 = true
            ·subst c17
             have H1 : (if (rd_L3 x3_1 (ji10)).length < 17592186044416 then (impl_blocks.l0 k1 (x3_1.set ((ji10) : Int).toNat ((rd_L3 x3_1 (ji10)) ++ [x11_1])) l0_1 (l0_1.length : Int) (wrap64 (x11_1 + 1)) l0_0 l0_1) else (none)) = some r := by rw [if_pos rfl] at H; exact H
             clear H
             have H := H1
             clear H1
             by_cases c18 : (rd_L3 x3_1 (ji10)).length < 17592186044416
             ·rw [if_pos c18] at H
              have LMc18 := Aside0.mk c18
              clear c18
              obtain ⟨y359, hy359⟩ : ∃ y_ : List Int, y_ = ((rd_L3 x3_1 (ji10)) ++ [x11_1]) := ⟨_, rfl⟩
              replace H : (impl_blocks.l0 k1 (x3_1.set ((ji10) : Int).toNat y359) l0_1 (l0_1.length : Int) (wrap64 (x11_1 + 1)) l0_0 l0_1) = some r := by first | (rw [hy359]; with_reducible exact H) | (have H2_ := (Option.bind_some _ _).symm.trans H; rw [hy359]; with_reducible exact H2_) | (have H2_ := (Option.bind_some _ _).symm.trans H; with_reducible exact H2_) | with_reducible exact H | (rw [hy359]; exact H) | exact H
              have Ny359 := Aside0.mk hy359
              clear hy359
              obtain ⟨y362, hy362⟩ : ∃ y_ : List (List Int), y_ = (x3_1.set ((ji10) : Int).toNat y359) := ⟨_, rfl⟩
              replace H : (impl_blocks.l0 k1 y362 l0_1 (l0_1.length : Int) (wrap64 (x11_1 + 1)) l0_0 l0_1) = some r := by first | (rw [hy362]; with_reducible exact H) | (have H2_ := (Option.bind_some _ _).symm.trans H; rw [hy362]; with_reducible exact H2_) | (have H2_ := (Option.bind_some _ _).symm.trans H; with_reducible exact H2_) | with_reducible exact H | (rw [hy362]; exact H) | exact H
              have Ny362 := Aside0.mk hy362
              clear hy362
              have H' := Aside0.mk H
              clear H
              have p352 : 0 ≤ (x11_1 : Int) := aD
              have q352 : x11_1 < (l0_1.length : Int) := aD
              obtain ⟨ad352, A352_1, c352_1, e352, hx352_0, hx352_1, hl352_1, hi352_1⟩ := at_T50 HR0_1.out x11_1 p352 q352
              cases e352
              replace hx352_0 := (HB.out.cell (World.block_lt_of_cell? w _ hx352_0)).trans hx352_0
              replace hx352_1 := (HB.out.cell (World.block_lt_of_cell? w _ hx352_1)).trans hx352_1
              have HR352_1 := Aside0.mk hi352_1
              have HC352_1 := Aside0.mk hl352_1
              clear hi352_1 hl352_1
              replace p352 := eq_true p352
              replace q352 := eq_true q352
              try go_wp2_with (first | ((with_reducible refine gate_dst (N := 5) rfl ?_); refine box_event ?hg (N := 5) ?hd (cs := #[.int .i64 0, .slice none 0 0]) (t := 50) ?hr ?_; (case hd => rfl); (case hg => rfl); (case hr => first | (go_simp; done) | (go_simp; rfl)); intro gb353 hg w20 hbox hb; have n0_ := Aside0.mk (Kd.S_below (by (with_reducible repeat (first | apply Kd.S_alloc | apply Kd.S_drewN | apply Kd.S_drew)); exact HO_3.out) hb); have n1_ := Aside0.mk (blk_below (g := gb348) (o := .cells #[.slice A0_0 l0_0.length c0_0, .slice (some ad352) l0_1.length c0_1] 32 (0, 0)) aK hb); have n2_ := Aside0.mk (below_step aG hb); have n3_ := Aside0.mk (hbox); have n4_ := Aside0.mk ((by rw [hg]; exact (below_size aG) : w.heap.size ≤ gb353)); have n5_ := Aside0.mk ((by rw [hg]; exact (below_size aG) : w.heap.size ≤ gb353)); have n6_ := Aside0.mk ((by rw [hg]; exact Nat.ne_of_lt (blk_lt (g := gb348) (o := .cells #[.slice A0_0 l0_0.length c0_0, .slice (some ad352) l0_1.length c0_1] 32 (0, 0)) aK) : gb348 ≠ gb353)); have n7_ := Aside0.mk ((by rw [hg]; exact Nat.ne_of_gt (blk_lt (g := gb348) (o := .cells #[.slice A0_0 l0_0.length c0_0, .slice (some ad352) l0_1.length c0_1] 32 (0, 0)) aK) : gb353 ≠ gb348)); clear HO_3; clear BK348; clear HB; have HO_3 := n0_; have BK348 := n1_; have HB := n2_; have BK353 := n3_; have GW353 := n4_; have GE353 := n5_; have NB348_353 := n6_; have NB353_348 := n7_; clear n0_ n1_ n2_ n3_ n4_ n5_ n6_ n7_; clear hb hbox hg; have hnb21 := NB353_348.out; have hnc21 := NB348_353.out; have hcz22_0 : w20.cell? ⟨gb353, 0, none⟩ = some (.int .i64 0) := (blk_cell BK353.out 0).trans rfl; have hcz22_1 : w20.cell? ⟨gb353, 1, none⟩ = some (.slice none 0 0) := (blk_cell BK353.out 1).trans rfl; have hfz22_0 := blk_frozen BK353.out 0; have hfz22_1 := blk_frozen BK353.out 1; obtain ⟨Ao23, co23, eo23⟩ := Kd.S_slice HO_3.out; subst eo23))
              have n0_ : Aside0 (Kd.S (Kd.slice 3 (Kd.int .i64)) 26 ((w20.setCell ⟨gb353, 0, none⟩ (.int .i64 ((rd_T50 l0_1 x11_1).f0))).setCell ⟨gb353, 1, none⟩ (.slice A352_1 ((rd_T50 l0_1 x11_1).f1).length c352_1)) w.heap.size (fun _ => True) (.slice Ao23 x3_1.length co23) x3_1) := ⟨by (with_reducible repeat (first | apply Kd.S_alloc | apply Kd.S_drewN | apply Kd.S_drew)); exact Kd.S_mono (Kd.S_far (p := ⟨gb353, 1, none⟩) (Kd.S_far (p := ⟨gb353, 0, none⟩) (Kd.S_types HO_3.out BK353.out (by decide)) (fun _ hk => hk.2) (.int .i64 ((rd_T50 l0_1 x11_1).f0))) (fun _ hk => hk.2) (.slice A352_1 ((rd_T50 l0_1 x11_1).f1).length c352_1)) (fun _ hk => trivial)⟩
              have n1_ : Aside0 (((w20.setCell ⟨gb353, 0, none⟩ (.int .i64 ((rd_T50 l0_1 x11_1).f0))).setCell ⟨gb353, 1, none⟩ (.slice A352_1 ((rd_T50 l0_1 x11_1).f1).length c352_1)).heap[gb348]? = some (.cells #[.slice A0_0 l0_0.length c0_0, .slice (some ad352) l0_1.length c0_1] 32 (0, 0))) := ⟨by (with_reducible repeat (first | refine blk_drewN ?_ _ | refine blk_drew ?_ | refine blk_alloc ?_ _)); refine blk_far ?_ NB348_353.out _; (with_reducible repeat (first | refine blk_drewN ?_ _ | refine blk_drew ?_ | refine blk_alloc ?_ _)); refine blk_far ?_ NB348_353.out _; (with_reducible repeat (first | refine blk_drewN ?_ _ | refine blk_drew ?_ | refine blk_alloc ?_ _)); exact BK348.out⟩
              have n2_ : Aside0 (((w20.setCell ⟨gb353, 0, none⟩ (.int .i64 ((rd_T50 l0_1 x11_1).f0))).setCell ⟨gb353, 1, none⟩ (.slice A352_1 ((rd_T50 l0_1 x11_1).f1).length c352_1)).heap[gb353]? = some (.cells #[.int .i64 ((rd_T50 l0_1 x11_1).f0), .slice A352_1 ((rd_T50 l0_1 x11_1).f1).length c352_1] 50 (0, 0))) := ⟨by (with_reducible repeat (first | refine blk_drewN ?_ _ | refine blk_drew ?_ | refine blk_alloc ?_ _)); refine blk_put (cs := #[.int .i64 ((rd_T50 l0_1 x11_1).f0), .slice none 0 0]) ?_ 1 _ rfl; (with_reducible repeat (first | refine blk_drewN ?_ _ | refine blk_drew ?_ | refine blk_alloc ?_ _)); refine blk_put (cs := #[.int .i64 0, .slice none 0 0]) ?_ 0 _ rfl; (with_reducible repeat (first | refine blk_drewN ?_ _ | refine blk_drew ?_ | refine blk_alloc ?_ _)); exact BK353.out⟩
              have n3_ : Aside0 (Below w.heap.size w ((w20.setCell ⟨gb353, 0, none⟩ (.int .i64 ((rd_T50 l0_1 x11_1).f0))).setCell ⟨gb353, 1, none⟩ (.slice A352_1 ((rd_T50 l0_1 x11_1).f1).length c352_1))) := ⟨by repeat (first | (with_reducible first | exact HB.out | apply below_alloc | apply pw_below_drewN | apply below_drew1 | refine below_set ?_ GE348.out | refine below_set ?_ GE353.out) | exact HB.out)⟩
              (try clear HO_3)
              (try clear BK348)
              (try clear BK353)
              (try clear HB)
              generalize ((w20.setCell ⟨gb353, 0, none⟩ (.int .i64 ((rd_T50 l0_1 x11_1).f0))).setCell ⟨gb353, 1, none⟩ (.slice A352_1 ((rd_T50 l0_1 x11_1).f1).length c352_1)) = w24 at n0_ n1_ n2_ n3_ ⊢
              have HO_3 := n0_
              have BK348 := n1_
              have BK353 := n2_
              have HB := n3_
              clear n0_ n1_ n2_ n3_
              have n0_ := Aside0.mk (Kd.S_drew HO_3.out)
              have n1_ := Aside0.mk (blk_drew BK348.out)
              have n2_ := Aside0.mk (blk_drew BK353.out)
              have n3_ := Aside0.mk (below_drew1 HB.out)
              clear HO_3
              clear BK348
              clear BK353
              clear HB
              have HO_3 := n0_
              have BK348 := n1_
              have BK353 := n2_
              have HB := n3_
              clear n0_ n1_ n2_ n3_
              have p354 : 0 ≤ ((ji10) : Int) := aD
              have q354 : (ji10) < (x3_1.length : Int) := aD
              obtain ⟨ad354, A354_0, c354_0, e354, hx354_0, hl354_0, hi354_0⟩ := at_L3 (Kd.S_reads' HO_3.out).2.2 (ji10) p354 q354
              cases e354
              obtain ⟨ce354, hce354, hMe354, hcc354⟩ := Kd.S_get HO_3.out [] (ji10) p354 (by first | exact q354 | exact aD | (have e_ := (Kd.S_reads' HO_3.out).1; omega))
              obtain ⟨ve354_0, rfl, ge354_0⟩ := hMe354
              have hv354_0 := hcc354 0 _ rfl
              rw [Nat.add_zero, show ((Kd.slice 3 (Kd.int .i64))).sz = 1 from rfl, Nat.mul_one] at hv354_0
              replace hv354_0 := Option.some.inj (hv354_0.symm.trans hx354_0)
              rw [hv354_0] at ge354_0
              have HL354_0 := Aside0.mk (show Kd.R (Kd.int .i64) 3 _ _ _ _ (rd_L3 x3_1 (ji10)) from ge354_0)
              clear hv354_0 ge354_0
              have HX354_0 := Aside0.mk hx354_0
              clear hcc354 hce354
              have HR354_0 := Aside0.mk hi354_0
              have HC354_0 := Aside0.mk hl354_0
              clear hi354_0 hl354_0
              replace p354 := eq_true p354
              replace q354 := eq_true q354
              have p355 : 0 ≤ (0 : Int) := (by omega)
              have q355 : 0 < ((rd_L3 x3_1 (ji10)).length : Int) := aD
              obtain ⟨ad355, e355, hx355_0⟩ := Kd.at_int (by repeat (first | (with_reducible exact HR354_0.out) | (with_reducible refine Kd.C_alloc ?_ _) | (with_reducible refine Kd.C_drewN ?_ _) | (with_reducible refine Kd.C_drew ?_) | exact HR354_0.out)) 0 p355 q355
              cases e355
              have qi355 : (0 < (rd_L3 x3_1 (ji10)).length) = True := eq_true (by omega)
              (try rw [show ((0 : Int)).toNat = 0 from rfl] at hx355_0)
              (try rw [Addr.add_zero'] at hx355_0)
              replace p355 := eq_true p355
              replace q355 := eq_true q355
              have p356 : 0 ≤ ((rd (rd_L3 x3_1 (ji10)) 0) : Int) := aD
              have q356 : (rd (rd_L3 x3_1 (ji10)) 0) < (l0_1.length : Int) := aD
              obtain ⟨ad356, A356_1, c356_1, e356, hx356_0, hx356_1, hl356_1, hi356_1⟩ := at_T50 HR0_1.out (rd (rd_L3 x3_1 (ji10)) 0) p356 q356
              have hw356_1 := hx356_1
              have hw356_0 := hx356_0
              obtain rfl : ad352 = ad356 := (by injection e356)
              replace hx356_0 := (HB.out.cell (World.block_lt_of_cell? w _ hx356_0)).trans hx356_0
              replace hx356_1 := (HB.out.cell (World.block_lt_of_cell? w _ hx356_1)).trans hx356_1
              have HR356_1 := Aside0.mk hi356_1
              have HC356_1 := Aside0.mk hl356_1
              clear hi356_1 hl356_1
              replace p356 := eq_true p356
              replace q356 := eq_true q356
              refine start_ (n := 18) (S := fun w' => w'.cell? ⟨gb348, 0, none⟩ = some (.slice A0_0 l0_0.length c0_0) ∧ w'.cell? ⟨gb348, 1, none⟩ = some (.slice (some ad352) l0_1.length c0_1) ∧ w'.cell? ⟨gb353, 0, none⟩ = some (.int .i64 ((rd_T50 l0_1 x11_1).f0)) ∧ w'.cell? ⟨gb353, 1, none⟩ = some (.slice A352_1 ((rd_T50 l0_1 x11_1).f1).length c352_1) ∧ w'.cell? (ad354.add ((ji10)).toNat) = some (.slice (some ad355) (rd_L3 x3_1 (ji10)).length c354_0) ∧ w'.cell? ad355 = some (.int .i64 (rd (rd_L3 x3_1 (ji10)) 0)) ∧ w'.cell? (ad352.add (((rd (rd_L3 x3_1 (ji10)) 0)).toNat * 2)) = some (.int .i64 ((rd_T50 l0_1 (rd (rd_L3 x3_1 (ji10)) 0)).f0)) ∧ w'.cell? ⟨(ad352.add (((rd (rd_L3 x3_1 (ji10)) 0)).toNat * 2)).block, (ad352.add (((rd (rd_L3 x3_1 (ji10)) 0)).toNat * 2)).off + 1, none⟩ = some (.slice A356_1 ((rd_T50 l0_1 (rd (rd_L3 x3_1 (ji10)) 0)).f1).length c356_1)) (ds := []) #[false, false, false, false, false, false, false, false, false, false, false, false, false, false, false, false, false, false] (by kernel_rfl) rfl rfl ⟨(blk_cell BK348.out 0).trans rfl, (blk_cell BK348.out 1).trans rfl, (blk_cell BK353.out 0).trans rfl, (blk_cell BK353.out 1).trans rfl, hx354_0, hx355_0, ((HB.out.cell (World.block_lt_of_cell? w _ hw356_0)).trans hw356_0), ((HB.out.cell (World.block_lt_of_cell? w _ hw356_1)).trans hw356_1)⟩ (fun hHeld => ?_); refine with_tabW impl_blocks.tab6 impl_blocks.bits6 (fun HT_ HW_ => ?_)
              generalize w24.drew = w25 at HO_3 BK348 BK353 HB HL354_0 HR354_0 HR356_1 HX354_0 hx354_0 hx355_0 hx356_0 hx356_1 hHeld ⊢
              refine pure_ (i := 0) (N := some 19) (v := ?_) (a' := ?_) #[true, false, false, false, false, false, false, false, false, false, false, false, false, false, false, false, false, false] rfl rfl (any_of HT_.out (by kernel_rfl)) (fun _ _ _ h => h) (Or.inl ⟨by rfl, ?_⟩) ?_ ?_
              rotate_left
              ·intro w'
               go_simp
               with_reducible rfl
              rotate_left
              ·simp only [Act.put, List.setIfInBounds_toArray, List.set_cons_zero, List.set_cons_succ, i64_w, i32_w]
               rfl
              refine pure_ (i := 1) (N := some 20) (v := ?_) (a' := ?_) #[true, true, false, false, false, false, false, false, false, false, false, false, false, false, false, false, false, false] rfl rfl (any_of HT_.out (by kernel_rfl)) (fun _ _ _ h => h) (Or.inl ⟨by rfl, ?_⟩) ?_ ?_
              rotate_left
              ·intro w'
               go_simp
               with_reducible rfl
              rotate_left
              ·simp only [Act.put, List.setIfInBounds_toArray, List.set_cons_zero, List.set_cons_succ, i64_w, i32_w]
               rfl
              refine pure_ (i := 2) (N := some 21) (v := ?_) (a' := ?_) #[true, true, true, false, false, false, false, false, false, false, false, false, false, false, false, false, false, false] rfl rfl (any_of HT_.out (by kernel_rfl)) (fun _ _ _ h => h) (Or.inl ⟨by rfl, ?_⟩) ?_ ?_
              rotate_left
              ·intro w'
               go_simp
               with_reducible rfl
              rotate_left
              ·simp only [Act.put, List.setIfInBounds_toArray, List.set_cons_zero, List.set_cons_succ, i64_w, i32_w]
               rfl
              refine pure_ (i := 3) (N := some 22) (v := ?_) (a' := ?_) #[true, true, true, true, false, false, false, false, false, false, false, false, false, false, false, false, false, false] rfl rfl (any_of HT_.out (by kernel_rfl)) (fun _ _ _ h => h) (Or.inl ⟨by rfl, ?_⟩) ?_ ?_
              rotate_left
              ·intro w'
               go_simp
               with_reducible rfl
              rotate_left
              ·simp only [Act.put, List.setIfInBounds_toArray, List.set_cons_zero, List.set_cons_succ, i64_w, i32_w]
               rfl
              refine pure_ (i := 5) (N := some 24) (v := ?_) (a' := ?_) #[true, true, true, true, false, true, false, false, false, false, false, false, false, false, false, false, false, false] rfl rfl (any_of HT_.out (by kernel_rfl)) (fun _ _ _ h => h) (Or.inl ⟨by rfl, ?_⟩) ?_ ?_
              rotate_left
              ·intro w'
               go_simp
               with_reducible rfl
              rotate_left
              ·simp only [Act.put, List.setIfInBounds_toArray, List.set_cons_zero, List.set_cons_succ, i64_w, i32_w]
               rfl
              refine pure_ (i := 7) (N := some 26) (v := ?_) (a' := ?_) #[true, true, true, true, false, true, false, true, false, false, false, false, false, false, false, false, false, false] rfl rfl (any_of HT_.out (by kernel_rfl)) (fun _ _ _ h => h) (Or.inl ⟨by rfl, ?_⟩) ?_ ?_
              rotate_left
              ·intro w'
               go_simp
               with_reducible rfl
              rotate_left
              ·simp only [Act.put, List.setIfInBounds_toArray, List.set_cons_zero, List.set_cons_succ, i64_w, i32_w]
               rfl
              refine pure_ (i := 8) (N := some 27) (v := ?_) (a' := ?_) #[true, true, true, true, false, true, false, true, true, false, false, false, false, false, false, false, false, false] rfl rfl (any_of HT_.out (by kernel_rfl)) (fun _ _ _ h => h) (Or.inl ⟨by rfl, ?_⟩) ?_ ?_
              rotate_left
              ·intro w'
               go_simp
               with_reducible rfl
              rotate_left
              ·simp only [Act.put, List.setIfInBounds_toArray, List.set_cons_zero, List.set_cons_succ, i64_w, i32_w]
               rfl
              refine pure_ (i := 9) (N := some 28) (v := ?_) (a' := ?_) #[true, true, true, true, false, true, false, true, true, true, false, false, false, false, false, false, false, false] rfl rfl (any_of HT_.out (by kernel_rfl)) (fun _ _ _ h => h) (Or.inl ⟨by rfl, ?_⟩) ?_ ?_
              rotate_left
              ·intro w'
               go_simp
               with_reducible rfl
              rotate_left
              ·simp only [Act.put, List.setIfInBounds_toArray, List.set_cons_zero, List.set_cons_succ, i64_w, i32_w]
               rfl
              refine take_ (i := 4) (N := some 23) (v := ?_) (a' := ?_) #[true, true, true, true, true, true, false, true, true, true, false, false, false, false, false, false, false, false] rfl rfl (take_ofW HT_.out HW_.out (by kernel_rfl)) (fun _ _ _ h => h) (Or.inl ⟨by rfl, ?_⟩) hHeld ?_ ?_
              rotate_left
              ·rintro w' ⟨s0, s1, s2, s3, s4, s5, s6, s7⟩
               go_simp
               with_reducible rfl
              rotate_left
              ·simp only [Act.put, List.setIfInBounds_toArray, List.set_cons_zero, List.set_cons_succ, i64_w, i32_w]
               rfl
              refine take_ (i := 6) (N := some 25) (v := ?_) (a' := ?_) #[true, true, true, true, true, true, true, true, true, true, false, false, false, false, false, false, false, false] rfl rfl (take_ofW HT_.out HW_.out (by kernel_rfl)) (fun _ _ _ h => h) (Or.inl ⟨by rfl, ?_⟩) hHeld ?_ ?_
              rotate_left
              ·rintro w' ⟨s0, s1, s2, s3, s4, s5, s6, s7⟩
               go_simp
               with_reducible rfl
              rotate_left
              ·simp only [Act.put, List.setIfInBounds_toArray, List.set_cons_zero, List.set_cons_succ, i64_w, i32_w]
               rfl
              refine take_ (i := 10) (N := some 29) (v := ?_) (a' := ?_) #[true, true, true, true, true, true, true, true, true, true, true, false, false, false, false, false, false, false] rfl rfl (take_ofW HT_.out HW_.out (by kernel_rfl)) (fun _ _ _ h => h) (Or.inl ⟨by rfl, ?_⟩) hHeld ?_ ?_
              rotate_left
              ·rintro w' ⟨s0, s1, s2, s3, s4, s5, s6, s7⟩
               go_simp
               with_reducible rfl
              rotate_left
              ·simp only [Act.put, List.setIfInBounds_toArray, List.set_cons_zero, List.set_cons_succ, i64_w, i32_w]
               rfl
              refine pure_ (i := 11) (N := some 30) (v := ?_) (a' := ?_) #[true, true, true, true, true, true, true, true, true, true, true, true, false, false, false, false, false, false] rfl rfl (any_of HT_.out (by kernel_rfl)) (fun _ _ _ h => h) (Or.inl ⟨by rfl, ?_⟩) ?_ ?_
              rotate_left
              ·intro w'
               go_simp
               with_reducible rfl
              rotate_left
              ·simp only [Act.put, List.setIfInBounds_toArray, List.set_cons_zero, List.set_cons_succ, i64_w, i32_w]
               rfl
              refine take_ (i := 12) (N := some 31) (v := ?_) (a' := ?_) #[true, true, true, true, true, true, true, true, true, true, true, true, true, false, false, false, false, false] rfl rfl (take_ofW HT_.out HW_.out (by kernel_rfl)) (fun _ _ _ h => h) (Or.inl ⟨by rfl, ?_⟩) hHeld ?_ ?_
              rotate_left
              ·rintro w' ⟨s0, s1, s2, s3, s4, s5, s6, s7⟩
               go_simp
               with_reducible rfl
              rotate_left
              ·simp only [Act.put, List.setIfInBounds_toArray, List.set_cons_zero, List.set_cons_succ, i64_w, i32_w]
               rfl
              refine pure_ (i := 13) (N := some 32) (v := ?_) (a' := ?_) #[true, true, true, true, true, true, true, true, true, true, true, true, true, true, false, false, false, false] rfl rfl (any_of HT_.out (by kernel_rfl)) (fun _ _ _ h => h) (Or.inl ⟨by rfl, ?_⟩) ?_ ?_
              rotate_left
              ·intro w'
               go_simp
               with_reducible rfl
              rotate_left
              ·simp only [Act.put, List.setIfInBounds_toArray, List.set_cons_zero, List.set_cons_succ, i64_w, i32_w]
               rfl
              refine take_ (i := 14) (N := some 33) (v := ?_) (a' := ?_) #[true, true, true, true, true, true, true, true, true, true, true, true, true, true, true, false, false, false] rfl rfl (take_ofW HT_.out HW_.out (by kernel_rfl)) (fun _ _ _ h => h) (Or.inl ⟨by rfl, ?_⟩) hHeld ?_ ?_
              rotate_left
              ·rintro w' ⟨s0, s1, s2, s3, s4, s5, s6, s7⟩
               go_simp
               with_reducible rfl
              rotate_left
              ·simp only [Act.put, List.setIfInBounds_toArray, List.set_cons_zero, List.set_cons_succ, i64_w, i32_w]
               rfl
              refine take_ (i := 15) (N := some 34) (v := ?_) (a' := ?_) #[true, true, true, true, true, true, true, true, true, true, true, true, true, true, true, true, false, false] rfl rfl (take_ofW HT_.out HW_.out (by kernel_rfl)) (fun _ _ _ h => h) (Or.inl ⟨by rfl, ?_⟩) hHeld ?_ ?_
              rotate_left
              ·rintro w' ⟨s0, s1, s2, s3, s4, s5, s6, s7⟩
               go_simp
               with_reducible rfl
              rotate_left
              ·simp only [Act.put, List.setIfInBounds_toArray, List.set_cons_zero, List.set_cons_succ, i64_w, i32_w]
               rfl
              refine one_ (i := 16) (N := some 35) #[true, true, true, true, true, true, true, true, true, true, true, true, true, true, true, true, true, false] rfl rfl (one_of HT_.out (by kernel_rfl)) (by decide) (fun K hK => ?_)
              refine goes_ Try.func104 (by kernel_rfl) rfl #[.slice A0_0 l0_0.length c0_0, .agg #[.int .i64 ((rd_T50 l0_1 (rd (rd_L3 x3_1 (ji10)) 0)).f0), .slice A356_1 ((rd_T50 l0_1 (rd (rd_L3 x3_1 (ji10)) 0)).f1).length c356_1], .agg #[.int .i64 ((rd_T50 l0_1 x11_1).f0), .slice A352_1 ((rd_T50 l0_1 x11_1).f1).length c352_1]] (by rfl) rfl rfl (by (try simp only [List.map_toArray, List.map_cons, List.map_nil]); first | done | (simp only [hji10]; rfl) | rfl | (simp only [List.length_drop, List.length_take]; rfl)) ?_
              with_reducible refine (impl_sameKey.calls _ _ l0_0 ((rd_T50 l0_1 (rd (rd_L3 x3_1 (ji10)) 0)).f0) _ _ ((rd_T50 l0_1 (rd (rd_L3 x3_1 (ji10)) 0)).f1) ((rd_T50 l0_1 x11_1).f0) _ _ ((rd_T50 l0_1 x11_1).f1) true _ ?side1 ?side2 ?side3 ?side4 ?side5 ?side6 A16.out).mono ?_
              (case side1 => exact aC)
              (case side2 => exact HC0_0.out)
              (case side3 => exact aC)
              (case side4 => exact HC356_1.out)
              (case side5 => exact aC)
              (case side6 => exact HC352_1.out)
              rintro e w26 ⟨rfl, hb⟩
              have HS4_ := (hb.cell (World.block_lt_of_cell? _ _ (hHeld.2.2.2.2.1))).trans (hHeld.2.2.2.2.1)
              have HS5_ := (hb.cell (World.block_lt_of_cell? _ _ (hHeld.2.2.2.2.2.1))).trans (hHeld.2.2.2.2.2.1)
              refine ⟨_, rfl, ?_⟩
              have n0_ := Aside0.mk (Kd.S_below (by (with_reducible repeat (first | apply Kd.S_alloc | apply Kd.S_drewN | apply Kd.S_drew)); exact HO_3.out) hb)
              have n1_ := Aside0.mk (Kd.R_below (by (with_reducible repeat (first | apply Kd.R_alloc | apply Kd.R_drewN | apply Kd.R_drew)); exact HL354_0.out) hb)
              have n2_ := Aside0.mk (blk_below (g := gb348) (o := .cells #[.slice A0_0 l0_0.length c0_0, .slice (some ad352) l0_1.length c0_1] 32 (0, 0)) aK hb)
              have n3_ := Aside0.mk (blk_below (g := gb353) (o := .cells #[.int .i64 ((rd_T50 l0_1 x11_1).f0), .slice A352_1 ((rd_T50 l0_1 x11_1).f1).length c352_1] 50 (0, 0)) aK hb)
              have n4_ := Aside0.mk (Kd.C_below (by repeat (first | (with_reducible exact HR354_0.out) | (with_reducible refine Kd.C_alloc ?_ _) | (with_reducible refine Kd.C_drewN ?_ _) | (with_reducible refine Kd.C_drew ?_) | exact HR354_0.out)) hb)
              have n5_ := Aside0.mk (pw_cell_below hb HX354_0.out)
              have n6_ := Aside0.mk (below_step aG hb)
              clear HO_3
              clear HL354_0
              clear BK348
              clear BK353
              clear HR354_0
              clear HX354_0
              clear HB
              have HO_3 := n0_
              have HL354_0 := n1_
              have BK348 := n2_
              have BK353 := n3_
              have HR354_0 := n4_
              have HX354_0 := n5_
              have HB := n6_
              clear n0_ n1_ n2_ n3_ n4_ n5_ n6_
              (try clear hb)
              (try clear hb2)
              (try clear hk)
              (try clear hi)
              refine hK.out _ _ ⟨(blk_cell BK348.out 0).trans rfl, (blk_cell BK348.out 1).trans rfl, (blk_cell BK353.out 0).trans rfl, (blk_cell BK353.out 1).trans rfl, HS4_, HS5_, ((HB.out.cell (World.block_lt_of_cell? w _ hw356_0)).trans hw356_0), ((HB.out.cell (World.block_lt_of_cell? w _ hw356_1)).trans hw356_1)⟩ (fun hHeld => ?_)
              clear hK K
              refine norm_ (a' := ?_) ?_ ?_
              rotate_left
              ·show Act.put _ (some 35) _ = _
               simp only [Act.put, List.setIfInBounds_toArray, List.set_cons_zero, List.set_cons_succ, i64_w, i32_w]
               rfl
              refine pure_ (i := 17) (N := some 36) (v := ?_) (a' := ?_) #[true, true, true, true, true, true, true, true, true, true, true, true, true, true, true, true, true, true] rfl rfl (any_of HT_.out (by kernel_rfl)) (fun _ _ _ h => h) (Or.inl ⟨by rfl, ?_⟩) ?_ ?_
              rotate_left
              ·intro w'
               go_simp
               with_reducible rfl
              rotate_left
              ·simp only [Act.put, List.setIfInBounds_toArray, List.set_cons_zero, List.set_cons_succ, i64_w, i32_w]
               rfl
              refine done_ (done_of HT_.out (by kernel_rfl)) ?_
              have p358 : 0 ≤ ((ji10) : Int) := aD
              have q358 : (ji10) < (x3_1.length : Int) := aD
              obtain ⟨ad358, A358_0, c358_0, e358, hx358_0, hl358_0, hi358_0⟩ := at_L3 (Kd.S_reads' HO_3.out).2.2 (ji10) p358 q358
              obtain rfl : ad354 = ad358 := (by injection e358)
              obtain ⟨ce358, hce358, hMe358, hcc358⟩ := Kd.S_get HO_3.out [] (ji10) p358 (by first | exact q358 | exact aD | (have e_ := (Kd.S_reads' HO_3.out).1; omega))
              obtain ⟨ve358_0, rfl, ge358_0⟩ := hMe358
              have hv358_0 := hcc358 0 _ rfl
              rw [Nat.add_zero, show ((Kd.slice 3 (Kd.int .i64))).sz = 1 from rfl, Nat.mul_one] at hv358_0
              replace hv358_0 := Option.some.inj (hv358_0.symm.trans hx358_0)
              rw [hv358_0] at ge358_0
              have HL358_0 := Aside0.mk (show Kd.R (Kd.int .i64) 3 _ _ _ _ (rd_L3 x3_1 (ji10)) from ge358_0)
              clear hv358_0 ge358_0
              have HX358_0 := Aside0.mk hx358_0
              clear hcc358 hce358
              have HR358_0 := Aside0.mk hi358_0
              have HC358_0 := Aside0.mk hl358_0
              clear hi358_0 hl358_0
              replace p358 := eq_true p358
              replace q358 := eq_true q358
              obtain ⟨go27, co27, eo27, gb27, gl27, cl27, HG27⟩ := Kd.S_form HO_3.out (by have h_ : ((ji10) : Int) < ((x3_1.length : Int) : Int) := aD; have h2_ : 0 ≤ ((ji10) : Int) := (aD); omega)
              (first | cases eo27 | (injection eo27 with ea_ en_ ec_; (first | subst ea_ | (injection ea_ with ea_; subst ea_)); subst ec_; clear en_))
              have GB27 := Aside0.mk gb27
              have GG27 := Aside0.mk HG27
              clear gb27 gl27 HG27
              (first | simp only [add_plain] at hx354_0 | skip)
              (first | simp only [add_plain] at hx358_0 | skip)
              obtain ⟨oki27, ce27, hcl27, hM27, hcc27, _, _, hH27⟩ := Kd.S_elem HO_3.out [] ((ji10) : Int) (aD) (by have h_ : ((ji10) : Int) < ((x3_1.length : Int) : Int) := aD; first | exact h_ | (have e_ := (Kd.S_reads' HO_3.out).1; omega) | simpa using h_)
              obtain ⟨ve27_0, rfl, ge27_0⟩ := hM27
              have hv27 := hcc27 0 _ rfl
              have hX27 := HX358_0.out
              (try simp only [add_plain] at hX27)
              (try simp only [Nat.add_zero] at hv27)
              (try rw [show ((Kd.slice 3 (Kd.int .i64))).sz = 1 from rfl, Nat.mul_one] at hv27)
              replace hv27 := Option.some.inj (hv27.symm.trans hX27)
              subst hv27
              clear hX27 hcc27 hcl27
              have UU27 := Aside0.mk (show Kd.R (Kd.int .i64) 3 _ w.heap.size oki27 (.slice A358_0 (rd_L3 x3_1 (ji10)).length c358_0) (rd_L3 x3_1 (ji10)) from ge27_0)
              have HH27 := Aside0.mk hH27
              have HN27 := Aside0.mk (Kd.S_reads' HO_3.out).1
              clear hH27 ge27_0
              try go_wp2_with (first | ((with_reducible refine gate_builtin (b := .append) (xs := #[.tmp 42, .tmp 44]) rfl ?_); at_builtin; refine Kd.R_append (Kd.int .i64) (w0 := w) w.heap.size rfl (.tmp 42) (.tmp 44) 26 3 (.int .i64 0) 8 rfl Try.underlying26 info3 rfl (by decide) (by omega) (.slice A358_0 (rd_L3 x3_1 (ji10)).length c358_0) (rd_L3 x3_1 (ji10)) x11_1 [.int .i64 x11_1] (fun k_ => oki27 k_ ∨ ((fun _ => True)) k_ ∧ w26.heap.size ≤ k_) (fun _ => False) rfl rfl ?aP (fun _ hk => hk.elim) ?aF ?aO ?aB ?aS ?aL ?_; (case aP => exact rfl); (case aB => exact aG); (case aF => exact (fun k_ hk => .inr ⟨trivial, hk⟩)); (case aO => exact (by (with_reducible repeat (first | apply Kd.R_alloc | apply Kd.R_drewN | apply Kd.R_drew)); exact Kd.R_mono UU27.out (fun _ hk => .inl hk))); (case aS => exact (below_size aG)); (case aL => have := LMc18.out; omega); intro v360 w28 ho hb hg hat; rw [← Ny359.out] at ho; have n0_ := Aside0.mk (blk_grown (g := gb348) (o := .cells #[.slice A0_0 l0_0.length c0_0, .slice (some ad352) l0_1.length c0_1] 32 (0, 0)) aK hg (Kd.R_ne HL358_0.out BK348.out (by decide))); have n1_ := Aside0.mk (blk_grown (g := gb353) (o := .cells #[.int .i64 ((rd_T50 l0_1 x11_1).f0), .slice A352_1 ((rd_T50 l0_1 x11_1).f1).length c352_1] 50 (0, 0)) aK hg (Kd.R_ne HL358_0.out BK353.out (by decide))); have n2_ := Aside0.mk (hb); have n3_ := Aside0.mk (Kd.H_grown (Kd.H_widen (by repeat (first | exact HH27.out | refine Kd.H_alloc ?_ _ | refine Kd.H_drewN ?_ _ | refine Kd.H_drew ?_))) hg (fun k_ e_ => .inl (UU27.out.1 k_ e_))); have n4_ := Aside0.mk (ho); clear BK348; clear BK353; clear HB; clear HH27; clear HO_3; clear UU27; clear HL354_0; clear HL358_0; have BK348 := n0_; have BK353 := n1_; have HB := n2_; have HH27 := n3_; have HO361 := n4_; clear n0_ n1_ n2_ n3_ n4_; clear ho hb hg hat; have p19 : 0 ≤ ((ji10) : Int) := aD; have q19 : ((ji10) : Int) < ((x3_1.length : Int) : Int) := aD; replace p19 := eq_true p19; replace q19 := eq_true q19; obtain ⟨Ao31, co31, eo31⟩ := Kd.R_slice HO361.out; subst eo31; obtain ⟨_, _, hraw29, _, _, hcc29, _⟩ := Kd.H_raw HH27.out (aD) (by have h_ : ((ji10) : Int) < ((x3_1.length : Int) : Int) := aD; first | exact h_ | (have e_ := (HN27.out); omega) | simpa using h_); obtain ⟨_, hfr29⟩ := Kd.H_at HH27.out (aD) (by have h_ : ((ji10) : Int) < ((x3_1.length : Int) : Int) := aD; first | exact h_ | (have e_ := (HN27.out); omega) | simpa using h_); have hx29_0 := hcc29 0 _ rfl; have hf29_0 := hfr29 0; (try simp only [Nat.add_zero] at hx29_0 hf29_0); (try rw [show ((Kd.slice 3 (Kd.int .i64))).sz = 1 from rfl, Nat.mul_one] at hx29_0); (try rw [show ((Kd.slice 3 (Kd.int .i64))).sz = 1 from rfl, Nat.mul_one] at hf29_0); have HP29 := Kd.S_seg0 HH27.out (aD) (by have h_ : ((ji10) : Int) < ((x3_1.length : Int) : Int) := aD; first | exact h_ | (have e_ := (HN27.out); omega) | simpa using h_) (seg := [.slice Ao31 y359.length co31]) (j := 0) (show 1 ≤ 1 from by decide) (x' := y359) (Kd.M_row HO361.out) (fun _ hk => hk); (try simp only [show ((Kd.slice 3 (Kd.int .i64))).sz = 1 from rfl, Nat.mul_one, Nat.add_zero] at HP29); clear hcc29 hfr29) | ((with_reducible refine gate_store (t := 26) (p := 46) rfl ?_); refine store_event (t := 26) (p := 46) (v := ?vo_w30) (w1 := (w28.setCell ⟨go27, ((ji10) : Int).toNat, none⟩ (.slice Ao31 y359.length co31))) ?hg ?ho ?hn ?hr ?_; (case ho => rfl); (case hg => rfl); (case hn => rfl); (case hr => first | (go_simp; done) | (go_simp; rfl) | (obtain ⟨A_, c_, e_⟩ := Kd.R_slice HO361.out; subst e_; first | (go_simp; done) | (go_simp; rfl)) | (obtain ⟨A_, c_, e_⟩ := Kd.R_slice HO_3.out; subst e_; first | (go_simp; done) | (go_simp; rfl))); intro w30 hw; have hg : w28.grownBy w30 (some go27) := (by rw [hw]; exact HP29.2); have hp_ : Kd.S (Kd.slice 3 (Kd.int .i64)) 26 w30 w.heap.size (fun _ => True) (.slice (some ⟨go27, 0, none⟩) x3_1.length co23) y362 := (by rw [hw, Ny362.out]; exact HP29.1); clear HP29; have n0_ := Aside0.mk (blk_grown (g := gb348) (o := .cells #[.slice A0_0 l0_0.length c0_0, .slice (some ad352) l0_1.length c0_1] 32 (0, 0)) aK hg (Kd.R_ne hraw29 BK348.out (by decide))); have n1_ := Aside0.mk (blk_grown (g := gb353) (o := .cells #[.int .i64 ((rd_T50 l0_1 x11_1).f0), .slice A352_1 ((rd_T50 l0_1 x11_1).f1).length c352_1] 50 (0, 0)) aK hg (Kd.R_ne hraw29 BK353.out (by decide))); have n2_ := Aside0.mk ((by rw [hw]; exact below_set HB.out GB27.out : Below w.heap.size w w30)); have n3_ := Aside0.mk (hp_); clear BK348; clear BK353; clear HB; clear HO361; clear HH27; have BK348 := n0_; have BK353 := n1_; have HB := n2_; have HO_3 := n3_; clear n0_ n1_ n2_ n3_; clear hg hw hp_ hraw29))
              go_roundg k1
              case measure => have := HK1.out; omega
              case rel => exact ⟨(y362), (wrap64 (x11_1 + 1)), (by first | rfl | (simp; done) | (simp [*]; done)), H', ⟨by have := HK1.out; omega⟩, ⟨by (with_reducible repeat (first | apply Kd.S_alloc | apply Kd.S_drewN | apply Kd.S_drew)); exact HO_3.out⟩, ⟨by (with_reducible repeat (first | refine blk_drewN ?_ _ | refine blk_drew ?_ | refine blk_alloc ?_ _)); exact BK348.out⟩, ⟨by repeat (first | (with_reducible first | exact HB.out | apply below_alloc | apply pw_below_drewN | apply below_drew1 | refine below_set ?_ GE348.out | refine below_set ?_ GE353.out) | exact HB.out)⟩⟩
             ·rw [if_neg c18] at H
              exact absurd H (by simp)
            ·replace c17 := Bool.eq_false_iff.mpr c17
             subst c17
             have H1 : (if x3_1.length < 5864062014805 then (impl_blocks.l0 k1 (x3_1 ++ [(([x11_1] : List Int))]) l0_1 (l0_1.length : Int) (wrap64 (x11_1 + 1)) l0_0 l0_1) else (none)) = some r := by rw [if_neg (show ¬ (false = true) by decide)] at H; exact H
             clear H
             have H := H1
             clear H1
             obtain ⟨y363, hy363⟩ : ∃ y_ : List Int, y_ = (([x11_1] : List Int)) := ⟨_, rfl⟩
             replace H : (if x3_1.length < 5864062014805 then (impl_blocks.l0 k1 (x3_1 ++ [y363]) l0_1 (l0_1.length : Int) (wrap64 (x11_1 + 1)) l0_0 l0_1) else (none)) = some r := by first | (rw [hy363]; with_reducible exact H) | (have H2_ := (Option.bind_some _ _).symm.trans H; rw [hy363]; with_reducible exact H2_) | (have H2_ := (Option.bind_some _ _).symm.trans H; with_reducible exact H2_) | with_reducible exact H | (rw [hy363]; exact H) | exact H
             have Ny363 := Aside0.mk hy363
             clear hy363
             by_cases c32 : x3_1.length < 5864062014805
             ·rw [if_pos c32] at H
              have LMc32 := Aside0.mk c32
              clear c32
              obtain ⟨y366, hy366⟩ : ∃ y_ : List (List Int), y_ = (x3_1 ++ [y363]) := ⟨_, rfl⟩
              replace H : (impl_blocks.l0 k1 y366 l0_1 (l0_1.length : Int) (wrap64 (x11_1 + 1)) l0_0 l0_1) = some r := by first | (rw [hy366]; with_reducible exact H) | (have H2_ := (Option.bind_some _ _).symm.trans H; rw [hy366]; with_reducible exact H2_) | (have H2_ := (Option.bind_some _ _).symm.trans H; with_reducible exact H2_) | with_reducible exact H | (rw [hy366]; exact H) | exact H
              have Ny366 := Aside0.mk hy366
              clear hy366
              have H' := Aside0.mk H
              clear H
              have p352 : 0 ≤ (x11_1 : Int) := aD
              have q352 : x11_1 < (l0_1.length : Int) := aD
              obtain ⟨ad352, A352_1, c352_1, e352, hx352_0, hx352_1, hl352_1, hi352_1⟩ := at_T50 HR0_1.out x11_1 p352 q352
              cases e352
              replace hx352_0 := (HB.out.cell (World.block_lt_of_cell? w _ hx352_0)).trans hx352_0
              replace hx352_1 := (HB.out.cell (World.block_lt_of_cell? w _ hx352_1)).trans hx352_1
              have HR352_1 := Aside0.mk hi352_1
              have HC352_1 := Aside0.mk hl352_1
              clear hi352_1 hl352_1
              replace p352 := eq_true p352
              replace q352 := eq_true q352
              try go_wp2_with (first | ((with_reducible refine gate_dst (N := 5) rfl ?_); refine box_event ?hg (N := 5) ?hd (cs := #[.int .i64 0, .slice none 0 0]) (t := 50) ?hr ?_; (case hd => rfl); (case hg => rfl); (case hr => first | (go_simp; done) | (go_simp; rfl)); intro gb353 hg w33 hbox hb; have n0_ := Aside0.mk (Kd.S_below (by (with_reducible repeat (first | apply Kd.S_alloc | apply Kd.S_drewN | apply Kd.S_drew)); exact HO_3.out) hb); have n1_ := Aside0.mk (blk_below (g := gb348) (o := .cells #[.slice A0_0 l0_0.length c0_0, .slice (some ad352) l0_1.length c0_1] 32 (0, 0)) aK hb); have n2_ := Aside0.mk (below_step aG hb); have n3_ := Aside0.mk (hbox); have n4_ := Aside0.mk ((by rw [hg]; exact (below_size aG) : w.heap.size ≤ gb353)); have n5_ := Aside0.mk ((by rw [hg]; exact (below_size aG) : w.heap.size ≤ gb353)); have n6_ := Aside0.mk ((by rw [hg]; exact Nat.ne_of_lt (blk_lt (g := gb348) (o := .cells #[.slice A0_0 l0_0.length c0_0, .slice (some ad352) l0_1.length c0_1] 32 (0, 0)) aK) : gb348 ≠ gb353)); have n7_ := Aside0.mk ((by rw [hg]; exact Nat.ne_of_gt (blk_lt (g := gb348) (o := .cells #[.slice A0_0 l0_0.length c0_0, .slice (some ad352) l0_1.length c0_1] 32 (0, 0)) aK) : gb353 ≠ gb348)); clear HO_3; clear BK348; clear HB; have HO_3 := n0_; have BK348 := n1_; have HB := n2_; have BK353 := n3_; have GW353 := n4_; have GE353 := n5_; have NB348_353 := n6_; have NB353_348 := n7_; clear n0_ n1_ n2_ n3_ n4_ n5_ n6_ n7_; clear hb hbox hg; have hnb34 := NB353_348.out; have hnc34 := NB348_353.out; have hcz35_0 : w33.cell? ⟨gb353, 0, none⟩ = some (.int .i64 0) := (blk_cell BK353.out 0).trans rfl; have hcz35_1 : w33.cell? ⟨gb353, 1, none⟩ = some (.slice none 0 0) := (blk_cell BK353.out 1).trans rfl; have hfz35_0 := blk_frozen BK353.out 0; have hfz35_1 := blk_frozen BK353.out 1; obtain ⟨Ao36, co36, eo36⟩ := Kd.S_slice HO_3.out; subst eo36))
              have n0_ : Aside0 (Kd.S (Kd.slice 3 (Kd.int .i64)) 26 ((w33.setCell ⟨gb353, 0, none⟩ (.int .i64 ((rd_T50 l0_1 x11_1).f0))).setCell ⟨gb353, 1, none⟩ (.slice A352_1 ((rd_T50 l0_1 x11_1).f1).length c352_1)) w.heap.size (fun _ => True) (.slice Ao36 x3_1.length co36) x3_1) := ⟨by (with_reducible repeat (first | apply Kd.S_alloc | apply Kd.S_drewN | apply Kd.S_drew)); exact Kd.S_mono (Kd.S_far (p := ⟨gb353, 1, none⟩) (Kd.S_far (p := ⟨gb353, 0, none⟩) (Kd.S_types HO_3.out BK353.out (by decide)) (fun _ hk => hk.2) (.int .i64 ((rd_T50 l0_1 x11_1).f0))) (fun _ hk => hk.2) (.slice A352_1 ((rd_T50 l0_1 x11_1).f1).length c352_1)) (fun _ hk => trivial)⟩
              have n1_ : Aside0 (((w33.setCell ⟨gb353, 0, none⟩ (.int .i64 ((rd_T50 l0_1 x11_1).f0))).setCell ⟨gb353, 1, none⟩ (.slice A352_1 ((rd_T50 l0_1 x11_1).f1).length c352_1)).heap[gb348]? = some (.cells #[.slice A0_0 l0_0.length c0_0, .slice (some ad352) l0_1.length c0_1] 32 (0, 0))) := ⟨by (with_reducible repeat (first | refine blk_drewN ?_ _ | refine blk_drew ?_ | refine blk_alloc ?_ _)); refine blk_far ?_ NB348_353.out _; (with_reducible repeat (first | refine blk_drewN ?_ _ | refine blk_drew ?_ | refine blk_alloc ?_ _)); refine blk_far ?_ NB348_353.out _; (with_reducible repeat (first | refine blk_drewN ?_ _ | refine blk_drew ?_ | refine blk_alloc ?_ _)); exact BK348.out⟩
              have n2_ : Aside0 (((w33.setCell ⟨gb353, 0, none⟩ (.int .i64 ((rd_T50 l0_1 x11_1).f0))).setCell ⟨gb353, 1, none⟩ (.slice A352_1 ((rd_T50 l0_1 x11_1).f1).length c352_1)).heap[gb353]? = some (.cells #[.int .i64 ((rd_T50 l0_1 x11_1).f0), .slice A352_1 ((rd_T50 l0_1 x11_1).f1).length c352_1] 50 (0, 0))) := ⟨by (with_reducible repeat (first | refine blk_drewN ?_ _ | refine blk_drew ?_ | refine blk_alloc ?_ _)); refine blk_put (cs := #[.int .i64 ((rd_T50 l0_1 x11_1).f0), .slice none 0 0]) ?_ 1 _ rfl; (with_reducible repeat (first | refine blk_drewN ?_ _ | refine blk_drew ?_ | refine blk_alloc ?_ _)); refine blk_put (cs := #[.int .i64 0, .slice none 0 0]) ?_ 0 _ rfl; (with_reducible repeat (first | refine blk_drewN ?_ _ | refine blk_drew ?_ | refine blk_alloc ?_ _)); exact BK353.out⟩
              have n3_ : Aside0 (Below w.heap.size w ((w33.setCell ⟨gb353, 0, none⟩ (.int .i64 ((rd_T50 l0_1 x11_1).f0))).setCell ⟨gb353, 1, none⟩ (.slice A352_1 ((rd_T50 l0_1 x11_1).f1).length c352_1))) := ⟨by repeat (first | (with_reducible first | exact HB.out | apply below_alloc | apply pw_below_drewN | apply below_drew1 | refine below_set ?_ GE348.out | refine below_set ?_ GE353.out) | exact HB.out)⟩
              (try clear HO_3)
              (try clear BK348)
              (try clear BK353)
              (try clear HB)
              generalize ((w33.setCell ⟨gb353, 0, none⟩ (.int .i64 ((rd_T50 l0_1 x11_1).f0))).setCell ⟨gb353, 1, none⟩ (.slice A352_1 ((rd_T50 l0_1 x11_1).f1).length c352_1)) = w37 at n0_ n1_ n2_ n3_ ⊢
              have HO_3 := n0_
              have BK348 := n1_
              have BK353 := n2_
              have HB := n3_
              clear n0_ n1_ n2_ n3_
              have n0_ := Aside0.mk (Kd.S_drew HO_3.out)
              have n1_ := Aside0.mk (blk_drew BK348.out)
              have n2_ := Aside0.mk (blk_drew BK353.out)
              have n3_ := Aside0.mk (below_drew1 HB.out)
              clear HO_3
              clear BK348
              clear BK353
              clear HB
              have HO_3 := n0_
              have BK348 := n1_
              have BK353 := n2_
              have HB := n3_
              clear n0_ n1_ n2_ n3_
              have p354 : 0 ≤ ((ji10) : Int) := aD
              have q354 : (ji10) < (x3_1.length : Int) := aD
              obtain ⟨ad354, A354_0, c354_0, e354, hx354_0, hl354_0, hi354_0⟩ := at_L3 (Kd.S_reads' HO_3.out).2.2 (ji10) p354 q354
              cases e354
              obtain ⟨ce354, hce354, hMe354, hcc354⟩ := Kd.S_get HO_3.out [] (ji10) p354 (by first | exact q354 | exact aD | (have e_ := (Kd.S_reads' HO_3.out).1; omega))
              obtain ⟨ve354_0, rfl, ge354_0⟩ := hMe354
              have hv354_0 := hcc354 0 _ rfl
              rw [Nat.add_zero, show ((Kd.slice 3 (Kd.int .i64))).sz = 1 from rfl, Nat.mul_one] at hv354_0
              replace hv354_0 := Option.some.inj (hv354_0.symm.trans hx354_0)
              rw [hv354_0] at ge354_0
              have HL354_0 := Aside0.mk (show Kd.R (Kd.int .i64) 3 _ _ _ _ (rd_L3 x3_1 (ji10)) from ge354_0)
              clear hv354_0 ge354_0
              have HX354_0 := Aside0.mk hx354_0
              clear hcc354 hce354
              have HR354_0 := Aside0.mk hi354_0
              have HC354_0 := Aside0.mk hl354_0
              clear hi354_0 hl354_0
              replace p354 := eq_true p354
              replace q354 := eq_true q354
              have p355 : 0 ≤ (0 : Int) := (by omega)
              have q355 : 0 < ((rd_L3 x3_1 (ji10)).length : Int) := aD
              obtain ⟨ad355, e355, hx355_0⟩ := Kd.at_int (by repeat (first | (with_reducible exact HR354_0.out) | (with_reducible refine Kd.C_alloc ?_ _) | (with_reducible refine Kd.C_drewN ?_ _) | (with_reducible refine Kd.C_drew ?_) | exact HR354_0.out)) 0 p355 q355
              cases e355
              have qi355 : (0 < (rd_L3 x3_1 (ji10)).length) = True := eq_true (by omega)
              (try rw [show ((0 : Int)).toNat = 0 from rfl] at hx355_0)
              (try rw [Addr.add_zero'] at hx355_0)
              replace p355 := eq_true p355
              replace q355 := eq_true q355
              have p356 : 0 ≤ ((rd (rd_L3 x3_1 (ji10)) 0) : Int) := aD
              have q356 : (rd (rd_L3 x3_1 (ji10)) 0) < (l0_1.length : Int) := aD
              obtain ⟨ad356, A356_1, c356_1, e356, hx356_0, hx356_1, hl356_1, hi356_1⟩ := at_T50 HR0_1.out (rd (rd_L3 x3_1 (ji10)) 0) p356 q356
              have hw356_1 := hx356_1
              have hw356_0 := hx356_0
              obtain rfl : ad352 = ad356 := (by injection e356)
              replace hx356_0 := (HB.out.cell (World.block_lt_of_cell? w _ hx356_0)).trans hx356_0
              replace hx356_1 := (HB.out.cell (World.block_lt_of_cell? w _ hx356_1)).trans hx356_1
              have HR356_1 := Aside0.mk hi356_1
              have HC356_1 := Aside0.mk hl356_1
              clear hi356_1 hl356_1
              replace p356 := eq_true p356
              replace q356 := eq_true q356
              refine start_ (n := 18) (S := fun w' => w'.cell? ⟨gb348, 0, none⟩ = some (.slice A0_0 l0_0.length c0_0) ∧ w'.cell? ⟨gb348, 1, none⟩ = some (.slice (some ad352) l0_1.length c0_1) ∧ w'.cell? ⟨gb353, 0, none⟩ = some (.int .i64 ((rd_T50 l0_1 x11_1).f0)) ∧ w'.cell? ⟨gb353, 1, none⟩ = some (.slice A352_1 ((rd_T50 l0_1 x11_1).f1).length c352_1) ∧ w'.cell? (ad354.add ((ji10)).toNat) = some (.slice (some ad355) (rd_L3 x3_1 (ji10)).length c354_0) ∧ w'.cell? ad355 = some (.int .i64 (rd (rd_L3 x3_1 (ji10)) 0)) ∧ w'.cell? (ad352.add (((rd (rd_L3 x3_1 (ji10)) 0)).toNat * 2)) = some (.int .i64 ((rd_T50 l0_1 (rd (rd_L3 x3_1 (ji10)) 0)).f0)) ∧ w'.cell? ⟨(ad352.add (((rd (rd_L3 x3_1 (ji10)) 0)).toNat * 2)).block, (ad352.add (((rd (rd_L3 x3_1 (ji10)) 0)).toNat * 2)).off + 1, none⟩ = some (.slice A356_1 ((rd_T50 l0_1 (rd (rd_L3 x3_1 (ji10)) 0)).f1).length c356_1)) (ds := []) #[false, false, false, false, false, false, false, false, false, false, false, false, false, false, false, false, false, false] (by kernel_rfl) rfl rfl ⟨(blk_cell BK348.out 0).trans rfl, (blk_cell BK348.out 1).trans rfl, (blk_cell BK353.out 0).trans rfl, (blk_cell BK353.out 1).trans rfl, hx354_0, hx355_0, ((HB.out.cell (World.block_lt_of_cell? w _ hw356_0)).trans hw356_0), ((HB.out.cell (World.block_lt_of_cell? w _ hw356_1)).trans hw356_1)⟩ (fun hHeld => ?_); refine with_tabW impl_blocks.tab6 impl_blocks.bits6 (fun HT_ HW_ => ?_)
              generalize w37.drew = w38 at HO_3 BK348 BK353 HB HL354_0 HR354_0 HR356_1 HX354_0 hx354_0 hx355_0 hx356_0 hx356_1 hHeld ⊢
              refine pure_ (i := 0) (N := some 19) (v := ?_) (a' := ?_) #[true, false, false, false, false, false, false, false, false, false, false, false, false, false, false, false, false, false] rfl rfl (any_of HT_.out (by kernel_rfl)) (fun _ _ _ h => h) (Or.inl ⟨by rfl, ?_⟩) ?_ ?_
              rotate_left
              ·intro w'
               go_simp
               with_reducible rfl
              rotate_left
              ·simp only [Act.put, List.setIfInBounds_toArray, List.set_cons_zero, List.set_cons_succ, i64_w, i32_w]
               rfl
              refine pure_ (i := 1) (N := some 20) (v := ?_) (a' := ?_) #[true, true, false, false, false, false, false, false, false, false, false, false, false, false, false, false, false, false] rfl rfl (any_of HT_.out (by kernel_rfl)) (fun _ _ _ h => h) (Or.inl ⟨by rfl, ?_⟩) ?_ ?_
              rotate_left
              ·intro w'
               go_simp
               with_reducible rfl
              rotate_left
              ·simp only [Act.put, List.setIfInBounds_toArray, List.set_cons_zero, List.set_cons_succ, i64_w, i32_w]
               rfl
              refine pure_ (i := 2) (N := some 21) (v := ?_) (a' := ?_) #[true, true, true, false, false, false, false, false, false, false, false, false, false, false, false, false, false, false] rfl rfl (any_of HT_.out (by kernel_rfl)) (fun _ _ _ h => h) (Or.inl ⟨by rfl, ?_⟩) ?_ ?_
              rotate_left
              ·intro w'
               go_simp
               with_reducible rfl
              rotate_left
              ·simp only [Act.put, List.setIfInBounds_toArray, List.set_cons_zero, List.set_cons_succ, i64_w, i32_w]
               rfl
              refine pure_ (i := 3) (N := some 22) (v := ?_) (a' := ?_) #[true, true, true, true, false, false, false, false, false, false, false, false, false, false, false, false, false, false] rfl rfl (any_of HT_.out (by kernel_rfl)) (fun _ _ _ h => h) (Or.inl ⟨by rfl, ?_⟩) ?_ ?_
              rotate_left
              ·intro w'
               go_simp
               with_reducible rfl
              rotate_left
              ·simp only [Act.put, List.setIfInBounds_toArray, List.set_cons_zero, List.set_cons_succ, i64_w, i32_w]
               rfl
              refine pure_ (i := 5) (N := some 24) (v := ?_) (a' := ?_) #[true, true, true, true, false, true, false, false, false, false, false, false, false, false, false, false, false, false] rfl rfl (any_of HT_.out (by kernel_rfl)) (fun _ _ _ h => h) (Or.inl ⟨by rfl, ?_⟩) ?_ ?_
              rotate_left
              ·intro w'
               go_simp
               with_reducible rfl
              rotate_left
              ·simp only [Act.put, List.setIfInBounds_toArray, List.set_cons_zero, List.set_cons_succ, i64_w, i32_w]
               rfl
              refine pure_ (i := 7) (N := some 26) (v := ?_) (a' := ?_) #[true, true, true, true, false, true, false, true, false, false, false, false, false, false, false, false, false, false] rfl rfl (any_of HT_.out (by kernel_rfl)) (fun _ _ _ h => h) (Or.inl ⟨by rfl, ?_⟩) ?_ ?_
              rotate_left
              ·intro w'
               go_simp
               with_reducible rfl
              rotate_left
              ·simp only [Act.put, List.setIfInBounds_toArray, List.set_cons_zero, List.set_cons_succ, i64_w, i32_w]
               rfl
              refine pure_ (i := 8) (N := some 27) (v := ?_) (a' := ?_) #[true, true, true, true, false, true, false, true, true, false, false, false, false, false, false, false, false, false] rfl rfl (any_of HT_.out (by kernel_rfl)) (fun _ _ _ h => h) (Or.inl ⟨by rfl, ?_⟩) ?_ ?_
              rotate_left
              ·intro w'
               go_simp
               with_reducible rfl
              rotate_left
              ·simp only [Act.put, List.setIfInBounds_toArray, List.set_cons_zero, List.set_cons_succ, i64_w, i32_w]
               rfl
              refine pure_ (i := 9) (N := some 28) (v := ?_) (a' := ?_) #[true, true, true, true, false, true, false, true, true, true, false, false, false, false, false, false, false, false] rfl rfl (any_of HT_.out (by kernel_rfl)) (fun _ _ _ h => h) (Or.inl ⟨by rfl, ?_⟩) ?_ ?_
              rotate_left
              ·intro w'
               go_simp
               with_reducible rfl
              rotate_left
              ·simp only [Act.put, List.setIfInBounds_toArray, List.set_cons_zero, List.set_cons_succ, i64_w, i32_w]
               rfl
              refine take_ (i := 4) (N := some 23) (v := ?_) (a' := ?_) #[true, true, true, true, true, true, false, true, true, true, false, false, false, false, false, false, false, false] rfl rfl (take_ofW HT_.out HW_.out (by kernel_rfl)) (fun _ _ _ h => h) (Or.inl ⟨by rfl, ?_⟩) hHeld ?_ ?_
              rotate_left
              ·rintro w' ⟨s0, s1, s2, s3, s4, s5, s6, s7⟩
               go_simp
               with_reducible rfl
              rotate_left
              ·simp only [Act.put, List.setIfInBounds_toArray, List.set_cons_zero, List.set_cons_succ, i64_w, i32_w]
               rfl
              refine take_ (i := 6) (N := some 25) (v := ?_) (a' := ?_) #[true, true, true, true, true, true, true, true, true, true, false, false, false, false, false, false, false, false] rfl rfl (take_ofW HT_.out HW_.out (by kernel_rfl)) (fun _ _ _ h => h) (Or.inl ⟨by rfl, ?_⟩) hHeld ?_ ?_
              rotate_left
              ·rintro w' ⟨s0, s1, s2, s3, s4, s5, s6, s7⟩
               go_simp
               with_reducible rfl
              rotate_left
              ·simp only [Act.put, List.setIfInBounds_toArray, List.set_cons_zero, List.set_cons_succ, i64_w, i32_w]
               rfl
              refine take_ (i := 10) (N := some 29) (v := ?_) (a' := ?_) #[true, true, true, true, true, true, true, true, true, true, true, false, false, false, false, false, false, false] rfl rfl (take_ofW HT_.out HW_.out (by kernel_rfl)) (fun _ _ _ h => h) (Or.inl ⟨by rfl, ?_⟩) hHeld ?_ ?_
              rotate_left
              ·rintro w' ⟨s0, s1, s2, s3, s4, s5, s6, s7⟩
               go_simp
               with_reducible rfl
              rotate_left
              ·simp only [Act.put, List.setIfInBounds_toArray, List.set_cons_zero, List.set_cons_succ, i64_w, i32_w]
               rfl
              refine pure_ (i := 11) (N := some 30) (v := ?_) (a' := ?_) #[true, true, true, true, true, true, true, true, true, true, true, true, false, false, false, false, false, false] rfl rfl (any_of HT_.out (by kernel_rfl)) (fun _ _ _ h => h) (Or.inl ⟨by rfl, ?_⟩) ?_ ?_
              rotate_left
              ·intro w'
               go_simp
               with_reducible rfl
              rotate_left
              ·simp only [Act.put, List.setIfInBounds_toArray, List.set_cons_zero, List.set_cons_succ, i64_w, i32_w]
               rfl
              refine take_ (i := 12) (N := some 31) (v := ?_) (a' := ?_) #[true, true, true, true, true, true, true, true, true, true, true, true, true, false, false, false, false, false] rfl rfl (take_ofW HT_.out HW_.out (by kernel_rfl)) (fun _ _ _ h => h) (Or.inl ⟨by rfl, ?_⟩) hHeld ?_ ?_
              rotate_left
              ·rintro w' ⟨s0, s1, s2, s3, s4, s5, s6, s7⟩
               go_simp
               with_reducible rfl
              rotate_left
              ·simp only [Act.put, List.setIfInBounds_toArray, List.set_cons_zero, List.set_cons_succ, i64_w, i32_w]
               rfl
              refine pure_ (i := 13) (N := some 32) (v := ?_) (a' := ?_) #[true, true, true, true, true, true, true, true, true, true, true, true, true, true, false, false, false, false] rfl rfl (any_of HT_.out (by kernel_rfl)) (fun _ _ _ h => h) (Or.inl ⟨by rfl, ?_⟩) ?_ ?_
              rotate_left
              ·intro w'
               go_simp
               with_reducible rfl
              rotate_left
              ·simp only [Act.put, List.setIfInBounds_toArray, List.set_cons_zero, List.set_cons_succ, i64_w, i32_w]
               rfl
              refine take_ (i := 14) (N := some 33) (v := ?_) (a' := ?_) #[true, true, true, true, true, true, true, true, true, true, true, true, true, true, true, false, false, false] rfl rfl (take_ofW HT_.out HW_.out (by kernel_rfl)) (fun _ _ _ h => h) (Or.inl ⟨by rfl, ?_⟩) hHeld ?_ ?_
              rotate_left
              ·rintro w' ⟨s0, s1, s2, s3, s4, s5, s6, s7⟩
               go_simp
               with_reducible rfl
              rotate_left
              ·simp only [Act.put, List.setIfInBounds_toArray, List.set_cons_zero, List.set_cons_succ, i64_w, i32_w]
               rfl
              refine take_ (i := 15) (N := some 34) (v := ?_) (a' := ?_) #[true, true, true, true, true, true, true, true, true, true, true, true, true, true, true, true, false, false] rfl rfl (take_ofW HT_.out HW_.out (by kernel_rfl)) (fun _ _ _ h => h) (Or.inl ⟨by rfl, ?_⟩) hHeld ?_ ?_
              rotate_left
              ·rintro w' ⟨s0, s1, s2, s3, s4, s5, s6, s7⟩
               go_simp
               with_reducible rfl
              rotate_left
              ·simp only [Act.put, List.setIfInBounds_toArray, List.set_cons_zero, List.set_cons_succ, i64_w, i32_w]
               rfl
              refine one_ (i := 16) (N := some 35) #[true, true, true, true, true, true, true, true, true, true, true, true, true, true, true, true, true, false] rfl rfl (one_of HT_.out (by kernel_rfl)) (by decide) (fun K hK => ?_)
              refine goes_ Try.func104 (by kernel_rfl) rfl #[.slice A0_0 l0_0.length c0_0, .agg #[.int .i64 ((rd_T50 l0_1 (rd (rd_L3 x3_1 (ji10)) 0)).f0), .slice A356_1 ((rd_T50 l0_1 (rd (rd_L3 x3_1 (ji10)) 0)).f1).length c356_1], .agg #[.int .i64 ((rd_T50 l0_1 x11_1).f0), .slice A352_1 ((rd_T50 l0_1 x11_1).f1).length c352_1]] (by rfl) rfl rfl (by (try simp only [List.map_toArray, List.map_cons, List.map_nil]); first | done | (simp only [hji10]; rfl) | rfl | (simp only [List.length_drop, List.length_take]; rfl)) ?_
              with_reducible refine (impl_sameKey.calls _ _ l0_0 ((rd_T50 l0_1 (rd (rd_L3 x3_1 (ji10)) 0)).f0) _ _ ((rd_T50 l0_1 (rd (rd_L3 x3_1 (ji10)) 0)).f1) ((rd_T50 l0_1 x11_1).f0) _ _ ((rd_T50 l0_1 x11_1).f1) false _ ?side1 ?side2 ?side3 ?side4 ?side5 ?side6 A16.out).mono ?_
              (case side1 => exact aC)
              (case side2 => exact HC0_0.out)
              (case side3 => exact aC)
              (case side4 => exact HC356_1.out)
              (case side5 => exact aC)
              (case side6 => exact HC352_1.out)
              rintro e w39 ⟨rfl, hb⟩
              have HS4_ := (hb.cell (World.block_lt_of_cell? _ _ (hHeld.2.2.2.2.1))).trans (hHeld.2.2.2.2.1)
              have HS5_ := (hb.cell (World.block_lt_of_cell? _ _ (hHeld.2.2.2.2.2.1))).trans (hHeld.2.2.2.2.2.1)
              refine ⟨_, rfl, ?_⟩
              have n0_ := Aside0.mk (Kd.S_below (by (with_reducible repeat (first | apply Kd.S_alloc | apply Kd.S_drewN | apply Kd.S_drew)); exact HO_3.out) hb)
              have n1_ := Aside0.mk (Kd.R_below (by (with_reducible repeat (first | apply Kd.R_alloc | apply Kd.R_drewN | apply Kd.R_drew)); exact HL354_0.out) hb)
              have n2_ := Aside0.mk (blk_below (g := gb348) (o := .cells #[.slice A0_0 l0_0.length c0_0, .slice (some ad352) l0_1.length c0_1] 32 (0, 0)) aK hb)
              have n3_ := Aside0.mk (blk_below (g := gb353) (o := .cells #[.int .i64 ((rd_T50 l0_1 x11_1).f0), .slice A352_1 ((rd_T50 l0_1 x11_1).f1).length c352_1] 50 (0, 0)) aK hb)
              have n4_ := Aside0.mk (Kd.C_below (by repeat (first | (with_reducible exact HR354_0.out) | (with_reducible refine Kd.C_alloc ?_ _) | (with_reducible refine Kd.C_drewN ?_ _) | (with_reducible refine Kd.C_drew ?_) | exact HR354_0.out)) hb)
              have n5_ := Aside0.mk (pw_cell_below hb HX354_0.out)
              have n6_ := Aside0.mk (below_step aG hb)
              clear HO_3
              clear HL354_0
              clear BK348
              clear BK353
              clear HR354_0
              clear HX354_0
              clear HB
              have HO_3 := n0_
              have HL354_0 := n1_
              have BK348 := n2_
              have BK353 := n3_
              have HR354_0 := n4_
              have HX354_0 := n5_
              have HB := n6_
              clear n0_ n1_ n2_ n3_ n4_ n5_ n6_
              (try clear hb)
              (try clear hb2)
              (try clear hk)
              (try clear hi)
              refine hK.out _ _ ⟨(blk_cell BK348.out 0).trans rfl, (blk_cell BK348.out 1).trans rfl, (blk_cell BK353.out 0).trans rfl, (blk_cell BK353.out 1).trans rfl, HS4_, HS5_, ((HB.out.cell (World.block_lt_of_cell? w _ hw356_0)).trans hw356_0), ((HB.out.cell (World.block_lt_of_cell? w _ hw356_1)).trans hw356_1)⟩ (fun hHeld => ?_)
              clear hK K
              refine norm_ (a' := ?_) ?_ ?_
              rotate_left
              ·show Act.put _ (some 35) _ = _
               simp only [Act.put, List.setIfInBounds_toArray, List.set_cons_zero, List.set_cons_succ, i64_w, i32_w]
               rfl
              refine pure_ (i := 17) (N := some 36) (v := ?_) (a' := ?_) #[true, true, true, true, true, true, true, true, true, true, true, true, true, true, true, true, true, true] rfl rfl (any_of HT_.out (by kernel_rfl)) (fun _ _ _ h => h) (Or.inl ⟨by rfl, ?_⟩) ?_ ?_
              rotate_left
              ·intro w'
               go_simp
               with_reducible rfl
              rotate_left
              ·simp only [Act.put, List.setIfInBounds_toArray, List.set_cons_zero, List.set_cons_succ, i64_w, i32_w]
               rfl
              refine done_ (done_of HT_.out (by kernel_rfl)) ?_
              try go_wp2_with (first | ((with_reducible refine gate_dst (N := 49) rfl ?_); refine Kd.R_lit (Kd.int .i64) _ 3 ?hg (N := 49) ?hd (xs := ([x11_1] : List Int)) (inner := [.int .i64 x11_1]) (ok := fun _ => True) (okp := fun _ => True) ?hr ?hp (fun _ hk => hk) trivial (Below.refl _ _) (Nat.le_refl _) (by simp) ?_; (case hd => rfl); (case hg => rfl); (case hr => first | (go_simp; done) | (go_simp; rfl)); (case hp => exact (Reps.one (show Kd.M (Kd.int .i64) _ _ _ x11_1 [.int .i64 x11_1] from rfl) (Reps.none _ _))); intro v364 w40 ho41 hb hg_ hnew_; clear hg_ hnew_; (first | rw [← Ny363.out] at ho41 | (simp only [Int.reduceToNat] at ho41; rw [← Ny363.out] at ho41)); have n0_ := Aside0.mk (Kd.S_elder' (by (with_reducible repeat (first | apply Kd.S_alloc | apply Kd.S_drewN | apply Kd.S_drew)); exact HO_3.out) (Kd.R_base ho41) hb); have n1_ := Aside0.mk (Kd.R_elder' (by (with_reducible repeat (first | apply Kd.R_alloc | apply Kd.R_drewN | apply Kd.R_drew)); exact HL354_0.out) (Kd.R_base ho41) hb); have n2_ := Aside0.mk (Kd.R_lower (Kd.R_new' ho41 (Kd.R_lt (by (with_reducible repeat (first | apply Kd.R_alloc | apply Kd.R_drewN | apply Kd.R_drew)); exact HL354_0.out))) (below_size aG)); have n3_ := Aside0.mk (blk_below (g := gb348) (o := .cells #[.slice A0_0 l0_0.length c0_0, .slice (some ad352) l0_1.length c0_1] 32 (0, 0)) aK hb); have n4_ := Aside0.mk (blk_below (g := gb353) (o := .cells #[.int .i64 ((rd_T50 l0_1 x11_1).f0), .slice A352_1 ((rd_T50 l0_1 x11_1).f1).length c352_1] 50 (0, 0)) aK hb); have n5_ := Aside0.mk (Kd.C_below (by repeat (first | (with_reducible exact HR354_0.out) | (with_reducible refine Kd.C_alloc ?_ _) | (with_reducible refine Kd.C_drewN ?_ _) | (with_reducible refine Kd.C_drew ?_) | exact HR354_0.out)) hb); have n6_ := Aside0.mk (pw_cell_below hb HX354_0.out); have n7_ := Aside0.mk (below_step aG hb); clear HO_3; clear HL354_0; clear BK348; clear BK353; clear HR354_0; clear HX354_0; clear HB; have HO_3 := n0_; have HL354_0 := n1_; have HO365 := n2_; have BK348 := n3_; have BK353 := n4_; have HR354_0 := n5_; have HX354_0 := n6_; have HB := n7_; clear n0_ n1_ n2_ n3_ n4_ n5_ n6_ n7_; clear hb ho41; obtain ⟨Ao43, co43, eo43⟩ := Kd.R_slice HO365.out; subst eo43) | ((with_reducible refine gate_builtin (b := .append) (xs := #[.tmp 47, .tmp 50]) rfl ?_); at_builtin; refine Kd.S_append (Kd.slice 3 (Kd.int .i64)) (w0 := w) w.heap.size rfl (.tmp 47) (.tmp 50) 67 26 (.slice none 0 0) 24 rfl Try.underlying67 info26 rfl (by decide) (by omega) (.slice (some ad354) x3_1.length co36) x3_1 y363 [.slice Ao43 y363.length co43] (fun _ => True) (fun k_ => some k_ = (.slice Ao43 y363.length co43 : Value).ownBlock) rfl rfl ?aP (fun k_ hk_ => ((Kd.R_mono (ok' := fun k_ => ((fun _ => True)) k_ ∧ some k_ ≠ (.slice (some ad354) x3_1.length co36 : Value).ownBlock) (Kd.R_apart' (HO365.out) (Kd.S_typed HO_3.out) (by decide)) (fun k_ hk => ⟨trivial, hk.2⟩))).1 k_ hk_.symm) ?aF ?aO ?aB ?aS ?aL ?_; (case aP => exact Kd.M_row (Kd.R_mono (Kd.R_tight rfl (Kd.R_mono (ok' := fun k_ => ((fun _ => True)) k_ ∧ some k_ ≠ (.slice (some ad354) x3_1.length co36 : Value).ownBlock) (Kd.R_apart' (HO365.out) (Kd.S_typed HO_3.out) (by decide)) (fun k_ hk => ⟨trivial, hk.2⟩))) (fun _ h_ => h_))); (case aB => exact aG); (case aF => exact (fun _ _ => trivial)); (case aO => exact (by (with_reducible repeat (first | apply Kd.S_alloc | apply Kd.S_drewN | apply Kd.S_drew)); exact Kd.S_mono HO_3.out (fun k_ hk => ⟨trivial, fun e_ => hk.2 e_⟩))); (case aS => exact (below_size aG)); (case aL => have := LMc32.out; omega); intro v367 w42 ho hb hg hat; rw [← Ny366.out] at ho; have n0_ := Aside0.mk (blk_grown (g := gb348) (o := .cells #[.slice A0_0 l0_0.length c0_0, .slice (some ad352) l0_1.length c0_1] 32 (0, 0)) aK hg (Kd.S_ne HO_3.out BK348.out (by decide))); have n1_ := Aside0.mk (blk_grown (g := gb353) (o := .cells #[.int .i64 ((rd_T50 l0_1 x11_1).f0), .slice A352_1 ((rd_T50 l0_1 x11_1).f1).length c352_1] 50 (0, 0)) aK hg (Kd.S_ne HO_3.out BK353.out (by decide))); have n2_ := Aside0.mk (Kd.R_after (ok := (fun k_ => some k_ ≠ (.slice Ao43 y363.length co43 : Value).ownBlock)) (by (with_reducible repeat (first | apply Kd.R_alloc | apply Kd.R_drewN | apply Kd.R_drew)); exact Kd.R_mono HL354_0.out (fun _ hk => ⟨hk.2, hk.1.2⟩)) hg hat); have n3_ := Aside0.mk (hb); have n4_ := Aside0.mk (ho); clear BK348; clear BK353; clear HL354_0; clear HB; clear HO_3; clear HO365; have BK348 := n0_; have BK353 := n1_; have HL354_0 := n2_; have HB := n3_; have HO368 := n4_; clear n0_ n1_ n2_ n3_ n4_; clear ho hb hg hat))
              go_roundg k1
              case measure => have := HK1.out; omega
              case rel => exact ⟨(y366), (wrap64 (x11_1 + 1)), (by first | rfl | (simp; done) | (simp [*]; done)), H', ⟨by have := HK1.out; omega⟩, ⟨by (with_reducible repeat (first | apply Kd.S_alloc | apply Kd.S_drewN | apply Kd.S_drew)); exact HO368.out⟩, ⟨by (with_reducible repeat (first | refine blk_drewN ?_ _ | refine blk_drew ?_ | refine blk_alloc ?_ _)); exact BK348.out⟩, ⟨by repeat (first | (with_reducible first | exact HB.out | apply below_alloc | apply pw_below_drewN | apply below_drew1 | refine below_set ?_ GE348.out | refine below_set ?_ GE353.out) | exact HB.out)⟩⟩
             ·rw [if_neg c32] at H
              exact absurd H (by simp)
           ·rw [if_neg c15] at H
            exact absurd H (by simp)
          ·rw [if_neg c14] at H
           exact absurd H (by simp)
         ·rw [if_neg c13] at H
          exact absurd H (by simp)
        ·rw [if_neg c12] at H
         exact absurd H (by simp)
       ·rw [if_neg c11] at H
        exact absurd H (by simp)
      ·rw [if_neg c9] at H
       have c9b0 : decide (0 ≤ (wrap64 ((x3_1.length : Int) - 1))) = false := decide_eq_false c9
       clear c9
       obtain ⟨y369, hy369⟩ : ∃ y_ : List Int, y_ = (([x11_1] : List Int)) := ⟨_, rfl⟩
       replace H : (if x3_1.length < 5864062014805 then (impl_blocks.l0 k1 (x3_1 ++ [y369]) l0_1 (l0_1.length : Int) (wrap64 (x11_1 + 1)) l0_0 l0_1) else (none)) = some r := by first | (rw [hy369]; with_reducible exact H) | (have H2_ := (Option.bind_some _ _).symm.trans H; rw [hy369]; with_reducible exact H2_) | (have H2_ := (Option.bind_some _ _).symm.trans H; with_reducible exact H2_) | with_reducible exact H | (rw [hy369]; exact H) | exact H
       have Ny369 := Aside0.mk hy369
       clear hy369
       by_cases c44 : x3_1.length < 5864062014805
       ·rw [if_pos c44] at H
        have LMc44 := Aside0.mk c44
        clear c44
        obtain ⟨y372, hy372⟩ : ∃ y_ : List (List Int), y_ = (x3_1 ++ [y369]) := ⟨_, rfl⟩
        replace H : (impl_blocks.l0 k1 y372 l0_1 (l0_1.length : Int) (wrap64 (x11_1 + 1)) l0_0 l0_1) = some r := by first | (rw [hy372]; with_reducible exact H) | (have H2_ := (Option.bind_some _ _).symm.trans H; rw [hy372]; with_reducible exact H2_) | (have H2_ := (Option.bind_some _ _).symm.trans H; with_reducible exact H2_) | with_reducible exact H | (rw [hy372]; exact H) | exact H
        have Ny372 := Aside0.mk hy372
        clear hy372
        have H' := Aside0.mk H
        clear H
        have p352 : 0 ≤ (x11_1 : Int) := aD
        have q352 : x11_1 < (l0_1.length : Int) := aD
        obtain ⟨ad352, A352_1, c352_1, e352, hx352_0, hx352_1, hl352_1, hi352_1⟩ := at_T50 HR0_1.out x11_1 p352 q352
        cases e352
        replace hx352_0 := (HB.out.cell (World.block_lt_of_cell? w _ hx352_0)).trans hx352_0
        replace hx352_1 := (HB.out.cell (World.block_lt_of_cell? w _ hx352_1)).trans hx352_1
        have HR352_1 := Aside0.mk hi352_1
        have HC352_1 := Aside0.mk hl352_1
        clear hi352_1 hl352_1
        replace p352 := eq_true p352
        replace q352 := eq_true q352
        try go_wp2_with (first | ((with_reducible refine gate_dst (N := 5) rfl ?_); refine box_event ?hg (N := 5) ?hd (cs := #[.int .i64 0, .slice none 0 0]) (t := 50) ?hr ?_; (case hd => rfl); (case hg => rfl); (case hr => first | (go_simp; done) | (go_simp; rfl)); intro gb353 hg w45 hbox hb; have n0_ := Aside0.mk (Kd.S_below (by (with_reducible repeat (first | apply Kd.S_alloc | apply Kd.S_drewN | apply Kd.S_drew)); exact HO_3.out) hb); have n1_ := Aside0.mk (blk_below (g := gb348) (o := .cells #[.slice A0_0 l0_0.length c0_0, .slice (some ad352) l0_1.length c0_1] 32 (0, 0)) aK hb); have n2_ := Aside0.mk (below_step aG hb); have n3_ := Aside0.mk (hbox); have n4_ := Aside0.mk ((by rw [hg]; exact (below_size aG) : w.heap.size ≤ gb353)); have n5_ := Aside0.mk ((by rw [hg]; exact (below_size aG) : w.heap.size ≤ gb353)); have n6_ := Aside0.mk ((by rw [hg]; exact Nat.ne_of_lt (blk_lt (g := gb348) (o := .cells #[.slice A0_0 l0_0.length c0_0, .slice (some ad352) l0_1.length c0_1] 32 (0, 0)) aK) : gb348 ≠ gb353)); have n7_ := Aside0.mk ((by rw [hg]; exact Nat.ne_of_gt (blk_lt (g := gb348) (o := .cells #[.slice A0_0 l0_0.length c0_0, .slice (some ad352) l0_1.length c0_1] 32 (0, 0)) aK) : gb353 ≠ gb348)); clear HO_3; clear BK348; clear HB; have HO_3 := n0_; have BK348 := n1_; have HB := n2_; have BK353 := n3_; have GW353 := n4_; have GE353 := n5_; have NB348_353 := n6_; have NB353_348 := n7_; clear n0_ n1_ n2_ n3_ n4_ n5_ n6_ n7_; clear hb hbox hg; have hnb46 := NB353_348.out; have hnc46 := NB348_353.out; have hcz47_0 : w45.cell? ⟨gb353, 0, none⟩ = some (.int .i64 0) := (blk_cell BK353.out 0).trans rfl; have hcz47_1 : w45.cell? ⟨gb353, 1, none⟩ = some (.slice none 0 0) := (blk_cell BK353.out 1).trans rfl; have hfz47_0 := blk_frozen BK353.out 0; have hfz47_1 := blk_frozen BK353.out 1; obtain ⟨Ao48, co48, eo48⟩ := Kd.S_slice HO_3.out; subst eo48))
        have n0_ : Aside0 (Kd.S (Kd.slice 3 (Kd.int .i64)) 26 ((w45.setCell ⟨gb353, 0, none⟩ (.int .i64 ((rd_T50 l0_1 x11_1).f0))).setCell ⟨gb353, 1, none⟩ (.slice A352_1 ((rd_T50 l0_1 x11_1).f1).length c352_1)) w.heap.size (fun _ => True) (.slice Ao48 x3_1.length co48) x3_1) := ⟨by (with_reducible repeat (first | apply Kd.S_alloc | apply Kd.S_drewN | apply Kd.S_drew)); exact Kd.S_mono (Kd.S_far (p := ⟨gb353, 1, none⟩) (Kd.S_far (p := ⟨gb353, 0, none⟩) (Kd.S_types HO_3.out BK353.out (by decide)) (fun _ hk => hk.2) (.int .i64 ((rd_T50 l0_1 x11_1).f0))) (fun _ hk => hk.2) (.slice A352_1 ((rd_T50 l0_1 x11_1).f1).length c352_1)) (fun _ hk => trivial)⟩
        have n1_ : Aside0 (((w45.setCell ⟨gb353, 0, none⟩ (.int .i64 ((rd_T50 l0_1 x11_1).f0))).setCell ⟨gb353, 1, none⟩ (.slice A352_1 ((rd_T50 l0_1 x11_1).f1).length c352_1)).heap[gb348]? = some (.cells #[.slice A0_0 l0_0.length c0_0, .slice (some ad352) l0_1.length c0_1] 32 (0, 0))) := ⟨by (with_reducible repeat (first | refine blk_drewN ?_ _ | refine blk_drew ?_ | refine blk_alloc ?_ _)); refine blk_far ?_ NB348_353.out _; (with_reducible repeat (first | refine blk_drewN ?_ _ | refine blk_drew ?_ | refine blk_alloc ?_ _)); refine blk_far ?_ NB348_353.out _; (with_reducible repeat (first | refine blk_drewN ?_ _ | refine blk_drew ?_ | refine blk_alloc ?_ _)); exact BK348.out⟩
        have n2_ : Aside0 (((w45.setCell ⟨gb353, 0, none⟩ (.int .i64 ((rd_T50 l0_1 x11_1).f0))).setCell ⟨gb353, 1, none⟩ (.slice A352_1 ((rd_T50 l0_1 x11_1).f1).length c352_1)).heap[gb353]? = some (.cells #[.int .i64 ((rd_T50 l0_1 x11_1).f0), .slice A352_1 ((rd_T50 l0_1 x11_1).f1).length c352_1] 50 (0, 0))) := ⟨by (with_reducible repeat (first | refine blk_drewN ?_ _ | refine blk_drew ?_ | refine blk_alloc ?_ _)); refine blk_put (cs := #[.int .i64 ((rd_T50 l0_1 x11_1).f0), .slice none 0 0]) ?_ 1 _ rfl; (with_reducible repeat (first | refine blk_drewN ?_ _ | refine blk_drew ?_ | refine blk_alloc ?_ _)); refine blk_put (cs := #[.int .i64 0, .slice none 0 0]) ?_ 0 _ rfl; (with_reducible repeat (first | refine blk_drewN ?_ _ | refine blk_drew ?_ | refine blk_alloc ?_ _)); exact BK353.out⟩
        have n3_ : Aside0 (Below w.heap.size w ((w45.setCell ⟨gb353, 0, none⟩ (.int .i64 ((rd_T50 l0_1 x11_1).f0))).setCell ⟨gb353, 1, none⟩ (.slice A352_1 ((rd_T50 l0_1 x11_1).f1).length c352_1))) := ⟨by repeat (first | (with_reducible first | exact HB.out | apply below_alloc | apply pw_below_drewN | apply below_drew1 | refine below_set ?_ GE348.out | refine below_set ?_ GE353.out) | exact HB.out)⟩
        (try clear HO_3)
        (try clear BK348)
        (try clear BK353)
        (try clear HB)
        generalize ((w45.setCell ⟨gb353, 0, none⟩ (.int .i64 ((rd_T50 l0_1 x11_1).f0))).setCell ⟨gb353, 1, none⟩ (.slice A352_1 ((rd_T50 l0_1 x11_1).f1).length c352_1)) = w49 at n0_ n1_ n2_ n3_ ⊢
        have HO_3 := n0_
        have BK348 := n1_
        have BK353 := n2_
        have HB := n3_
        clear n0_ n1_ n2_ n3_
        have n0_ := Aside0.mk (Kd.S_drew HO_3.out)
        have n1_ := Aside0.mk (blk_drew BK348.out)
        have n2_ := Aside0.mk (blk_drew BK353.out)
        have n3_ := Aside0.mk (below_drew1 HB.out)
        clear HO_3
        clear BK348
        clear BK353
        clear HB
        have HO_3 := n0_
        have BK348 := n1_
        have BK353 := n2_
        have HB := n3_
        clear n0_ n1_ n2_ n3_
        refine start_ (n := 18) (S := fun w' => True) (ds := []) #[false, false, false, false, false, false, false, false, false, false, false, false, false, false, false, false, false, false] (by kernel_rfl) rfl rfl trivial (fun hHeld => ?_); refine with_tabW impl_blocks.tab6 impl_blocks.bits6 (fun HT_ HW_ => ?_)
        generalize w49.drew = w50 at HO_3 BK348 BK353 HB hHeld ⊢
        refine pure_ (i := 0) (N := some 19) (v := ?_) (a' := ?_) #[true, false, false, false, false, false, false, false, false, false, false, false, false, false, false, false, false, false] rfl rfl (any_of HT_.out (by kernel_rfl)) (fun _ _ _ h => h) (Or.inl ⟨by rfl, ?_⟩) ?_ ?_
        rotate_left
        ·intro w'
         go_simp
         with_reducible rfl
        rotate_left
        ·simp only [Act.put, List.setIfInBounds_toArray, List.set_cons_zero, List.set_cons_succ, i64_w, i32_w]
         rfl
        refine pure_ (i := 1) (N := some 20) (v := ?_) (a' := ?_) #[true, true, false, false, false, false, false, false, false, false, false, false, false, false, false, false, false, false] rfl rfl (any_of HT_.out (by kernel_rfl)) (fun _ _ _ h => h) (Or.inl ⟨by rfl, ?_⟩) ?_ ?_
        rotate_left
        ·intro w'
         go_simp
         with_reducible rfl
        rotate_left
        ·simp only [Act.put, List.setIfInBounds_toArray, List.set_cons_zero, List.set_cons_succ, i64_w, i32_w]
         rfl
        refine pure_ (i := 2) (N := some 21) (v := ?_) (a' := ?_) #[true, true, true, false, false, false, false, false, false, false, false, false, false, false, false, false, false, false] rfl rfl (any_of HT_.out (by kernel_rfl)) (fun _ _ _ h => h) (Or.inl ⟨by rfl, ?_⟩) ?_ ?_
        rotate_left
        ·intro w'
         go_simp
         with_reducible rfl
        rotate_left
        ·simp only [Act.put, List.setIfInBounds_toArray, List.set_cons_zero, List.set_cons_succ, i64_w, i32_w]
         rfl
        refine pure_ (i := 3) (N := some 22) (v := undef) (a' := ?_) #[true, true, true, true, false, false, false, false, false, false, false, false, false, false, false, false, false, false] rfl rfl (any_of HT_.out (by kernel_rfl)) (fun _ _ _ h => h) (Or.inr ⟨by rfl, rfl⟩) ?_ ?_
        rotate_left
        ·simp only [Act.put, List.setIfInBounds_toArray, List.set_cons_zero, List.set_cons_succ, i64_w, i32_w]
         rfl
        refine pure_ (i := 4) (N := some 23) (v := undef) (a' := ?_) #[true, true, true, true, true, false, false, false, false, false, false, false, false, false, false, false, false, false] rfl rfl (any_of HT_.out (by kernel_rfl)) (fun _ _ _ h => h) (Or.inr ⟨by rfl, rfl⟩) ?_ ?_
        rotate_left
        ·simp only [Act.put, List.setIfInBounds_toArray, List.set_cons_zero, List.set_cons_succ, i64_w, i32_w]
         rfl
        refine pure_ (i := 5) (N := some 24) (v := undef) (a' := ?_) #[true, true, true, true, true, true, false, false, false, false, false, false, false, false, false, false, false, false] rfl rfl (any_of HT_.out (by kernel_rfl)) (fun _ _ _ h => h) (Or.inr ⟨by rfl, rfl⟩) ?_ ?_
        rotate_left
        ·simp only [Act.put, List.setIfInBounds_toArray, List.set_cons_zero, List.set_cons_succ, i64_w, i32_w]
         rfl
        refine pure_ (i := 6) (N := some 25) (v := undef) (a' := ?_) #[true, true, true, true, true, true, true, false, false, false, false, false, false, false, false, false, false, false] rfl rfl (any_of HT_.out (by kernel_rfl)) (fun _ _ _ h => h) (Or.inr ⟨by rfl, rfl⟩) ?_ ?_
        rotate_left
        ·simp only [Act.put, List.setIfInBounds_toArray, List.set_cons_zero, List.set_cons_succ, i64_w, i32_w]
         rfl
        refine pure_ (i := 7) (N := some 26) (v := undef) (a' := ?_) #[true, true, true, true, true, true, true, true, false, false, false, false, false, false, false, false, false, false] rfl rfl (any_of HT_.out (by kernel_rfl)) (fun _ _ _ h => h) (Or.inr ⟨by rfl, rfl⟩) ?_ ?_
        rotate_left
        ·simp only [Act.put, List.setIfInBounds_toArray, List.set_cons_zero, List.set_cons_succ, i64_w, i32_w]
         rfl
        refine pure_ (i := 8) (N := some 27) (v := undef) (a' := ?_) #[true, true, true, true, true, true, true, true, true, false, false, false, false, false, false, false, false, false] rfl rfl (any_of HT_.out (by kernel_rfl)) (fun _ _ _ h => h) (Or.inr ⟨by rfl, rfl⟩) ?_ ?_
        rotate_left
        ·simp only [Act.put, List.setIfInBounds_toArray, List.set_cons_zero, List.set_cons_succ, i64_w, i32_w]
         rfl
        refine pure_ (i := 9) (N := some 28) (v := undef) (a' := ?_) #[true, true, true, true, true, true, true, true, true, true, false, false, false, false, false, false, false, false] rfl rfl (any_of HT_.out (by kernel_rfl)) (fun _ _ _ h => h) (Or.inr ⟨by rfl, rfl⟩) ?_ ?_
        rotate_left
        ·simp only [Act.put, List.setIfInBounds_toArray, List.set_cons_zero, List.set_cons_succ, i64_w, i32_w]
         rfl
        refine pure_ (i := 10) (N := some 29) (v := undef) (a' := ?_) #[true, true, true, true, true, true, true, true, true, true, true, false, false, false, false, false, false, false] rfl rfl (any_of HT_.out (by kernel_rfl)) (fun _ _ _ h => h) (Or.inr ⟨by rfl, rfl⟩) ?_ ?_
        rotate_left
        ·simp only [Act.put, List.setIfInBounds_toArray, List.set_cons_zero, List.set_cons_succ, i64_w, i32_w]
         rfl
        refine pure_ (i := 11) (N := some 30) (v := undef) (a' := ?_) #[true, true, true, true, true, true, true, true, true, true, true, true, false, false, false, false, false, false] rfl rfl (any_of HT_.out (by kernel_rfl)) (fun _ _ _ h => h) (Or.inr ⟨by rfl, rfl⟩) ?_ ?_
        rotate_left
        ·simp only [Act.put, List.setIfInBounds_toArray, List.set_cons_zero, List.set_cons_succ, i64_w, i32_w]
         rfl
        refine pure_ (i := 12) (N := some 31) (v := undef) (a' := ?_) #[true, true, true, true, true, true, true, true, true, true, true, true, true, false, false, false, false, false] rfl rfl (any_of HT_.out (by kernel_rfl)) (fun _ _ _ h => h) (Or.inr ⟨by rfl, rfl⟩) ?_ ?_
        rotate_left
        ·simp only [Act.put, List.setIfInBounds_toArray, List.set_cons_zero, List.set_cons_succ, i64_w, i32_w]
         rfl
        refine pure_ (i := 13) (N := some 32) (v := undef) (a' := ?_) #[true, true, true, true, true, true, true, true, true, true, true, true, true, true, false, false, false, false] rfl rfl (any_of HT_.out (by kernel_rfl)) (fun _ _ _ h => h) (Or.inr ⟨by rfl, rfl⟩) ?_ ?_
        rotate_left
        ·simp only [Act.put, List.setIfInBounds_toArray, List.set_cons_zero, List.set_cons_succ, i64_w, i32_w]
         rfl
        refine pure_ (i := 14) (N := some 33) (v := undef) (a' := ?_) #[true, true, true, true, true, true, true, true, true, true, true, true, true, true, true, false, false, false] rfl rfl (any_of HT_.out (by kernel_rfl)) (fun _ _ _ h => h) (Or.inr ⟨by rfl, rfl⟩) ?_ ?_
        rotate_left
        ·simp only [Act.put, List.setIfInBounds_toArray, List.set_cons_zero, List.set_cons_succ, i64_w, i32_w]
         rfl
        refine pure_ (i := 15) (N := some 34) (v := undef) (a' := ?_) #[true, true, true, true, true, true, true, true, true, true, true, true, true, true, true, true, false, false] rfl rfl (any_of HT_.out (by kernel_rfl)) (fun _ _ _ h => h) (Or.inr ⟨by rfl, rfl⟩) ?_ ?_
        rotate_left
        ·simp only [Act.put, List.setIfInBounds_toArray, List.set_cons_zero, List.set_cons_succ, i64_w, i32_w]
         rfl
        refine pure_ (i := 16) (N := some 35) (v := undef) (a' := ?_) #[true, true, true, true, true, true, true, true, true, true, true, true, true, true, true, true, true, false] rfl rfl (any_of HT_.out (by kernel_rfl)) (fun _ _ _ h => h) (Or.inr ⟨by rfl, rfl⟩) ?_ ?_
        rotate_left
        ·simp only [Act.put, List.setIfInBounds_toArray, List.set_cons_zero, List.set_cons_succ, i64_w, i32_w]
         rfl
        refine pure_ (i := 17) (N := some 36) (v := ?_) (a' := ?_) #[true, true, true, true, true, true, true, true, true, true, true, true, true, true, true, true, true, true] rfl rfl (any_of HT_.out (by kernel_rfl)) (fun _ _ _ h => h) (Or.inl ⟨by rfl, ?_⟩) ?_ ?_
        rotate_left
        ·intro w'
         go_simp
         with_reducible rfl
        rotate_left
        ·simp only [Act.put, List.setIfInBounds_toArray, List.set_cons_zero, List.set_cons_succ, i64_w, i32_w]
         rfl
        refine done_ (done_of HT_.out (by kernel_rfl)) ?_
        try go_wp2_with (first | ((with_reducible refine gate_dst (N := 49) rfl ?_); refine Kd.R_lit (Kd.int .i64) _ 3 ?hg (N := 49) ?hd (xs := ([x11_1] : List Int)) (inner := [.int .i64 x11_1]) (ok := fun _ => True) (okp := fun _ => True) ?hr ?hp (fun _ hk => hk) trivial (Below.refl _ _) (Nat.le_refl _) (by simp) ?_; (case hd => rfl); (case hg => rfl); (case hr => first | (go_simp; done) | (go_simp; rfl)); (case hp => exact (Reps.one (show Kd.M (Kd.int .i64) _ _ _ x11_1 [.int .i64 x11_1] from rfl) (Reps.none _ _))); intro v370 w51 ho52 hb hg_ hnew_; clear hg_ hnew_; (first | rw [← Ny369.out] at ho52 | (simp only [Int.reduceToNat] at ho52; rw [← Ny369.out] at ho52)); have n0_ := Aside0.mk (Kd.S_elder' (by (with_reducible repeat (first | apply Kd.S_alloc | apply Kd.S_drewN | apply Kd.S_drew)); exact HO_3.out) (Kd.R_base ho52) hb); have n1_ := Aside0.mk (Kd.R_lower ho52 (below_size aG)); have n2_ := Aside0.mk (blk_below (g := gb348) (o := .cells #[.slice A0_0 l0_0.length c0_0, .slice (some ad352) l0_1.length c0_1] 32 (0, 0)) aK hb); have n3_ := Aside0.mk (blk_below (g := gb353) (o := .cells #[.int .i64 ((rd_T50 l0_1 x11_1).f0), .slice A352_1 ((rd_T50 l0_1 x11_1).f1).length c352_1] 50 (0, 0)) aK hb); have n4_ := Aside0.mk (below_step aG hb); clear HO_3; clear BK348; clear BK353; clear HB; have HO_3 := n0_; have HO371 := n1_; have BK348 := n2_; have BK353 := n3_; have HB := n4_; clear n0_ n1_ n2_ n3_ n4_; clear hb ho52; obtain ⟨Ao54, co54, eo54⟩ := Kd.R_slice HO371.out; subst eo54) | ((with_reducible refine gate_builtin (b := .append) (xs := #[.tmp 47, .tmp 50]) rfl ?_); at_builtin; refine Kd.S_append (Kd.slice 3 (Kd.int .i64)) (w0 := w) w.heap.size rfl (.tmp 47) (.tmp 50) 67 26 (.slice none 0 0) 24 rfl Try.underlying67 info26 rfl (by decide) (by omega) (.slice Ao48 x3_1.length co48) x3_1 y369 [.slice Ao54 y369.length co54] (fun _ => True) (fun k_ => some k_ = (.slice Ao54 y369.length co54 : Value).ownBlock) rfl rfl ?aP (fun k_ hk_ => ((Kd.R_mono (ok' := fun k_ => ((fun _ => True)) k_ ∧ some k_ ≠ (.slice Ao48 x3_1.length co48 : Value).ownBlock) (Kd.R_apart' (HO371.out) (Kd.S_typed HO_3.out) (by decide)) (fun k_ hk => ⟨trivial, hk.2⟩))).1 k_ hk_.symm) ?aF ?aO ?aB ?aS ?aL ?_; (case aP => exact Kd.M_row (Kd.R_mono (Kd.R_tight rfl (Kd.R_mono (ok' := fun k_ => ((fun _ => True)) k_ ∧ some k_ ≠ (.slice Ao48 x3_1.length co48 : Value).ownBlock) (Kd.R_apart' (HO371.out) (Kd.S_typed HO_3.out) (by decide)) (fun k_ hk => ⟨trivial, hk.2⟩))) (fun _ h_ => h_))); (case aB => exact aG); (case aF => exact (fun _ _ => trivial)); (case aO => exact (by (with_reducible repeat (first | apply Kd.S_alloc | apply Kd.S_drewN | apply Kd.S_drew)); exact Kd.S_mono HO_3.out (fun k_ hk => ⟨trivial, fun e_ => hk.2 e_⟩))); (case aS => exact (below_size aG)); (case aL => have := LMc44.out; omega); intro v373 w53 ho hb hg hat; rw [← Ny372.out] at ho; have n0_ := Aside0.mk (blk_grown (g := gb348) (o := .cells #[.slice A0_0 l0_0.length c0_0, .slice (some ad352) l0_1.length c0_1] 32 (0, 0)) aK hg (Kd.S_ne HO_3.out BK348.out (by decide))); have n1_ := Aside0.mk (blk_grown (g := gb353) (o := .cells #[.int .i64 ((rd_T50 l0_1 x11_1).f0), .slice A352_1 ((rd_T50 l0_1 x11_1).f1).length c352_1] 50 (0, 0)) aK hg (Kd.S_ne HO_3.out BK353.out (by decide))); have n2_ := Aside0.mk (hb); have n3_ := Aside0.mk (ho); clear BK348; clear BK353; clear HB; clear HO_3; clear HO371; have BK348 := n0_; have BK353 := n1_; have HB := n2_; have HO374 := n3_; clear n0_ n1_ n2_ n3_; clear ho hb hg hat))
        go_roundg k1
        case measure => have := HK1.out; omega
        case rel => exact ⟨(y372), (wrap64 (x11_1 + 1)), (by first | rfl | (simp; done) | (simp [*]; done)), H', ⟨by have := HK1.out; omega⟩, ⟨by (with_reducible repeat (first | apply Kd.S_alloc | apply Kd.S_drewN | apply Kd.S_drew)); exact HO374.out⟩, ⟨by (with_reducible repeat (first | refine blk_drewN ?_ _ | refine blk_drew ?_ | refine blk_alloc ?_ _)); exact BK348.out⟩, ⟨by repeat (first | (with_reducible first | exact HB.out | apply below_alloc | apply pw_below_drewN | apply below_drew1 | refine below_set ?_ GE348.out | refine below_set ?_ GE353.out) | exact HB.out)⟩⟩
       ·rw [if_neg c44] at H
        exact absurd H (by simp)
     ·rw [if_neg c8] at H
      exact absurd H (by simp)
    ·rw [if_neg c7] at H
     exact absurd H (by simp)
   ·rw [if_neg c6] at H
    have c6b0 : decide (x11_1 < (l0_1.length : Int)) = false := decide_eq_false c6
    clear c6
    obtain rfl := Option.some.inj H
    go_wp2
    go_ret
    exact ⟨_, by first | rfl | (simp [errW_none, errW_some] <;> rfl) | (simp [*, errW_none, errW_some] <;> rfl), by (with_reducible repeat (first | apply Kd.S_alloc | apply Kd.S_drewN | apply Kd.S_drew)); exact HO_3.out, by repeat (first | (with_reducible first | exact HB.out | apply below_alloc | apply pw_below_drewN | apply below_drew1 | refine below_set ?_ GE348.out) | exact HB.out)⟩

end Go.Proofs.Ytehlhbidmanbmaa.PFnExactIsRepair
