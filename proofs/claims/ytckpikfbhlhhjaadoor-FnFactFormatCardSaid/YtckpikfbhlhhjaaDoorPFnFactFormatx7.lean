import Derived.Test.YtckpikfbhlhhjaaDoorPFnFactFormatx0
import Derived.Test.YtckpikfbhlhhjaaDoorPFnFactFormatx1
import Derived.Test.YtckpikfbhlhhjaaDoorPFnFactFormatx2
import Derived.Test.YtckpikfbhlhhjaaDoorPFnFactFormatx5
import Derived.Test.YtckpikfbhlhhjaaDoorPFnFactFormatx6
namespace Go.Proofs.YtckpikfbhlhhjaaDoor.PFnFactFormat
open Go.RowKit Go.Proofs.YtckpikfbhlhhjaaDoorW.PrintWords Go.Proofs.YtckpikfbhlhhjaaDoorW.PrintLast Go.Proofs.YtckpikfbhlhhjaaDoorW.PrintMore
attribute [local go_sem] max2_int min2_int max_two min_two max_three min_three max_four min_four
set_option linter.unusedVariables false
set_option linter.unusedSimpArgs false

/-! ### spec_ParseFact: function 17 -/
def spec_ParseFact.l0 : Nat → List (S68) → ByteArray → Int → Int → List Int → Option (Int × List Int × Bool)
 | 0, _, _, _, _, _ => none
 | k + 1, x0, x1, x7, x351000, x351001 => if x7 < (x1.size : Int) then (if 0 ≤ x7 then (if (bt x1 x7) = 124 then (spec_ParseFact.l0 k x0 x1 (wrap64 (x7 + 1)) x351000 x351001) else (if x351001.length < 17592186044416 then (spec_ParseFact.l0 k x0 x1 (wrap64 (x7 + 1)) x351000 (x351001 ++ [wrap64 ((wrap64 (bt x1 x7)) - 48)])) else (none))) else (none)) else ((spec_FormatFact.f k x0 x351000 x351001).bind fun t354 => (if t354.toList = x1.toList then (some (x351000, x351001, true)) else (some (0, ([] : List Int), false))))
def spec_ParseFact.f (k : Nat) (l0 : List (S68)) (a1 : ByteArray) : Option (Int × List Int × Bool) := if a1.toList = ([] : List UInt8) then (some (0, ([] : List Int), false)) else (if 0 ≤ 1 then (if 1 ≤ (a1.size : Int) then ((spec_RelationIndex.f k l0 (a1.extract 0 1)).bind fun t349 => (spec_ParseFact.l0 k l0 a1 1 t349 ([] : List Int))) else (none)) else (none))
def spec_ParseFact.T8 : Bool × List (List Nat × List Nat) := (true, [([], []), ([0], [0]), ([], []), ([], []), ([2, 3], [2, 3]), ([4], [4]), ([5], [5]), ([6], [6]), ([1, 7], [1, 7]), ([0, 1, 2, 3, 4, 5, 6, 7, 8], []), ([9, 8, 8, 0, 1, 2, 3, 4, 5, 6, 7, 8], [8, 9])])
def spec_ParseFact.B8 : List Nat := [0, 1, 0, 0, 12, 28, 60, 124, 255, 511, 1023]
theorem spec_ParseFact.tab8 : rtab .any (opsOf Tryd.f17 8) = spec_ParseFact.T8 := by kernel_rfl
theorem spec_ParseFact.bits8 : waitsOk spec_ParseFact.T8.2 spec_ParseFact.B8 = true := by kernel_rfl
set_option maxHeartbeats 8000000 in
set_option maxRecDepth 100000 in
theorem spec_ParseFact.calls (k : Nat) (A0 : Option Addr) (c0 : Nat) (l0 : List (S68)) (a1 : ByteArray) (r1 : Int) (r2 : List Int) (r3 : Bool) (w : World) (hr0 : Kd.C k68 w A0 l0.length l0) (hc0 : l0.length ≤ c0) (h : spec_ParseFact.f k l0 a1 = some (r1, r2, r3)) :
  Calls Tryd.prog 17 #[.slice A0 l0.length c0, .string a1] w fun e w' => ∃ v1_ : Value, e = .returned (.tuple #[.agg #[.int .i64 r1, v1_], .bool r3]) ∧ Kd.R (Kd.int .i64) 3 w' w.heap.size (fun _ => True) v1_ r2 ∧ Below w.heap.size w w' := by
 have hu39 := Tryd.underlying39
 have HR0 := aM hr0
 have HC0 := aM hc0
 clear hr0 hc0
 have HB := aM (Below.refl w.heap.size w)
 have H : (if a1.toList = ([] : List UInt8) then (some (0, ([] : List Int), false)) else (if 0 ≤ 1 then (if 1 ≤ (a1.size : Int) then ((spec_RelationIndex.f k l0 (a1.extract 0 1)).bind fun t349 => (spec_ParseFact.l0 k l0 a1 1 t349 ([] : List Int))) else (none)) else (none))) = some (r1, r2, r3) := h
 clear h
 by_cases c3 : a1.toList = ([] : List UInt8)
 ·rw [if_pos c3] at H
  have c3b0 : (a1.toList == ([] : List UInt8)) = true := beq_iff_eq.mpr c3
  have c3b1 : (a1.toList != ([] : List UInt8)) = false := bne_eq_false_iff_eq.mpr c3
  clear c3
  simp only [Option.some.injEq, Prod.mk.injEq] at H
  obtain ⟨rfl, rfl, rfl⟩ := H
  go_enter Tryd.func17, Tryd.ntmps17
  go_wp2_with (first | ((with_reducible refine gate_dst (N := 4) rfl ?_); refine bE 4 (cs := #[.int .i64 0, .slice none 0 0]) (t := 39) ?_; intro gb348 hg w4 hbox hb; have BK348 := aM (hbox); have GW348 := aM ((by rw [hg]; exact (below_size aB) : w.heap.size ≤ gb348)); have GE348 := aM ((by rw [hg]; exact (below_size aB) : w.heap.size ≤ gb348)); replace HB := aM (below_step aB hb); clear hb hbox hg; have hcz5_0 : w4.cell? ⟨gb348, 0, none⟩ = some (.int .i64 0) := (blk_cell BK348.out 0).trans rfl; have hcz5_1 : w4.cell? ⟨gb348, 1, none⟩ = some (.slice none 0 0) := (blk_cell BK348.out 1).trans rfl; have hfz5_0 := blk_frozen BK348.out 0; have hfz5_1 := blk_frozen BK348.out 1))
  refine bodyPost_ret (results_ct rfl _ _ gb348 39 #[.int .i64 0, .slice none 0 0] (0, 0) _ rfl (by (with_reducible repeat refine pB ?_); refine blk_put (cs := #[.int .i64 0, .slice none 0 0]) ?_ 1 _ rfl; (with_reducible repeat refine pB ?_); refine blk_put (cs := #[.int .i64 0, .slice none 0 0]) ?_ 0 _ rfl; (with_reducible repeat refine pB ?_); exact BK348.out) Tryd.underlying39 rfl (by kernel_rfl)) rfl ?_
  exact ⟨_, aE, by first | exact Kd.R_nil _ _ _ _ _ | exact Kd.N_nil _ _ _ _ _ | exact Kd.V_nil _ _ _ _ _ | exact Kd.Q_nil _ _ _ _ _ | exact Kd.S_nil _ _ _ _ _, aG⟩
 ·rw [if_neg c3] at H
  have c3b0 : (a1.toList == ([] : List UInt8)) = false := beq_eq_false_iff_ne.mpr c3
  have c3b1 : (a1.toList != ([] : List UInt8)) = true := bne_iff_ne.mpr c3
  by_cases c6 : 0 ≤ 1
  ·rw [if_pos c6] at H
   have c6b0 := eq_true c6
   have c6b1 : decide (0 ≤ 1) = true := decide_eq_true c6
   clear c6
   by_cases c7 : 1 ≤ (a1.size : Int)
   ·rw [if_pos c7] at H
    have c7b0 := eq_true c7
    have c7b1 : decide (1 ≤ (a1.size : Int)) = true := decide_eq_true c7
    clear c7
    replace H := bM H
    obtain ⟨t349, A80, H⟩ := H
    have A8 := aM A80
    clear A80
    have H' := aM H
    clear H
    go_enter Tryd.func17, Tryd.ntmps17
    go_wp2_with (first | ((with_reducible refine gate_dst (N := 4) rfl ?_); refine bE 4 (cs := #[.int .i64 0, .slice none 0 0]) (t := 39) ?_; intro gb348 hg w9 hbox hb; have BK348 := aM (hbox); have GW348 := aM ((by rw [hg]; exact (below_size aB) : w.heap.size ≤ gb348)); have GE348 := aM ((by rw [hg]; exact (below_size aB) : w.heap.size ≤ gb348)); replace HB := aM (below_step aB hb); clear hb hbox hg) | ((with_reducible refine gate_callee (f := 60) rfl ?_); refine goesL_ (some 14) rfl rfl Tryd.func60 (by kernel_rfl) rfl #[.slice A0 l0.length c0, .string (a1.extract 0 1)] rfl aA ?_; (with_reducible refine (spec_RelationIndex.calls k _ _ l0 (a1.extract 0 1) t349 _ ?side1 ?side2 A8.out).mono ?_); (case side1 => exact aC); (case side2 => exact HC0.out); rintro e w' ⟨rfl, ⟨nd, rfl⟩⟩; refine ⟨_, rfl, ?_⟩; (try (rw [drewN_self w9]; generalize hq_ : World.drewN w9 _ = w9; have n0_ : Aside0 (w9.heap[gb348]? = some (.cells #[.int .i64 0, .slice none 0 0] 39 (0, 0))) := ⟨by rw [← hq_]; exact aK⟩; have n1_ : Aside0 (Below w.heap.size w w9) := ⟨by rw [← hq_]; exact aG⟩; clear BK348 HB hq_; have BK348 := n0_; have HB := n1_; clear n0_ n1_))) | ((with_reducible refine gate_dst (N := 6) rfl ?_); refine bE 6 (cs := #[.int .i64 0, .slice none 0 0]) (t := 39) ?_; intro gb350 hg w10 hbox hb; have BK350 := aM (hbox); have GW350 := aM ((by rw [hg]; exact (below_size aG) : w.heap.size ≤ gb350)); have GE350 := aM ((by rw [hg]; exact (below_size aG) : w.heap.size ≤ gb350)); have NB348_350 := aM ((by rw [hg]; exact Nat.ne_of_lt (blk_lt (g := gb348) (o := .cells #[.int .i64 0, .slice none 0 0] 39 (0, 0)) aK) : gb348 ≠ gb350)); have NB350_348 := aM ((by rw [hg]; exact Nat.ne_of_gt (blk_lt (g := gb348) (o := .cells #[.int .i64 0, .slice none 0 0] 39 (0, 0)) aK) : gb350 ≠ gb348)); replace BK348 := aM (kB gb348 #[.int .i64 0, .slice none 0 0] 39 hb); replace HB := aM (below_step aG hb); clear hb hbox hg; have hnb11 := NB350_348.out; have hnc11 := NB348_350.out; have hcz12_0 : w10.cell? ⟨gb350, 0, none⟩ = some (.int .i64 0) := (blk_cell BK350.out 0).trans rfl; have hcz12_1 : w10.cell? ⟨gb350, 1, none⟩ = some (.slice none 0 0) := (blk_cell BK350.out 1).trans rfl; have hfz12_0 := blk_frozen BK350.out 0; have hfz12_1 := blk_frozen BK350.out 1))
    go_loopg [7] k (fun kq v7 w' => ∃ (x7_1 : Int) (x351001_1 : List Int) (u351001 : Value), v7 = .int .i64 x7_1 ∧ Aside0 (spec_ParseFact.l0 kq l0 a1 x7_1 t349 x351001_1 = some (r1, r2, r3)) ∧ Aside0 (kq ≤ k) ∧ Aside0 (Kd.R (Kd.int .i64) 3 w' w.heap.size (fun _ => True) u351001 x351001_1) ∧ Aside0 (w'.heap[gb348]? = some (.cells #[.int .i64 0, (.slice none 0 0)] 39 (0, 0))) ∧ Aside0 (w'.heap[gb350]? = some (.cells #[.int .i64 t349, u351001] 39 (0, 0))) ∧ Aside0 (Below w.heap.size w w'))
    case atStart => exact ⟨(1), (([] : List Int)), (.slice none 0 0), aX, H', ⟨Nat.le_refl _⟩, ⟨by first | exact Kd.R_nil _ _ _ _ _ | exact Kd.N_nil _ _ _ _ _ | exact Kd.V_nil _ _ _ _ _ | exact Kd.Q_nil _ _ _ _ _ | exact Kd.S_nil _ _ _ _ _⟩, ⟨by (with_reducible repeat refine pB ?_); refine blk_far ?_ NB348_350.out _; (with_reducible repeat refine pB ?_); refine blk_far ?_ NB348_350.out _; (with_reducible repeat refine pB ?_); exact BK348.out⟩, ⟨by (with_reducible repeat refine pB ?_); refine blk_put (cs := #[.int .i64 t349, .slice none 0 0]) ?_ 1 _ rfl; (with_reducible repeat refine pB ?_); refine blk_put (cs := #[.int .i64 0, .slice none 0 0]) ?_ 0 _ rfl; (with_reducible repeat refine pB ?_); exact BK350.out⟩, ⟨aG⟩⟩
    case round =>
     clear H'
     try clear c1
     try clear p2
     try clear c3
     try clear c3b0
     try clear c3b1
     try clear c6
     try clear c6b0
     try clear c6b1
     try clear c7
     try clear c7b0
     try clear c7b1
     try clear c11
     try clear hcz12_0
     try clear hcz12_1
     try clear hcz5_0
     try clear hcz5_1
     try clear hfz12_0
     try clear hfz12_1
     try clear hfz5_0
     try clear hfz5_1
     obtain ⟨x7_1, x351001_1, u351001, rfl, HA, HK1, HO_351001, BK348, BK350, HB⟩ := hrel
     cases gk with
     | zero => exact absurd HA.out (by simp [spec_ParseFact.l0])
     | succ k1 =>
      have H := HA.out
      clear HA
      simp only [spec_ParseFact.l0] at H
      by_cases c13 : x7_1 < (a1.size : Int)
      ·rw [if_pos c13] at H
       have c13b0 : decide (x7_1 < (a1.size : Int)) = true := decide_eq_true c13
       clear c13
       by_cases c14 : 0 ≤ x7_1
       ·rw [if_pos c14] at H
        have c14b0 : decide (0 ≤ x7_1) = true := decide_eq_true c14
        clear c14
        by_cases c16 : (bt a1 x7_1) = 124
        ·rw [if_pos c16] at H
         have c16b0 : ((bt a1 x7_1) == 124) = true := beq_iff_eq.mpr c16
         have c16b1 : ((bt a1 x7_1) != 124) = false := bne_eq_false_iff_eq.mpr c16
         clear c16
         have H' := aM H
         clear H
         have p15 : 0 ≤ (x7_1 : Int) := aD
         have q15 : x7_1 < (a1.size : Int) := aD
         have hx15 := bt_at a1 x7_1
         replace p15 := eq_true p15
         replace q15 := eq_true q15
         go_wp2
         go_roundg k1
         case measure => have := HK1.out; omega
         case rel => exact ⟨(wrap64 (x7_1 + 1)), (x351001_1), (u351001), aX, H', ⟨by have := HK1.out; omega⟩, ⟨aR HO_351001⟩, ⟨aK⟩, ⟨aK⟩, ⟨aG⟩⟩
        ·rw [if_neg c16] at H
         have c16b0 : ((bt a1 x7_1) == 124) = false := beq_eq_false_iff_ne.mpr c16
         have c16b1 : ((bt a1 x7_1) != 124) = true := bne_iff_ne.mpr c16
         by_cases c18 : x351001_1.length < 17592186044416
         ·rw [if_pos c18] at H
          have LMc18 := aM c18
          clear c18
          obtain ⟨y351, hy351⟩ : ∃ y_ : List Int, y_ = (x351001_1 ++ [wrap64 ((wrap64 (bt a1 x7_1)) - 48)]) := ⟨_, rfl⟩
          first | replace H := bY hy351 H | rw [← hy351] at H
          have Ny351 := aM hy351
          clear hy351
          have H' := aM H
          clear H
          have p15 : 0 ≤ (x7_1 : Int) := aD
          have q15 : x7_1 < (a1.size : Int) := aD
          have hx15 := bt_at a1 x7_1
          replace p15 := eq_true p15
          replace q15 := eq_true q15
          try go_wp2
          replace HO_351001 := aM (Kd.R_drew HO_351001.out)
          replace BK348 := aM (blk_drew BK348.out)
          replace BK350 := aM (blk_drew BK350.out)
          replace HB := aM (below_drew1 HB.out)
          have p17 : 0 ≤ (x7_1 : Int) := aD
          have q17 : x7_1 < (a1.size : Int) := aD
          have hx17 := bt_at a1 x7_1
          replace p17 := eq_true p17
          replace q17 := eq_true q17
          refine start_ (n := 11) (S := fun w' => w'.cell? ⟨gb350, 0, none⟩ = some (.int .i64 t349) ∧ w'.cell? ⟨gb350, 1, none⟩ = some (u351001)) (ds := [10]) #[false, false, false, false, false, false, false, false, false, false, false] (by kernel_rfl) rfl rfl ⟨(blk_cell BK350.out 0).trans rfl, (blk_cell BK350.out 1).trans rfl⟩ (fun hHeld => ?_); refine with_tabW spec_ParseFact.tab8 spec_ParseFact.bits8 (fun HT_ HW_ => ?_)
          generalize wr.drew = w19 at HO_351001 BK348 BK350 HB hHeld ⊢
          refine pU 0 26 ?_
          refine pU 2 28 ?_
          refine pU 3 29 ?_
          refine tU2 1 27 hHeld ?_
          refine tU2 4 30 hHeld ?_
          refine pU 5 31 ?_
          refine pU 6 32 ?_
          refine oU 7 33 (fun K hK => ?_)
          refine value_ (w1 := ?_) (v := ?_) (by rfl) rfl ?_ ?_
          rotate_left 2
          ·go_simp
           constructor
           ·rfl
           ·rfl
          refine hK.out _ _ ⟨(blk_cell (blk_alloc BK350.out _) 0).trans rfl, (blk_cell (blk_alloc BK350.out _) 1).trans rfl⟩ (fun hHeld => ?_)
          clear hK K
          refine nU 33 ?_
          refine oU 8 34 (fun K hK => ?_)
          refine Kd.R_append_step (Kd.int .i64) (w0 := w) w.heap.size (by rfl) (.tmp 27) (.tmp 33) 37 3 (.int .i64 0) 8 rfl Tryd.underlying37 info3 rfl (by decide) (by omega) u351001 x351001_1 (wrap64 ((wrap64 (bt a1 x7_1)) - 48)) [.int .i64 (wrap64 ((wrap64 (bt a1 x7_1)) - 48))] (fun _ => True) (fun _ => False) rfl rfl ?aP (fun _ hk => hk.elim) ?aF ?aO ?aB ?aS ?aL ?_
          (case aP => exact rfl)
          (case aB => exact aG)
          (case aF => exact (fun _ _ => trivial))
          (case aO => exact (aR HO_351001))
          (case aS => exact (below_size aG))
          (case aL => have := LMc18.out; omega)
          intro v352 w20 ho hb hg hat
          rw [← Ny351.out] at ho
          have n0_ := aM (blk_grown (g := gb348) (o := .cells #[.int .i64 0, .slice none 0 0] 39 (0, 0)) aK hg (Kd.R_ne HO_351001.out BK348.out (by decide)))
          have n1_ := aM (blk_grown (g := gb350) (o := .cells #[.int .i64 t349, u351001] 39 (0, 0)) aK hg (Kd.R_ne HO_351001.out BK350.out (by decide)))
          have n2_ := aM (hb)
          have n3_ := aM (ho)
          clear BK348
          clear BK350
          clear HB
          clear HO_351001
          have BK348 := n0_
          have BK350 := n1_
          have HB := n2_
          have HO353 := n3_
          clear n0_ n1_ n2_ n3_
          clear ho hb hg hat
          obtain ⟨Ao21, co21, eo21⟩ := Kd.R_slice HO353.out
          (first | subst eo21 | (injection eo21 with f1_ f2_ f3_; have f4_ := f1_.symm; have f5_ := f3_.symm; clear f1_ f2_ f3_; subst f4_; subst f5_))
          refine hK.out _ _ ⟨(blk_cell BK350.out 0).trans rfl, (blk_cell BK350.out 1).trans rfl⟩ (fun hHeld => ?_)
          clear hK K
          refine nU 34 ?_
          refine pU 9 35 ?_
          refine last_ (i := 10) (N := none) #[true, true, true, true, true, true, true, true, true, true, true] rfl rfl (one_of HT_.out (by kernel_rfl)) (by decide) (fun K hK => ?_)
          have hs22 : w20.cell? ⟨gb350, 1, none⟩ = some (u351001) := (blk_cell BK350.out 1).trans rfl
          have hfs22 := blk_frozen BK350.out 1
          have hns22_0 := NB348_350.out
          have hms22_0 := NB350_348.out
          refine skip_ (w1 := ?_) (by rfl) rfl ?_ ?_
          rotate_left
          ·go_simp
           rfl
          refine hK.out _ _ ?_
          clear hK K
          refine done_ (done_of HT_.out (by kernel_rfl)) ?_
          try go_wp2
          go_roundg k1
          case measure => have := HK1.out; omega
          case rel => exact ⟨(wrap64 (x7_1 + 1)), (y351), (.slice Ao21 y351.length co21), aX, H', ⟨by have := HK1.out; omega⟩, ⟨by (with_reducible repeat apply pR); exact Kd.R_mono (Kd.R_far (p := ⟨gb350, 1, none⟩) (Kd.R_types HO353.out BK350.out (by decide)) (fun _ hk => hk.2) (.slice Ao21 y351.length co21)) (fun _ hk => trivial)⟩, ⟨by (with_reducible repeat refine pB ?_); refine blk_far ?_ NB348_350.out _; (with_reducible repeat refine pB ?_); exact BK348.out⟩, ⟨by (with_reducible repeat refine pB ?_); refine blk_put (cs := #[.int .i64 t349, u351001]) ?_ 1 _ rfl; (with_reducible repeat refine pB ?_); exact BK350.out⟩, ⟨aG⟩⟩
         ·rw [if_neg c18] at H
          exact absurd H (by simp)
       ·rw [if_neg c14] at H
        exact absurd H (by simp)
      ·rw [if_neg c13] at H
       have c13b0 : decide (x7_1 < (a1.size : Int)) = false := decide_eq_false c13
       clear c13
       replace H := bM H
       obtain ⟨t354, A230, H⟩ := H
       have A23 := aM A230
       clear A230
       by_cases c24 : t354.toList = a1.toList
       ·rw [if_pos c24] at H
        have c24b0 : (t354.toList == a1.toList) = true := beq_iff_eq.mpr c24
        have c24b1 : (t354.toList != a1.toList) = false := bne_eq_false_iff_eq.mpr c24
        clear c24
        simp only [Option.some.injEq, Prod.mk.injEq] at H
        obtain ⟨rfl, rfl, rfl⟩ := H
        have hnb25 := NB350_348.out
        have hnc25 := NB348_350.out
        have hcz26_0 : wr.cell? ⟨gb350, 0, none⟩ = some (.int .i64 t349) := (blk_cell BK350.out 0).trans rfl
        have hcz26_1 : wr.cell? ⟨gb350, 1, none⟩ = some (u351001) := (blk_cell BK350.out 1).trans rfl
        have hfz26_0 := blk_frozen BK350.out 0
        have hfz26_1 := blk_frozen BK350.out 1
        obtain ⟨Ao27, co27, eo27⟩ := Kd.R_slice HO_351001.out
        subst eo27
        go_wp2_with (first | ((with_reducible refine gate_callee (f := 55) rfl ?_); refine goesL_ (some 38) rfl rfl Tryd.func55 (by kernel_rfl) rfl #[.slice A0 l0.length c0, .agg #[.int .i64 t349, .slice Ao27 x351001_1.length co27]] rfl aA ?_; (with_reducible refine (spec_FormatFact.calls k1 _ _ l0 t349 _ _ x351001_1 t354 _ ?side1 ?side2 ?side3 ?side4 A23.out).mono ?_); (case side1 => exact aC); (case side2 => exact HC0.out); (case side3 => repeat (first | exact (Kd.R_reads' HO_351001.out).2.2 | (with_reducible refine pC ?_))); (case side4 => exact (Kd.R_reads' HO_351001.out).2.1); rintro e w28 ⟨rfl, hb⟩; refine ⟨_, rfl, ?_⟩; have n0_ := aM (Kd.R_below (aR HO_351001) hb); have n1_ := aM (kB gb348 #[.int .i64 0, .slice none 0 0] 39 hb); have n2_ := aM (kB gb350 #[.int .i64 t349, .slice Ao27 x351001_1.length co27] 39 hb); have n3_ := aM (below_step aG hb); clear HO_351001; clear BK348; clear BK350; clear HB; have HO_351001 := n0_; have BK348 := n1_; have BK350 := n2_; have HB := n3_; clear n0_ n1_ n2_ n3_; (try clear hb); (try clear hb2); (try clear hk); (try clear hi); have hcz29_0 : w28.cell? ⟨gb350, 0, none⟩ = some (.int .i64 t349) := (blk_cell BK350.out 0).trans rfl; have hcz29_1 : w28.cell? ⟨gb350, 1, none⟩ = some (.slice Ao27 x351001_1.length co27) := (blk_cell BK350.out 1).trans rfl; have hfz29_0 := blk_frozen BK350.out 0; have hfz29_1 := blk_frozen BK350.out 1; have hcz30_0 : w28.cell? ⟨gb348, 0, none⟩ = some (.int .i64 0) := (blk_cell BK348.out 0).trans rfl; have hcz30_1 : w28.cell? ⟨gb348, 1, none⟩ = some (.slice none 0 0) := (blk_cell BK348.out 1).trans rfl; have hfz30_0 := blk_frozen BK348.out 0; have hfz30_1 := blk_frozen BK348.out 1))
        refine bodyPost_ret (results_ct rfl _ _ gb348 39 #[.int .i64 t349, .slice Ao27 x351001_1.length co27] (0, 0) _ rfl (by (with_reducible repeat refine pB ?_); refine blk_put (cs := #[.int .i64 t349, .slice none 0 0]) ?_ 1 _ rfl; (with_reducible repeat refine pB ?_); refine blk_put (cs := #[.int .i64 0, .slice none 0 0]) ?_ 0 _ rfl; (with_reducible repeat refine pB ?_); exact BK348.out) Tryd.underlying39 rfl (by kernel_rfl)) rfl ?_
        exact ⟨_, aE, by (with_reducible repeat apply pR); exact Kd.R_mono (Kd.R_far (p := ⟨gb348, 1, none⟩) (Kd.R_far (p := ⟨gb348, 0, none⟩) (Kd.R_types HO_351001.out BK348.out (by decide)) (fun _ hk => hk.2) (.int .i64 t349)) (fun _ hk => hk.2) (.slice Ao27 x351001_1.length co27)) (fun _ hk => trivial), aG⟩
       ·rw [if_neg c24] at H
        have c24b0 : (t354.toList == a1.toList) = false := beq_eq_false_iff_ne.mpr c24
        have c24b1 : (t354.toList != a1.toList) = true := bne_iff_ne.mpr c24
        simp only [Option.some.injEq, Prod.mk.injEq] at H
        obtain ⟨rfl, rfl, rfl⟩ := H
        have hnb31 := NB350_348.out
        have hnc31 := NB348_350.out
        have hcz32_0 : wr.cell? ⟨gb350, 0, none⟩ = some (.int .i64 t349) := (blk_cell BK350.out 0).trans rfl
        have hcz32_1 : wr.cell? ⟨gb350, 1, none⟩ = some (u351001) := (blk_cell BK350.out 1).trans rfl
        have hfz32_0 := blk_frozen BK350.out 0
        have hfz32_1 := blk_frozen BK350.out 1
        obtain ⟨Ao33, co33, eo33⟩ := Kd.R_slice HO_351001.out
        subst eo33
        go_wp2_with (first | ((with_reducible refine gate_callee (f := 55) rfl ?_); refine goesL_ (some 38) rfl rfl Tryd.func55 (by kernel_rfl) rfl #[.slice A0 l0.length c0, .agg #[.int .i64 t349, .slice Ao33 x351001_1.length co33]] rfl aA ?_; (with_reducible refine (spec_FormatFact.calls k1 _ _ l0 t349 _ _ x351001_1 t354 _ ?side1 ?side2 ?side3 ?side4 A23.out).mono ?_); (case side1 => exact aC); (case side2 => exact HC0.out); (case side3 => repeat (first | exact (Kd.R_reads' HO_351001.out).2.2 | (with_reducible refine pC ?_))); (case side4 => exact (Kd.R_reads' HO_351001.out).2.1); rintro e w34 ⟨rfl, hb⟩; refine ⟨_, rfl, ?_⟩; have n0_ := aM (Kd.R_below (aR HO_351001) hb); have n1_ := aM (kB gb348 #[.int .i64 0, .slice none 0 0] 39 hb); have n2_ := aM (kB gb350 #[.int .i64 t349, .slice Ao33 x351001_1.length co33] 39 hb); have n3_ := aM (below_step aG hb); clear HO_351001; clear BK348; clear BK350; clear HB; have HO_351001 := n0_; have BK348 := n1_; have BK350 := n2_; have HB := n3_; clear n0_ n1_ n2_ n3_; (try clear hb); (try clear hb2); (try clear hk); (try clear hi); have hcz35_0 : w34.cell? ⟨gb348, 0, none⟩ = some (.int .i64 0) := (blk_cell BK348.out 0).trans rfl; have hcz35_1 : w34.cell? ⟨gb348, 1, none⟩ = some (.slice none 0 0) := (blk_cell BK348.out 1).trans rfl; have hfz35_0 := blk_frozen BK348.out 0; have hfz35_1 := blk_frozen BK348.out 1))
        refine bodyPost_ret (results_ct rfl _ _ gb348 39 #[.int .i64 0, .slice none 0 0] (0, 0) _ rfl (by (with_reducible repeat refine pB ?_); refine blk_put (cs := #[.int .i64 0, .slice none 0 0]) ?_ 1 _ rfl; (with_reducible repeat refine pB ?_); refine blk_put (cs := #[.int .i64 0, .slice none 0 0]) ?_ 0 _ rfl; (with_reducible repeat refine pB ?_); exact BK348.out) Tryd.underlying39 rfl (by kernel_rfl)) rfl ?_
        exact ⟨_, aE, by first | exact Kd.R_nil _ _ _ _ _ | exact Kd.N_nil _ _ _ _ _ | exact Kd.V_nil _ _ _ _ _ | exact Kd.Q_nil _ _ _ _ _ | exact Kd.S_nil _ _ _ _ _, aG⟩
   ·rw [if_neg c7] at H
    exact absurd H (by simp)
  ·rw [if_neg c6] at H
   exact absurd H (by simp)

/-! ### spec_DrawCompareFacts: function 18 -/
def spec_DrawCompareFacts.f (k : Nat) (l0 : List Int) : Option (Int × List Int × Int × List Int) := (spec_l1New.f k l0).bind fun bt357 => ((spec_l2Sigs.f bt357.1 bt357.2.1 bt357.2.2).bind fun bt361 => ((spec_l3Fact.f k bt357.1 bt361.2.1 bt361.2.2 bt361.1 2).bind fun bt366 => ((spec_l3Fact.f k bt357.1 bt366.2.2.1 bt366.2.2.2 bt361.1 2).bind fun bt373 => (some (bt366.1, bt366.2.1, bt373.1, bt373.2.1)))))
set_option maxHeartbeats 8000000 in
set_option maxRecDepth 100000 in
theorem spec_DrawCompareFacts.calls (k : Nat) (A0 : Option Addr) (c0 : Nat) (l0 : List Int) (r1 : Int) (r2 : List Int) (r3 : Int) (r4 : List Int) (w : World) (hr0 : Kd.C (Kd.int .u8) w A0 l0.length l0) (hc0 : l0.length ≤ c0) (h : spec_DrawCompareFacts.f k l0 = some (r1, r2, r3, r4)) :
  Calls Tryd.prog 18 #[.slice A0 l0.length c0] w fun e w' => ∃ v1_ v3_ : Value, e = .returned (.tuple #[.agg #[.int .i64 r1, v1_], .agg #[.int .i64 r3, v3_]]) ∧ Kd.R (Kd.int .i64) 3 w' w.heap.size (fun k_ => some k_ ≠ (v3_ : Value).ownBlock) v1_ r2 ∧ Kd.R (Kd.int .i64) 3 w' w.heap.size (fun k_ => some k_ ≠ (v1_ : Value).ownBlock) v3_ r4 ∧ Below w.heap.size w w' := by
 have hu39 := Tryd.underlying39
 have HR0 := aM hr0
 have HC0 := aM hc0
 clear hr0 hc0
 have HB := aM (Below.refl w.heap.size w)
 have H : ((spec_l1New.f k l0).bind fun bt357 => ((spec_l2Sigs.f bt357.1 bt357.2.1 bt357.2.2).bind fun bt361 => ((spec_l3Fact.f k bt357.1 bt361.2.1 bt361.2.2 bt361.1 2).bind fun bt366 => ((spec_l3Fact.f k bt357.1 bt366.2.2.1 bt366.2.2.2 bt361.1 2).bind fun bt373 => (some (bt366.1, bt366.2.1, bt373.1, bt373.2.1)))))) = some (r1, r2, r3, r4) := h
 clear h
 replace H := bM H
 obtain ⟨⟨t357, t358, t359⟩, A20, H⟩ := H
 dsimp only at H
 have A2 := aM A20
 clear A20
 replace H := bM H
 obtain ⟨⟨t361, t364, t365⟩, A30, H⟩ := H
 dsimp only at H
 have A3 := aM A30
 clear A30
 replace H := bM H
 obtain ⟨⟨t366, t367, t370, t371⟩, A40, H⟩ := H
 dsimp only at H
 have A4 := aM A40
 clear A40
 replace H := bM H
 obtain ⟨⟨t373, t374, t377, t378⟩, A50, H⟩ := H
 dsimp only at H
 have A5 := aM A50
 clear A50
 simp only [Option.some.injEq, Prod.mk.injEq] at H
 obtain ⟨rfl, rfl, rfl, rfl⟩ := H
 go_enter Tryd.func18, Tryd.ntmps18
 try go_wp2_with (first | ((with_reducible refine gate_dst (N := 2) rfl ?_); refine bE 2 (cs := #[.int .i64 0, .slice none 0 0]) (t := 39) ?_; intro gb355 hg w6 hbox hb; have BK355 := aM (hbox); have GW355 := aM ((by rw [hg]; exact (below_size aB) : w.heap.size ≤ gb355)); have GE355 := aM ((by rw [hg]; exact (below_size aB) : w.heap.size ≤ gb355)); replace HB := aM (below_step aB hb); clear hb hbox hg) | ((with_reducible refine gate_dst (N := 3) rfl ?_); refine bE 3 (cs := #[.int .i64 0, .slice none 0 0]) (t := 39) ?_; intro gb356 hg w7 hbox hb; have BK356 := aM (hbox); have GW356 := aM ((by rw [hg]; exact (below_size aG) : w.heap.size ≤ gb356)); have GE356 := aM ((by rw [hg]; exact (below_size aG) : w.heap.size ≤ gb356)); have NB355_356 := aM ((by rw [hg]; exact Nat.ne_of_lt (blk_lt (g := gb355) (o := .cells #[.int .i64 0, .slice none 0 0] 39 (0, 0)) aK) : gb355 ≠ gb356)); have NB356_355 := aM ((by rw [hg]; exact Nat.ne_of_gt (blk_lt (g := gb355) (o := .cells #[.int .i64 0, .slice none 0 0] 39 (0, 0)) aK) : gb356 ≠ gb355)); replace BK355 := aM (kB gb355 #[.int .i64 0, .slice none 0 0] 39 hb); replace HB := aM (below_step aG hb); clear hb hbox hg) | ((with_reducible refine gate_callee (f := 53) rfl ?_); refine goesL_ (some 8) rfl rfl Tryd.func53 (by kernel_rfl) rfl #[.slice A0 l0.length c0] rfl aA ?_; (with_reducible refine (spec_l1New.calls k _ _ l0 t357 t358 t359 w _ ?side1 ?side2 ?side3 A2.out).mono ?_); (case side1 => exact aG); (case side2 => exact HR0.out); (case side3 => exact HC0.out); rintro e w8 ⟨g360, rfl, hi, hb, hb2⟩; refine ⟨_, rfl, ?_⟩; have n0_ := aM (blk_below (g := gb355) (o := .cells #[.int .i64 0, .slice none 0 0] 39 (0, 0)) aK hb2); have n1_ := aM (blk_below (g := gb356) (o := .cells #[.int .i64 0, .slice none 0 0] 39 (0, 0)) aK hb2); have n2_ := aM (hb); have n3_ := aM (hi); have n4_ := aM (IsS117.ne_blk hi (blk_below (g := gb355) (o := .cells #[.int .i64 0, .slice none 0 0] 39 (0, 0)) aK hb2) (by decide)); have n5_ := aM (Ne.symm (IsS117.ne_blk hi (blk_below (g := gb355) (o := .cells #[.int .i64 0, .slice none 0 0] 39 (0, 0)) aK hb2) (by decide))); have n6_ := aM (IsS117.ne_blk hi (blk_below (g := gb356) (o := .cells #[.int .i64 0, .slice none 0 0] 39 (0, 0)) aK hb2) (by decide)); have n7_ := aM (Ne.symm (IsS117.ne_blk hi (blk_below (g := gb356) (o := .cells #[.int .i64 0, .slice none 0 0] 39 (0, 0)) aK hb2) (by decide))); clear BK355; clear BK356; clear HB; have BK355 := n0_; have BK356 := n1_; have HB := n2_; have HI360 := n3_; have NB360_355 := n4_; have NB355_360 := n5_; have NB360_356 := n6_; have NB356_360 := n7_; clear n0_ n1_ n2_ n3_ n4_ n5_ n6_ n7_; (try clear hb); (try clear hb2); (try clear hk); (try clear hi)) | ((with_reducible refine gate_callee (f := 54) rfl ?_); refine goesL_ (some 10) rfl rfl Tryd.func54 (by kernel_rfl) rfl #[.pointer (some ⟨g360, 0, none⟩)] rfl aA ?_; (with_reducible refine (spec_l2Sigs.calls g360 t357 t358 t359 t361 t364 t365 w _ ?side1 ?side2 A3.out).mono ?_); (case side1 => repeat (first | (with_reducible first | exact HI360.out | apply IsS117.alloc | apply IsS117.drewN | apply IsS117.drew | apply IsS117.set_1 | apply IsS117.set_2 | refine IsS117.far ?_ NB360_355.out _ | refine IsS117.far ?_ NB360_356.out _) | exact HI360.out)); (case side2 => repeat (first | (with_reducible first | exact HB.out | apply below_alloc | apply pw_below_drewN | apply below_drew1 | refine below_set ?_ (IsS117.ge HI360.out) | refine below_set ?_ GE355.out | refine below_set ?_ GE356.out) | exact HB.out)); rintro e w9 ⟨v362, rfl, ho0, hi, hb, hk⟩; refine ⟨_, rfl, ?_⟩; have n0_ := aM (KeepBut.blk hk (g' := gb355) (o := .cells #[.int .i64 0, .slice none 0 0] 39 (0, 0)) aK NB355_360.out (by simp)); have n1_ := aM (KeepBut.blk hk (g' := gb356) (o := .cells #[.int .i64 0, .slice none 0 0] 39 (0, 0)) aK NB356_360.out (by simp)); have n2_ := aM (Kd.R_lower ho0 (below_size (by repeat (first | (with_reducible first | exact HB.out | apply below_alloc | apply pw_below_drewN | apply below_drew1 | refine below_set ?_ (IsS117.ge HI360.out) | refine below_set ?_ GE355.out | refine below_set ?_ GE356.out) | exact HB.out)))); have n3_ := aM (hb); have n4_ := aM (hi); clear BK355; clear BK356; clear HB; clear HI360; have BK355 := n0_; have BK356 := n1_; have HO363 := n2_; have HB := n3_; have HI360 := n4_; clear n0_ n1_ n2_ n3_ n4_; (try clear hb); (try clear hb2); (try clear hk); (try clear hi); (try clear ho0); obtain ⟨Ao10, co10, eo10⟩ := Kd.R_slice HO363.out; subst eo10) | ((with_reducible refine gate_callee (f := 56) rfl ?_); refine goesL_ (some 13) rfl rfl Tryd.func56 (by kernel_rfl) rfl #[.pointer (some ⟨g360, 0, none⟩), .slice Ao10 t361.length co10, .int .i64 2] rfl aA ?_; (with_reducible refine (spec_l3Fact.calls k g360 t357 t364 t365 _ _ t361 2 t366 t367 t370 t371 w _ ?side1 ?side2 ?side3 ?side4 A4.out).mono ?_); (case side1 => repeat (first | (with_reducible first | exact HI360.out | apply IsS117.alloc | apply IsS117.drewN | apply IsS117.drew | apply IsS117.set_1 | apply IsS117.set_2 | refine IsS117.far ?_ NB360_355.out _ | refine IsS117.far ?_ NB360_356.out _) | exact HI360.out)); (case side2 => repeat (first | (with_reducible first | exact HB.out | apply below_alloc | apply pw_below_drewN | apply below_drew1 | refine below_set ?_ (IsS117.ge HI360.out) | refine below_set ?_ GE355.out | refine below_set ?_ GE356.out) | exact HB.out)); (case side3 => exact Kd.C_foot_own (IsS117.apart (show IsS117 w _ g360 t357 t364 t365 from by repeat (first | (with_reducible first | exact HI360.out | apply IsS117.alloc | apply IsS117.drewN | apply IsS117.drew | apply IsS117.set_1 | apply IsS117.set_2 | refine IsS117.far ?_ NB360_355.out _ | refine IsS117.far ?_ NB360_356.out _) | exact HI360.out)) (aR HO363) (by decide)) (fun _ h_ => h_.2)); (case side4 => exact (Kd.R_reads' HO363.out).2.1); rintro e w11 ⟨v368, rfl, ho0, hi, hb, hk⟩; refine ⟨_, rfl, ?_⟩; have n0_ := aM (KeepBut.blk hk (g' := gb355) (o := .cells #[.int .i64 0, .slice none 0 0] 39 (0, 0)) aK NB355_360.out (by simp)); have n1_ := aM (KeepBut.blk hk (g' := gb356) (o := .cells #[.int .i64 0, .slice none 0 0] 39 (0, 0)) aK NB356_360.out (by simp)); have n2_ := aM (Kd.R_mono (Kd.R_keep (IsS117.apart (show IsS117 w _ g360 t357 t364 t365 from by repeat (first | (with_reducible first | exact HI360.out | apply IsS117.alloc | apply IsS117.drewN | apply IsS117.drew | apply IsS117.set_1 | apply IsS117.set_2 | refine IsS117.far ?_ NB360_355.out _ | refine IsS117.far ?_ NB360_356.out _) | exact HI360.out)) (aR HO363) (by decide)) hk (fun _ h => h.2)) (fun _ h => h.1)); have n3_ := aM (Kd.R_lower ho0 (below_size (by repeat (first | (with_reducible first | exact HB.out | apply below_alloc | apply pw_below_drewN | apply below_drew1 | refine below_set ?_ (IsS117.ge HI360.out) | refine below_set ?_ GE355.out | refine below_set ?_ GE356.out) | exact HB.out)))); have n4_ := aM (hb); have n5_ := aM (hi); clear BK355; clear BK356; clear HO363; clear HB; clear HI360; have BK355 := n0_; have BK356 := n1_; have HO363 := n2_; have HO369 := n3_; have HB := n4_; have HI360 := n5_; clear n0_ n1_ n2_ n3_ n4_ n5_; (try clear hb); (try clear hb2); (try clear hk); (try clear hi); (try clear ho0)) | ((with_reducible refine gate_dst (N := 6) rfl ?_); refine bE 6 (cs := #[.int .i64 0, .slice none 0 0]) (t := 39) ?_; intro gb372 hg w12 hbox hb; have n0_ := aM (Kd.R_below (aR HO363) hb); have n1_ := aM (Kd.R_below (aR HO369) hb); have n2_ := aM (kB gb355 #[.int .i64 0, .slice none 0 0] 39 hb); have n3_ := aM (kB gb356 #[.int .i64 0, .slice none 0 0] 39 hb); have n4_ := aM (IsS117.below (by repeat (first | (with_reducible first | exact HI360.out | apply IsS117.alloc | apply IsS117.drewN | apply IsS117.drew | apply IsS117.set_1 | apply IsS117.set_2 | refine IsS117.far ?_ NB360_355.out _ | refine IsS117.far ?_ NB360_356.out _) | exact HI360.out)) hb); have n5_ := aM (below_step (by repeat (first | (with_reducible first | exact HB.out | apply below_alloc | apply pw_below_drewN | apply below_drew1 | refine below_set ?_ (IsS117.ge HI360.out) | refine below_set ?_ GE355.out | refine below_set ?_ GE356.out) | exact HB.out)) hb); have n6_ := aM (hbox); have n7_ := aM ((by rw [hg]; exact (below_size (by repeat (first | (with_reducible first | exact HB.out | apply below_alloc | apply pw_below_drewN | apply below_drew1 | refine below_set ?_ (IsS117.ge HI360.out) | refine below_set ?_ GE355.out | refine below_set ?_ GE356.out) | exact HB.out))) : w.heap.size ≤ gb372)); have n8_ := aM ((by rw [hg]; exact (below_size (by repeat (first | (with_reducible first | exact HB.out | apply below_alloc | apply pw_below_drewN | apply below_drew1 | refine below_set ?_ (IsS117.ge HI360.out) | refine below_set ?_ GE355.out | refine below_set ?_ GE356.out) | exact HB.out))) : w.heap.size ≤ gb372)); have n9_ := aM ((by rw [hg]; exact Nat.ne_of_lt (blk_lt (g := gb355) (o := .cells #[.int .i64 0, .slice none 0 0] 39 (0, 0)) aK) : gb355 ≠ gb372)); have n10_ := aM ((by rw [hg]; exact Nat.ne_of_gt (blk_lt (g := gb355) (o := .cells #[.int .i64 0, .slice none 0 0] 39 (0, 0)) aK) : gb372 ≠ gb355)); have n11_ := aM ((by rw [hg]; exact Nat.ne_of_lt (blk_lt (g := gb356) (o := .cells #[.int .i64 0, .slice none 0 0] 39 (0, 0)) aK) : gb356 ≠ gb372)); have n12_ := aM ((by rw [hg]; exact Nat.ne_of_gt (blk_lt (g := gb356) (o := .cells #[.int .i64 0, .slice none 0 0] 39 (0, 0)) aK) : gb372 ≠ gb356)); have n13_ := aM ((by rw [hg]; exact Nat.ne_of_lt (IsS117.lt (show IsS117 w _ g360 t357 t370 t371 from by repeat (first | (with_reducible first | exact HI360.out | apply IsS117.alloc | apply IsS117.drewN | apply IsS117.drew | apply IsS117.set_1 | apply IsS117.set_2 | refine IsS117.far ?_ NB360_355.out _ | refine IsS117.far ?_ NB360_356.out _) | exact HI360.out))) : g360 ≠ gb372)); have n14_ := aM ((by rw [hg]; exact Nat.ne_of_gt (IsS117.lt (show IsS117 w _ g360 t357 t370 t371 from by repeat (first | (with_reducible first | exact HI360.out | apply IsS117.alloc | apply IsS117.drewN | apply IsS117.drew | apply IsS117.set_1 | apply IsS117.set_2 | refine IsS117.far ?_ NB360_355.out _ | refine IsS117.far ?_ NB360_356.out _) | exact HI360.out))) : gb372 ≠ g360)); clear HO363; clear HO369; clear BK355; clear BK356; clear HI360; clear HB; have HO363 := n0_; have HO369 := n1_; have BK355 := n2_; have BK356 := n3_; have HI360 := n4_; have HB := n5_; have BK372 := n6_; have GW372 := n7_; have GE372 := n8_; have NB355_372 := n9_; have NB372_355 := n10_; have NB356_372 := n11_; have NB372_356 := n12_; have NB360_372 := n13_; have NB372_360 := n14_; clear n0_ n1_ n2_ n3_ n4_ n5_ n6_ n7_ n8_ n9_ n10_ n11_ n12_ n13_ n14_; clear hb hbox hg; have hnb13 := NB372_355.out; have hnc13 := NB355_372.out; have hnb14 := NB372_356.out; have hnc14 := NB356_372.out; have hnb15 := NB372_360.out; have hnc15 := NB360_372.out; have hcz16_0 : w12.cell? ⟨gb372, 0, none⟩ = some (.int .i64 0) := (blk_cell BK372.out 0).trans rfl; have hcz16_1 : w12.cell? ⟨gb372, 1, none⟩ = some (.slice none 0 0) := (blk_cell BK372.out 1).trans rfl; have hfz16_0 := blk_frozen BK372.out 0; have hfz16_1 := blk_frozen BK372.out 1; obtain ⟨Ao17, co17, eo17⟩ := Kd.R_slice HO369.out; subst eo17))
 have n0_ : Aside0 (Kd.R k68 68 ((w12.setCell ⟨gb372, 0, none⟩ (.int .i64 t366)).setCell ⟨gb372, 1, none⟩ (.slice Ao17 t367.length co17)) w.heap.size (fun _ => True) (.slice Ao10 t361.length co10) t361) := ⟨by (with_reducible repeat apply pR); exact Kd.R_mono (Kd.R_far (p := ⟨gb372, 1, none⟩) (Kd.R_far (p := ⟨gb372, 0, none⟩) (Kd.R_types HO363.out BK372.out (by decide)) (fun _ hk => hk.2) (.int .i64 t366)) (fun _ hk => hk.2) (.slice Ao17 t367.length co17)) (fun _ hk => trivial)⟩
 have n1_ : Aside0 (Kd.R (Kd.int .i64) 3 ((w12.setCell ⟨gb372, 0, none⟩ (.int .i64 t366)).setCell ⟨gb372, 1, none⟩ (.slice Ao17 t367.length co17)) w.heap.size (fun _ => True) (.slice Ao17 t367.length co17) t367) := ⟨by (with_reducible repeat apply pR); exact Kd.R_mono (Kd.R_far (p := ⟨gb372, 1, none⟩) (Kd.R_far (p := ⟨gb372, 0, none⟩) (Kd.R_types HO369.out BK372.out (by decide)) (fun _ hk => hk.2) (.int .i64 t366)) (fun _ hk => hk.2) (.slice Ao17 t367.length co17)) (fun _ hk => trivial)⟩
 have n2_ : Aside0 (((w12.setCell ⟨gb372, 0, none⟩ (.int .i64 t366)).setCell ⟨gb372, 1, none⟩ (.slice Ao17 t367.length co17)).heap[gb355]? = some (.cells #[.int .i64 0, .slice none 0 0] 39 (0, 0))) := ⟨by (with_reducible repeat refine pB ?_); refine blk_far ?_ NB355_372.out _; (with_reducible repeat refine pB ?_); refine blk_far ?_ NB355_372.out _; (with_reducible repeat refine pB ?_); exact BK355.out⟩
 have n3_ : Aside0 (((w12.setCell ⟨gb372, 0, none⟩ (.int .i64 t366)).setCell ⟨gb372, 1, none⟩ (.slice Ao17 t367.length co17)).heap[gb356]? = some (.cells #[.int .i64 0, .slice none 0 0] 39 (0, 0))) := ⟨by (with_reducible repeat refine pB ?_); refine blk_far ?_ NB356_372.out _; (with_reducible repeat refine pB ?_); refine blk_far ?_ NB356_372.out _; (with_reducible repeat refine pB ?_); exact BK356.out⟩
 have n4_ : Aside0 (((w12.setCell ⟨gb372, 0, none⟩ (.int .i64 t366)).setCell ⟨gb372, 1, none⟩ (.slice Ao17 t367.length co17)).heap[gb372]? = some (.cells #[.int .i64 t366, .slice Ao17 t367.length co17] 39 (0, 0))) := ⟨by (with_reducible repeat refine pB ?_); refine blk_put (cs := #[.int .i64 t366, .slice none 0 0]) ?_ 1 _ rfl; (with_reducible repeat refine pB ?_); refine blk_put (cs := #[.int .i64 0, .slice none 0 0]) ?_ 0 _ rfl; (with_reducible repeat refine pB ?_); exact BK372.out⟩
 have n5_ : Aside0 (IsS117 w ((w12.setCell ⟨gb372, 0, none⟩ (.int .i64 t366)).setCell ⟨gb372, 1, none⟩ (.slice Ao17 t367.length co17)) g360 t357 t370 t371) := ⟨by repeat (first | (with_reducible first | exact HI360.out | apply IsS117.alloc | apply IsS117.drewN | apply IsS117.drew | apply IsS117.set_1 | apply IsS117.set_2 | refine IsS117.far ?_ NB360_355.out _ | refine IsS117.far ?_ NB360_356.out _ | refine IsS117.far ?_ NB360_372.out _) | exact HI360.out)⟩
 have n6_ : Aside0 (Below w.heap.size w ((w12.setCell ⟨gb372, 0, none⟩ (.int .i64 t366)).setCell ⟨gb372, 1, none⟩ (.slice Ao17 t367.length co17))) := ⟨by repeat (first | (with_reducible first | exact HB.out | apply below_alloc | apply pw_below_drewN | apply below_drew1 | refine below_set ?_ (IsS117.ge HI360.out) | refine below_set ?_ GE355.out | refine below_set ?_ GE356.out | refine below_set ?_ GE372.out) | exact HB.out)⟩
 (try clear HO363)
 (try clear HO369)
 (try clear BK355)
 (try clear BK356)
 (try clear BK372)
 (try clear HI360)
 (try clear HB)
 generalize ((w12.setCell ⟨gb372, 0, none⟩ (.int .i64 t366)).setCell ⟨gb372, 1, none⟩ (.slice Ao17 t367.length co17)) = w18 at n0_ n1_ n2_ n3_ n4_ n5_ n6_ ⊢
 have HO363 := n0_
 have HO369 := n1_
 have BK355 := n2_
 have BK356 := n3_
 have BK372 := n4_
 have HI360 := n5_
 have HB := n6_
 clear n0_ n1_ n2_ n3_ n4_ n5_ n6_
 replace HO363 := aM (Kd.R_drew HO363.out)
 replace HO369 := aM (Kd.R_drew HO369.out)
 replace BK355 := aM (blk_drew BK355.out)
 replace BK356 := aM (blk_drew BK356.out)
 replace BK372 := aM (blk_drew BK372.out)
 replace HI360 := aM (IsS117.drew HI360.out)
 replace HB := aM (below_drew1 HB.out)
 refine start_ (n := 6) (S := fun w' => w'.cell? ⟨gb372, 0, none⟩ = some (.int .i64 t366) ∧ w'.cell? ⟨gb372, 1, none⟩ = some (.slice Ao17 t367.length co17)) (ds := []) #[false, false, false, false, false, false] (by kernel_rfl) rfl rfl ⟨(blk_cell BK372.out 0).trans rfl, (blk_cell BK372.out 1).trans rfl⟩ (fun hHeld => ?_)
 generalize w18.drew = w19 at HO363 HO369 BK355 BK356 BK372 HI360 HB hHeld ⊢
 refine pure_ (i := 1) (N := some 15) (v := ?_) (a' := ?_) #[false, true, false, false, false, false] rfl rfl (by kernel_rfl) (fun _ _ _ h => h) (Or.inl ⟨by rfl, ?_⟩) ?_ ?_
 rotate_left
 ·exact aI
 rotate_left
 ·exact aP
 refine pure_ (i := 2) (N := some 16) (v := ?_) (a' := ?_) #[false, true, true, false, false, false] rfl rfl (by kernel_rfl) (fun _ _ _ h => h) (Or.inl ⟨by rfl, ?_⟩) ?_ ?_
 rotate_left
 ·exact aI
 rotate_left
 ·exact aP
 refine take_ (i := 0) (N := some 14) (v := ?_) (a' := ?_) #[true, true, true, false, false, false] rfl rfl (by kernel_rfl) (fun _ _ _ h => h) (Or.inl ⟨by rfl, ?_⟩) hHeld ?_ ?_
 rotate_left
 ·rintro w' ⟨s0, s1⟩
  go_simp
  with_reducible rfl
 rotate_left
 ·exact aP
 refine one_ (i := 3) (N := some 17) #[true, true, true, true, false, false] rfl rfl (by kernel_rfl) (by decide) (fun K hK => ?_)
 refine goes_ Tryd.func56 (by kernel_rfl) rfl #[.pointer (some ⟨g360, 0, none⟩), .slice Ao10 t361.length co10, .int .i64 2] (by rfl) rfl rfl aA ?_
 with_reducible refine (spec_l3Fact.calls k g360 t357 t370 t371 _ _ t361 2 t373 t374 t377 t378 w _ ?side1 ?side2 ?side3 ?side4 A5.out).mono ?_
 (case side1 => repeat (first | (with_reducible first | exact HI360.out | apply IsS117.alloc | apply IsS117.drewN | apply IsS117.drew | apply IsS117.set_1 | apply IsS117.set_2 | refine IsS117.far ?_ NB360_355.out _ | refine IsS117.far ?_ NB360_356.out _ | refine IsS117.far ?_ NB360_372.out _) | exact HI360.out))
 (case side2 => repeat (first | (with_reducible first | exact HB.out | apply below_alloc | apply pw_below_drewN | apply below_drew1 | refine below_set ?_ (IsS117.ge HI360.out) | refine below_set ?_ GE355.out | refine below_set ?_ GE356.out | refine below_set ?_ GE372.out) | exact HB.out))
 (case side3 => exact Kd.C_foot_own (IsS117.apart (show IsS117 w _ g360 t357 t370 t371 from by repeat (first | (with_reducible first | exact HI360.out | apply IsS117.alloc | apply IsS117.drewN | apply IsS117.drew | apply IsS117.set_1 | apply IsS117.set_2 | refine IsS117.far ?_ NB360_355.out _ | refine IsS117.far ?_ NB360_356.out _ | refine IsS117.far ?_ NB360_372.out _) | exact HI360.out)) (aR HO363) (by decide)) (fun _ h_ => h_.2))
 (case side4 => exact (Kd.R_reads' HO363.out).2.1)
 rintro e w20 ⟨v375, rfl, ho0, hi, hb, hk⟩
 refine ⟨_, rfl, ?_⟩
 have n0_ := aM (KeepBut.blk hk (g' := gb355) (o := .cells #[.int .i64 0, .slice none 0 0] 39 (0, 0)) aK NB355_360.out (by simp))
 have n1_ := aM (KeepBut.blk hk (g' := gb356) (o := .cells #[.int .i64 0, .slice none 0 0] 39 (0, 0)) aK NB356_360.out (by simp))
 have n2_ := aM (Kd.R_mono (Kd.R_keep (IsS117.apart (show IsS117 w _ g360 t357 t370 t371 from by repeat (first | (with_reducible first | exact HI360.out | apply IsS117.alloc | apply IsS117.drewN | apply IsS117.drew | apply IsS117.set_1 | apply IsS117.set_2 | refine IsS117.far ?_ NB360_355.out _ | refine IsS117.far ?_ NB360_356.out _ | refine IsS117.far ?_ NB360_372.out _) | exact HI360.out)) (aR HO363) (by decide)) hk (fun _ h => h.2)) (fun _ h => h.1))
 have n3_ := aM (Kd.R_mono (Kd.R_told (Kd.R_oldK (IsS117.apart (show IsS117 w _ g360 t357 t370 t371 from by repeat (first | (with_reducible first | exact HI360.out | apply IsS117.alloc | apply IsS117.drewN | apply IsS117.drew | apply IsS117.set_1 | apply IsS117.set_2 | refine IsS117.far ?_ NB360_355.out _ | refine IsS117.far ?_ NB360_356.out _ | refine IsS117.far ?_ NB360_372.out _) | exact HI360.out)) (aR HO369) (by decide)) hk) (Kd.R_base ho0)) (fun _ h_ => h_.1))
 have n4_ := aM (KeepBut.blk hk (g' := gb372) (o := .cells #[.int .i64 t366, .slice Ao17 t367.length co17] 39 (0, 0)) aK NB372_360.out (by simp))
 have n5_ := aM (Kd.R_lower (Kd.R_new' ho0 (Kd.R_lt (aR HO369))) (below_size (by repeat (first | (with_reducible first | exact HB.out | apply below_alloc | apply pw_below_drewN | apply below_drew1 | refine below_set ?_ (IsS117.ge HI360.out) | refine below_set ?_ GE355.out | refine below_set ?_ GE356.out | refine below_set ?_ GE372.out) | exact HB.out))))
 have n6_ := aM (hb)
 have n7_ := aM (hi)
 clear BK355
 clear BK356
 clear HO363
 clear HO369
 clear BK372
 clear HB
 clear HI360
 have BK355 := n0_
 have BK356 := n1_
 have HO363 := n2_
 have HO369 := n3_
 have BK372 := n4_
 have HO376 := n5_
 have HB := n6_
 have HI360 := n7_
 clear n0_ n1_ n2_ n3_ n4_ n5_ n6_ n7_
 (try clear hb)
 (try clear hb2)
 (try clear hk)
 (try clear hi)
 (try clear ho0)
 obtain ⟨Ao24, co24, eo24⟩ := Kd.R_slice HO376.out
 (first | subst eo24 | (injection eo24 with f1_ f2_ f3_; have f4_ := f1_.symm; have f5_ := f3_.symm; clear f1_ f2_ f3_; subst f4_; subst f5_))
 refine hK.out _ _ ⟨(blk_cell BK372.out 0).trans rfl, (blk_cell BK372.out 1).trans rfl⟩ (fun hHeld => ?_)
 clear hK K
 refine nU 17 ?_
 refine one_ (i := 4) (N := none) #[true, true, true, true, true, false] rfl rfl (by kernel_rfl) (by decide) (fun K hK => ?_)
 have hs21 : w20.cell? ⟨gb355, 0, none⟩ = some (.int .i64 0) := (blk_cell BK355.out 0).trans rfl
 have hfs21 := blk_frozen BK355.out 0
 have hns21_1 := NB356_355.out
 have hns21_2 := NB372_355.out
 have hms21_1 := NB355_356.out
 have hms21_2 := NB355_372.out
 have hs22 : w20.cell? ⟨gb355, 1, none⟩ = some (.slice none 0 0) := (blk_cell BK355.out 1).trans rfl
 have hfs22 := blk_frozen BK355.out 1
 have hns22_1 := NB356_355.out
 have hns22_2 := NB372_355.out
 have hms22_1 := NB355_356.out
 have hms22_2 := NB355_372.out
 refine skip_ (w1 := ?_) (by rfl) rfl ?_ ?_
 rotate_left
 ·go_simp
  rfl
 refine hK.out _ _ ⟨((cell_far (p := ⟨gb355, _, none⟩) NB372_355.out _).trans (((cell_far (p := ⟨gb355, _, none⟩) NB372_355.out _).trans (hHeld.1)))), ((cell_far (p := ⟨gb355, _, none⟩) NB372_355.out _).trans (((cell_far (p := ⟨gb355, _, none⟩) NB372_355.out _).trans (hHeld.2))))⟩ (fun hHeld => ?_)
 clear hK K
 refine one_ (i := 5) (N := none) #[true, true, true, true, true, true] rfl rfl (by kernel_rfl) (by decide) (fun K hK => ?_)
 have hs23 : w20.cell? ⟨gb356, 0, none⟩ = some (.int .i64 0) := (blk_cell BK356.out 0).trans rfl
 have hfs23 := blk_frozen BK356.out 0
 have hns23_0 := NB355_356.out
 have hns23_2 := NB372_356.out
 have hms23_0 := NB356_355.out
 have hms23_2 := NB356_372.out
 have hs25 : w20.cell? ⟨gb356, 1, none⟩ = some (.slice none 0 0) := (blk_cell BK356.out 1).trans rfl
 have hfs25 := blk_frozen BK356.out 1
 have hns25_0 := NB355_356.out
 have hns25_2 := NB372_356.out
 have hms25_0 := NB356_355.out
 have hms25_2 := NB356_372.out
 refine skip_ (w1 := ?_) (by rfl) rfl ?_ ?_
 rotate_left
 ·go_simp
  rfl
 refine hK.out _ _ ⟨((cell_far (p := ⟨gb356, _, none⟩) NB372_356.out _).trans (((cell_far (p := ⟨gb356, _, none⟩) NB372_356.out _).trans (hHeld.1)))), ((cell_far (p := ⟨gb356, _, none⟩) NB372_356.out _).trans (((cell_far (p := ⟨gb356, _, none⟩) NB372_356.out _).trans (hHeld.2))))⟩ (fun hHeld => ?_)
 clear hK K
 refine done_ (by kernel_rfl) ?_
 try go_wp2
 refine bodyPost_ret (results_cc rfl _ _ gb355 gb356 39 39 #[.int .i64 t366, .slice Ao17 t367.length co17] #[.int .i64 t373, .slice Ao24 t374.length co24] (0, 0) (0, 0) _ _ rfl (by (with_reducible repeat refine pB ?_); refine blk_far ?_ NB355_356.out _; (with_reducible repeat refine pB ?_); refine blk_far ?_ NB355_356.out _; (with_reducible repeat refine pB ?_); refine blk_put (cs := #[.int .i64 t366, .slice none 0 0]) ?_ 1 _ rfl; (with_reducible repeat refine pB ?_); refine blk_put (cs := #[.int .i64 0, .slice none 0 0]) ?_ 0 _ rfl; (with_reducible repeat refine pB ?_); exact BK355.out) Tryd.underlying39 rfl (by kernel_rfl) rfl (by (with_reducible repeat refine pB ?_); refine blk_put (cs := #[.int .i64 t373, .slice none 0 0]) ?_ 1 _ rfl; (with_reducible repeat refine pB ?_); refine blk_put (cs := #[.int .i64 0, .slice none 0 0]) ?_ 0 _ rfl; (with_reducible repeat refine pB ?_); refine blk_far ?_ NB356_355.out _; (with_reducible repeat refine pB ?_); refine blk_far ?_ NB356_355.out _; (with_reducible repeat refine pB ?_); exact BK356.out) Tryd.underlying39 rfl (by kernel_rfl)) rfl ?_
 exact ⟨_, _, aE, by (with_reducible repeat apply pR); exact Kd.R_mono (Kd.R_far (p := ⟨gb356, 1, none⟩) (Kd.R_far (p := ⟨gb356, 0, none⟩) (Kd.R_far (p := ⟨gb355, 1, none⟩) (Kd.R_far (p := ⟨gb355, 0, none⟩) (Kd.R_types (Kd.R_types HO369.out BK355.out (by decide)) BK356.out (by decide)) (fun _ hk => hk.1.2) (.int .i64 t366)) (fun _ hk => hk.1.2) (.slice Ao17 t367.length co17)) (fun _ hk => hk.2) (.int .i64 t373)) (fun _ hk => hk.2) (.slice Ao24 t374.length co24)) (fun _ hk => hk.1.1.2), by (with_reducible repeat apply pR); exact Kd.R_mono (Kd.R_far (p := ⟨gb356, 1, none⟩) (Kd.R_far (p := ⟨gb356, 0, none⟩) (Kd.R_far (p := ⟨gb355, 1, none⟩) (Kd.R_far (p := ⟨gb355, 0, none⟩) (Kd.R_types (Kd.R_types HO376.out BK355.out (by decide)) BK356.out (by decide)) (fun _ hk => hk.1.2) (.int .i64 t366)) (fun _ hk => hk.1.2) (.slice Ao17 t367.length co17)) (fun _ hk => hk.2) (.int .i64 t373)) (fun _ hk => hk.2) (.slice Ao24 t374.length co24)) (fun _ hk => hk.1.1.2), by repeat (first | (with_reducible first | exact HB.out | apply below_alloc | apply pw_below_drewN | apply below_drew1 | refine below_set ?_ (IsS117.ge HI360.out) | refine below_set ?_ GE355.out | refine below_set ?_ GE356.out | refine below_set ?_ GE372.out) | exact HB.out)⟩

end Go.Proofs.YtckpikfbhlhhjaaDoor.PFnFactFormat
