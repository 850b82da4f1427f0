import Derived.Test.YtckpikfbhlhhjaaGreatDoorPFnExactParseDatabasex0
import Derived.Test.YtckpikfbhlhhjaaGreatDoorPFnExactParseDatabasex6
import Derived.Test.YtckpikfbhlhhjaaGreatDoorPFnExactParseDatabasex7
namespace Go.Proofs.YtckpikfbhlhhjaaGreatDoor.PFnExactParseDatabase
open Go.RowKit Go.Proofs.YtckpikfbhlhhjaaGreatDoorW.PrintWords Go.Proofs.YtckpikfbhlhhjaaGreatDoorW.PrintLast Go.Proofs.YtckpikfbhlhhjaaGreatDoorW.PrintMore
attribute [local go_sem] max2_int min2_int max_two min_two max_three min_three max_four min_four
set_option linter.unusedVariables false
set_option linter.unusedSimpArgs false

/-! ### impl_ParseFact: function 25 -/
def impl_ParseFact.l0 : Nat → List (S42) → ByteArray → Int → Int → List Int → Option (Int × List Int × Bool)
 | 0, _, _, _, _, _ => none
 | k + 1, x0, x1, x7, x318000, x318001 => if x7 < (x1.size : Int) then (if 0 ≤ x7 then (if (bt x1 x7) = 124 then (impl_ParseFact.l0 k x0 x1 (wrap64 (x7 + 1)) x318000 x318001) else (if x318001.length < 17592186044416 then (impl_ParseFact.l0 k x0 x1 (wrap64 (x7 + 1)) x318000 (x318001 ++ [wrap64 ((wrap64 (bt x1 x7)) - 48)])) else (none))) else (none)) else ((impl_FormatFact.f k x0 x318000 x318001).bind fun t321 => (if t321.toList = x1.toList then (some (x318000, x318001, true)) else (some (0, ([] : List Int), false))))
def impl_ParseFact.f (k : Nat) (l0 : List (S42)) (a1 : ByteArray) : Option (Int × List Int × Bool) := if a1.toList = ([] : List UInt8) then (some (0, ([] : List Int), false)) else (if 0 ≤ 1 then (if 1 ≤ (a1.size : Int) then ((impl_RelationIndex.f l0 (a1.extract 0 1)).bind fun t316 => (impl_ParseFact.l0 k l0 a1 1 t316 ([] : List Int))) else (none)) else (none))
def impl_ParseFact.T8 : Bool × List (List Nat × List Nat) := (true, [([], []), ([0], [0]), ([], []), ([], []), ([2, 3], [2, 3]), ([4], [4]), ([5], [5]), ([6], [6]), ([1, 7], [1, 7]), ([0, 1, 2, 3, 4, 5, 6, 7, 8], []), ([9, 8, 8, 0, 1, 2, 3, 4, 5, 6, 7, 8], [8, 9])])
def impl_ParseFact.B8 : List Nat := [0, 1, 0, 0, 12, 28, 60, 124, 255, 511, 1023]
theorem impl_ParseFact.tab8 : rtab .any (opsOf Tryz.f25 8) = impl_ParseFact.T8 := by kernel_rfl
theorem impl_ParseFact.bits8 : waitsOk impl_ParseFact.T8.2 impl_ParseFact.B8 = true := by kernel_rfl
set_option maxHeartbeats 8000000 in
set_option maxRecDepth 100000 in
theorem impl_ParseFact.calls (k : Nat) (A0 : Option Addr) (c0 : Nat) (l0 : List (S42)) (a1 : ByteArray) (r1 : Int) (r2 : List Int) (r3 : Bool) (w : World) (hr0 : Kd.C k42 w A0 l0.length l0) (hc0 : l0.length ≤ c0) (h : impl_ParseFact.f k l0 a1 = some (r1, r2, r3)) (hp_ : Go.Proofs.YtckpikfbhlhhjaaGreatDoor.Shelf.Pow w) :
  Calls Tryz.prog 25 #[.slice A0 l0.length c0, .string a1] w fun e w' => ∃ v1_ : Value, e = .returned (.tuple #[.agg #[.int .i64 r1, v1_], .bool r3]) ∧ Kd.R (Kd.int .i64) 3 w' w.heap.size (fun _ => True) v1_ r2 ∧ Below w.heap.size w w' := by
 have hu47 := Tryz.underlying47
 have HR0 := aM hr0
 have HC0 := aM hc0
 clear hr0 hc0
 have HB := aM (Below.refl w.heap.size w)
 have H : (if a1.toList = ([] : List UInt8) then (some (0, ([] : List Int), false)) else (if 0 ≤ 1 then (if 1 ≤ (a1.size : Int) then ((impl_RelationIndex.f l0 (a1.extract 0 1)).bind fun t316 => (impl_ParseFact.l0 k l0 a1 1 t316 ([] : List Int))) else (none)) else (none))) = some (r1, r2, r3) := h
 clear h
 by_cases c3 : a1.toList = ([] : List UInt8)
 ·rw [if_pos c3] at H
  have c3b0 : (a1.toList == ([] : List UInt8)) = true := beq_iff_eq.mpr c3
  have c3b1 : (a1.toList != ([] : List UInt8)) = false := bne_eq_false_iff_eq.mpr c3
  clear c3
  simp only [Option.some.injEq, Prod.mk.injEq] at H
  obtain ⟨rfl, rfl, rfl⟩ := H
  go_enter Tryz.func25, Tryz.ntmps25
  go_wp2_with (first | ((with_reducible refine gate_dst (N := 4) rfl ?_); refine bE 4 (cs := #[.int .i64 0, .slice none 0 0]) (t := 47) ?_; intro gb315 hg w4 hbox hb; have BK315 := aM (hbox); have GW315 := aM ((by rw [hg]; exact (below_size aB) : w.heap.size ≤ gb315)); have GE315 := aM ((by rw [hg]; exact (below_size aB) : w.heap.size ≤ gb315)); replace HB := aM (below_step aB hb); clear hb hbox hg; have hcz5_0 : w4.cell? ⟨gb315, 0, none⟩ = some (.int .i64 0) := (blk_cell BK315.out 0).trans rfl; have hcz5_1 : w4.cell? ⟨gb315, 1, none⟩ = some (.slice none 0 0) := (blk_cell BK315.out 1).trans rfl; have hfz5_0 := blk_frozen BK315.out 0; have hfz5_1 := blk_frozen BK315.out 1))
  refine bodyPost_ret (results_ct rfl _ _ gb315 47 #[.int .i64 0, .slice none 0 0] (0, 0) _ rfl (by (with_reducible repeat refine pB ?_); refine blk_put (cs := #[.int .i64 0, .slice none 0 0]) ?_ 1 _ rfl; (with_reducible repeat refine pB ?_); refine blk_put (cs := #[.int .i64 0, .slice none 0 0]) ?_ 0 _ rfl; (with_reducible repeat refine pB ?_); exact BK315.out) Tryz.underlying47 rfl (by kernel_rfl)) rfl ?_
  exact ⟨_, aE, by first | exact Kd.R_nil _ _ _ _ _ | exact Kd.N_nil _ _ _ _ _ | exact Kd.V_nil _ _ _ _ _ | exact Kd.Q_nil _ _ _ _ _ | exact Kd.S_nil _ _ _ _ _, aG⟩
 ·rw [if_neg c3] at H
  have c3b0 : (a1.toList == ([] : List UInt8)) = false := beq_eq_false_iff_ne.mpr c3
  have c3b1 : (a1.toList != ([] : List UInt8)) = true := bne_iff_ne.mpr c3
  by_cases c6 : 0 ≤ 1
  ·rw [if_pos c6] at H
   have c6b0 := eq_true c6
   have c6b1 : decide (0 ≤ 1) = true := decide_eq_true c6
   clear c6
   by_cases c7 : 1 ≤ (a1.size : Int)
   ·rw [if_pos c7] at H
    have c7b0 := eq_true c7
    have c7b1 : decide (1 ≤ (a1.size : Int)) = true := decide_eq_true c7
    clear c7
    replace H := bM H
    obtain ⟨t316, A80, H⟩ := H
    have A8 := aM A80
    clear A80
    have H' := aM H
    clear H
    go_enter Tryz.func25, Tryz.ntmps25
    go_wp2_with (first | ((with_reducible refine gate_dst (N := 4) rfl ?_); refine bE 4 (cs := #[.int .i64 0, .slice none 0 0]) (t := 47) ?_; intro gb315 hg w9 hbox hb; have BK315 := aM (hbox); have GW315 := aM ((by rw [hg]; exact (below_size aB) : w.heap.size ≤ gb315)); have GE315 := aM ((by rw [hg]; exact (below_size aB) : w.heap.size ≤ gb315)); replace HB := aM (below_step aB hb); clear hb hbox hg) | ((with_reducible refine gate_callee (f := 58) rfl ?_); refine goesL_ (some 14) rfl rfl Tryz.func58 (by kernel_rfl) rfl #[.slice A0 l0.length c0, .string (a1.extract 0 1)] rfl aA ?_; (with_reducible refine (impl_RelationIndex.calls _ _ l0 (a1.extract 0 1) t316 _ ?side1 ?side2 A8.out).mono ?_); (case side1 => exact aC); (case side2 => exact HC0.out); rintro e w10 ⟨rfl, hb⟩; refine ⟨_, rfl, ?_⟩; replace BK315 := aM (kB gb315 #[.int .i64 0, .slice none 0 0] 47 hb); replace HB := aM (below_step aG hb); (try clear hb); (try clear hb2); (try clear hk); (try clear hi)) | ((with_reducible refine gate_dst (N := 6) rfl ?_); refine bE 6 (cs := #[.int .i64 0, .slice none 0 0]) (t := 47) ?_; intro gb317 hg w11 hbox hb; have BK317 := aM (hbox); have GW317 := aM ((by rw [hg]; exact (below_size aG) : w.heap.size ≤ gb317)); have GE317 := aM ((by rw [hg]; exact (below_size aG) : w.heap.size ≤ gb317)); have NB315_317 := aM ((by rw [hg]; exact Nat.ne_of_lt (blk_lt (g := gb315) (o := .cells #[.int .i64 0, .slice none 0 0] 47 (0, 0)) aK) : gb315 ≠ gb317)); have NB317_315 := aM ((by rw [hg]; exact Nat.ne_of_gt (blk_lt (g := gb315) (o := .cells #[.int .i64 0, .slice none 0 0] 47 (0, 0)) aK) : gb317 ≠ gb315)); replace BK315 := aM (kB gb315 #[.int .i64 0, .slice none 0 0] 47 hb); replace HB := aM (below_step aG hb); clear hb hbox hg; have hnb12 := NB317_315.out; have hnc12 := NB315_317.out; have hcz13_0 : w11.cell? ⟨gb317, 0, none⟩ = some (.int .i64 0) := (blk_cell BK317.out 0).trans rfl; have hcz13_1 : w11.cell? ⟨gb317, 1, none⟩ = some (.slice none 0 0) := (blk_cell BK317.out 1).trans rfl; have hfz13_0 := blk_frozen BK317.out 0; have hfz13_1 := blk_frozen BK317.out 1))
    go_loopg [7] k (fun kq v7 w' => ∃ (x7_1 : Int) (x318001_1 : List Int) (u318001 : Value), v7 = .int .i64 x7_1 ∧ Aside0 (impl_ParseFact.l0 kq l0 a1 x7_1 t316 x318001_1 = some (r1, r2, r3)) ∧ Aside0 (kq ≤ k) ∧ Aside0 (Kd.R (Kd.int .i64) 3 w' w.heap.size (fun _ => True) u318001 x318001_1) ∧ Aside0 (w'.heap[gb315]? = some (.cells #[.int .i64 0, (.slice none 0 0)] 47 (0, 0))) ∧ Aside0 (w'.heap[gb317]? = some (.cells #[.int .i64 t316, u318001] 47 (0, 0))) ∧ Aside0 (Below w.heap.size w w'))
    case atStart => exact ⟨(1), (([] : List Int)), (.slice none 0 0), aX, H', ⟨Nat.le_refl _⟩, ⟨by first | exact Kd.R_nil _ _ _ _ _ | exact Kd.N_nil _ _ _ _ _ | exact Kd.V_nil _ _ _ _ _ | exact Kd.Q_nil _ _ _ _ _ | exact Kd.S_nil _ _ _ _ _⟩, ⟨by (with_reducible repeat refine pB ?_); refine blk_far ?_ NB315_317.out _; (with_reducible repeat refine pB ?_); refine blk_far ?_ NB315_317.out _; (with_reducible repeat refine pB ?_); exact BK315.out⟩, ⟨by (with_reducible repeat refine pB ?_); refine blk_put (cs := #[.int .i64 t316, .slice none 0 0]) ?_ 1 _ rfl; (with_reducible repeat refine pB ?_); refine blk_put (cs := #[.int .i64 0, .slice none 0 0]) ?_ 0 _ rfl; (with_reducible repeat refine pB ?_); exact BK317.out⟩, ⟨aG⟩⟩
    case round =>
     clear H'
     try clear c1
     try clear c2
     try clear p2
     try clear c3
     try clear c3b0
     try clear c3b1
     try clear c5
     try clear c6
     try clear c6b0
     try clear c6b1
     try clear c7
     try clear c7b0
     try clear c7b1
     try clear c12
     try clear hcz13_0
     try clear hcz13_1
     try clear hcz5_0
     try clear hcz5_1
     try clear hfz13_0
     try clear hfz13_1
     try clear hfz5_0
     try clear hfz5_1
     obtain ⟨x7_1, x318001_1, u318001, rfl, HA, HK1, HO_318001, BK315, BK317, HB⟩ := hrel
     cases gk with
     | zero => exact absurd HA.out (by simp [impl_ParseFact.l0])
     | succ k1 =>
      have H := HA.out
      clear HA
      simp only [impl_ParseFact.l0] at H
      by_cases c14 : x7_1 < (a1.size : Int)
      ·rw [if_pos c14] at H
       have c14b0 : decide (x7_1 < (a1.size : Int)) = true := decide_eq_true c14
       clear c14
       by_cases c15 : 0 ≤ x7_1
       ·rw [if_pos c15] at H
        have c15b0 : decide (0 ≤ x7_1) = true := decide_eq_true c15
        clear c15
        by_cases c17 : (bt a1 x7_1) = 124
        ·rw [if_pos c17] at H
         have c17b0 : ((bt a1 x7_1) == 124) = true := beq_iff_eq.mpr c17
         have c17b1 : ((bt a1 x7_1) != 124) = false := bne_eq_false_iff_eq.mpr c17
         clear c17
         have H' := aM H
         clear H
         have p16 : 0 ≤ (x7_1 : Int) := aD
         have q16 : x7_1 < (a1.size : Int) := aD
         have hx16 := bt_at a1 x7_1
         replace p16 := eq_true p16
         replace q16 := eq_true q16
         go_wp2
         go_roundg k1
         case measure => have := HK1.out; omega
         case rel => exact ⟨(wrap64 (x7_1 + 1)), (x318001_1), (u318001), aX, H', ⟨by have := HK1.out; omega⟩, ⟨aR HO_318001⟩, ⟨aK⟩, ⟨aK⟩, ⟨aG⟩⟩
        ·rw [if_neg c17] at H
         have c17b0 : ((bt a1 x7_1) == 124) = false := beq_eq_false_iff_ne.mpr c17
         have c17b1 : ((bt a1 x7_1) != 124) = true := bne_iff_ne.mpr c17
         by_cases c19 : x318001_1.length < 17592186044416
         ·rw [if_pos c19] at H
          have LMc19 := aM c19
          clear c19
          obtain ⟨y318, hy318⟩ : ∃ y_ : List Int, y_ = (x318001_1 ++ [wrap64 ((wrap64 (bt a1 x7_1)) - 48)]) := ⟨_, rfl⟩
          first | replace H := bY hy318 H | rw [← hy318] at H
          have Ny318 := aM hy318
          clear hy318
          have H' := aM H
          clear H
          have p16 : 0 ≤ (x7_1 : Int) := aD
          have q16 : x7_1 < (a1.size : Int) := aD
          have hx16 := bt_at a1 x7_1
          replace p16 := eq_true p16
          replace q16 := eq_true q16
          try go_wp2
          replace HO_318001 := aM (Kd.R_drew HO_318001.out)
          replace BK315 := aM (blk_drew BK315.out)
          replace BK317 := aM (blk_drew BK317.out)
          replace HB := aM (below_drew1 HB.out)
          have p18 : 0 ≤ (x7_1 : Int) := aD
          have q18 : x7_1 < (a1.size : Int) := aD
          have hx18 := bt_at a1 x7_1
          replace p18 := eq_true p18
          replace q18 := eq_true q18
          refine start_ (n := 11) (S := fun w' => w'.cell? ⟨gb317, 0, none⟩ = some (.int .i64 t316) ∧ w'.cell? ⟨gb317, 1, none⟩ = some (u318001)) (ds := [10]) #[false, false, false, false, false, false, false, false, false, false, false] (by kernel_rfl) rfl rfl ⟨(blk_cell BK317.out 0).trans rfl, (blk_cell BK317.out 1).trans rfl⟩ (fun hHeld => ?_); refine with_tabW impl_ParseFact.tab8 impl_ParseFact.bits8 (fun HT_ HW_ => ?_)
          generalize wr.drew = w20 at HO_318001 BK315 BK317 HB hHeld ⊢
          refine pU 0 26 ?_
          refine pU 2 28 ?_
          refine pU 3 29 ?_
          refine tU2 1 27 hHeld ?_
          refine tU2 4 30 hHeld ?_
          refine pU 5 31 ?_
          refine pU 6 32 ?_
          refine oU 7 33 (fun K hK => ?_)
          refine value_ (w1 := ?_) (v := ?_) (by rfl) rfl ?_ ?_
          rotate_left 2
          ·go_simp
           constructor
           ·rfl
           ·rfl
          refine hK.out _ _ ⟨(blk_cell (blk_alloc BK317.out _) 0).trans rfl, (blk_cell (blk_alloc BK317.out _) 1).trans rfl⟩ (fun hHeld => ?_)
          clear hK K
          refine nU 33 ?_
          refine oU 8 34 (fun K hK => ?_)
          refine Kd.R_append_step (Kd.int .i64) (w0 := w) w.heap.size (by rfl) (.tmp 27) (.tmp 33) 45 3 (.int .i64 0) 8 rfl Tryz.underlying45 info3 rfl (by decide) (by omega) u318001 x318001_1 (wrap64 ((wrap64 (bt a1 x7_1)) - 48)) [.int .i64 (wrap64 ((wrap64 (bt a1 x7_1)) - 48))] (fun _ => True) (fun _ => False) rfl rfl ?aP (fun _ hk => hk.elim) ?aF ?aO ?aB ?aS ?aL ?_
          (case aP => exact rfl)
          (case aB => exact aG)
          (case aF => exact (fun _ _ => trivial))
          (case aO => exact (aR HO_318001))
          (case aS => exact (below_size aG))
          (case aL => have := LMc19.out; omega)
          intro v319 w21 ho hb hg hat
          rw [← Ny318.out] at ho
          have n0_ := aM (blk_grown (g := gb315) (o := .cells #[.int .i64 0, .slice none 0 0] 47 (0, 0)) aK hg (Kd.R_ne HO_318001.out BK315.out (by decide)))
          have n1_ := aM (blk_grown (g := gb317) (o := .cells #[.int .i64 t316, u318001] 47 (0, 0)) aK hg (Kd.R_ne HO_318001.out BK317.out (by decide)))
          have n2_ := aM (hb)
          have n3_ := aM (ho)
          clear BK315
          clear BK317
          clear HB
          clear HO_318001
          have BK315 := n0_
          have BK317 := n1_
          have HB := n2_
          have HO320 := n3_
          clear n0_ n1_ n2_ n3_
          clear ho hb hg hat
          obtain ⟨Ao22, co22, eo22⟩ := Kd.R_slice HO320.out
          (first | subst eo22 | (injection eo22 with f1_ f2_ f3_; have f4_ := f1_.symm; have f5_ := f3_.symm; clear f1_ f2_ f3_; subst f4_; subst f5_))
          refine hK.out _ _ ⟨(blk_cell BK317.out 0).trans rfl, (blk_cell BK317.out 1).trans rfl⟩ (fun hHeld => ?_)
          clear hK K
          refine nU 34 ?_
          refine pU 9 35 ?_
          refine last_ (i := 10) (N := none) #[true, true, true, true, true, true, true, true, true, true, true] rfl rfl (one_of HT_.out (by kernel_rfl)) (by decide) (fun K hK => ?_)
          have hs23 : w21.cell? ⟨gb317, 1, none⟩ = some (u318001) := (blk_cell BK317.out 1).trans rfl
          have hfs23 := blk_frozen BK317.out 1
          have hns23_0 := NB315_317.out
          have hms23_0 := NB317_315.out
          refine skip_ (w1 := ?_) (by rfl) rfl ?_ ?_
          rotate_left
          ·go_simp
           rfl
          refine hK.out _ _ ?_
          clear hK K
          refine done_ (done_of HT_.out (by kernel_rfl)) ?_
          try go_wp2
          go_roundg k1
          case measure => have := HK1.out; omega
          case rel => exact ⟨(wrap64 (x7_1 + 1)), (y318), (.slice Ao22 y318.length co22), aX, H', ⟨by have := HK1.out; omega⟩, ⟨by (with_reducible repeat apply pR); exact Kd.R_mono (Kd.R_far (p := ⟨gb317, 1, none⟩) (Kd.R_types HO320.out BK317.out (by decide)) (fun _ hk => hk.2) (.slice Ao22 y318.length co22)) (fun _ hk => trivial)⟩, ⟨by (with_reducible repeat refine pB ?_); refine blk_far ?_ NB315_317.out _; (with_reducible repeat refine pB ?_); exact BK315.out⟩, ⟨by (with_reducible repeat refine pB ?_); refine blk_put (cs := #[.int .i64 t316, u318001]) ?_ 1 _ rfl; (with_reducible repeat refine pB ?_); exact BK317.out⟩, ⟨aG⟩⟩
         ·rw [if_neg c19] at H
          exact absurd H (by simp)
       ·rw [if_neg c15] at H
        exact absurd H (by simp)
      ·rw [if_neg c14] at H
       have c14b0 : decide (x7_1 < (a1.size : Int)) = false := decide_eq_false c14
       clear c14
       replace H := bM H
       obtain ⟨t321, A240, H⟩ := H
       have A24 := aM A240
       clear A240
       by_cases c25 : t321.toList = a1.toList
       ·rw [if_pos c25] at H
        have c25b0 : (t321.toList == a1.toList) = true := beq_iff_eq.mpr c25
        have c25b1 : (t321.toList != a1.toList) = false := bne_eq_false_iff_eq.mpr c25
        clear c25
        simp only [Option.some.injEq, Prod.mk.injEq] at H
        obtain ⟨rfl, rfl, rfl⟩ := H
        have hnb26 := NB317_315.out
        have hnc26 := NB315_317.out
        have hcz27_0 : wr.cell? ⟨gb317, 0, none⟩ = some (.int .i64 t316) := (blk_cell BK317.out 0).trans rfl
        have hcz27_1 : wr.cell? ⟨gb317, 1, none⟩ = some (u318001) := (blk_cell BK317.out 1).trans rfl
        have hfz27_0 := blk_frozen BK317.out 0
        have hfz27_1 := blk_frozen BK317.out 1
        obtain ⟨Ao28, co28, eo28⟩ := Kd.R_slice HO_318001.out
        subst eo28
        go_wp2_with (first | ((with_reducible refine gate_callee (f := 59) rfl ?_); refine goesL_ (some 38) rfl rfl Tryz.func59 (by kernel_rfl) rfl #[.slice A0 l0.length c0, .agg #[.int .i64 t316, .slice Ao28 x318001_1.length co28]] rfl aA ?_; (with_reducible refine (impl_FormatFact.calls k1 _ _ l0 t316 _ _ x318001_1 t321 _ ?side1 ?side2 ?side3 ?side4 A24.out (hp_.on aG)).mono ?_); (case side1 => exact aC); (case side2 => exact HC0.out); (case side3 => repeat (first | exact (Kd.R_reads' HO_318001.out).2.2 | (with_reducible refine pC ?_))); (case side4 => exact (Kd.R_reads' HO_318001.out).2.1); rintro e w29 ⟨rfl, hb⟩; refine ⟨_, rfl, ?_⟩; have n0_ := aM (Kd.R_below (aR HO_318001) hb); have n1_ := aM (kB gb315 #[.int .i64 0, .slice none 0 0] 47 hb); have n2_ := aM (kB gb317 #[.int .i64 t316, .slice Ao28 x318001_1.length co28] 47 hb); have n3_ := aM (below_step aG hb); clear HO_318001; clear BK315; clear BK317; clear HB; have HO_318001 := n0_; have BK315 := n1_; have BK317 := n2_; have HB := n3_; clear n0_ n1_ n2_ n3_; (try clear hb); (try clear hb2); (try clear hk); (try clear hi); have hcz30_0 : w29.cell? ⟨gb317, 0, none⟩ = some (.int .i64 t316) := (blk_cell BK317.out 0).trans rfl; have hcz30_1 : w29.cell? ⟨gb317, 1, none⟩ = some (.slice Ao28 x318001_1.length co28) := (blk_cell BK317.out 1).trans rfl; have hfz30_0 := blk_frozen BK317.out 0; have hfz30_1 := blk_frozen BK317.out 1; have hcz31_0 : w29.cell? ⟨gb315, 0, none⟩ = some (.int .i64 0) := (blk_cell BK315.out 0).trans rfl; have hcz31_1 : w29.cell? ⟨gb315, 1, none⟩ = some (.slice none 0 0) := (blk_cell BK315.out 1).trans rfl; have hfz31_0 := blk_frozen BK315.out 0; have hfz31_1 := blk_frozen BK315.out 1))
        refine bodyPost_ret (results_ct rfl _ _ gb315 47 #[.int .i64 t316, .slice Ao28 x318001_1.length co28] (0, 0) _ rfl (by (with_reducible repeat refine pB ?_); refine blk_put (cs := #[.int .i64 t316, .slice none 0 0]) ?_ 1 _ rfl; (with_reducible repeat refine pB ?_); refine blk_put (cs := #[.int .i64 0, .slice none 0 0]) ?_ 0 _ rfl; (with_reducible repeat refine pB ?_); exact BK315.out) Tryz.underlying47 rfl (by kernel_rfl)) rfl ?_
        exact ⟨_, aE, by (with_reducible repeat apply pR); exact Kd.R_mono (Kd.R_far (p := ⟨gb315, 1, none⟩) (Kd.R_far (p := ⟨gb315, 0, none⟩) (Kd.R_types HO_318001.out BK315.out (by decide)) (fun _ hk => hk.2) (.int .i64 t316)) (fun _ hk => hk.2) (.slice Ao28 x318001_1.length co28)) (fun _ hk => trivial), aG⟩
       ·rw [if_neg c25] at H
        have c25b0 : (t321.toList == a1.toList) = false := beq_eq_false_iff_ne.mpr c25
        have c25b1 : (t321.toList != a1.toList) = true := bne_iff_ne.mpr c25
        simp only [Option.some.injEq, Prod.mk.injEq] at H
        obtain ⟨rfl, rfl, rfl⟩ := H
        have hnb32 := NB317_315.out
        have hnc32 := NB315_317.out
        have hcz33_0 : wr.cell? ⟨gb317, 0, none⟩ = some (.int .i64 t316) := (blk_cell BK317.out 0).trans rfl
        have hcz33_1 : wr.cell? ⟨gb317, 1, none⟩ = some (u318001) := (blk_cell BK317.out 1).trans rfl
        have hfz33_0 := blk_frozen BK317.out 0
        have hfz33_1 := blk_frozen BK317.out 1
        obtain ⟨Ao34, co34, eo34⟩ := Kd.R_slice HO_318001.out
        subst eo34
        go_wp2_with (first | ((with_reducible refine gate_callee (f := 59) rfl ?_); refine goesL_ (some 38) rfl rfl Tryz.func59 (by kernel_rfl) rfl #[.slice A0 l0.length c0, .agg #[.int .i64 t316, .slice Ao34 x318001_1.length co34]] rfl aA ?_; (with_reducible refine (impl_FormatFact.calls k1 _ _ l0 t316 _ _ x318001_1 t321 _ ?side1 ?side2 ?side3 ?side4 A24.out (hp_.on aG)).mono ?_); (case side1 => exact aC); (case side2 => exact HC0.out); (case side3 => repeat (first | exact (Kd.R_reads' HO_318001.out).2.2 | (with_reducible refine pC ?_))); (case side4 => exact (Kd.R_reads' HO_318001.out).2.1); rintro e w35 ⟨rfl, hb⟩; refine ⟨_, rfl, ?_⟩; have n0_ := aM (Kd.R_below (aR HO_318001) hb); have n1_ := aM (kB gb315 #[.int .i64 0, .slice none 0 0] 47 hb); have n2_ := aM (kB gb317 #[.int .i64 t316, .slice Ao34 x318001_1.length co34] 47 hb); have n3_ := aM (below_step aG hb); clear HO_318001; clear BK315; clear BK317; clear HB; have HO_318001 := n0_; have BK315 := n1_; have BK317 := n2_; have HB := n3_; clear n0_ n1_ n2_ n3_; (try clear hb); (try clear hb2); (try clear hk); (try clear hi); have hcz36_0 : w35.cell? ⟨gb315, 0, none⟩ = some (.int .i64 0) := (blk_cell BK315.out 0).trans rfl; have hcz36_1 : w35.cell? ⟨gb315, 1, none⟩ = some (.slice none 0 0) := (blk_cell BK315.out 1).trans rfl; have hfz36_0 := blk_frozen BK315.out 0; have hfz36_1 := blk_frozen BK315.out 1))
        refine bodyPost_ret (results_ct rfl _ _ gb315 47 #[.int .i64 0, .slice none 0 0] (0, 0) _ rfl (by (with_reducible repeat refine pB ?_); refine blk_put (cs := #[.int .i64 0, .slice none 0 0]) ?_ 1 _ rfl; (with_reducible repeat refine pB ?_); refine blk_put (cs := #[.int .i64 0, .slice none 0 0]) ?_ 0 _ rfl; (with_reducible repeat refine pB ?_); exact BK315.out) Tryz.underlying47 rfl (by kernel_rfl)) rfl ?_
        exact ⟨_, aE, by first | exact Kd.R_nil _ _ _ _ _ | exact Kd.N_nil _ _ _ _ _ | exact Kd.V_nil _ _ _ _ _ | exact Kd.Q_nil _ _ _ _ _ | exact Kd.S_nil _ _ _ _ _, aG⟩
   ·rw [if_neg c7] at H
    exact absurd H (by simp)
  ·rw [if_neg c6] at H
   exact absurd H (by simp)

/-! ### impl_ParseDatabase: function 6 -/
mutual
def impl_ParseDatabase.l0 : Nat → ByteArray → ByteArray → List ByteArray → Int → Int → List (S42) → Option ((List (S42)) × (List (S47)) × Bool)
 | 0, _, _, _, _, _, _ => none
 | k + 1, x0, x5, x27, x28, x29, x327000 => if x29 < x28 then (if 0 ≤ x29 then (if x29 < (x27.length : Int) then ((impl_ParseRelation.f (rdOf ByteArray.empty x27 x29)).bind fun bt331 => (if bt331.2.2.2 = true then (if x327000.length < 4398046511104 then (impl_ParseDatabase.l0 k x0 x5 x27 x28 (wrap64 (x29 + 1)) (x327000 ++ [(⟨bt331.1, bt331.2.1, bt331.2.2.1⟩ : S42)])) else (none)) else (some (([] : List (S42)), ([] : List (S47)), false)))) else (none)) else (none)) else ((impl_words.f x5).bind fun t339 => (impl_ParseDatabase.l1 k x0 t339 (t339.length : Int) 0 x327000 ([] : List (S47))))
def impl_ParseDatabase.l1 : Nat → ByteArray → List ByteArray → Int → Int → List (S42) → List (S47) → Option ((List (S42)) × (List (S47)) × Bool)
 | 0, _, _, _, _, _, _ => none
 | k + 1, x0, x49, x50, x51, x327000, x327001 => if x51 < x50 then (if 0 ≤ x51 then (if x51 < (x49.length : Int) then ((impl_ParseFact.f k x327000 (rdOf ByteArray.empty x49 x51)).bind fun bt343 => (if bt343.2.2 = true then (if x327001.length < 4398046511104 then (impl_ParseDatabase.l1 k x0 x49 x50 (wrap64 (x51 + 1)) x327000 (x327001 ++ [(⟨bt343.1, bt343.2.1⟩ : S47)])) else (none)) else (some (([] : List (S42)), ([] : List (S47)), false)))) else (none)) else (none)) else ((impl_FormatDatabase.f k x327000 x327001).bind fun t352 => (if t352.toList = x0.toList then (some (x327000, x327001, true)) else (some (([] : List (S42)), ([] : List (S47)), false))))
end
def impl_ParseDatabase.f (k : Nat) (a0 : ByteArray) : Option ((List (S42)) × (List (S47)) × Bool) := (strings_Cut.f a0 (⟨#[58]⟩ : ByteArray)).bind fun bt323 => (if bt323.2.2 = true then ((impl_words.f bt323.1).bind fun t327 => (impl_ParseDatabase.l0 k a0 bt323.2.1 t327 (t327.length : Int) 0 ([] : List (S42)))) else (some (([] : List (S42)), ([] : List (S47)), false)))
set_option maxHeartbeats 8000000 in
set_option maxRecDepth 100000 in
theorem impl_ParseDatabase.calls (k : Nat) (a0 : ByteArray) (r1 : List (S42)) (r2 : List (S47)) (r3 : Bool) (w : World) (h : impl_ParseDatabase.f k a0 = some (r1, r2, r3)) (hp_ : Go.Proofs.YtckpikfbhlhhjaaGreatDoor.Shelf.PowM w) :
  Calls Tryz.prog 6 #[.string a0] w fun e w' => ∃ v0_ v1_ : Value, e = .returned (.tuple #[.agg #[v0_, v1_], .bool r3]) ∧ Kd.R k42 42 w' w.heap.size (fun _ => True) v0_ r1 ∧ Kd.S k47 47 w' w.heap.size (fun _ => True) v1_ r2 ∧ Below w.heap.size w w' := by
 have hu25 := Tryz.underlying25
 have hu42 := Tryz.underlying42
 have hu47 := Tryz.underlying47
 have HB := aM (Below.refl w.heap.size w)
 have H : ((strings_Cut.f a0 (⟨#[58]⟩ : ByteArray)).bind fun bt323 => (if bt323.2.2 = true then ((impl_words.f bt323.1).bind fun t327 => (impl_ParseDatabase.l0 k a0 bt323.2.1 t327 (t327.length : Int) 0 ([] : List (S42)))) else (some (([] : List (S42)), ([] : List (S47)), false)))) = some (r1, r2, r3) := h
 clear h
 replace H := bM H
 obtain ⟨⟨t323, t324, t325⟩, A20, H⟩ := H
 dsimp only at H
 have A2 := aM A20
 clear A20
 by_cases c3 : t325 = true
 ·subst c3
  replace H := iT H
  replace H := bM H
  obtain ⟨t327, A40, H⟩ := H
  have A4 := aM A40
  clear A40
  have H' := aM H
  clear H
  go_enter Tryz.func6, Tryz.ntmps6
  go_wp2_with (first | ((with_reducible refine gate_dst (N := 2) rfl ?_); refine bE 2 (cs := #[.slice none 0 0, .slice none 0 0]) (t := 25) ?_; intro gb322 hg w5 hbox hb; have BK322 := aM (hbox); have GW322 := aM ((by rw [hg]; exact (below_size aB) : w.heap.size ≤ gb322)); have GE322 := aM ((by rw [hg]; exact (below_size aB) : w.heap.size ≤ gb322)); replace HB := aM (below_step aB hb); clear hb hbox hg) | ((with_reducible refine gate_callee (f := 22) rfl ?_); refine goesL_ (some 18) rfl rfl Tryz.func22 (by kernel_rfl) rfl #[.string a0, .string (⟨#[58]⟩ : ByteArray)] rfl aA ?_; (with_reducible refine (strings_Cut.calls a0 (⟨#[58]⟩ : ByteArray) t323 t324 true _ A2.out (hp_.on aG)).mono ?_); rintro e w6 ⟨rfl, hb⟩; refine ⟨_, rfl, ?_⟩; replace BK322 := aM (kB gb322 #[.slice none 0 0, .slice none 0 0] 25 hb); replace HB := aM (below_step aG hb); (try clear hb); (try clear hb2); (try clear hk); (try clear hi)) | ((with_reducible refine gate_dst (N := 7) rfl ?_); refine bE 7 (cs := #[.slice none 0 0, .slice none 0 0]) (t := 25) ?_; intro gb326 hg w7 hbox hb; have BK326 := aM (hbox); have GW326 := aM ((by rw [hg]; exact (below_size aG) : w.heap.size ≤ gb326)); have GE326 := aM ((by rw [hg]; exact (below_size aG) : w.heap.size ≤ gb326)); have NB322_326 := aM ((by rw [hg]; exact Nat.ne_of_lt (blk_lt (g := gb322) (o := .cells #[.slice none 0 0, .slice none 0 0] 25 (0, 0)) aK) : gb322 ≠ gb326)); have NB326_322 := aM ((by rw [hg]; exact Nat.ne_of_gt (blk_lt (g := gb322) (o := .cells #[.slice none 0 0, .slice none 0 0] 25 (0, 0)) aK) : gb326 ≠ gb322)); replace BK322 := aM (kB gb322 #[.slice none 0 0, .slice none 0 0] 25 hb); replace HB := aM (below_step aG hb); clear hb hbox hg; have hnb8 := NB326_322.out; have hnc8 := NB322_326.out; have hcz9_0 : w7.cell? ⟨gb326, 0, none⟩ = some (.slice none 0 0) := (blk_cell BK326.out 0).trans rfl; have hcz9_1 : w7.cell? ⟨gb326, 1, none⟩ = some (.slice none 0 0) := (blk_cell BK326.out 1).trans rfl; have hfz9_0 := blk_frozen BK326.out 0; have hfz9_1 := blk_frozen BK326.out 1) | ((with_reducible refine gate_callee (f := 23) rfl ?_); refine goesL_ (some 27) rfl rfl Tryz.func23 (by kernel_rfl) rfl #[.string t323] rfl aA ?_; (with_reducible refine (impl_words.calls t323 t327 _ A4.out (hp_.on aG)).mono ?_); rintro e w10 ⟨v328, rfl, ho0, hb⟩; refine ⟨_, rfl, ?_⟩; have HO329 := aM (Kd.R_lower ho0 (below_size aG)); replace BK322 := aM (blk_below (g := gb322) (o := .cells #[.slice none 0 0, .slice none 0 0] 25 (0, 0)) (by (with_reducible repeat refine pB ?_); refine blk_far ?_ NB322_326.out _; (with_reducible repeat refine pB ?_); refine blk_far ?_ NB322_326.out _; (with_reducible repeat refine pB ?_); exact BK322.out) hb); replace BK326 := aM (blk_below (g := gb326) (o := .cells #[.slice none 0 0, .slice none 0 0] 25 (0, 0)) (by (with_reducible repeat refine pB ?_); refine blk_put (cs := #[.slice none 0 0, .slice none 0 0]) ?_ 1 _ rfl; (with_reducible repeat refine pB ?_); refine blk_put (cs := #[.slice none 0 0, .slice none 0 0]) ?_ 0 _ rfl; (with_reducible repeat refine pB ?_); exact BK326.out) hb); replace HB := aM (below_step aG hb); (try clear hb); (try clear hb2); (try clear hk); (try clear hi); (try clear ho0); obtain ⟨Ao11, co11, eo11⟩ := Kd.R_slice HO329.out; subst eo11))
  go_loopg [29] k (fun kq v29 w' => ∃ (x29_1 : Int) (x327000_1 : List (S42)) (u327000 : Value), v29 = .int .i64 x29_1 ∧ Aside0 (impl_ParseDatabase.l0 kq a0 t324 t327 (t327.length : Int) x29_1 x327000_1 = some (r1, r2, r3)) ∧ Aside0 (kq ≤ k) ∧ Aside0 (Kd.R Kd.string 9 w' w.heap.size (fun _ => True) (.slice Ao11 t327.length co11) t327) ∧ Aside0 (Kd.R k42 42 w' w.heap.size (fun _ => True) u327000 x327000_1) ∧ Aside0 (w'.heap[gb322]? = some (.cells #[(.slice none 0 0), (.slice none 0 0)] 25 (0, 0))) ∧ Aside0 (w'.heap[gb326]? = some (.cells #[u327000, (.slice none 0 0)] 25 (0, 0))) ∧ Aside0 (Below w.heap.size w w'))
  case atStart => exact ⟨(0), (([] : List (S42))), (.slice none 0 0), aX, H', ⟨Nat.le_refl _⟩, ⟨aR HO329⟩, ⟨by first | exact Kd.R_nil _ _ _ _ _ | exact Kd.N_nil _ _ _ _ _ | exact Kd.V_nil _ _ _ _ _ | exact Kd.Q_nil _ _ _ _ _ | exact Kd.S_nil _ _ _ _ _⟩, ⟨aK⟩, ⟨aK⟩, ⟨aG⟩⟩
  case round =>
   clear H'
   try clear c2
   try clear p2
   try clear c3
   try clear c6
   try clear c8
   try clear hcz9_0
   try clear hcz9_1
   try clear hfz9_0
   try clear hfz9_1
   obtain ⟨x29_1, x327000_1, u327000, rfl, HA, HK1, HO_27, HO_327000, BK322, BK326, HB⟩ := hrel
   cases gk with
   | zero => exact absurd HA.out (by simp [impl_ParseDatabase.l0])
   | succ k1 =>
    have H := HA.out
    clear HA
    simp only [impl_ParseDatabase.l0] at H
    by_cases c12 : x29_1 < (t327.length : Int)
    ·rw [if_pos c12] at H
     have c12b0 : decide (x29_1 < (t327.length : Int)) = true := decide_eq_true c12
     clear c12
     by_cases c13 : 0 ≤ x29_1
     ·rw [if_pos c13] at H
      have c13b0 : decide (0 ≤ x29_1) = true := decide_eq_true c13
      clear c13
      by_cases c14 : x29_1 < (t327.length : Int)
      ·rw [if_pos c14] at H
       have c14b0 : decide (x29_1 < (t327.length : Int)) = true := decide_eq_true c14
       clear c14
       replace H := bM H
       obtain ⟨⟨t331, t332, t333, t334⟩, A150, H⟩ := H
       dsimp only at H
       have A15 := aM A150
       clear A150
       by_cases c16 : t334 = true
       ·subst c16
        replace H := iT H
        by_cases c17 : x327000_1.length < 4398046511104
        ·rw [if_pos c17] at H
         have LMc17 := aM c17
         clear c17
         obtain ⟨y336, hy336⟩ : ∃ y_ : List (S42), y_ = (x327000_1 ++ [(⟨t331, t332, t333⟩ : S42)]) := ⟨_, rfl⟩
         first | replace H := bY hy336 H | rw [← hy336] at H
         have Ny336 := aM hy336
         clear hy336
         have H' := aM H
         clear H
         have p330 : 0 ≤ (x29_1 : Int) := aD
         have q330 : x29_1 < (t327.length : Int) := aD
         obtain ⟨ad330, e330, hx330_0⟩ := Kd.at_string (Kd.R_reads' HO_27.out).2.2 x29_1 p330 q330
         cases e330
         replace p330 := eq_true p330
         replace q330 := eq_true q330
         go_wp2_with (first | ((with_reducible refine gate_callee (f := 24) rfl ?_); refine goesL_ (some 35) rfl rfl Tryz.func24 (by kernel_rfl) rfl #[.string (rdOf ByteArray.empty t327 x29_1)] rfl aA ?_; (with_reducible refine (impl_ParseRelation.calls (rdOf ByteArray.empty t327 x29_1) t331 t332 t333 true _ A15.out (hp_.pow.on aG)).mono ?_); rintro e w18 ⟨rfl, hb⟩; refine ⟨_, rfl, ?_⟩; have n0_ := aM (Kd.R_below (aR HO_27) hb); have n1_ := aM (Kd.R_below (aR HO_327000) hb); have n2_ := aM (kB gb322 #[.slice none 0 0, .slice none 0 0] 25 hb); have n3_ := aM (kB gb326 #[u327000, .slice none 0 0] 25 hb); have n4_ := aM (below_step aG hb); clear HO_27; clear HO_327000; clear BK322; clear BK326; clear HB; have HO_27 := n0_; have HO_327000 := n1_; have BK322 := n2_; have BK326 := n3_; have HB := n4_; clear n0_ n1_ n2_ n3_ n4_; (try clear hb); (try clear hb2); (try clear hk); (try clear hi)) | ((with_reducible refine gate_dst (N := 10) rfl ?_); refine bE 10 (cs := #[.string (⟨#[]⟩ : ByteArray), .int .i64 0, .int .i64 0]) (t := 42) ?_; intro gb335 hg w19 hbox hb; have n0_ := aM (Kd.R_below (aR HO_27) hb); have n1_ := aM (Kd.R_below (Kd.R_elderB (aR HO_327000) gb335 (Nat.le_of_eq hg.symm)) hb); have n2_ := aM (kB gb322 #[.slice none 0 0, .slice none 0 0] 25 hb); have n3_ := aM (kB gb326 #[u327000, .slice none 0 0] 25 hb); have n4_ := aM (below_step aG hb); have n5_ := aM (hbox); have n6_ := aM ((by rw [hg]; exact (below_size aG) : w.heap.size ≤ gb335)); have n7_ := aM ((by rw [hg]; exact (below_size aG) : w.heap.size ≤ gb335)); have n8_ := aM ((by rw [hg]; exact Nat.ne_of_lt (blk_lt (g := gb322) (o := .cells #[.slice none 0 0, .slice none 0 0] 25 (0, 0)) aK) : gb322 ≠ gb335)); have n9_ := aM ((by rw [hg]; exact Nat.ne_of_gt (blk_lt (g := gb322) (o := .cells #[.slice none 0 0, .slice none 0 0] 25 (0, 0)) aK) : gb335 ≠ gb322)); have n10_ := aM ((by rw [hg]; exact Nat.ne_of_lt (blk_lt (g := gb326) (o := .cells #[u327000, .slice none 0 0] 25 (0, 0)) aK) : gb326 ≠ gb335)); have n11_ := aM ((by rw [hg]; exact Nat.ne_of_gt (blk_lt (g := gb326) (o := .cells #[u327000, .slice none 0 0] 25 (0, 0)) aK) : gb335 ≠ gb326)); clear HO_27; clear HO_327000; clear BK322; clear BK326; clear HB; have HO_27 := n0_; have HO_327000 := n1_; have BK322 := n2_; have BK326 := n3_; have HB := n4_; have BK335 := n5_; have GW335 := n6_; have GE335 := n7_; have NB322_335 := n8_; have NB335_322 := n9_; have NB326_335 := n10_; have NB335_326 := n11_; clear n0_ n1_ n2_ n3_ n4_ n5_ n6_ n7_ n8_ n9_ n10_ n11_; clear hb hbox hg; have hnb20 := NB335_322.out; have hnc20 := NB322_335.out; have hnb21 := NB335_326.out; have hnc21 := NB326_335.out; have hcz22_0 : w19.cell? ⟨gb335, 0, none⟩ = some (.string (⟨#[]⟩ : ByteArray)) := (blk_cell BK335.out 0).trans rfl; have hcz22_1 : w19.cell? ⟨gb335, 1, none⟩ = some (.int .i64 0) := (blk_cell BK335.out 1).trans rfl; have hcz22_2 : w19.cell? ⟨gb335, 2, none⟩ = some (.int .i64 0) := (blk_cell BK335.out 2).trans rfl; have hfz22_0 := blk_frozen BK335.out 0; have hfz22_1 := blk_frozen BK335.out 1; have hfz22_2 := blk_frozen BK335.out 2; have hnb23 := NB326_322.out; have hnc23 := NB322_326.out; have hcz24_0 : w19.cell? ⟨gb326, 0, none⟩ = some (u327000) := (blk_cell BK326.out 0).trans rfl; have hcz24_1 : w19.cell? ⟨gb326, 1, none⟩ = some (.slice none 0 0) := (blk_cell BK326.out 1).trans rfl; have hfz24_0 := blk_frozen BK326.out 0; have hfz24_1 := blk_frozen BK326.out 1) | ((with_reducible refine gate_builtin (b := .append) (xs := #[.tmp 42, .tmp 44]) rfl ?_); at_builtin; refine Kd.R_append k42 (w0 := w) w.heap.size rfl (.tmp 42) (.tmp 44) 22 42 (.agg #[(.string ⟨#[]⟩), (.int .i64 0), (.int .i64 0)]) 32 rfl Tryz.underlying22 info42 rfl (by decide) (by omega) u327000 x327000_1 (⟨t331, t332, t333⟩ : S42) [.string t331, .int .i64 t332, .int .i64 t333] (fun k_ => k_ ≠ gb335) (fun _ => False) rfl (by first | (go_simp; done) | (go_simp; rfl)) ?aP (fun _ hk => hk.elim) ?aF ?aO ?aB ?aS ?aL ?_; (case aP => exact k42_mkM _ _ _ (⟨t331, t332, t333⟩ : S42)); (case aB => exact aG); (case aF => exact (fun k_ hk => Kd.freshB (g := gb335) (o := .cells #[.string t331, .int .i64 t332, .int .i64 t333] 42 (0, 0)) (by (with_reducible repeat refine pB ?_); refine blk_put (cs := #[.string t331, .int .i64 t332, .int .i64 0]) ?_ 2 _ rfl; (with_reducible repeat refine pB ?_); refine blk_put (cs := #[.string t331, .int .i64 0, .int .i64 0]) ?_ 1 _ rfl; (with_reducible repeat refine pB ?_); refine blk_put (cs := #[.string (⟨#[]⟩ : ByteArray), .int .i64 0, .int .i64 0]) ?_ 0 _ rfl; (with_reducible repeat refine pB ?_); exact BK335.out) k_ hk)); (case aO => exact (by (with_reducible repeat apply pR); exact Kd.R_mono (Kd.R_far (p := ⟨gb335, 2, none⟩) (Kd.R_far (p := ⟨gb335, 1, none⟩) (Kd.R_far (p := ⟨gb335, 0, none⟩) (Kd.R_mono HO_327000.out (fun k_ hk => (⟨hk, hk.2⟩ : _ ∧ k_ ≠ gb335))) (fun _ hk => hk.2) (.string t331)) (fun _ hk => hk.2) (.int .i64 t332)) (fun _ hk => hk.2) (.int .i64 t333)) (fun _ hk => hk.1.2))); (case aS => exact (below_size aG)); (case aL => have := LMc17.out; omega); intro v337 w25 ho hb hg hat; rw [← Ny336.out] at ho; have HO338 := aM (ho); replace HO_27 := aM (Kd.R_over' (by (with_reducible repeat apply pR); exact (Kd.R_mono (Kd.R_far (p := ⟨gb335, 2, none⟩) (Kd.R_far (p := ⟨gb335, 1, none⟩) (Kd.R_far (p := ⟨gb335, 0, none⟩) (Kd.R_types HO_27.out BK335.out (by decide)) (fun _ hk => hk.2) (.string t331)) (fun _ hk => hk.2) (.int .i64 t332)) (fun _ hk => hk.2) (.int .i64 t333)) (fun _ h_ => h_.1))) (Kd.R_typed (by (with_reducible repeat apply pR); exact (Kd.R_mono (Kd.R_far (p := ⟨gb335, 2, none⟩) (Kd.R_far (p := ⟨gb335, 1, none⟩) (Kd.R_far (p := ⟨gb335, 0, none⟩) (Kd.R_mono HO_327000.out (fun k_ hk => (⟨hk, hk.2⟩ : _ ∧ k_ ≠ gb335))) (fun _ hk => hk.2) (.string t331)) (fun _ hk => hk.2) (.int .i64 t332)) (fun _ hk => hk.2) (.int .i64 t333)) (fun _ h_ => h_.1)))) (by decide) hg); replace BK322 := aM (blk_grown (g := gb322) (o := .cells #[.slice none 0 0, .slice none 0 0] 25 (0, 0)) (by (with_reducible repeat refine pB ?_); refine blk_far ?_ NB322_335.out _; (with_reducible repeat refine pB ?_); refine blk_far ?_ NB322_335.out _; (with_reducible repeat refine pB ?_); refine blk_far ?_ NB322_335.out _; (with_reducible repeat refine pB ?_); exact BK322.out) hg (Kd.R_ne HO_327000.out BK322.out (by decide))); replace BK326 := aM (blk_grown (g := gb326) (o := .cells #[u327000, .slice none 0 0] 25 (0, 0)) (by (with_reducible repeat refine pB ?_); refine blk_far ?_ NB326_335.out _; (with_reducible repeat refine pB ?_); refine blk_far ?_ NB326_335.out _; (with_reducible repeat refine pB ?_); refine blk_far ?_ NB326_335.out _; (with_reducible repeat refine pB ?_); exact BK326.out) hg (Kd.R_ne HO_327000.out BK326.out (by decide))); replace BK335 := aM (blk_grown (g := gb335) (o := .cells #[.string t331, .int .i64 t332, .int .i64 t333] 42 (0, 0)) (by (with_reducible repeat refine pB ?_); refine blk_put (cs := #[.string t331, .int .i64 t332, .int .i64 0]) ?_ 2 _ rfl; (with_reducible repeat refine pB ?_); refine blk_put (cs := #[.string t331, .int .i64 0, .int .i64 0]) ?_ 1 _ rfl; (with_reducible repeat refine pB ?_); refine blk_put (cs := #[.string (⟨#[]⟩ : ByteArray), .int .i64 0, .int .i64 0]) ?_ 0 _ rfl; (with_reducible repeat refine pB ?_); exact BK335.out) hg (Kd.R_away HO_327000.out (fun _ hk => hk.2))); replace HB := aM (hb); clear HO_327000; clear ho hb hg hat; obtain ⟨Ao26, co26, eo26⟩ := Kd.R_slice HO338.out; subst eo26; have hcz27_0 : w25.cell? ⟨gb326, 0, none⟩ = some (u327000) := (blk_cell BK326.out 0).trans rfl; have hcz27_1 : w25.cell? ⟨gb326, 1, none⟩ = some (.slice none 0 0) := (blk_cell BK326.out 1).trans rfl; have hfz27_0 := blk_frozen BK326.out 0; have hfz27_1 := blk_frozen BK326.out 1))
         go_roundg k1
         case measure => have := HK1.out; omega
         case rel => exact ⟨(wrap64 (x29_1 + 1)), (y336), (.slice Ao26 y336.length co26), aX, H', ⟨by have := HK1.out; omega⟩, ⟨by (with_reducible repeat apply pR); exact Kd.R_mono (Kd.R_far (p := ⟨gb326, 0, none⟩) (Kd.R_types HO_27.out BK326.out (by decide)) (fun _ hk => hk.2) (.slice Ao26 y336.length co26)) (fun _ hk => trivial)⟩, ⟨by (with_reducible repeat apply pR); exact Kd.R_mono (Kd.R_far (p := ⟨gb326, 0, none⟩) (Kd.R_types HO338.out BK326.out (by decide)) (fun _ hk => hk.2) (.slice Ao26 y336.length co26)) (fun _ hk => trivial)⟩, ⟨by (with_reducible repeat refine pB ?_); refine blk_far ?_ NB322_326.out _; (with_reducible repeat refine pB ?_); exact BK322.out⟩, ⟨by (with_reducible repeat refine pB ?_); refine blk_put (cs := #[u327000, .slice none 0 0]) ?_ 0 _ rfl; (with_reducible repeat refine pB ?_); exact BK326.out⟩, ⟨aG⟩⟩
        ·rw [if_neg c17] at H
         exact absurd H (by simp)
       ·replace c16 := Bool.eq_false_iff.mpr c16
        subst c16
        have H1 : (some (([] : List (S42)), ([] : List (S47)), false)) = some (r1, r2, r3) := by rw [if_neg (show ¬ (false = true) by decide)] at H; exact H
        clear H
        have H := H1
        clear H1
        simp only [Option.some.injEq, Prod.mk.injEq] at H
        obtain ⟨rfl, rfl, rfl⟩ := H
        have p330 : 0 ≤ (x29_1 : Int) := aD
        have q330 : x29_1 < (t327.length : Int) := aD
        obtain ⟨ad330, e330, hx330_0⟩ := Kd.at_string (Kd.R_reads' HO_27.out).2.2 x29_1 p330 q330
        cases e330
        replace p330 := eq_true p330
        replace q330 := eq_true q330
        go_wp2_with (first | ((with_reducible refine gate_callee (f := 24) rfl ?_); refine goesL_ (some 35) rfl rfl Tryz.func24 (by kernel_rfl) rfl #[.string (rdOf ByteArray.empty t327 x29_1)] rfl aA ?_; (with_reducible refine (impl_ParseRelation.calls (rdOf ByteArray.empty t327 x29_1) t331 t332 t333 false _ A15.out (hp_.pow.on aG)).mono ?_); rintro e w28 ⟨rfl, hb⟩; refine ⟨_, rfl, ?_⟩; have n0_ := aM (Kd.R_below (aR HO_27) hb); have n1_ := aM (Kd.R_below (aR HO_327000) hb); have n2_ := aM (kB gb322 #[.slice none 0 0, .slice none 0 0] 25 hb); have n3_ := aM (kB gb326 #[u327000, .slice none 0 0] 25 hb); have n4_ := aM (below_step aG hb); clear HO_27; clear HO_327000; clear BK322; clear BK326; clear HB; have HO_27 := n0_; have HO_327000 := n1_; have BK322 := n2_; have BK326 := n3_; have HB := n4_; clear n0_ n1_ n2_ n3_ n4_; (try clear hb); (try clear hb2); (try clear hk); (try clear hi)) | ((with_reducible refine gate_dst (N := 10) rfl ?_); refine bE 10 (cs := #[.string (⟨#[]⟩ : ByteArray), .int .i64 0, .int .i64 0]) (t := 42) ?_; intro gb335 hg w29 hbox hb; have n0_ := aM (Kd.R_below (aR HO_27) hb); have n1_ := aM (Kd.R_below (Kd.R_elderB (aR HO_327000) gb335 (Nat.le_of_eq hg.symm)) hb); have n2_ := aM (kB gb322 #[.slice none 0 0, .slice none 0 0] 25 hb); have n3_ := aM (kB gb326 #[u327000, .slice none 0 0] 25 hb); have n4_ := aM (below_step aG hb); have n5_ := aM (hbox); have n6_ := aM ((by rw [hg]; exact (below_size aG) : w.heap.size ≤ gb335)); have n7_ := aM ((by rw [hg]; exact (below_size aG) : w.heap.size ≤ gb335)); have n8_ := aM ((by rw [hg]; exact Nat.ne_of_lt (blk_lt (g := gb322) (o := .cells #[.slice none 0 0, .slice none 0 0] 25 (0, 0)) aK) : gb322 ≠ gb335)); have n9_ := aM ((by rw [hg]; exact Nat.ne_of_gt (blk_lt (g := gb322) (o := .cells #[.slice none 0 0, .slice none 0 0] 25 (0, 0)) aK) : gb335 ≠ gb322)); have n10_ := aM ((by rw [hg]; exact Nat.ne_of_lt (blk_lt (g := gb326) (o := .cells #[u327000, .slice none 0 0] 25 (0, 0)) aK) : gb326 ≠ gb335)); have n11_ := aM ((by rw [hg]; exact Nat.ne_of_gt (blk_lt (g := gb326) (o := .cells #[u327000, .slice none 0 0] 25 (0, 0)) aK) : gb335 ≠ gb326)); clear HO_27; clear HO_327000; clear BK322; clear BK326; clear HB; have HO_27 := n0_; have HO_327000 := n1_; have BK322 := n2_; have BK326 := n3_; have HB := n4_; have BK335 := n5_; have GW335 := n6_; have GE335 := n7_; have NB322_335 := n8_; have NB335_322 := n9_; have NB326_335 := n10_; have NB335_326 := n11_; clear n0_ n1_ n2_ n3_ n4_ n5_ n6_ n7_ n8_ n9_ n10_ n11_; clear hb hbox hg; have hnb30 := NB335_322.out; have hnc30 := NB322_335.out; have hnb31 := NB335_326.out; have hnc31 := NB326_335.out; have hcz32_0 : w29.cell? ⟨gb335, 0, none⟩ = some (.string (⟨#[]⟩ : ByteArray)) := (blk_cell BK335.out 0).trans rfl; have hcz32_1 : w29.cell? ⟨gb335, 1, none⟩ = some (.int .i64 0) := (blk_cell BK335.out 1).trans rfl; have hcz32_2 : w29.cell? ⟨gb335, 2, none⟩ = some (.int .i64 0) := (blk_cell BK335.out 2).trans rfl; have hfz32_0 := blk_frozen BK335.out 0; have hfz32_1 := blk_frozen BK335.out 1; have hfz32_2 := blk_frozen BK335.out 2; have hnb33 := NB322_326.out; have hnc33 := NB326_322.out; have hcz34_0 : w29.cell? ⟨gb322, 0, none⟩ = some (.slice none 0 0) := (blk_cell BK322.out 0).trans rfl; have hcz34_1 : w29.cell? ⟨gb322, 1, none⟩ = some (.slice none 0 0) := (blk_cell BK322.out 1).trans rfl; have hfz34_0 := blk_frozen BK322.out 0; have hfz34_1 := blk_frozen BK322.out 1))
        refine bodyPost_ret (results_ct rfl _ _ gb322 25 #[.slice none 0 0, .slice none 0 0] (0, 0) _ rfl (by (with_reducible repeat refine pB ?_); refine blk_put (cs := #[.slice none 0 0, .slice none 0 0]) ?_ 1 _ rfl; (with_reducible repeat refine pB ?_); refine blk_put (cs := #[.slice none 0 0, .slice none 0 0]) ?_ 0 _ rfl; (with_reducible repeat refine pB ?_); refine blk_far ?_ NB322_335.out _; (with_reducible repeat refine pB ?_); refine blk_far ?_ NB322_335.out _; (with_reducible repeat refine pB ?_); refine blk_far ?_ NB322_335.out _; (with_reducible repeat refine pB ?_); exact BK322.out) Tryz.underlying25 rfl (by kernel_rfl)) rfl ?_
        exact ⟨_, _, aE, by first | exact Kd.R_nil _ _ _ _ _ | exact Kd.N_nil _ _ _ _ _ | exact Kd.V_nil _ _ _ _ _ | exact Kd.Q_nil _ _ _ _ _ | exact Kd.S_nil _ _ _ _ _, by first | exact Kd.S_nil _ _ _ _ _ | exact Kd.N_nil _ _ _ _ _ | exact Kd.V_nil _ _ _ _ _ | exact Kd.Q_nil _ _ _ _ _ | exact Kd.R_nil _ _ _ _ _, aG⟩
      ·rw [if_neg c14] at H
       exact absurd H (by simp)
     ·rw [if_neg c13] at H
      exact absurd H (by simp)
    ·rw [if_neg c12] at H
     have c12b0 : decide (x29_1 < (t327.length : Int)) = false := decide_eq_false c12
     clear c12
     replace H := bM H
     obtain ⟨t339, A350, H⟩ := H
     have A35 := aM A350
     clear A350
     have H' := aM H
     clear H
     go_wp2_with (first | ((with_reducible refine gate_callee (f := 23) rfl ?_); refine goesL_ (some 49) rfl rfl Tryz.func23 (by kernel_rfl) rfl #[.string t324] rfl aA ?_; (with_reducible refine (impl_words.calls t324 t339 _ A35.out (hp_.on aG)).mono ?_); rintro e w36 ⟨v340, rfl, ho0, hb⟩; refine ⟨_, rfl, ?_⟩; have n0_ := aM (Kd.R_elder' (aR HO_27) (Kd.R_base ho0) hb); have n1_ := aM (Kd.R_below (aR HO_327000) hb); have n2_ := aM (Kd.R_lower (Kd.R_new' ho0 (Kd.R_lt (aR HO_27))) (below_size aG)); have n3_ := aM (kB gb322 #[.slice none 0 0, .slice none 0 0] 25 hb); have n4_ := aM (kB gb326 #[u327000, .slice none 0 0] 25 hb); have n5_ := aM (below_step aG hb); clear HO_27; clear HO_327000; clear BK322; clear BK326; clear HB; have HO_27 := n0_; have HO_327000 := n1_; have HO341 := n2_; have BK322 := n3_; have BK326 := n4_; have HB := n5_; clear n0_ n1_ n2_ n3_ n4_ n5_; (try clear hb); (try clear hb2); (try clear hk); (try clear hi); (try clear ho0); obtain ⟨Ao37, co37, eo37⟩ := Kd.R_slice HO341.out; subst eo37))
     go_loopg [51] k1 (fun kq v51 w' => ∃ (x51_2 : Int) (x327001_2 : List (S47)) (u327001 : Value), v51 = .int .i64 x51_2 ∧ Aside0 (impl_ParseDatabase.l1 kq a0 t339 (t339.length : Int) x51_2 x327000_1 x327001_2 = some (r1, r2, r3)) ∧ Aside0 (kq ≤ k1) ∧ Aside0 (Kd.R Kd.string 9 w' w.heap.size (fun _ => True) (.slice Ao37 t339.length co37) t339) ∧ Aside0 (Kd.R k42 42 w' w.heap.size (fun _ => True) u327000 x327000_1) ∧ Aside0 (Kd.S k47 47 w' w.heap.size (fun _ => True) u327001 x327001_2) ∧ Aside0 (w'.heap[gb322]? = some (.cells #[(.slice none 0 0), (.slice none 0 0)] 25 (0, 0))) ∧ Aside0 (w'.heap[gb326]? = some (.cells #[u327000, u327001] 25 (0, 0))) ∧ Aside0 (Below w.heap.size w w'))
     case atStart => exact ⟨(0), (([] : List (S47))), (.slice none 0 0), aX, H', ⟨Nat.le_refl _⟩, ⟨by (with_reducible repeat apply pR); exact Kd.R_mono HO341.out (fun _ hk => trivial)⟩, ⟨aR HO_327000⟩, ⟨by first | exact Kd.S_nil _ _ _ _ _ | exact Kd.N_nil _ _ _ _ _ | exact Kd.V_nil _ _ _ _ _ | exact Kd.Q_nil _ _ _ _ _ | exact Kd.R_nil _ _ _ _ _⟩, ⟨aK⟩, ⟨aK⟩, ⟨aG⟩⟩
     case round =>
      clear H'
      try clear c1
      try clear c2
      try clear p2
      try clear c3
      try clear p3
      try clear q3
      try clear hx3
      try clear c6
      try clear p6
      try clear c8
      try clear c12
      try clear c12b0
      try clear c13
      try clear c13b0
      try clear c14
      try clear c14b0
      try clear c16
      try clear c17
      try clear c20
      try clear c21
      try clear c22
      try clear c23
      try clear c24
      try clear c30
      try clear c31
      try clear c33
      try clear p33
      try clear q33
      try clear hx33
      try clear hcz22_0
      try clear hcz22_1
      try clear hcz22_2
      try clear hcz24_0
      try clear hcz24_1
      try clear hcz27_0
      try clear hcz27_1
      try clear hcz32_0
      try clear hcz32_1
      try clear hcz32_2
      try clear hcz34_0
      try clear hcz34_1
      try clear hcz9_0
      try clear hcz9_1
      try clear hfz22_0
      try clear hfz22_1
      try clear hfz22_2
      try clear hfz24_0
      try clear hfz24_1
      try clear hfz27_0
      try clear hfz27_1
      try clear hfz32_0
      try clear hfz32_1
      try clear hfz32_2
      try clear hfz34_0
      try clear hfz34_1
      try clear hfz9_0
      try clear hfz9_1
      try clear hx330_0
      try clear p2
      try clear p330
      try clear q330
      obtain ⟨x51_2, x327001_2, u327001, rfl, HA, HK2, HO_49, HO_327000, HO_327001, BK322, BK326, HB⟩ := hrel
      cases gk with
      | zero => exact absurd HA.out (by simp [impl_ParseDatabase.l1])
      | succ k2 =>
       have H := HA.out
       clear HA
       simp only [impl_ParseDatabase.l1] at H
       by_cases c38 : x51_2 < (t339.length : Int)
       ·rw [if_pos c38] at H
        have c38b0 : decide (x51_2 < (t339.length : Int)) = true := decide_eq_true c38
        clear c38
        by_cases c39 : 0 ≤ x51_2
        ·rw [if_pos c39] at H
         have c39b0 : decide (0 ≤ x51_2) = true := decide_eq_true c39
         clear c39
         by_cases c40 : x51_2 < (t339.length : Int)
         ·rw [if_pos c40] at H
          have c40b0 : decide (x51_2 < (t339.length : Int)) = true := decide_eq_true c40
          clear c40
          replace H := bM H
          obtain ⟨⟨t343, t344, t347⟩, A410, H⟩ := H
          dsimp only at H
          have A41 := aM A410
          clear A410
          by_cases c42 : t347 = true
          ·subst c42
           replace H := iT H
           by_cases c43 : x327001_2.length < 4398046511104
           ·rw [if_pos c43] at H
            have LMc43 := aM c43
            clear c43
            obtain ⟨y349, hy349⟩ : ∃ y_ : List (S47), y_ = (x327001_2 ++ [(⟨t343, t344⟩ : S47)]) := ⟨_, rfl⟩
            first | replace H := bY hy349 H | rw [← hy349] at H
            have Ny349 := aM hy349
            clear hy349
            have H' := aM H
            clear H
            have p342 : 0 ≤ (x51_2 : Int) := aD
            have q342 : x51_2 < (t339.length : Int) := aD
            obtain ⟨ad342, e342, hx342_0⟩ := Kd.at_string (Kd.R_reads' HO_49.out).2.2 x51_2 p342 q342
            cases e342
            replace p342 := eq_true p342
            replace q342 := eq_true q342
            have hnb44 := NB326_322.out
            have hnc44 := NB322_326.out
            have hcz45_0 : wr.cell? ⟨gb326, 0, none⟩ = some (u327000) := (blk_cell BK326.out 0).trans rfl
            have hcz45_1 : wr.cell? ⟨gb326, 1, none⟩ = some (u327001) := (blk_cell BK326.out 1).trans rfl
            have hfz45_0 := blk_frozen BK326.out 0
            have hfz45_1 := blk_frozen BK326.out 1
            obtain ⟨Ao46, co46, eo46⟩ := Kd.R_slice HO_327000.out
            subst eo46
            go_wp2_with (first | ((with_reducible refine gate_callee (f := 25) rfl ?_); refine goesL_ (some 59) rfl rfl Tryz.func25 (by kernel_rfl) rfl #[.slice Ao46 x327000_1.length co46, .string (rdOf ByteArray.empty t339 x51_2)] rfl aA ?_; (with_reducible refine (impl_ParseFact.calls k2 _ _ x327000_1 (rdOf ByteArray.empty t339 x51_2) t343 t344 true _ ?side1 ?side2 A41.out (hp_.pow.on aG)).mono ?_); (case side1 => repeat (first | exact (Kd.R_reads' HO_327000.out).2.2 | (with_reducible refine pC ?_))); (case side2 => exact (Kd.R_reads' HO_327000.out).2.1); rintro e w47 ⟨v345, rfl, ho0, hb⟩; refine ⟨_, rfl, ?_⟩; have n0_ := aM (Kd.R_below (aR HO_49) hb); have n1_ := aM (Kd.R_below (aR HO_327000) hb); have n2_ := aM (Kd.S_elder' (aS HO_327001) (Kd.R_base ho0) hb); have n3_ := aM (Kd.R_lower ho0 (below_size aG)); have n4_ := aM (kB gb322 #[.slice none 0 0, .slice none 0 0] 25 hb); have n5_ := aM (kB gb326 #[.slice Ao46 x327000_1.length co46, u327001] 25 hb); have n6_ := aM (below_step aG hb); clear HO_49; clear HO_327000; clear HO_327001; clear BK322; clear BK326; clear HB; have HO_49 := n0_; have HO_327000 := n1_; have HO_327001 := n2_; have HO346 := n3_; have BK322 := n4_; have BK326 := n5_; have HB := n6_; clear n0_ n1_ n2_ n3_ n4_ n5_ n6_; (try clear hb); (try clear hb2); (try clear hk); (try clear hi); (try clear ho0)) | ((with_reducible refine gate_dst (N := 14) rfl ?_); refine box_event ?hg (N := 14) ?hd (cs := #[.int .i64 0, .slice none 0 0]) (t := 47) ?hr ?_; (case hd => rfl); (case hg => rfl); (case hr => first | (go_simp; done) | (go_simp; rfl) | (obtain ⟨A_, c_, e_⟩ := Kd.R_slice HO_49.out; subst e_; first | (go_simp; done) | (go_simp; rfl)) | (obtain ⟨A_, c_, e_⟩ := Kd.R_slice HO_327000.out; subst e_; first | (go_simp; done) | (go_simp; rfl)) | (obtain ⟨A_, c_, e_⟩ := Kd.R_slice HO_327001.out; subst e_; first | (go_simp; done) | (go_simp; rfl)) | (obtain ⟨A_, c_, e_⟩ := Kd.R_slice HO346.out; subst e_; first | (go_simp; done) | (go_simp; rfl)) | (obtain ⟨A_, c_, e_⟩ := Kd.R_slice HO351.out; subst e_; first | (go_simp; done) | (go_simp; rfl))); intro gb348 hg w48 hbox hb; have n0_ := aM (Kd.R_below (aR HO_49) hb); have n1_ := aM (Kd.R_below (aR HO_327000) hb); have n2_ := aM (Kd.S_below (Kd.S_elderB (aS HO_327001) gb348 (Nat.le_of_eq hg.symm)) hb); have n3_ := aM (Kd.R_below (aR HO346) hb); have n4_ := aM (kB gb322 #[.slice none 0 0, .slice none 0 0] 25 hb); have n5_ := aM (kB gb326 #[.slice Ao46 x327000_1.length co46, u327001] 25 hb); have n6_ := aM (below_step aG hb); have n7_ := aM (hbox); have n8_ := aM ((by rw [hg]; exact (below_size aG) : w.heap.size ≤ gb348)); have n9_ := aM ((by rw [hg]; exact (below_size aG) : w.heap.size ≤ gb348)); have n10_ := aM ((by rw [hg]; exact Nat.ne_of_lt (blk_lt (g := gb322) (o := .cells #[.slice none 0 0, .slice none 0 0] 25 (0, 0)) aK) : gb322 ≠ gb348)); have n11_ := aM ((by rw [hg]; exact Nat.ne_of_gt (blk_lt (g := gb322) (o := .cells #[.slice none 0 0, .slice none 0 0] 25 (0, 0)) aK) : gb348 ≠ gb322)); have n12_ := aM ((by rw [hg]; exact Nat.ne_of_lt (blk_lt (g := gb326) (o := .cells #[.slice Ao46 x327000_1.length co46, u327001] 25 (0, 0)) aK) : gb326 ≠ gb348)); have n13_ := aM ((by rw [hg]; exact Nat.ne_of_gt (blk_lt (g := gb326) (o := .cells #[.slice Ao46 x327000_1.length co46, u327001] 25 (0, 0)) aK) : gb348 ≠ gb326)); clear HO_49; clear HO_327000; clear HO_327001; clear HO346; clear BK322; clear BK326; clear HB; have HO_49 := n0_; have HO_327000 := n1_; have HO_327001 := n2_; have HO346 := n3_; have BK322 := n4_; have BK326 := n5_; have HB := n6_; have BK348 := n7_; have GW348 := n8_; have GE348 := n9_; have NB322_348 := n10_; have NB348_322 := n11_; have NB326_348 := n12_; have NB348_326 := n13_; clear n0_ n1_ n2_ n3_ n4_ n5_ n6_ n7_ n8_ n9_ n10_ n11_ n12_ n13_; clear hb hbox hg; have hnb49 := NB348_322.out; have hnc49 := NB322_348.out; have hnb50 := NB348_326.out; have hnc50 := NB326_348.out; have hcz51_0 : w48.cell? ⟨gb348, 0, none⟩ = some (.int .i64 0) := (blk_cell BK348.out 0).trans rfl; have hcz51_1 : w48.cell? ⟨gb348, 1, none⟩ = some (.slice none 0 0) := (blk_cell BK348.out 1).trans rfl; have hfz51_0 := blk_frozen BK348.out 0; have hfz51_1 := blk_frozen BK348.out 1; obtain ⟨Ao52, co52, eo52⟩ := Kd.R_slice HO346.out; subst eo52) | ((with_reducible refine gate_store (t := 47) (p := 14) rfl ?_); refine store_event (t := 47) (p := 14) (v := ?vo_w53) (w1 := ((w48.setCell ⟨gb348, 0, none⟩ (.int .i64 t343)).setCell ⟨gb348, 1, none⟩ (.slice Ao52 t344.length co52))) ?hg ?ho ?hn ?hr ?_; (case ho => rfl); (case hg => rfl); (case hn => rfl); (case hr => first | (go_simp; done) | (go_simp; rfl) | (obtain ⟨A_, c_, e_⟩ := Kd.R_slice HO_49.out; subst e_; first | (go_simp; done) | (go_simp; rfl)) | (obtain ⟨A_, c_, e_⟩ := Kd.R_slice HO_327000.out; subst e_; first | (go_simp; done) | (go_simp; rfl)) | (obtain ⟨A_, c_, e_⟩ := Kd.R_slice HO_327001.out; subst e_; first | (go_simp; done) | (go_simp; rfl)) | (obtain ⟨A_, c_, e_⟩ := Kd.R_slice HO346.out; subst e_; first | (go_simp; done) | (go_simp; rfl)) | (obtain ⟨A_, c_, e_⟩ := Kd.R_slice HO351.out; subst e_; first | (go_simp; done) | (go_simp; rfl))); intro w53 hw; have n0_ : Aside0 (Kd.R Kd.string 9 w53 w.heap.size (fun _ => True) (.slice (some ad342) t339.length co37) t339) := ⟨(by rw [hw]; exact (by (with_reducible repeat apply pR); exact Kd.R_mono (Kd.R_far (p := ⟨gb348, 1, none⟩) (Kd.R_far (p := ⟨gb348, 0, none⟩) (Kd.R_types HO_49.out BK348.out (by decide)) (fun _ hk => hk.2) (.int .i64 t343)) (fun _ hk => hk.2) (.slice Ao52 t344.length co52)) (fun _ hk => trivial)))⟩; have n1_ : Aside0 (Kd.R k42 42 w53 w.heap.size (fun _ => True) (.slice Ao46 x327000_1.length co46) x327000_1) := ⟨(by rw [hw]; exact (by (with_reducible repeat apply pR); exact Kd.R_mono (Kd.R_far (p := ⟨gb348, 1, none⟩) (Kd.R_far (p := ⟨gb348, 0, none⟩) (Kd.R_types HO_327000.out BK348.out (by decide)) (fun _ hk => hk.2) (.int .i64 t343)) (fun _ hk => hk.2) (.slice Ao52 t344.length co52)) (fun _ hk => trivial)))⟩; have n2_ : Aside0 (Kd.S k47 47 w53 w.heap.size (fun k_ => some k_ ≠ (.slice Ao52 t344.length co52 : Value).ownBlock ∧ k_ ≠ gb348) u327001 x327001_2) := ⟨(by rw [hw]; exact (by (with_reducible repeat apply pS); exact Kd.S_mono (Kd.S_far (p := ⟨gb348, 1, none⟩) (Kd.S_far (p := ⟨gb348, 0, none⟩) (Kd.S_mono HO_327001.out (fun k_ hk => (⟨hk, hk.2⟩ : _ ∧ k_ ≠ gb348))) (fun _ hk => hk.2) (.int .i64 t343)) (fun _ hk => hk.2) (.slice Ao52 t344.length co52)) (fun _ hk => ⟨hk.1.1.2, hk.1.2⟩)))⟩; have n3_ : Aside0 (Kd.R (Kd.int .i64) 3 w53 w.heap.size (fun _ => True) (.slice Ao52 t344.length co52) t344) := ⟨(by rw [hw]; exact (by (with_reducible repeat apply pR); exact Kd.R_mono (Kd.R_far (p := ⟨gb348, 1, none⟩) (Kd.R_far (p := ⟨gb348, 0, none⟩) (Kd.R_types HO346.out BK348.out (by decide)) (fun _ hk => hk.2) (.int .i64 t343)) (fun _ hk => hk.2) (.slice Ao52 t344.length co52)) (fun _ hk => trivial)))⟩; have n4_ : Aside0 (w53.heap[gb322]? = some (.cells #[.slice none 0 0, .slice none 0 0] 25 (0, 0))) := ⟨(by rw [hw]; exact (by (with_reducible repeat refine pB ?_); refine blk_far ?_ NB322_348.out _; (with_reducible repeat refine pB ?_); refine blk_far ?_ NB322_348.out _; (with_reducible repeat refine pB ?_); exact BK322.out))⟩; have n5_ : Aside0 (w53.heap[gb326]? = some (.cells #[.slice Ao46 x327000_1.length co46, u327001] 25 (0, 0))) := ⟨(by rw [hw]; exact (by (with_reducible repeat refine pB ?_); refine blk_far ?_ NB326_348.out _; (with_reducible repeat refine pB ?_); refine blk_far ?_ NB326_348.out _; (with_reducible repeat refine pB ?_); exact BK326.out))⟩; have n6_ : Aside0 (w53.heap[gb348]? = some (.cells #[.int .i64 t343, .slice Ao52 t344.length co52] 47 (0, 0))) := ⟨(by rw [hw]; exact (by (with_reducible repeat refine pB ?_); refine blk_put (cs := #[.int .i64 t343, .slice none 0 0]) ?_ 1 _ rfl; (with_reducible repeat refine pB ?_); refine blk_put (cs := #[.int .i64 0, .slice none 0 0]) ?_ 0 _ rfl; (with_reducible repeat refine pB ?_); exact BK348.out))⟩; have n7_ : Aside0 (Below w.heap.size w w53) := ⟨(by rw [hw]; exact aG)⟩; clear hw; clear HO_49; clear HO_327000; clear HO_327001; clear HO346; clear BK322; clear BK326; clear BK348; clear HB; have HO_49 := n0_; have HO_327000 := n1_; have HO_327001 := n2_; have HO346 := n3_; have BK322 := n4_; have BK326 := n5_; have BK348 := n6_; have HB := n7_; clear n0_ n1_ n2_ n3_ n4_ n5_ n6_ n7_; have hcz54_0 : w53.cell? ⟨gb326, 0, none⟩ = some (.slice Ao46 x327000_1.length co46) := (blk_cell BK326.out 0).trans rfl; have hcz54_1 : w53.cell? ⟨gb326, 1, none⟩ = some (u327001) := (blk_cell BK326.out 1).trans rfl; have hfz54_0 := blk_frozen BK326.out 0; have hfz54_1 := blk_frozen BK326.out 1; have hcz55_0 : w53.cell? ⟨gb348, 0, none⟩ = some (.int .i64 t343) := (blk_cell BK348.out 0).trans rfl; have hcz55_1 : w53.cell? ⟨gb348, 1, none⟩ = some (.slice Ao52 t344.length co52) := (blk_cell BK348.out 1).trans rfl; have hfz55_0 := blk_frozen BK348.out 0; have hfz55_1 := blk_frozen BK348.out 1) | ((with_reducible refine gate_builtin (b := .append) (xs := #[.tmp 66, .tmp 68]) rfl ?_); at_builtin; refine Kd.S_append k47 (w0 := w) w.heap.size rfl (.tmp 66) (.tmp 68) 23 47 (.agg #[(.int .i64 0), (.slice none 0 0)]) 32 rfl Tryz.underlying23 info47 rfl (by decide) (by omega) u327001 x327001_2 (⟨t343, t344⟩ : S47) [.int .i64 t343, .slice Ao52 t344.length co52] (fun k_ => k_ ≠ gb348) (fun k_ => some k_ = (.slice Ao52 t344.length co52 : Value).ownBlock) rfl rfl ?aP (fun k_ hk_ => ((Kd.R_mono (ok' := fun k_ => ((fun k_ => k_ ≠ gb348)) k_ ∧ some k_ ≠ (u327001 : Value).ownBlock) (Kd.R_types (Kd.R_apart' (HO346.out) (Kd.S_typed HO_327001.out) (by decide)) BK348.out (by decide)) (fun k_ hk => ⟨hk.2, hk.1.2⟩))).1 k_ hk_.symm) ?aF ?aO ?aB ?aS ?aL ?_; (case aP => exact k47_mkM _ _ _ (⟨t343, t344⟩ : S47) (Kd.R_mono (Kd.R_tight rfl (Kd.R_mono (ok' := fun k_ => ((fun k_ => k_ ≠ gb348)) k_ ∧ some k_ ≠ (u327001 : Value).ownBlock) (Kd.R_types (Kd.R_apart' (HO346.out) (Kd.S_typed HO_327001.out) (by decide)) BK348.out (by decide)) (fun k_ hk => ⟨hk.2, hk.1.2⟩))) (fun _ h_ => h_))); (case aB => exact aG); (case aF => exact (fun k_ hk => Kd.freshB (g := gb348) (o := .cells #[.int .i64 t343, .slice Ao52 t344.length co52] 47 (0, 0)) aK k_ hk)); (case aO => exact (by (with_reducible repeat apply pS); exact Kd.S_mono HO_327001.out (fun k_ hk => ⟨hk.2, fun e_ => hk.1 e_⟩))); (case aS => exact (below_size aG)); (case aL => have := LMc43.out; omega); intro v350 w56 ho hb hg hat; rw [← Ny349.out] at ho; have n0_ := aM (Kd.R_over' (aR HO_49) (Kd.S_typed (aS HO_327001)) (by decide) hg); have n1_ := aM (Kd.R_over' (aR HO_327000) (Kd.S_typed (aS HO_327001)) (by decide) hg); have n2_ := aM (blk_grown (g := gb322) (o := .cells #[.slice none 0 0, .slice none 0 0] 25 (0, 0)) aK hg (Kd.S_ne HO_327001.out BK322.out (by decide))); have n3_ := aM (blk_grown (g := gb326) (o := .cells #[.slice Ao46 x327000_1.length co46, u327001] 25 (0, 0)) aK hg (Kd.S_ne HO_327001.out BK326.out (by decide))); have n4_ := aM (blk_grown (g := gb348) (o := .cells #[.int .i64 t343, .slice Ao52 t344.length co52] 47 (0, 0)) aK hg (Kd.S_away HO_327001.out (fun _ hk => hk.2))); have n5_ := aM (hb); have n6_ := aM (ho); clear HO_49; clear HO_327000; clear BK322; clear BK326; clear BK348; clear HB; clear HO_327001; clear HO346; have HO_49 := n0_; have HO_327000 := n1_; have BK322 := n2_; have BK326 := n3_; have BK348 := n4_; have HB := n5_; have HO351 := n6_; clear n0_ n1_ n2_ n3_ n4_ n5_ n6_; clear ho hb hg hat; obtain ⟨Ao57, co57, eo57⟩ := Kd.S_slice HO351.out; subst eo57; have hcz58_0 : w56.cell? ⟨gb326, 0, none⟩ = some (.slice Ao46 x327000_1.length co46) := (blk_cell BK326.out 0).trans rfl; have hcz58_1 : w56.cell? ⟨gb326, 1, none⟩ = some (u327001) := (blk_cell BK326.out 1).trans rfl; have hfz58_0 := blk_frozen BK326.out 0; have hfz58_1 := blk_frozen BK326.out 1))
            go_roundg k2
            case measure => have := HK1.out; have := HK2.out; omega
            case rel => exact ⟨(wrap64 (x51_2 + 1)), (y349), (.slice Ao57 y349.length co57), aX, H', ⟨by have := HK1.out; have := HK2.out; omega⟩, ⟨by (with_reducible repeat apply pR); exact Kd.R_mono (Kd.R_far (p := ⟨gb326, 1, none⟩) (Kd.R_types HO_49.out BK326.out (by decide)) (fun _ hk => hk.2) (.slice Ao57 y349.length co57)) (fun _ hk => trivial)⟩, ⟨by (with_reducible repeat apply pR); exact Kd.R_mono (Kd.R_far (p := ⟨gb326, 1, none⟩) (Kd.R_types HO_327000.out BK326.out (by decide)) (fun _ hk => hk.2) (.slice Ao57 y349.length co57)) (fun _ hk => trivial)⟩, ⟨by (with_reducible repeat apply pS); exact Kd.S_mono (Kd.S_far (p := ⟨gb326, 1, none⟩) (Kd.S_types HO351.out BK326.out (by decide)) (fun _ hk => hk.2) (.slice Ao57 y349.length co57)) (fun _ hk => trivial)⟩, ⟨by (with_reducible repeat refine pB ?_); refine blk_far ?_ NB322_326.out _; (with_reducible repeat refine pB ?_); exact BK322.out⟩, ⟨by (with_reducible repeat refine pB ?_); refine blk_put (cs := #[.slice Ao46 x327000_1.length co46, u327001]) ?_ 1 _ rfl; (with_reducible repeat refine pB ?_); exact BK326.out⟩, ⟨aG⟩⟩
           ·rw [if_neg c43] at H
            exact absurd H (by simp)
          ·replace c42 := Bool.eq_false_iff.mpr c42
           subst c42
           have H1 : (some (([] : List (S42)), ([] : List (S47)), false)) = some (r1, r2, r3) := by rw [if_neg (show ¬ (false = true) by decide)] at H; exact H
           clear H
           have H := H1
           clear H1
           simp only [Option.some.injEq, Prod.mk.injEq] at H
           obtain ⟨rfl, rfl, rfl⟩ := H
           have p342 : 0 ≤ (x51_2 : Int) := aD
           have q342 : x51_2 < (t339.length : Int) := aD
           obtain ⟨ad342, e342, hx342_0⟩ := Kd.at_string (Kd.R_reads' HO_49.out).2.2 x51_2 p342 q342
           cases e342
           replace p342 := eq_true p342
           replace q342 := eq_true q342
           have hnb59 := NB326_322.out
           have hnc59 := NB322_326.out
           have hcz60_0 : wr.cell? ⟨gb326, 0, none⟩ = some (u327000) := (blk_cell BK326.out 0).trans rfl
           have hcz60_1 : wr.cell? ⟨gb326, 1, none⟩ = some (u327001) := (blk_cell BK326.out 1).trans rfl
           have hfz60_0 := blk_frozen BK326.out 0
           have hfz60_1 := blk_frozen BK326.out 1
           obtain ⟨Ao61, co61, eo61⟩ := Kd.R_slice HO_327000.out
           subst eo61
           go_wp2_with (first | ((with_reducible refine gate_callee (f := 25) rfl ?_); refine goesL_ (some 59) rfl rfl Tryz.func25 (by kernel_rfl) rfl #[.slice Ao61 x327000_1.length co61, .string (rdOf ByteArray.empty t339 x51_2)] rfl aA ?_; (with_reducible refine (impl_ParseFact.calls k2 _ _ x327000_1 (rdOf ByteArray.empty t339 x51_2) t343 t344 false _ ?side1 ?side2 A41.out (hp_.pow.on aG)).mono ?_); (case side1 => repeat (first | exact (Kd.R_reads' HO_327000.out).2.2 | (with_reducible refine pC ?_))); (case side2 => exact (Kd.R_reads' HO_327000.out).2.1); rintro e w62 ⟨v345, rfl, ho0, hb⟩; refine ⟨_, rfl, ?_⟩; have n0_ := aM (Kd.R_below (aR HO_49) hb); have n1_ := aM (Kd.R_below (aR HO_327000) hb); have n2_ := aM (Kd.S_elder' (aS HO_327001) (Kd.R_base ho0) hb); have n3_ := aM (Kd.R_lower ho0 (below_size aG)); have n4_ := aM (kB gb322 #[.slice none 0 0, .slice none 0 0] 25 hb); have n5_ := aM (kB gb326 #[.slice Ao61 x327000_1.length co61, u327001] 25 hb); have n6_ := aM (below_step aG hb); clear HO_49; clear HO_327000; clear HO_327001; clear BK322; clear BK326; clear HB; have HO_49 := n0_; have HO_327000 := n1_; have HO_327001 := n2_; have HO346 := n3_; have BK322 := n4_; have BK326 := n5_; have HB := n6_; clear n0_ n1_ n2_ n3_ n4_ n5_ n6_; (try clear hb); (try clear hb2); (try clear hk); (try clear hi); (try clear ho0)) | ((with_reducible refine gate_dst (N := 14) rfl ?_); refine bE 14 (cs := #[.int .i64 0, .slice none 0 0]) (t := 47) ?_; intro gb348 hg w63 hbox hb; have n0_ := aM (Kd.R_below (aR HO_49) hb); have n1_ := aM (Kd.R_below (aR HO_327000) hb); have n2_ := aM (Kd.S_below (Kd.S_elderB (aS HO_327001) gb348 (Nat.le_of_eq hg.symm)) hb); have n3_ := aM (Kd.R_below (aR HO346) hb); have n4_ := aM (kB gb322 #[.slice none 0 0, .slice none 0 0] 25 hb); have n5_ := aM (kB gb326 #[.slice Ao61 x327000_1.length co61, u327001] 25 hb); have n6_ := aM (below_step aG hb); have n7_ := aM (hbox); have n8_ := aM ((by rw [hg]; exact (below_size aG) : w.heap.size ≤ gb348)); have n9_ := aM ((by rw [hg]; exact (below_size aG) : w.heap.size ≤ gb348)); have n10_ := aM ((by rw [hg]; exact Nat.ne_of_lt (blk_lt (g := gb322) (o := .cells #[.slice none 0 0, .slice none 0 0] 25 (0, 0)) aK) : gb322 ≠ gb348)); have n11_ := aM ((by rw [hg]; exact Nat.ne_of_gt (blk_lt (g := gb322) (o := .cells #[.slice none 0 0, .slice none 0 0] 25 (0, 0)) aK) : gb348 ≠ gb322)); have n12_ := aM ((by rw [hg]; exact Nat.ne_of_lt (blk_lt (g := gb326) (o := .cells #[.slice Ao61 x327000_1.length co61, u327001] 25 (0, 0)) aK) : gb326 ≠ gb348)); have n13_ := aM ((by rw [hg]; exact Nat.ne_of_gt (blk_lt (g := gb326) (o := .cells #[.slice Ao61 x327000_1.length co61, u327001] 25 (0, 0)) aK) : gb348 ≠ gb326)); clear HO_49; clear HO_327000; clear HO_327001; clear HO346; clear BK322; clear BK326; clear HB; have HO_49 := n0_; have HO_327000 := n1_; have HO_327001 := n2_; have HO346 := n3_; have BK322 := n4_; have BK326 := n5_; have HB := n6_; have BK348 := n7_; have GW348 := n8_; have GE348 := n9_; have NB322_348 := n10_; have NB348_322 := n11_; have NB326_348 := n12_; have NB348_326 := n13_; clear n0_ n1_ n2_ n3_ n4_ n5_ n6_ n7_ n8_ n9_ n10_ n11_ n12_ n13_; clear hb hbox hg; have hnb64 := NB348_322.out; have hnc64 := NB322_348.out; have hnb65 := NB348_326.out; have hnc65 := NB326_348.out; have hcz66_0 : w63.cell? ⟨gb348, 0, none⟩ = some (.int .i64 0) := (blk_cell BK348.out 0).trans rfl; have hcz66_1 : w63.cell? ⟨gb348, 1, none⟩ = some (.slice none 0 0) := (blk_cell BK348.out 1).trans rfl; have hfz66_0 := blk_frozen BK348.out 0; have hfz66_1 := blk_frozen BK348.out 1; obtain ⟨Ao67, co67, eo67⟩ := Kd.R_slice HO346.out; subst eo67; have hcz68_0 : w63.cell? ⟨gb322, 0, none⟩ = some (.slice none 0 0) := (blk_cell BK322.out 0).trans rfl; have hcz68_1 : w63.cell? ⟨gb322, 1, none⟩ = some (.slice none 0 0) := (blk_cell BK322.out 1).trans rfl; have hfz68_0 := blk_frozen BK322.out 0; have hfz68_1 := blk_frozen BK322.out 1))
           refine bodyPost_ret (results_ct rfl _ _ gb322 25 #[.slice none 0 0, .slice none 0 0] (0, 0) _ rfl (by (with_reducible repeat refine pB ?_); refine blk_put (cs := #[.slice none 0 0, .slice none 0 0]) ?_ 1 _ rfl; (with_reducible repeat refine pB ?_); refine blk_put (cs := #[.slice none 0 0, .slice none 0 0]) ?_ 0 _ rfl; (with_reducible repeat refine pB ?_); refine blk_far ?_ NB322_348.out _; (with_reducible repeat refine pB ?_); refine blk_far ?_ NB322_348.out _; (with_reducible repeat refine pB ?_); exact BK322.out) Tryz.underlying25 rfl (by kernel_rfl)) rfl ?_
           exact ⟨_, _, aE, by first | exact Kd.R_nil _ _ _ _ _ | exact Kd.N_nil _ _ _ _ _ | exact Kd.V_nil _ _ _ _ _ | exact Kd.Q_nil _ _ _ _ _ | exact Kd.S_nil _ _ _ _ _, by first | exact Kd.S_nil _ _ _ _ _ | exact Kd.N_nil _ _ _ _ _ | exact Kd.V_nil _ _ _ _ _ | exact Kd.Q_nil _ _ _ _ _ | exact Kd.R_nil _ _ _ _ _, aG⟩
         ·rw [if_neg c40] at H
          exact absurd H (by simp)
        ·rw [if_neg c39] at H
         exact absurd H (by simp)
       ·rw [if_neg c38] at H
        have c38b0 : decide (x51_2 < (t339.length : Int)) = false := decide_eq_false c38
        clear c38
        replace H := bM H
        obtain ⟨t352, A690, H⟩ := H
        have A69 := aM A690
        clear A690
        by_cases c70 : t352.toList = a0.toList
        ·rw [if_pos c70] at H
         have c70b0 : (t352.toList == a0.toList) = true := beq_iff_eq.mpr c70
         have c70b1 : (t352.toList != a0.toList) = false := bne_eq_false_iff_eq.mpr c70
         clear c70
         simp only [Option.some.injEq, Prod.mk.injEq] at H
         obtain ⟨rfl, rfl, rfl⟩ := H
         have hnb71 := NB326_322.out
         have hnc71 := NB322_326.out
         have hcz72_0 : wr.cell? ⟨gb326, 0, none⟩ = some (u327000) := (blk_cell BK326.out 0).trans rfl
         have hcz72_1 : wr.cell? ⟨gb326, 1, none⟩ = some (u327001) := (blk_cell BK326.out 1).trans rfl
         have hfz72_0 := blk_frozen BK326.out 0
         have hfz72_1 := blk_frozen BK326.out 1
         obtain ⟨Ao73, co73, eo73⟩ := Kd.R_slice HO_327000.out
         subst eo73
         obtain ⟨Ao74, co74, eo74⟩ := Kd.S_slice HO_327001.out
         subst eo74
         go_wp2_with (first | ((with_reducible refine gate_callee (f := 12) rfl ?_); refine goesL_ (some 73) rfl rfl Tryz.func12 (by kernel_rfl) rfl #[.agg #[.slice Ao73 x327000_1.length co73, .slice Ao74 x327001_2.length co74]] rfl aA ?_; (with_reducible refine (impl_FormatDatabase.calls k2 _ _ x327000_1 _ _ x327001_2 t352 _ ?side1 ?side2 ?side3 ?side4 A69.out (hp_.pow.on aG)).mono ?_); (case side1 => repeat (first | exact (Kd.R_reads' HO_327000.out).2.2 | (with_reducible refine pC ?_))); (case side2 => exact (Kd.R_reads' HO_327000.out).2.1); (case side3 => repeat (first | exact (Kd.S_reads' HO_327001.out).2.2 | (with_reducible refine pC ?_))); (case side4 => exact (Kd.S_reads' HO_327001.out).2.1); rintro e w75 ⟨rfl, hb⟩; refine ⟨_, rfl, ?_⟩; have n0_ := aM (Kd.R_below (aR HO_49) hb); have n1_ := aM (Kd.R_below (aR HO_327000) hb); have n2_ := aM (Kd.S_below (aS HO_327001) hb); have n3_ := aM (kB gb322 #[.slice none 0 0, .slice none 0 0] 25 hb); have n4_ := aM (kB gb326 #[.slice Ao73 x327000_1.length co73, .slice Ao74 x327001_2.length co74] 25 hb); have n5_ := aM (below_step aG hb); clear HO_49; clear HO_327000; clear HO_327001; clear BK322; clear BK326; clear HB; have HO_49 := n0_; have HO_327000 := n1_; have HO_327001 := n2_; have BK322 := n3_; have BK326 := n4_; have HB := n5_; clear n0_ n1_ n2_ n3_ n4_ n5_; (try clear hb); (try clear hb2); (try clear hk); (try clear hi); have hcz76_0 : w75.cell? ⟨gb326, 0, none⟩ = some (.slice Ao73 x327000_1.length co73) := (blk_cell BK326.out 0).trans rfl; have hcz76_1 : w75.cell? ⟨gb326, 1, none⟩ = some (.slice Ao74 x327001_2.length co74) := (blk_cell BK326.out 1).trans rfl; have hfz76_0 := blk_frozen BK326.out 0; have hfz76_1 := blk_frozen BK326.out 1; have hcz77_0 : w75.cell? ⟨gb322, 0, none⟩ = some (.slice none 0 0) := (blk_cell BK322.out 0).trans rfl; have hcz77_1 : w75.cell? ⟨gb322, 1, none⟩ = some (.slice none 0 0) := (blk_cell BK322.out 1).trans rfl; have hfz77_0 := blk_frozen BK322.out 0; have hfz77_1 := blk_frozen BK322.out 1))
         refine bodyPost_ret (results_ct rfl _ _ gb322 25 #[.slice Ao73 x327000_1.length co73, .slice Ao74 x327001_2.length co74] (0, 0) _ rfl (by (with_reducible repeat refine pB ?_); refine blk_put (cs := #[.slice Ao73 x327000_1.length co73, .slice none 0 0]) ?_ 1 _ rfl; (with_reducible repeat refine pB ?_); refine blk_put (cs := #[.slice none 0 0, .slice none 0 0]) ?_ 0 _ rfl; (with_reducible repeat refine pB ?_); exact BK322.out) Tryz.underlying25 rfl (by kernel_rfl)) rfl ?_
         exact ⟨_, _, aE, by (with_reducible repeat apply pR); exact Kd.R_mono (Kd.R_far (p := ⟨gb322, 1, none⟩) (Kd.R_far (p := ⟨gb322, 0, none⟩) (Kd.R_types HO_327000.out BK322.out (by decide)) (fun _ hk => hk.2) (.slice Ao73 x327000_1.length co73)) (fun _ hk => hk.2) (.slice Ao74 x327001_2.length co74)) (fun _ hk => trivial), by (with_reducible repeat apply pS); exact Kd.S_mono (Kd.S_far (p := ⟨gb322, 1, none⟩) (Kd.S_far (p := ⟨gb322, 0, none⟩) (Kd.S_types HO_327001.out BK322.out (by decide)) (fun _ hk => hk.2) (.slice Ao73 x327000_1.length co73)) (fun _ hk => hk.2) (.slice Ao74 x327001_2.length co74)) (fun _ hk => trivial), aG⟩
        ·rw [if_neg c70] at H
         have c70b0 : (t352.toList == a0.toList) = false := beq_eq_false_iff_ne.mpr c70
         have c70b1 : (t352.toList != a0.toList) = true := bne_iff_ne.mpr c70
         simp only [Option.some.injEq, Prod.mk.injEq] at H
         obtain ⟨rfl, rfl, rfl⟩ := H
         have hnb78 := NB326_322.out
         have hnc78 := NB322_326.out
         have hcz79_0 : wr.cell? ⟨gb326, 0, none⟩ = some (u327000) := (blk_cell BK326.out 0).trans rfl
         have hcz79_1 : wr.cell? ⟨gb326, 1, none⟩ = some (u327001) := (blk_cell BK326.out 1).trans rfl
         have hfz79_0 := blk_frozen BK326.out 0
         have hfz79_1 := blk_frozen BK326.out 1
         obtain ⟨Ao80, co80, eo80⟩ := Kd.R_slice HO_327000.out
         subst eo80
         obtain ⟨Ao81, co81, eo81⟩ := Kd.S_slice HO_327001.out
         subst eo81
         go_wp2_with (first | ((with_reducible refine gate_callee (f := 12) rfl ?_); refine goesL_ (some 73) rfl rfl Tryz.func12 (by kernel_rfl) rfl #[.agg #[.slice Ao80 x327000_1.length co80, .slice Ao81 x327001_2.length co81]] rfl aA ?_; (with_reducible refine (impl_FormatDatabase.calls k2 _ _ x327000_1 _ _ x327001_2 t352 _ ?side1 ?side2 ?side3 ?side4 A69.out (hp_.pow.on aG)).mono ?_); (case side1 => repeat (first | exact (Kd.R_reads' HO_327000.out).2.2 | (with_reducible refine pC ?_))); (case side2 => exact (Kd.R_reads' HO_327000.out).2.1); (case side3 => repeat (first | exact (Kd.S_reads' HO_327001.out).2.2 | (with_reducible refine pC ?_))); (case side4 => exact (Kd.S_reads' HO_327001.out).2.1); rintro e w82 ⟨rfl, hb⟩; refine ⟨_, rfl, ?_⟩; have n0_ := aM (Kd.R_below (aR HO_49) hb); have n1_ := aM (Kd.R_below (aR HO_327000) hb); have n2_ := aM (Kd.S_below (aS HO_327001) hb); have n3_ := aM (kB gb322 #[.slice none 0 0, .slice none 0 0] 25 hb); have n4_ := aM (kB gb326 #[.slice Ao80 x327000_1.length co80, .slice Ao81 x327001_2.length co81] 25 hb); have n5_ := aM (below_step aG hb); clear HO_49; clear HO_327000; clear HO_327001; clear BK322; clear BK326; clear HB; have HO_49 := n0_; have HO_327000 := n1_; have HO_327001 := n2_; have BK322 := n3_; have BK326 := n4_; have HB := n5_; clear n0_ n1_ n2_ n3_ n4_ n5_; (try clear hb); (try clear hb2); (try clear hk); (try clear hi); have hcz83_0 : w82.cell? ⟨gb322, 0, none⟩ = some (.slice none 0 0) := (blk_cell BK322.out 0).trans rfl; have hcz83_1 : w82.cell? ⟨gb322, 1, none⟩ = some (.slice none 0 0) := (blk_cell BK322.out 1).trans rfl; have hfz83_0 := blk_frozen BK322.out 0; have hfz83_1 := blk_frozen BK322.out 1))
         refine bodyPost_ret (results_ct rfl _ _ gb322 25 #[.slice none 0 0, .slice none 0 0] (0, 0) _ rfl (by (with_reducible repeat refine pB ?_); refine blk_put (cs := #[.slice none 0 0, .slice none 0 0]) ?_ 1 _ rfl; (with_reducible repeat refine pB ?_); refine blk_put (cs := #[.slice none 0 0, .slice none 0 0]) ?_ 0 _ rfl; (with_reducible repeat refine pB ?_); exact BK322.out) Tryz.underlying25 rfl (by kernel_rfl)) rfl ?_
         exact ⟨_, _, aE, by first | exact Kd.R_nil _ _ _ _ _ | exact Kd.N_nil _ _ _ _ _ | exact Kd.V_nil _ _ _ _ _ | exact Kd.Q_nil _ _ _ _ _ | exact Kd.S_nil _ _ _ _ _, by first | exact Kd.S_nil _ _ _ _ _ | exact Kd.N_nil _ _ _ _ _ | exact Kd.V_nil _ _ _ _ _ | exact Kd.Q_nil _ _ _ _ _ | exact Kd.R_nil _ _ _ _ _, aG⟩
 ·replace c3 := Bool.eq_false_iff.mpr c3
  subst c3
  have H1 : (some (([] : List (S42)), ([] : List (S47)), false)) = some (r1, r2, r3) := by rw [if_neg (show ¬ (false = true) by decide)] at H; exact H
  clear H
  have H := H1
  clear H1
  simp only [Option.some.injEq, Prod.mk.injEq] at H
  obtain ⟨rfl, rfl, rfl⟩ := H
  go_enter Tryz.func6, Tryz.ntmps6
  go_wp2_with (first | ((with_reducible refine gate_dst (N := 2) rfl ?_); refine bE 2 (cs := #[.slice none 0 0, .slice none 0 0]) (t := 25) ?_; intro gb322 hg w84 hbox hb; have BK322 := aM (hbox); have GW322 := aM ((by rw [hg]; exact (below_size aB) : w.heap.size ≤ gb322)); have GE322 := aM ((by rw [hg]; exact (below_size aB) : w.heap.size ≤ gb322)); replace HB := aM (below_step aB hb); clear hb hbox hg) | ((with_reducible refine gate_callee (f := 22) rfl ?_); refine goesL_ (some 18) rfl rfl Tryz.func22 (by kernel_rfl) rfl #[.string a0, .string (⟨#[58]⟩ : ByteArray)] rfl aA ?_; (with_reducible refine (strings_Cut.calls a0 (⟨#[58]⟩ : ByteArray) t323 t324 false _ A2.out (hp_.on aG)).mono ?_); rintro e w85 ⟨rfl, hb⟩; refine ⟨_, rfl, ?_⟩; replace BK322 := aM (kB gb322 #[.slice none 0 0, .slice none 0 0] 25 hb); replace HB := aM (below_step aG hb); (try clear hb); (try clear hb2); (try clear hk); (try clear hi); have hcz86_0 : w85.cell? ⟨gb322, 0, none⟩ = some (.slice none 0 0) := (blk_cell BK322.out 0).trans rfl; have hcz86_1 : w85.cell? ⟨gb322, 1, none⟩ = some (.slice none 0 0) := (blk_cell BK322.out 1).trans rfl; have hfz86_0 := blk_frozen BK322.out 0; have hfz86_1 := blk_frozen BK322.out 1))
  refine bodyPost_ret (results_ct rfl _ _ gb322 25 #[.slice none 0 0, .slice none 0 0] (0, 0) _ rfl (by (with_reducible repeat refine pB ?_); refine blk_put (cs := #[.slice none 0 0, .slice none 0 0]) ?_ 1 _ rfl; (with_reducible repeat refine pB ?_); refine blk_put (cs := #[.slice none 0 0, .slice none 0 0]) ?_ 0 _ rfl; (with_reducible repeat refine pB ?_); exact BK322.out) Tryz.underlying25 rfl (by kernel_rfl)) rfl ?_
  exact ⟨_, _, aE, by first | exact Kd.R_nil _ _ _ _ _ | exact Kd.N_nil _ _ _ _ _ | exact Kd.V_nil _ _ _ _ _ | exact Kd.Q_nil _ _ _ _ _ | exact Kd.S_nil _ _ _ _ _, by first | exact Kd.S_nil _ _ _ _ _ | exact Kd.N_nil _ _ _ _ _ | exact Kd.V_nil _ _ _ _ _ | exact Kd.Q_nil _ _ _ _ _ | exact Kd.R_nil _ _ _ _ _, aG⟩

/-! ### laws_eqRelation: function 60 -/
def laws_eqRelation.f (a0_0 : ByteArray) (a0_1 : Int) (a0_2 : Int) (a1_0 : ByteArray) (a1_1 : Int) (a1_2 : Int) : Option (Bool) := if a0_0.toList = a1_0.toList then (if a0_1 = a1_1 then (if a0_2 = a1_2 then (some true) else (some false)) else (some false)) else (some false)
set_option maxHeartbeats 8000000 in
set_option maxRecDepth 100000 in
theorem laws_eqRelation.calls (a0_0 : ByteArray) (a0_1 : Int) (a0_2 : Int) (a1_0 : ByteArray) (a1_1 : Int) (a1_2 : Int) (r : Bool) (w : World) (h : laws_eqRelation.f a0_0 a0_1 a0_2 a1_0 a1_1 a1_2 = some r) :
  Calls Tryz.prog 60 #[.agg #[.string a0_0, .int .i64 a0_1, .int .i64 a0_2], .agg #[.string a1_0, .int .i64 a1_1, .int .i64 a1_2]] w fun e w' => e = .returned (.bool r) ∧ Below w.heap.size w w' := by
 have hu42 := Tryz.underlying42
 obtain ⟨W, hW⟩ : ∃ W, (w.alloc (.cells #[.string a0_0, .int .i64 a0_1, .int .i64 a0_2] 42)).alloc (.cells #[.string a1_0, .int .i64 a1_1, .int .i64 a1_2] 42) = W := ⟨_, rfl⟩
 have q0 := qa (w := W) (p := ⟨w.heap.size, 0, none⟩) (v := .string a0_0) (by subst hW; go_simp)
 have q1 := qa (w := W) (p := ⟨w.heap.size, 1, none⟩) (v := .int .i64 a0_1) (by subst hW; go_simp)
 have q2 := qa (w := W) (p := ⟨w.heap.size, 2, none⟩) (v := .int .i64 a0_2) (by subst hW; go_simp)
 have q3 := qa (w := W) (p := ⟨w.heap.size + 1, 0, none⟩) (v := .string a1_0) (by subst hW; go_simp)
 have q4 := qa (w := W) (p := ⟨w.heap.size + 1, 1, none⟩) (v := .int .i64 a1_1) (by subst hW; go_simp)
 have q5 := qa (w := W) (p := ⟨w.heap.size + 1, 2, none⟩) (v := .int .i64 a1_2) (by subst hW; go_simp)
 have HB : Below w.heap.size w W := by subst hW; exact zB
 have HW := Below.refl W.heap.size W
 have hb := aM HB
 unfold laws_eqRelation.f at h
 replace h := iq h; rcases h with ⟨c0, ⟨c0a, c0b⟩, h⟩ | ⟨c0, ⟨c0a, c0b⟩, h⟩
 replace h := iq h; rcases h with ⟨c1, ⟨c1a, c1b⟩, h⟩ | ⟨c1, ⟨c1a, c1b⟩, h⟩
 replace h := iq h; rcases h with ⟨c2, ⟨c2a, c2b⟩, h⟩ | ⟨c2, ⟨c2a, c2b⟩, h⟩
 obtain rfl := si h
 rotate_left
 obtain rfl := si h
 rotate_left
 obtain rfl := si h
 rotate_left
 obtain rfl := si h
 rotate_left
 all_goals (go_enter Tryz.func60, Tryz.ntmps60; go_wp2; go_ret; exact zE zB)

/-! ### laws_eqRelationS: function 26 -/
def laws_eqRelationS.l0 : Nat → List (S42) → List (S42) → Int → Option (Bool)
 | 0, _, _, _ => none
 | k + 1, x0, x1, x5 => if x5 < (x0.length : Int) then (if 0 ≤ x5 then (if x5 < (x1.length : Int) then ((laws_eqRelation.f ((rd_T42 x0 x5).f0) ((rd_T42 x0 x5).f1) ((rd_T42 x0 x5).f2) ((rd_T42 x1 x5).f0) ((rd_T42 x1 x5).f1) ((rd_T42 x1 x5).f2)).bind fun t357 => (if t357 = true then (laws_eqRelationS.l0 k x0 x1 (wrap64 (x5 + 1))) else (some false))) else (none)) else (none)) else (some true)
def laws_eqRelationS.f (k : Nat) (l0 : List (S42)) (l1 : List (S42)) : Option (Bool) := if (l0.length : Int) = (l1.length : Int) then (laws_eqRelationS.l0 k l0 l1 0) else (some false)
set_option maxHeartbeats 8000000 in
set_option maxRecDepth 100000 in
theorem laws_eqRelationS.calls (k : Nat) (A0 : Option Addr) (c0 : Nat) (l0 : List (S42)) (A1 : Option Addr) (c1 : Nat) (l1 : List (S42)) (r : Bool) (w : World) (hr0 : Kd.C k42 w A0 l0.length l0) (hc0 : l0.length ≤ c0) (hr1 : Kd.C k42 w A1 l1.length l1) (hc1 : l1.length ≤ c1) (h : laws_eqRelationS.f k l0 l1 = some r) :
  Calls Tryz.prog 26 #[.slice A0 l0.length c0, .slice A1 l1.length c1] w fun e w' => e = .returned (.bool r) ∧ Below w.heap.size w w' := by
 have hu42 := Tryz.underlying42
 have rg_ := @bcl w
 have rd_ := @bdr w
 unfold laws_eqRelationS.f at h
 replace h := iq h; rcases h with ⟨c0, ⟨c0a, c0b⟩, h⟩ | ⟨c0, ⟨c0a, c0b⟩, h⟩
 have cz := c0.out
 have c0x1 : (l0.length == l1.length) = true := by first | simpa using cz | (simp at cz ⊢; omega)
 clear cz
 ·go_enter Tryz.func26, Tryz.ntmps26
  go_wp2
  (repeat ((refine nw (w0 := w) zB ?_; intro W1 HB hb hd; (first | (refine Txt.rg (id := 6) [0, 1, 2, 3, 4, 5, 6, 7, 8, 9] (by kernel_rfl) (by kernel_rfl) ?_; simp only [List.map_cons, List.map_nil, List.getD_cons_zero, List.getD_cons_succ])); (repeat (first | (refine Txt.off rfl ?_; simp only [Act.put, List.setIfInBounds_toArray, List.set_cons_zero, List.set_cons_succ]) | (refine Txt.take rfl rfl ?_; intro K hK; go_big_quiet_op; go_big_quiet_on) | (refine Txt.call rfl rfl Tryz.func60 (by kernel_rfl) rfl (laws_eqRelation.calls _ _ _ _ _ _ ?_ _ ?h) rfl ?_; (case h => exact zA); rintro e w1 ⟨rfl, hb⟩; replace hb := aM hb; have HB : Below w.heap.size w w1 := zB; refine ⟨_, rfl, zS, ?_⟩; simp only [Act.put, List.setIfInBounds_toArray, List.set_cons_zero, List.set_cons_succ]))); refine Txt.nil ?_); (try go_wp2)))
  go_loopg [5] k (fun kq v5 w' => ∃ (x5_1 : Int), v5 = .int .i64 x5_1 ∧ laws_eqRelationS.l0 kq l0 l1 x5_1 = some r ∧ Below w.heap.size w w')
  case atStart => exact ⟨_, zR, zA, zB⟩
  case round =>
   clear h
   obtain ⟨x5_1, rfl, h, hb⟩ := hrel
   replace hb := aM hb
   have HB : Below w.heap.size w wr := zB
   rcases gk with _ | kk1
   exact absurd h (by simp [laws_eqRelationS.l0])
   simp only [laws_eqRelationS.l0] at h
   replace h := il h; rcases h with ⟨c2, c2a, h⟩ | ⟨c2, c2a, h⟩
   replace h := ie h; rcases h with ⟨c3, c3a, h⟩ | ⟨c3, c3a, h⟩
   replace h := il h; rcases h with ⟨c4, c4a, h⟩ | ⟨c4, c4a, h⟩
   replace h := bs h; obtain ⟨t357, B5, h⟩ := h
   replace h := ib h; rcases h with ⟨rfl, h⟩ | ⟨rfl, h⟩
   obtain ⟨kf, hkf⟩ : ∃ kf, kf = kk1 := ⟨_, rfl⟩; rw [← hkf] at h
   obtain ⟨ad355, e355, hx355_0, hx355_1, hx355_2⟩ := at_T42 hr0 (x5_1 : Int) aD aD
   have p355 := eq_true (aD : 0 ≤ (x5_1 : Int))
   have q355 := eq_true (aD : x5_1 < (l0.length : Int))
   cases e355
   replace hx355_0 := qa hx355_0
   replace hx355_1 := qa hx355_1
   replace hx355_2 := qa hx355_2
   obtain ⟨ad356, e356, hx356_0, hx356_1, hx356_2⟩ := at_T42 hr1 (x5_1 : Int) aD aD
   have p356 := eq_true (aD : 0 ≤ (x5_1 : Int))
   have q356 := eq_true (aD : x5_1 < (l1.length : Int))
   cases e356
   replace hx356_0 := qa hx356_0
   replace hx356_1 := qa hx356_1
   replace hx356_2 := qa hx356_2
   rotate_left
   obtain rfl := si h
   obtain ⟨ad355, e355, hx355_0, hx355_1, hx355_2⟩ := at_T42 hr0 (x5_1 : Int) aD aD
   have p355 := eq_true (aD : 0 ≤ (x5_1 : Int))
   have q355 := eq_true (aD : x5_1 < (l0.length : Int))
   cases e355
   replace hx355_0 := qa hx355_0
   replace hx355_1 := qa hx355_1
   replace hx355_2 := qa hx355_2
   obtain ⟨ad356, e356, hx356_0, hx356_1, hx356_2⟩ := at_T42 hr1 (x5_1 : Int) aD aD
   have p356 := eq_true (aD : 0 ≤ (x5_1 : Int))
   have q356 := eq_true (aD : x5_1 < (l1.length : Int))
   cases e356
   replace hx356_0 := qa hx356_0
   replace hx356_1 := qa hx356_1
   replace hx356_2 := qa hx356_2
   rotate_left
   exact absurd h (by simp)
   exact absurd h (by simp)
   obtain rfl := si h
   rotate_left
   all_goals (go_wp2; (repeat ((refine nw (w0 := w) zB ?_; intro W1 HB hb hd; (first | (refine Txt.rg (id := 6) [0, 1, 2, 3, 4, 5, 6, 7, 8, 9] (by kernel_rfl) (by kernel_rfl) ?_; simp only [List.map_cons, List.map_nil, List.getD_cons_zero, List.getD_cons_succ])); (repeat (first | (refine Txt.off rfl ?_; simp only [Act.put, List.setIfInBounds_toArray, List.set_cons_zero, List.set_cons_succ]) | (refine Txt.take rfl rfl ?_; intro K hK; go_big_quiet_op; go_big_quiet_on) | (refine Txt.call rfl rfl Tryz.func60 (by kernel_rfl) rfl (laws_eqRelation.calls _ _ _ _ _ _ ?_ _ ?h) rfl ?_; (case h => exact zA); rintro e w1 ⟨rfl, hb⟩; replace hb := aM hb; have HB : Below w.heap.size w w1 := zB; refine ⟨_, rfl, zS, ?_⟩; simp only [Act.put, List.setIfInBounds_toArray, List.set_cons_zero, List.set_cons_succ]))); refine Txt.nil ?_); (try go_wp2))); first | (go_ret; exact zE zB) | (go_roundg kf; (case measure => omega); (case rel => exact ⟨_, zR, zA, zB⟩)))
 have cz := c0.out
 have c0x1 : (l0.length == l1.length) = false := by first | simpa using cz | (simp at cz ⊢; omega)
 clear cz
 obtain rfl := si h
 rotate_left
 all_goals (go_enter Tryz.func26, Tryz.ntmps26; go_wp2; (repeat ((refine nw (w0 := w) zB ?_; intro W1 HB hb hd; (first | (refine Txt.rg (id := 6) [0, 1, 2, 3, 4, 5, 6, 7, 8, 9] (by kernel_rfl) (by kernel_rfl) ?_; simp only [List.map_cons, List.map_nil, List.getD_cons_zero, List.getD_cons_succ])); (repeat (first | (refine Txt.off rfl ?_; simp only [Act.put, List.setIfInBounds_toArray, List.set_cons_zero, List.set_cons_succ]) | (refine Txt.take rfl rfl ?_; intro K hK; go_big_quiet_op; go_big_quiet_on) | (refine Txt.call rfl rfl Tryz.func60 (by kernel_rfl) rfl (laws_eqRelation.calls _ _ _ _ _ _ ?_ _ ?h) rfl ?_; (case h => exact zA); rintro e w1 ⟨rfl, hb⟩; replace hb := aM hb; have HB : Below w.heap.size w w1 := zB; refine ⟨_, rfl, zS, ?_⟩; simp only [Act.put, List.setIfInBounds_toArray, List.set_cons_zero, List.set_cons_succ]))); refine Txt.nil ?_); (try go_wp2))); go_ret; exact zE zB)

/-! ### laws_eqIntS: function 93 -/
def laws_eqIntS.l0 : Nat → List Int → List Int → Int → Option (Bool)
 | 0, _, _, _ => none
 | k + 1, x0, x1, x5 => if x5 < (x0.length : Int) then (if 0 ≤ x5 then (if x5 < (x1.length : Int) then (if (rd x0 x5) = (rd x1 x5) then (laws_eqIntS.l0 k x0 x1 (wrap64 (x5 + 1))) else (some false)) else (none)) else (none)) else (some true)
def laws_eqIntS.f (k : Nat) (l0 : List Int) (l1 : List Int) : Option (Bool) := if (l0.length : Int) = (l1.length : Int) then (laws_eqIntS.l0 k l0 l1 0) else (some false)
set_option maxHeartbeats 8000000 in
set_option maxRecDepth 100000 in
theorem laws_eqIntS.calls (k : Nat) (A0 : Option Addr) (c0 : Nat) (l0 : List Int) (A1 : Option Addr) (c1 : Nat) (l1 : List Int) (r : Bool) (w : World) (hr0 : Kd.C (Kd.int .i64) w A0 l0.length l0) (hc0 : l0.length ≤ c0) (hr1 : Kd.C (Kd.int .i64) w A1 l1.length l1) (hc1 : l1.length ≤ c1) (h : laws_eqIntS.f k l0 l1 = some r) :
  Calls Tryz.prog 93 #[.slice A0 l0.length c0, .slice A1 l1.length c1] w fun e w' => e = .returned (.bool r) ∧ Drawn0 w w' := by
 have rg_ := @bcl w
 have rd_ := @bdr w
 unfold laws_eqIntS.f at h
 replace h := iq h; rcases h with ⟨c0, ⟨c0a, c0b⟩, h⟩ | ⟨c0, ⟨c0a, c0b⟩, h⟩
 have cz := c0.out
 have c0x1 : (l0.length == l1.length) = true := by first | simpa using cz | (simp at cz ⊢; omega)
 clear cz
 ·go_enter Tryz.func93, Tryz.ntmps93
  go_wp2
  (repeat ((refine nw (w0 := w) zB ?_; intro W1 HB hb hd; (first | (refine Txt.rg (id := 6) [0, 1, 2, 3, 4, 5, 6, 7, 8] (by kernel_rfl) (by kernel_rfl) ?_; simp only [List.map_cons, List.map_nil, List.getD_cons_zero, List.getD_cons_succ])); (repeat (first | (refine Txt.off rfl ?_; simp only [Act.put, List.setIfInBounds_toArray, List.set_cons_zero, List.set_cons_succ]) | (refine Txt.take rfl rfl ?_; intro K hK; go_big_quiet_op; go_big_quiet_on))); refine Txt.nil ?_); (try go_wp2)))
  go_loopg [5] k (fun kq v5 w' => ∃ (x5_1 : Int), v5 = .int .i64 x5_1 ∧ laws_eqIntS.l0 kq l0 l1 x5_1 = some r ∧ Drawn0 w w')
  case atStart => exact ⟨_, zR, zA, zD⟩
  case round =>
   clear h
   obtain ⟨x5_1, rfl, h, hb⟩ := hrel
   have hd := hb
   replace hb := hb.below
   replace hb := aM hb
   have HB : Below w.heap.size w wr := zB
   rcases gk with _ | kk1
   exact absurd h (by simp [laws_eqIntS.l0])
   simp only [laws_eqIntS.l0] at h
   replace h := il h; rcases h with ⟨c2, c2a, h⟩ | ⟨c2, c2a, h⟩
   replace h := ie h; rcases h with ⟨c3, c3a, h⟩ | ⟨c3, c3a, h⟩
   replace h := il h; rcases h with ⟨c4, c4a, h⟩ | ⟨c4, c4a, h⟩
   replace h := iq h; rcases h with ⟨c5, ⟨c5a, c5b⟩, h⟩ | ⟨c5, ⟨c5a, c5b⟩, h⟩
   obtain ⟨kf, hkf⟩ : ∃ kf, kf = kk1 := ⟨_, rfl⟩; rw [← hkf] at h
   obtain ⟨ad358, e358, hx358_0⟩ := Kd.at_int hr0 (x5_1 : Int) aD aD
   have p358 := eq_true (aD : 0 ≤ (x5_1 : Int))
   have q358 := eq_true (aD : x5_1 < (l0.length : Int))
   cases e358
   replace hx358_0 := qa hx358_0
   obtain ⟨ad359, e359, hx359_0⟩ := Kd.at_int hr1 (x5_1 : Int) aD aD
   have p359 := eq_true (aD : 0 ≤ (x5_1 : Int))
   have q359 := eq_true (aD : x5_1 < (l1.length : Int))
   cases e359
   replace hx359_0 := qa hx359_0
   rotate_left
   obtain rfl := si h
   obtain ⟨ad358, e358, hx358_0⟩ := Kd.at_int hr0 (x5_1 : Int) aD aD
   have p358 := eq_true (aD : 0 ≤ (x5_1 : Int))
   have q358 := eq_true (aD : x5_1 < (l0.length : Int))
   cases e358
   replace hx358_0 := qa hx358_0
   obtain ⟨ad359, e359, hx359_0⟩ := Kd.at_int hr1 (x5_1 : Int) aD aD
   have p359 := eq_true (aD : 0 ≤ (x5_1 : Int))
   have q359 := eq_true (aD : x5_1 < (l1.length : Int))
   cases e359
   replace hx359_0 := qa hx359_0
   rotate_left
   exact absurd h (by simp)
   exact absurd h (by simp)
   obtain rfl := si h
   rotate_left
   all_goals (go_wp2; (repeat ((refine nw (w0 := w) zB ?_; intro W1 HB hb hd; (first | (refine Txt.rg (id := 6) [0, 1, 2, 3, 4, 5, 6, 7, 8] (by kernel_rfl) (by kernel_rfl) ?_; simp only [List.map_cons, List.map_nil, List.getD_cons_zero, List.getD_cons_succ])); (repeat (first | (refine Txt.off rfl ?_; simp only [Act.put, List.setIfInBounds_toArray, List.set_cons_zero, List.set_cons_succ]) | (refine Txt.take rfl rfl ?_; intro K hK; go_big_quiet_op; go_big_quiet_on))); refine Txt.nil ?_); (try go_wp2))); first | (go_ret; exact zE zD) | (go_roundg kf; (case measure => omega); (case rel => exact ⟨_, zR, zA, zD⟩)))
 have cz := c0.out
 have c0x1 : (l0.length == l1.length) = false := by first | simpa using cz | (simp at cz ⊢; omega)
 clear cz
 obtain rfl := si h
 rotate_left
 all_goals (go_enter Tryz.func93, Tryz.ntmps93; go_wp2; (repeat ((refine nw (w0 := w) zB ?_; intro W1 HB hb hd; (first | (refine Txt.rg (id := 6) [0, 1, 2, 3, 4, 5, 6, 7, 8] (by kernel_rfl) (by kernel_rfl) ?_; simp only [List.map_cons, List.map_nil, List.getD_cons_zero, List.getD_cons_succ])); (repeat (first | (refine Txt.off rfl ?_; simp only [Act.put, List.setIfInBounds_toArray, List.set_cons_zero, List.set_cons_succ]) | (refine Txt.take rfl rfl ?_; intro K hK; go_big_quiet_op; go_big_quiet_on))); refine Txt.nil ?_); (try go_wp2))); go_ret; exact zE zD)

/-! ### laws_eqFact: function 61 -/
def laws_eqFact.f (k : Nat) (a0_0 : Int) (l0_1 : List Int) (a1_0 : Int) (l1_1 : List Int) : Option (Bool) := if a0_0 = a1_0 then ((laws_eqIntS.f k l0_1 l1_1).bind fun t362 => (if t362 = true then (some true) else (some false))) else (some false)
set_option maxHeartbeats 8000000 in
set_option maxRecDepth 100000 in
theorem laws_eqFact.calls (k : Nat) (a0_0 : Int) (A0_1 : Option Addr) (c0_1 : Nat) (l0_1 : List Int) (a1_0 : Int) (A1_1 : Option Addr) (c1_1 : Nat) (l1_1 : List Int) (r : Bool) (w : World) (hr0_1 : Kd.C (Kd.int .i64) w A0_1 l0_1.length l0_1) (hc0_1 : l0_1.length ≤ c0_1) (hr1_1 : Kd.C (Kd.int .i64) w A1_1 l1_1.length l1_1) (hc1_1 : l1_1.length ≤ c1_1) (h : laws_eqFact.f k a0_0 l0_1 a1_0 l1_1 = some r) :
  Calls Tryz.prog 61 #[.agg #[.int .i64 a0_0, .slice A0_1 l0_1.length c0_1], .agg #[.int .i64 a1_0, .slice A1_1 l1_1.length c1_1]] w fun e w' => e = .returned (.bool r) ∧ Below w.heap.size w w' := by
 have hu47 := Tryz.underlying47
 obtain ⟨W, hW⟩ : ∃ W, (w.alloc (.cells #[.int .i64 a0_0, .slice A0_1 l0_1.length c0_1] 47)).alloc (.cells #[.int .i64 a1_0, .slice A1_1 l1_1.length c1_1] 47) = W := ⟨_, rfl⟩
 have q0 := qa (w := W) (p := ⟨w.heap.size, 0, none⟩) (v := .int .i64 a0_0) (by subst hW; go_simp)
 have q1 := qa (w := W) (p := ⟨w.heap.size, 1, none⟩) (v := .slice A0_1 l0_1.length c0_1) (by subst hW; go_simp)
 have q2 := qa (w := W) (p := ⟨w.heap.size + 1, 0, none⟩) (v := .int .i64 a1_0) (by subst hW; go_simp)
 have q3 := qa (w := W) (p := ⟨w.heap.size + 1, 1, none⟩) (v := .slice A1_1 l1_1.length c1_1) (by subst hW; go_simp)
 have HB : Below w.heap.size w W := by subst hW; exact zB
 have HW := Below.refl W.heap.size W
 have hb := aM HB
 unfold laws_eqFact.f at h
 replace h := iq h; rcases h with ⟨c0, ⟨c0a, c0b⟩, h⟩ | ⟨c0, ⟨c0a, c0b⟩, h⟩
 replace h := bs h; obtain ⟨t362, B1, h⟩ := h
 replace h := ib h; rcases h with ⟨rfl, h⟩ | ⟨rfl, h⟩
 obtain rfl := si h
 rotate_left
 obtain rfl := si h
 rotate_left
 obtain rfl := si h
 rotate_left
 all_goals (go_enter Tryz.func61, Tryz.ntmps61; go_wp2_with (first | (go_at_call 93; refine (laws_eqIntS.calls ?_ _ _ _ _ _ _ ?_ _ ?_ ?_ ?_ ?_ ?h).mono ?_; (case h => exact zA); (iterate 4 (first | exact zC | exact zA)); rintro e w1 ⟨rfl, hb⟩; replace hb := hb.below; replace hb := aM hb; have HW : Below W.heap.size W w1 := zB; have HB : Below w.heap.size w w1 := zB)); go_ret; exact zE zB)

end Go.Proofs.YtckpikfbhlhhjaaGreatDoor.PFnExactParseDatabase
