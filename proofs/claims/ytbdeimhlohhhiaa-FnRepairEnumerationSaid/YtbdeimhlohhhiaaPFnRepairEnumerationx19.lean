import Derived.Test.YtbdeimhlohhhiaaPFnRepairEnumerationx0
import Derived.Test.YtbdeimhlohhhiaaPFnRepairEnumerationx1
import Derived.Test.YtbdeimhlohhhiaaPFnRepairEnumerationx4
import Derived.Test.YtbdeimhlohhhiaaPFnRepairEnumerationx18
namespace Go.Proofs.Ytbdeimhlohhhiaa.PFnRepairEnumeration
open Go.RowKit Go.Proofs.YtbdeimhlohhhiaaW.PrintWords Go.Proofs.YtbdeimhlohhhiaaW.PrintLast Go.Proofs.YtbdeimhlohhhiaaW.PrintMore
attribute [local go_sem] max2_int min2_int max_two min_two max_three min_three max_four min_four
set_option linter.unusedVariables false
set_option linter.unusedSimpArgs false

/-! ### impl_nthRepair: function 69 -/
def impl_nthRepair.l0 : Nat → List (List Int) → Int → List Int → Int → Option (List Int)
 | 0, _, _, _, _ => none
 | k + 1, x0, x1, x5, x6 => if x6 ≥ 0 then (if 0 ≤ x6 then (if x6 < (x0.length : Int) then (if ((rd_L4 x0 x6).length : Int) = 0 then (none) else (if 0 ≤ (Int.tmod x1 ((rd_L4 x0 x6).length : Int)) then (if (Int.tmod x1 ((rd_L4 x0 x6).length : Int)) < ((rd_L4 x0 x6).length : Int) then (if x6 < (x5.length : Int) then (impl_nthRepair.l0 k x0 (wrap64 (Int.tdiv x1 ((rd_L4 x0 x6).length : Int))) (x5.set (x6 : Int).toNat (rd (rd_L4 x0 x6) (Int.tmod x1 ((rd_L4 x0 x6).length : Int)))) (wrap64 (x6 - 1))) else (none)) else (none)) else (none))) else (none)) else (none)) else (some x5)
def impl_nthRepair.f (k : Nat) (l0 : List (List Int)) (a1 : Int) : Option (List Int) := if 0 ≤ (l0.length : Int) then (if ((l0.length : Int) : Int).toNat ≤ 35184372088832 then (impl_nthRepair.l0 k l0 a1 (List.replicate ((l0.length : Int) : Int).toNat 0) (wrap64 ((l0.length : Int) - 1))) else (none)) else (none)
def impl_nthRepair.T5 : Bool × List (List Nat × List Nat) := (true, [([], []), ([], []), ([], []), ([], []), ([2, 3], [2, 3]), ([4], [4]), ([], []), ([], []), ([], []), ([7, 8], [7, 8]), ([9], [9]), ([10], [10]), ([6, 11], [6, 11]), ([5, 12], [5, 12]), ([13], [13]), ([0, 1, 0, 1, 2, 3, 4, 5, 6, 7, 8, 9, 10, 11, 12, 13, 14], [0, 1]), ([15, 14, 0, 1, 2, 3, 4, 5, 6, 7, 8, 9, 10, 11, 12, 13, 14], [14, 15])])
def impl_nthRepair.B5 : List Nat := [0, 0, 0, 0, 12, 28, 0, 0, 0, 384, 896, 1920, 4032, 8188, 16380, 32767, 65535]
theorem impl_nthRepair.tab5 : rtab .any (opsOf Try.f69 5) = impl_nthRepair.T5 := by kernel_rfl
theorem impl_nthRepair.bits5 : waitsOk impl_nthRepair.T5.2 impl_nthRepair.B5 = true := by kernel_rfl
set_option maxHeartbeats 8000000 in
set_option maxRecDepth 100000 in
theorem impl_nthRepair.calls (k : Nat) (A0 : Option Addr) (c0 : Nat) (l0 : List (List Int)) (a1 : Int) (r : List Int) (w : World) (hr0 : Kd.C (Kd.slice 3 (Kd.int .i64)) w A0 l0.length l0) (hc0 : l0.length ≤ c0) (h : impl_nthRepair.f k l0 a1 = some r) :
  Calls Try.prog 69 #[.slice A0 l0.length c0, .int .i64 a1] w fun e w' => ∃ v0_ : Value, e = .returned (v0_) ∧ Kd.R (Kd.int .i64) 3 w' w.heap.size (fun _ => True) v0_ r ∧ Below w.heap.size w w' := by
 have HR0 := aM hr0
 have HC0 := aM hc0
 clear hr0 hc0
 have HB := aM (Below.refl w.heap.size w)
 have H : (if 0 ≤ (l0.length : Int) then (if ((l0.length : Int) : Int).toNat ≤ 35184372088832 then (impl_nthRepair.l0 k l0 a1 (List.replicate ((l0.length : Int) : Int).toNat 0) (wrap64 ((l0.length : Int) - 1))) else (none)) else (none)) = some r := h
 clear h
 by_cases c3 : 0 ≤ (l0.length : Int)
 ·rw [if_pos c3] at H
  have c3b0 := eq_true c3
  have c3b1 : decide (0 ≤ (l0.length : Int)) = true := decide_eq_true c3
  clear c3
  by_cases c4 : ((l0.length : Int) : Int).toNat ≤ 35184372088832
  ·rw [if_pos c4] at H
   have c4b0 := eq_true c4
   have c4b1 : decide (((l0.length : Int) : Int).toNat ≤ 35184372088832) = true := decide_eq_true c4
   clear c4
   obtain ⟨y588, hy588⟩ : ∃ y_ : List Int, y_ = (List.replicate ((l0.length : Int) : Int).toNat 0) := ⟨_, rfl⟩
   first | replace H := bY hy588 H | rw [← hy588] at H
   have Ny588 := aM hy588
   clear hy588
   have H' := aM H
   clear H
   go_enter Try.func69, Try.ntmps69
   go_wp2_with (first | ((with_reducible refine gate_dst (N := 9) rfl ?_); refine Kd.R_make (Kd.int .i64) _ 3 rfl (N := 9) rfl 32 _ _ rfl (l0.length : Int) rfl rfl Try.underlying32 (.int .i64 0) 8 info3 rfl (by decide) (by omega) 0 (ok := fun _ => True) (okp := fun _ => True) rfl (fun _ hk => hk) trivial (aD) (Nat.le_trans (Nat.mul_le_mul_right _ (aD : (l0.length : Int).toNat ≤ 35184372088832)) (by omega)) (Below.refl _ _) (Nat.le_refl _) ?_; intro v589 w5 ho6 hb hg_ hnew_; clear hg_ hnew_; (first | rw [← Ny588.out] at ho6 | (simp only [Int.reduceToNat] at ho6; rw [← Ny588.out] at ho6)); have HO590 := aM (Kd.R_lower ho6 (below_size aB)); replace HB := aM (below_step aB hb); clear hb ho6))
   go_loopg [1, 6] k (fun kq v1 v6 w' => ∃ (x1_1 : Int) (x5_1 : List Int) (x6_1 : Int), v1 = .int .i64 x1_1 ∧ v6 = .int .i64 x6_1 ∧ Aside0 (impl_nthRepair.l0 kq l0 x1_1 x5_1 x6_1 = some r) ∧ Aside0 (kq ≤ k) ∧ Aside0 (Kd.R (Kd.int .i64) 3 w' w.heap.size (fun _ => True) v589 x5_1) ∧ Aside0 (Below w.heap.size w w'))
   case atStart => exact ⟨(a1), (y588), (wrap64 ((l0.length : Int) - 1)), aX, aX, H', ⟨Nat.le_refl _⟩, ⟨aR HO590⟩, ⟨aB⟩⟩
   case round =>
    clear H'
    try clear p2
    try clear c3
    try clear c3b0
    try clear c3b1
    try clear c4
    try clear c4b0
    try clear c4b1
    try clear c6
    try clear p6
    obtain ⟨x1_1, x5_1, x6_1, rfl, rfl, HA, HK1, HO_5, HB⟩ := hrel
    cases gk with
    | zero => exact absurd HA.out (by simp [impl_nthRepair.l0])
    | succ k1 =>
     have H := HA.out
     clear HA
     simp only [impl_nthRepair.l0] at H
     by_cases c7 : x6_1 ≥ 0
     ·rw [if_pos c7] at H
      have c7b0 : decide (0 ≤ x6_1) = true := decide_eq_true c7
      clear c7
      by_cases c8 : 0 ≤ x6_1
      ·rw [if_pos c8] at H
       have c8b0 : decide (0 ≤ x6_1) = true := decide_eq_true c8
       clear c8
       by_cases c9 : x6_1 < (l0.length : Int)
       ·rw [if_pos c9] at H
        have c9b0 : decide (x6_1 < (l0.length : Int)) = true := decide_eq_true c9
        clear c9
        by_cases c10 : ((rd_L4 l0 x6_1).length : Int) = 0
        ·rw [if_pos c10] at H
         exact absurd H (by simp)
        ·rw [if_neg c10] at H
         have c10b0 : (((rd_L4 l0 x6_1).length : Int) == 0) = false := beq_eq_false_iff_ne.mpr c10
         have c10b1 : (((rd_L4 l0 x6_1).length : Int) != 0) = true := bne_iff_ne.mpr c10
         have c10b2 : ¬ ((rd_L4 l0 x6_1) = []) := fun h_ => c10 (by rw [h_]; rfl)
         obtain ⟨ji11, hji11⟩ : ∃ j_ : Int, (Int.tmod x1_1 ((rd_L4 l0 x6_1).length : Int)) = j_ := ⟨_, rfl⟩
         replace H : (if 0 ≤ (ji11) then (if (ji11) < ((rd_L4 l0 x6_1).length : Int) then (if x6_1 < (x5_1.length : Int) then (impl_nthRepair.l0 k1 l0 (wrap64 (Int.tdiv x1_1 ((rd_L4 l0 x6_1).length : Int))) (x5_1.set (x6_1 : Int).toNat (rd (rd_L4 l0 x6_1) (ji11))) (wrap64 (x6_1 - 1))) else (none)) else (none)) else (none)) = some r := by first | (rw [hji11] at H; exact H) | (simp only [hji11] at H ⊢; exact H)
         by_cases c12 : 0 ≤ (ji11)
         ·rw [if_pos c12] at H
          have c12b0 : decide (0 ≤ (ji11)) = true := decide_eq_true c12
          clear c12
          by_cases c13 : (ji11) < ((rd_L4 l0 x6_1).length : Int)
          ·rw [if_pos c13] at H
           have c13b0 : decide ((ji11) < ((rd_L4 l0 x6_1).length : Int)) = true := decide_eq_true c13
           clear c13
           by_cases c14 : x6_1 < (x5_1.length : Int)
           ·rw [if_pos c14] at H
            have c14b0 : decide (x6_1 < (x5_1.length : Int)) = true := decide_eq_true c14
            clear c14
            obtain ⟨y594, hy594⟩ : ∃ y_ : List Int, y_ = (x5_1.set (x6_1 : Int).toNat (rd (rd_L4 l0 x6_1) (ji11))) := ⟨_, rfl⟩
            first | replace H := bY hy594 H | rw [← hy594] at H
            have Ny594 := aM hy594
            clear hy594
            have H' := aM H
            clear H
            try go_wp2
            replace HO_5 := aM (Kd.R_drew HO_5.out)
            replace HB := aM (below_drew1 HB.out)
            have p591 : 0 ≤ (x6_1 : Int) := aD
            have q591 : x6_1 < (l0.length : Int) := aD
            obtain ⟨ad591, A591_0, c591_0, e591, hx591_0, hl591_0, hi591_0⟩ := at_L4 HR0.out x6_1 p591 q591
            have hw591_0 := hx591_0
            cases e591
            replace hx591_0 := (HB.out.cell (World.block_lt_of_cell? w _ hx591_0)).trans hx591_0
            have HR591_0 := aM hi591_0
            have HC591_0 := aM hl591_0
            clear hi591_0 hl591_0
            replace p591 := eq_true p591
            replace q591 := eq_true q591
            have p592 : 0 ≤ (x6_1 : Int) := aD
            have q592 : x6_1 < (l0.length : Int) := aD
            obtain ⟨ad592, A592_0, c592_0, e592, hx592_0, hl592_0, hi592_0⟩ := at_L4 HR0.out x6_1 p592 q592
            have hw592_0 := hx592_0
            obtain rfl : ad591 = ad592 := (by injection e592)
            replace hx592_0 := (HB.out.cell (World.block_lt_of_cell? w _ hx592_0)).trans hx592_0
            have HR592_0 := aM hi592_0
            have HC592_0 := aM hl592_0
            clear hi592_0 hl592_0
            replace p592 := eq_true p592
            replace q592 := eq_true q592
            have ea_ := Option.some.inj (hx591_0.symm.trans hx592_0)
            injection ea_ with ea_ en_ ec_
            subst ea_
            subst ec_
            clear en_
            have p593 : 0 ≤ ((ji11) : Int) := aD
            have q593 : (ji11) < ((rd_L4 l0 x6_1).length : Int) := aD
            obtain ⟨ad593, e593, hx593_0⟩ := Kd.at_int HR591_0.out (ji11) p593 q593
            have hw593_0 := hx593_0
            cases e593
            replace hx593_0 := (HB.out.cell (World.block_lt_of_cell? w _ hx593_0)).trans hx593_0
            replace p593 := eq_true p593
            replace q593 := eq_true q593
            have p15 : 0 ≤ (x6_1 : Int) := aD
            have q15 : (x6_1 : Int) < ((x5_1.length : Int) : Int) := aD
            obtain ⟨go15, co15, eo15, gb15, gl15, cl15, HG15⟩ := Kd.R_form HO_5.out (by omega)
            (first | cases eo15 | (injection eo15 with ea_ en_ ec_; (first | subst ea_ | (injection ea_ with ea_; subst ea_)); subst ec_; clear en_))
            have GB15 := aM gb15
            have GG15 := aM HG15
            clear gb15 gl15 HG15
            obtain ⟨hx15_0, hf15_0⟩ := Kd.R_celln 0 HO_5.out (x6_1 : Int) p15 q15
            replace p15 := eq_true p15
            replace q15 := eq_true q15
            have HP17 := Kd.R_putn HO_5.out (x6_1 : Int) (rd (rd_L4 l0 x6_1) (ji11))
            rw [← Ny594.out] at HP17
            have HQ17 := aM HP17
            clear HP17
            refine start_ (n := 17) (S := fun w' => w'.cell? (ad591.add (x6_1).toNat) = some (.slice (some ad593) (rd_L4 l0 x6_1).length c591_0) ∧ w'.cell? (ad591.add (x6_1).toNat) = some (.slice (some ad593) (rd_L4 l0 x6_1).length c591_0) ∧ w'.cell? (ad593.add ((ji11)).toNat) = some (.int .i64 (rd (rd_L4 l0 x6_1) (ji11)))) (ds := [16]) #[false, false, false, false, false, false, false, false, false, false, false, false, false, false, false, false, false] (by kernel_rfl) rfl rfl ⟨(pw_cell_below HB.out hw591_0), (pw_cell_below HB.out hw592_0), (pw_cell_below HB.out hw593_0)⟩ (fun hHeld => ?_); refine with_tabW impl_nthRepair.tab5 impl_nthRepair.bits5 (fun HT_ HW_ => ?_)
            generalize wr.drew = w16 at HO_5 HB GG15 HQ17 HR591_0 HR592_0 hf15_0 hx15_0 hx591_0 hx592_0 hx593_0 hHeld ⊢
            refine pU 0 17 ?_
            refine pU 1 18 ?_
            refine pU 2 19 ?_
            refine pU 3 20 ?_
            refine pU 4 21 ?_
            refine pU 6 23 ?_
            refine pU 7 24 ?_
            refine pU 8 25 ?_
            refine pU 9 26 ?_
            refine tU3 5 22 hHeld ?_
            refine tU3 10 27 hHeld ?_
            refine pU 11 28 ?_
            refine pU 12 29 ?_
            refine pU 13 30 ?_
            refine tU3 14 31 hHeld ?_
            refine pU 15 32 ?_
            refine last_ (i := 16) (N := none) #[true, true, true, true, true, true, true, true, true, true, true, true, true, true, true, true, true] rfl rfl (one_of HT_.out (by kernel_rfl)) (by decide) (fun K hK => ?_)
            refine skip_ (w1 := ?_) (by rfl) rfl ?_ ?_
            rotate_left
            ·go_simp
             rfl
            refine hK.out _ _ ?_
            clear hK K
            refine done_ (done_of HT_.out (by kernel_rfl)) ?_
            have p595 : 0 ≤ (x6_1 : Int) := aD
            have q595 : x6_1 < (l0.length : Int) := aD
            obtain ⟨ad595, A595_0, c595_0, e595, hx595_0, hl595_0, hi595_0⟩ := at_L4 HR0.out x6_1 p595 q595
            obtain rfl : ad591 = ad595 := (by injection e595)
            have hn595_0 : ad591.block ≠ go15 := Nat.ne_of_lt (Nat.lt_of_lt_of_le (by have := World.block_lt_of_cell? _ _ hx595_0; first | rwa [add_block] at this | exact this) GB15.out)
            replace hx595_0 := (HB.out.cell (World.block_lt_of_cell? w _ hx595_0)).trans hx595_0
            have HR595_0 := aM hi595_0
            have HC595_0 := aM hl595_0
            clear hi595_0 hl595_0
            replace hx595_0 := (cell_far (p := ⟨go15, (x6_1 : Int).toNat, none⟩) (by first | (rw [add_block]; exact hn595_0) | (show (Addr.add _ _).block ≠ _; rw [add_block]; exact hn595_0) | exact hn595_0) (.int .i64 (rd (rd_L4 l0 x6_1) (ji11)))).trans hx595_0
            clear hn595_0
            replace p595 := eq_true p595
            replace q595 := eq_true q595
            try go_wp2
            go_roundg k1
            case measure => have := HK1.out; omega
            case rel => exact ⟨(wrap64 (Int.tdiv x1_1 ((rd_L4 l0 x6_1).length : Int))), (y594), (wrap64 (x6_1 - 1)), aX, aX, H', ⟨by have := HK1.out; omega⟩, ⟨aR HQ17⟩, ⟨by repeat (first | (with_reducible first | exact HB.out | apply below_alloc | apply pw_below_drewN | apply below_drew1 | refine below_set ?_ GB15.out) | exact HB.out)⟩⟩
           ·rw [if_neg c14] at H
            exact absurd H (by simp)
          ·rw [if_neg c13] at H
           exact absurd H (by simp)
         ·rw [if_neg c12] at H
          exact absurd H (by simp)
       ·rw [if_neg c9] at H
        exact absurd H (by simp)
      ·rw [if_neg c8] at H
       exact absurd H (by simp)
     ·rw [if_neg c7] at H
      have c7b0 : decide (0 ≤ x6_1) = false := decide_eq_false c7
      clear c7
      obtain rfl := Option.some.inj H
      go_wp2
      go_ret
      exact ⟨_, aE, aR HO_5, aB⟩
  ·rw [if_neg c4] at H
   exact absurd H (by simp)
 ·rw [if_neg c3] at H
  exact absurd H (by simp)

/-! ### impl_NthRepair: function 35 -/
def impl_NthRepair.f (k : Nat) (l0_0 : List (S70)) (l0_1 : List (S35)) (a1 : Int) : Option (List Int × Bool) := (impl_CountRepairs.f k l0_0 l0_1).bind fun t597 => ((impl_within.f a1 0 (wrap64 (t597 - 1))).bind fun t598 => (if t598 = true then ((impl_blocks.f k l0_0 l0_1).bind fun t599 => ((impl_nthRepair.f k t599 a1).bind fun t602 => (some (t602, true)))) else (some (([] : List Int), false))))
set_option maxHeartbeats 8000000 in
set_option maxRecDepth 100000 in
theorem impl_NthRepair.calls (k : Nat) (A0_0 : Option Addr) (c0_0 : Nat) (l0_0 : List (S70)) (A0_1 : Option Addr) (c0_1 : Nat) (l0_1 : List (S35)) (a1 : Int) (r1 : List Int) (r2 : Bool) (w : World) (hr0_0 : Kd.C k70 w A0_0 l0_0.length l0_0) (hc0_0 : l0_0.length ≤ c0_0) (hr0_1 : Kd.C k35 w A0_1 l0_1.length l0_1) (hc0_1 : l0_1.length ≤ c0_1) (h : impl_NthRepair.f k l0_0 l0_1 a1 = some (r1, r2)) :
  Calls Try.prog 35 #[.agg #[.slice A0_0 l0_0.length c0_0, .slice A0_1 l0_1.length c0_1], .int .i64 a1] w fun e w' => ∃ v0_ : Value, e = .returned (.tuple #[v0_, .bool r2]) ∧ Kd.R (Kd.int .i64) 3 w' w.heap.size (fun _ => True) v0_ r1 ∧ Below w.heap.size w w' := by
 have hu27 := Try.underlying27
 have HR0_0 := aM hr0_0
 have HC0_0 := aM hc0_0
 clear hr0_0 hc0_0
 have HR0_1 := aM hr0_1
 have HC0_1 := aM hc0_1
 clear hr0_1 hc0_1
 have HB := aM (Below.refl w.heap.size w)
 have H : ((impl_CountRepairs.f k l0_0 l0_1).bind fun t597 => ((impl_within.f a1 0 (wrap64 (t597 - 1))).bind fun t598 => (if t598 = true then ((impl_blocks.f k l0_0 l0_1).bind fun t599 => ((impl_nthRepair.f k t599 a1).bind fun t602 => (some (t602, true)))) else (some (([] : List Int), false))))) = some (r1, r2) := h
 clear h
 replace H := bM H
 obtain ⟨t597, A30, H⟩ := H
 have A3 := aM A30
 clear A30
 replace H := bM H
 obtain ⟨t598, A40, H⟩ := H
 have A4 := aM A40
 clear A40
 by_cases c5 : t598 = true
 ·subst c5
  replace H := iT H
  replace H := bM H
  obtain ⟨t599, A60, H⟩ := H
  have A6 := aM A60
  clear A60
  replace H := bM H
  obtain ⟨t602, A70, H⟩ := H
  have A7 := aM A70
  clear A70
  simp only [Option.some.injEq, Prod.mk.injEq] at H
  obtain ⟨rfl, rfl⟩ := H
  go_enter Try.func35, Try.ntmps35
  go_wp2_with (first | ((with_reducible refine gate_dst (N := 2) rfl ?_); refine bE 2 (cs := #[.slice A0_0 l0_0.length c0_0, .slice A0_1 l0_1.length c0_1]) (t := 27) ?_; intro gb596 hg w8 hbox hb; have BK596 := aM (hbox); have GW596 := aM ((by rw [hg]; exact (below_size aB) : w.heap.size ≤ gb596)); have GE596 := aM ((by rw [hg]; exact (below_size aB) : w.heap.size ≤ gb596)); replace HB := aM (below_step aB hb); clear hb hbox hg; have hcz9_0 : w8.cell? ⟨gb596, 0, none⟩ = some (.slice A0_0 l0_0.length c0_0) := (blk_cell BK596.out 0).trans rfl; have hcz9_1 : w8.cell? ⟨gb596, 1, none⟩ = some (.slice A0_1 l0_1.length c0_1) := (blk_cell BK596.out 1).trans rfl; have hfz9_0 := blk_frozen BK596.out 0; have hfz9_1 := blk_frozen BK596.out 1) | ((with_reducible refine gate_callee (f := 34) rfl ?_); refine goesL_ (some 8) rfl rfl Try.func34 (by kernel_rfl) rfl #[.agg #[.slice A0_0 l0_0.length c0_0, .slice A0_1 l0_1.length c0_1]] rfl aA ?_; (with_reducible refine (impl_CountRepairs.calls k _ _ l0_0 _ _ l0_1 t597 _ ?side1 ?side2 ?side3 ?side4 A3.out).mono ?_); (case side1 => exact aC); (case side2 => exact HC0_0.out); (case side3 => exact aC); (case side4 => exact HC0_1.out); rintro e w10 ⟨rfl, hb⟩; refine ⟨_, rfl, ?_⟩; replace BK596 := aM (kB gb596 #[.slice A0_0 l0_0.length c0_0, .slice A0_1 l0_1.length c0_1] 27 hb); replace HB := aM (below_step aG hb); (try clear hb); (try clear hb2); (try clear hk); (try clear hi)) | ((with_reducible refine gate_callee (f := 68) rfl ?_); refine goesL_ (some 10) rfl rfl Try.func68 (by kernel_rfl) rfl #[.int .i64 a1, .int .i64 0, .int .i64 (wrap64 (t597 - 1))] rfl aA ?_; (with_reducible refine (impl_within.calls a1 0 (wrap64 (t597 - 1)) true _ A4.out).mono ?_); rintro e w' ⟨rfl, ⟨nd, rfl⟩⟩; refine ⟨_, rfl, ?_⟩; have hcz11_0 : w10.cell? ⟨gb596, 0, none⟩ = some (.slice A0_0 l0_0.length c0_0) := (blk_cell BK596.out 0).trans rfl; have hcz11_1 : w10.cell? ⟨gb596, 1, none⟩ = some (.slice A0_1 l0_1.length c0_1) := (blk_cell BK596.out 1).trans rfl; have hfz11_0 := blk_frozen BK596.out 0; have hfz11_1 := blk_frozen BK596.out 1) | ((with_reducible refine gate_callee (f := 44) rfl ?_); refine goesL_ (some 13) rfl rfl Try.func44 (by kernel_rfl) rfl #[.agg #[.slice A0_0 l0_0.length c0_0, .slice A0_1 l0_1.length c0_1]] rfl aA ?_; (with_reducible refine (impl_blocks.calls k _ _ l0_0 _ _ l0_1 t599 _ ?side1 ?side2 ?side3 ?side4 A6.out).mono ?_); (case side1 => repeat (first | exact (Kd.C_below HR0_0.out aG) | (with_reducible refine pC ?_))); (case side2 => exact HC0_0.out); (case side3 => repeat (first | exact (Kd.C_below HR0_1.out aG) | (with_reducible refine pC ?_))); (case side4 => exact HC0_1.out); rintro e w12 ⟨v600, rfl, ho0, hb⟩; refine ⟨_, rfl, ?_⟩; have HO601 := aM (Kd.S_lower ho0 (below_size aG)); replace BK596 := aM (kB gb596 #[.slice A0_0 l0_0.length c0_0, .slice A0_1 l0_1.length c0_1] 27 hb); replace HB := aM (below_step aG hb); (try clear hb); (try clear hb2); (try clear hk); (try clear hi); (try clear ho0); obtain ⟨Ao13, co13, eo13⟩ := Kd.S_slice HO601.out; subst eo13) | ((with_reducible refine gate_callee (f := 69) rfl ?_); refine goesL_ (some 15) rfl rfl Try.func69 (by kernel_rfl) rfl #[.slice Ao13 t599.length co13, .int .i64 a1] rfl aA ?_; (with_reducible refine (impl_nthRepair.calls k _ _ t599 a1 t602 _ ?side1 ?side2 A7.out).mono ?_); (case side1 => repeat (first | exact (Kd.S_reads' HO601.out).2.2 | (with_reducible refine pC ?_))); (case side2 => exact (Kd.S_reads' HO601.out).2.1); rintro e w14 ⟨v603, rfl, ho0, hb⟩; refine ⟨_, rfl, ?_⟩; have HO604 := aM (Kd.R_lower ho0 (below_size aG)); replace HO601 := aM (Kd.S_elder' (aS HO601) (Kd.R_base ho0) hb); replace BK596 := aM (kB gb596 #[.slice A0_0 l0_0.length c0_0, .slice A0_1 l0_1.length c0_1] 27 hb); replace HB := aM (below_step aG hb); (try clear hb); (try clear hb2); (try clear hk); (try clear hi); (try clear ho0)))
  go_ret2
  exact ⟨_, aE, aR HO604, aG⟩
 ·replace c5 := Bool.eq_false_iff.mpr c5
  subst c5
  have H1 : (some (([] : List Int), false)) = some (r1, r2) := by rw [if_neg (show ¬ (false = true) by decide)] at H; exact H
  clear H
  have H := H1
  clear H1
  simp only [Option.some.injEq, Prod.mk.injEq] at H
  obtain ⟨rfl, rfl⟩ := H
  go_enter Try.func35, Try.ntmps35
  go_wp2_with (first | ((with_reducible refine gate_dst (N := 2) rfl ?_); refine bE 2 (cs := #[.slice A0_0 l0_0.length c0_0, .slice A0_1 l0_1.length c0_1]) (t := 27) ?_; intro gb596 hg w15 hbox hb; have BK596 := aM (hbox); have GW596 := aM ((by rw [hg]; exact (below_size aB) : w.heap.size ≤ gb596)); have GE596 := aM ((by rw [hg]; exact (below_size aB) : w.heap.size ≤ gb596)); replace HB := aM (below_step aB hb); clear hb hbox hg; have hcz16_0 : w15.cell? ⟨gb596, 0, none⟩ = some (.slice A0_0 l0_0.length c0_0) := (blk_cell BK596.out 0).trans rfl; have hcz16_1 : w15.cell? ⟨gb596, 1, none⟩ = some (.slice A0_1 l0_1.length c0_1) := (blk_cell BK596.out 1).trans rfl; have hfz16_0 := blk_frozen BK596.out 0; have hfz16_1 := blk_frozen BK596.out 1) | ((with_reducible refine gate_callee (f := 34) rfl ?_); refine goesL_ (some 8) rfl rfl Try.func34 (by kernel_rfl) rfl #[.agg #[.slice A0_0 l0_0.length c0_0, .slice A0_1 l0_1.length c0_1]] rfl aA ?_; (with_reducible refine (impl_CountRepairs.calls k _ _ l0_0 _ _ l0_1 t597 _ ?side1 ?side2 ?side3 ?side4 A3.out).mono ?_); (case side1 => exact aC); (case side2 => exact HC0_0.out); (case side3 => exact aC); (case side4 => exact HC0_1.out); rintro e w17 ⟨rfl, hb⟩; refine ⟨_, rfl, ?_⟩; replace BK596 := aM (kB gb596 #[.slice A0_0 l0_0.length c0_0, .slice A0_1 l0_1.length c0_1] 27 hb); replace HB := aM (below_step aG hb); (try clear hb); (try clear hb2); (try clear hk); (try clear hi)) | ((with_reducible refine gate_callee (f := 68) rfl ?_); refine goesL_ (some 10) rfl rfl Try.func68 (by kernel_rfl) rfl #[.int .i64 a1, .int .i64 0, .int .i64 (wrap64 (t597 - 1))] rfl aA ?_; (with_reducible refine (impl_within.calls a1 0 (wrap64 (t597 - 1)) false _ A4.out).mono ?_); rintro e w' ⟨rfl, ⟨nd, rfl⟩⟩; refine ⟨_, rfl, ?_⟩))
  go_ret2
  exact ⟨_, aE, by first | exact Kd.R_nil _ _ _ _ _ | exact Kd.N_nil _ _ _ _ _ | exact Kd.V_nil _ _ _ _ _ | exact Kd.Q_nil _ _ _ _ _ | exact Kd.S_nil _ _ _ _ _, aG⟩

end Go.Proofs.Ytbdeimhlohhhiaa.PFnRepairEnumeration
