-- Laid by a program of this claim: what the functions come to, some of them proved by hand.
import Derived.Test.YtehlhbidmanbmaaPFnExactRepairRankx0
import Derived.Test.YtehlhbidmanbmaaPFnExactRepairRankx5
import Derived.Test.YtehlhbidmanbmaaPFnExactRepairRankx6
import Derived.Test.YtehlhbidmanbmaaPFnExactRepairRankx7
namespace Go.Proofs.Ytehlhbidmanbmaa.PFnExactRepairRank
open Go.RowKit Go.Proofs.YtehlhbidmanbmaaW.PrintWords Go.Proofs.YtehlhbidmanbmaaW.PrintLast Go.Proofs.YtehlhbidmanbmaaW.PrintMore
attribute [local go_sem] max2_int min2_int max_two min_two max_three min_three max_four min_four   -- for this text's walks alone
set_option linter.unusedVariables false
set_option linter.unusedSimpArgs false

/-! ### spec_IsValidDatabase: function 60 -/
def spec_IsValidDatabase.l0 : Nat → Int → List (S86) → List (S50) → Option (Bool)
 | 0, _, _, _ => none
 | k + 1, x3, x188000, x188001 => if x3 < (x188001.length : Int) then (if 0 ≤ x3 then ((spec_IsValidFact.f k x188000 ((rd_T50 x188001 x3).f0) ((rd_T50 x188001 x3).f1)).bind fun t190 => (if t190 = true then (if x3 > 0 then (if 0 ≤ (wrap64 (x3 - 1)) then (if (wrap64 (x3 - 1)) < (x188001.length : Int) then ((spec_CompareFacts.f k ((rd_T50 x188001 (wrap64 (x3 - 1))).f0) ((rd_T50 x188001 (wrap64 (x3 - 1))).f1) ((rd_T50 x188001 x3).f0) ((rd_T50 x188001 x3).f1)).bind fun t193 => (if t193 ≥ 0 then (some false) else (spec_IsValidDatabase.l0 k (wrap64 (x3 + 1)) x188000 x188001))) else (none)) else (none)) else (spec_IsValidDatabase.l0 k (wrap64 (x3 + 1)) x188000 x188001)) else (some false))) else (none)) else ((spec_AreValidRelations.f x188000).bind fun t188 => (if t188 = true then (some (decide ((x188001.length : Int) ≤ 14))) else (some false)))
def spec_IsValidDatabase.f (k : Nat) (l0_0 : List (S86)) (l0_1 : List (S50)) : Option (Bool) := spec_IsValidDatabase.l0 k 0 l0_0 l0_1
theorem spec_IsValidDatabase.mono_l : ∀ k, (∀ y0 y1 y2, LeO (spec_IsValidDatabase.l0 k y0 y1 y2) (spec_IsValidDatabase.l0 (k + 1) y0 y1 y2))
 | 0 => fun _ _ _ r h => by simp [spec_IsValidDatabase.l0] at h
 | k + 1 => by
  have ih0 := spec_IsValidDatabase.mono_l k
  ·intro y0 y1 y2
   unfold spec_IsValidDatabase.l0
   repeat' first
   | (with_reducible exact ih0 _ _ _)
   | (with_reducible exact spec_CompareFacts.mono _ _ _ _ _)
   | (with_reducible exact spec_IsValidFact.mono _ _ _ _)
   | (with_reducible exact LeO.refl _)
   | (with_reducible exact LeO.none _)
   | (with_reducible refine LeO.ite ?_ ?_)
   | (with_reducible refine LeO.bind ?_ (fun _ => ?_))
   | exact ih0 _ _ _
   | exact spec_CompareFacts.mono _ _ _ _ _
   | exact spec_IsValidFact.mono _ _ _ _
   | exact LeO.none _
   | refine LeO.ite ?_ ?_
   | refine LeO.bind ?_ (fun _ => ?_)
theorem spec_IsValidDatabase.mono : ∀ a0 a1 k, LeO (spec_IsValidDatabase.f k a0 a1) (spec_IsValidDatabase.f (k + 1) a0 a1) := by
 intro a0 a1 k
 have ih0 := spec_IsValidDatabase.mono_l k
 unfold spec_IsValidDatabase.f
 repeat' first
   | (with_reducible exact ih0 _ _ _)
   | (with_reducible exact spec_CompareFacts.mono _ _ _ _ _)
   | (with_reducible exact spec_IsValidFact.mono _ _ _ _)
   | (with_reducible exact LeO.refl _)
   | (with_reducible exact LeO.none _)
   | (with_reducible refine LeO.ite ?_ ?_)
   | (with_reducible refine LeO.bind ?_ (fun _ => ?_))
   | exact ih0 _ _ _
   | exact spec_CompareFacts.mono _ _ _ _ _
   | exact spec_IsValidFact.mono _ _ _ _
   | exact LeO.none _
   | refine LeO.ite ?_ ?_
   | refine LeO.bind ?_ (fun _ => ?_)
set_option maxHeartbeats 8000000 in
set_option maxRecDepth 100000 in
theorem spec_IsValidDatabase.calls (k : Nat) (A0_0 : Option Addr) (c0_0 : Nat) (l0_0 : List (S86)) (A0_1 : Option Addr) (c0_1 : Nat) (l0_1 : List (S50)) (r : Bool) (w : World) (hr0_0 : Kd.C k86 w A0_0 l0_0.length l0_0) (hc0_0 : l0_0.length ≤ c0_0) (hr0_1 : Kd.C k50 w A0_1 l0_1.length l0_1) (hc0_1 : l0_1.length ≤ c0_1) (h : spec_IsValidDatabase.f k l0_0 l0_1 = some r) :
  Calls Try.prog 60 #[.agg #[.slice A0_0 l0_0.length c0_0, .slice A0_1 l0_1.length c0_1]] w fun e w' => e = .returned (.bool r) ∧ Below w.heap.size w w' := by
 have hu32 := Try.underlying32
 have hu50 := Try.underlying50
 have HR0_0 := aM hr0_0
 have HC0_0 := aM hc0_0
 clear hr0_0 hc0_0
 have HR0_1 := aM hr0_1
 have HC0_1 := aM hc0_1
 clear hr0_1 hc0_1
 have HB := aM (Below.refl w.heap.size w)
 have H : (spec_IsValidDatabase.l0 k 0 l0_0 l0_1) = some r := h
 clear h
 have H' := aM H
 clear H
 go_enter Try.func60, Try.ntmps60
 go_wp2_with (first | ((with_reducible refine gate_dst (N := 1) rfl ?_); (try (refine gate_guard (by rfl) ?_; dsimp only)); refine box_event ?hg (N := 1) ?hd (cs := #[.slice A0_0 l0_0.length c0_0, .slice A0_1 l0_1.length c0_1]) (t := 32) ?hr ?_; (case hd => rfl); (case hg => rfl); (case hr => first | (go_simp; done) | (go_simp; rfl)); intro gb187 hg w2 hbox hb; have n0_ := aM (below_step aB hb); have n1_ := aM (hbox); have n2_ := aM ((by rw [hg]; exact (below_size aB) : w.heap.size ≤ gb187)); have n3_ := aM ((by rw [hg]; exact (below_size aB) : w.heap.size ≤ gb187)); clear HB; have HB := n0_; have BK187 := n1_; have GW187 := n2_; have GE187 := n3_; clear n0_ n1_ n2_ n3_; clear hb hbox hg))
 go_loopg [3] k (fun kq v3 w' => ∃ (x3_1 : Int), v3 = .int .i64 x3_1 ∧ Aside0 (spec_IsValidDatabase.l0 kq x3_1 l0_0 l0_1 = some r) ∧ Aside0 (kq ≤ k) ∧ Aside0 (w'.heap[gb187]? = some (.cells #[(.slice A0_0 l0_0.length c0_0), (.slice A0_1 l0_1.length c0_1)] 32 (0, 0))) ∧ Aside0 (Below w.heap.size w w'))
 case atStart => exact ⟨(0), (by first | rfl | (simp; done) | (simp [*]; done)), H', ⟨Nat.le_refl _⟩, ⟨by (with_reducible repeat (first | refine blk_drewN ?_ _ | refine blk_drew ?_ | refine blk_alloc ?_ _)); exact BK187.out⟩, ⟨by repeat (first | (with_reducible first | exact HB.out | apply below_alloc | apply pw_below_drewN | apply below_drew1 | refine below_set ?_ GE187.out) | exact HB.out)⟩⟩
 case round =>
  clear H'
  try clear p2
  obtain ⟨x3_1, rfl, HA, HK1, BK187, HB⟩ := hrel
  cases gk with
  | zero => exact absurd HA.out (by simp [spec_IsValidDatabase.l0])
  | succ k1 =>
   have H := HA.out
   clear HA
   simp only [spec_IsValidDatabase.l0] at H
   by_cases c3 : x3_1 < (l0_1.length : Int)
   ·rw [if_pos c3] at H
    have c3b0 : decide (x3_1 < (l0_1.length : Int)) = true := decide_eq_true c3
    clear c3
    by_cases c4 : 0 ≤ x3_1
    ·rw [if_pos c4] at H
     have c4b0 : decide (0 ≤ x3_1) = true := decide_eq_true c4
     clear c4
     replace H := Option.bind_eq_some_iff.mp H
     obtain ⟨t190, A50, H⟩ := H
     replace H : (if t190 = true then (if x3_1 > 0 then (if 0 ≤ (wrap64 (x3_1 - 1)) then (if (wrap64 (x3_1 - 1)) < (l0_1.length : Int) then ((spec_CompareFacts.f k1 ((rd_T50 l0_1 (wrap64 (x3_1 - 1))).f0) ((rd_T50 l0_1 (wrap64 (x3_1 - 1))).f1) ((rd_T50 l0_1 x3_1).f0) ((rd_T50 l0_1 x3_1).f1)).bind fun t193 => (if t193 ≥ 0 then (some false) else (spec_IsValidDatabase.l0 k1 (wrap64 (x3_1 + 1)) l0_0 l0_1))) else (none)) else (none)) else (spec_IsValidDatabase.l0 k1 (wrap64 (x3_1 + 1)) l0_0 l0_1)) else (some false)) = some r := H
     have A5 := aM A50
     clear A50
     by_cases c6 : t190 = true
     ·subst c6
      have H1 : (if x3_1 > 0 then (if 0 ≤ (wrap64 (x3_1 - 1)) then (if (wrap64 (x3_1 - 1)) < (l0_1.length : Int) then ((spec_CompareFacts.f k1 ((rd_T50 l0_1 (wrap64 (x3_1 - 1))).f0) ((rd_T50 l0_1 (wrap64 (x3_1 - 1))).f1) ((rd_T50 l0_1 x3_1).f0) ((rd_T50 l0_1 x3_1).f1)).bind fun t193 => (if t193 ≥ 0 then (some false) else (spec_IsValidDatabase.l0 k1 (wrap64 (x3_1 + 1)) l0_0 l0_1))) else (none)) else (none)) else (spec_IsValidDatabase.l0 k1 (wrap64 (x3_1 + 1)) l0_0 l0_1)) = some r := by rw [if_pos rfl] at H; exact H
      clear H
      have H := H1
      clear H1
      by_cases c7 : x3_1 > 0
      ·rw [if_pos c7] at H
       have c7b0 : decide (0 < x3_1) = true := decide_eq_true c7
       clear c7
       obtain ⟨ji8, hji8⟩ : ∃ j_ : Int, (wrap64 (x3_1 - 1)) = j_ := ⟨_, rfl⟩
       replace H : (if 0 ≤ (ji8) then (if (ji8) < (l0_1.length : Int) then ((spec_CompareFacts.f k1 ((rd_T50 l0_1 (ji8)).f0) ((rd_T50 l0_1 (ji8)).f1) ((rd_T50 l0_1 x3_1).f0) ((rd_T50 l0_1 x3_1).f1)).bind fun t193 => (if t193 ≥ 0 then (some false) else (spec_IsValidDatabase.l0 k1 (wrap64 (x3_1 + 1)) l0_0 l0_1))) else (none)) else (none)) = some r := by first | (rw [hji8] at H; exact H) | (simp only [hji8] at H ⊢; exact H)
       (try rw [hji8] at A5)
       have hji8w : (IntKind.i64.wrap (x3_1 - 1)) = ji8 := (i64_w _).trans hji8
       by_cases c9 : 0 ≤ (ji8)
       ·rw [if_pos c9] at H
        have c9b0 : decide (0 ≤ (ji8)) = true := decide_eq_true c9
        clear c9
        by_cases c10 : (ji8) < (l0_1.length : Int)
        ·rw [if_pos c10] at H
         have c10b0 : decide ((ji8) < (l0_1.length : Int)) = true := decide_eq_true c10
         clear c10
         replace H := Option.bind_eq_some_iff.mp H
         obtain ⟨t193, A110, H⟩ := H
         replace H : (if t193 ≥ 0 then (some false) else (spec_IsValidDatabase.l0 k1 (wrap64 (x3_1 + 1)) l0_0 l0_1)) = some r := H
         have A11 := aM A110
         clear A110
         by_cases c12 : t193 ≥ 0
         ·rw [if_pos c12] at H
          have c12b0 : decide (0 ≤ t193) = true := decide_eq_true c12
          clear c12
          obtain rfl := Option.some.inj H
          have hcz13_0 : wr.cell? ⟨gb187, 0, none⟩ = some (.slice A0_0 l0_0.length c0_0) := (blk_cell BK187.out 0).trans rfl
          have hcz13_1 : wr.cell? ⟨gb187, 1, none⟩ = some (.slice A0_1 l0_1.length c0_1) := (blk_cell BK187.out 1).trans rfl
          have hfz13_0 := blk_frozen BK187.out 0
          have hfz13_1 := blk_frozen BK187.out 1
          try go_wp2
          have n0_ := aM (blk_drew BK187.out)
          have n1_ := aM (below_drew1 HB.out)
          clear BK187
          clear HB
          have BK187 := n0_
          have HB := n1_
          clear n0_ n1_
          have p189 : 0 ≤ (x3_1 : Int) := aD
          have q189 : x3_1 < (l0_1.length : Int) := aD
          obtain ⟨ad189, A189_1, c189_1, e189, hx189_0, hx189_1, hl189_1, hi189_1⟩ := at_T50 HR0_1.out x3_1 p189 q189
          have hw189_1 := hx189_1
          have hw189_0 := hx189_0
          cases e189
          replace hx189_0 := (HB.out.cell (World.block_lt_of_cell? w _ hx189_0)).trans hx189_0
          replace hx189_1 := (HB.out.cell (World.block_lt_of_cell? w _ hx189_1)).trans hx189_1
          have HR189_1 := aM hi189_1
          have HC189_1 := aM hl189_1
          clear hi189_1 hl189_1
          replace p189 := eq_true p189
          replace q189 := eq_true q189
          have p191 : 0 ≤ ((ji8) : Int) := aD
          have q191 : (ji8) < (l0_1.length : Int) := aD
          obtain ⟨ad191, A191_1, c191_1, e191, hx191_0, hx191_1, hl191_1, hi191_1⟩ := at_T50 HR0_1.out (ji8) p191 q191
          have hw191_1 := hx191_1
          have hw191_0 := hx191_0
          obtain rfl : ad189 = ad191 := (by injection e191)
          replace hx191_0 := (HB.out.cell (World.block_lt_of_cell? w _ hx191_0)).trans hx191_0
          replace hx191_1 := (HB.out.cell (World.block_lt_of_cell? w _ hx191_1)).trans hx191_1
          have HR191_1 := aM hi191_1
          have HC191_1 := aM hl191_1
          clear hi191_1 hl191_1
          replace p191 := eq_true p191
          replace q191 := eq_true q191
          have p192 : 0 ≤ (x3_1 : Int) := aD
          have q192 : x3_1 < (l0_1.length : Int) := aD
          obtain ⟨ad192, A192_1, c192_1, e192, hx192_0, hx192_1, hl192_1, hi192_1⟩ := at_T50 HR0_1.out x3_1 p192 q192
          have hw192_1 := hx192_1
          have hw192_0 := hx192_0
          obtain rfl : ad189 = ad192 := (by injection e192)
          replace hx192_0 := (HB.out.cell (World.block_lt_of_cell? w _ hx192_0)).trans hx192_0
          replace hx192_1 := (HB.out.cell (World.block_lt_of_cell? w _ hx192_1)).trans hx192_1
          have HR192_1 := aM hi192_1
          have HC192_1 := aM hl192_1
          clear hi192_1 hl192_1
          replace p192 := eq_true p192
          replace q192 := eq_true q192
          have qf0_ : ∀ (d_ : Nat) (os_ : Array Obj), (Go.Sort.grow (redrawn wr d_) os_).cell? ⟨gb187, 0, none⟩ = some (.slice A0_0 l0_0.length c0_0) := cell_regrown_drew ((blk_cell BK187.out 0).trans rfl)
          have qf1_ : ∀ (d_ : Nat) (os_ : Array Obj), (Go.Sort.grow (redrawn wr d_) os_).cell? ⟨gb187, 1, none⟩ = some (.slice (some ad189) l0_1.length c0_1) := cell_regrown_drew ((blk_cell BK187.out 1).trans rfl)
          have qf2_ : ∀ (d_ : Nat) (os_ : Array Obj), (Go.Sort.grow (redrawn wr d_) os_).cell? (ad189.add ((x3_1).toNat * 2)) = some (.int .i64 ((rd_T50 l0_1 x3_1).f0)) := cell_regrown_drew ((pw_cell_below HB.out hw189_0))
          have qf3_ : ∀ (d_ : Nat) (os_ : Array Obj), (Go.Sort.grow (redrawn wr d_) os_).cell? ⟨(ad189.add ((x3_1).toNat * 2)).block, (ad189.add ((x3_1).toNat * 2)).off + 1, none⟩ = some (.slice A189_1 ((rd_T50 l0_1 x3_1).f1).length c189_1) := cell_regrown_drew ((pw_cell_below HB.out hw189_1))
          have qf4_ : ∀ (d_ : Nat) (os_ : Array Obj), (Go.Sort.grow (redrawn wr d_) os_).cell? (ad189.add (((ji8)).toNat * 2)) = some (.int .i64 ((rd_T50 l0_1 (ji8)).f0)) := cell_regrown_drew ((pw_cell_below HB.out hw191_0))
          have qf5_ : ∀ (d_ : Nat) (os_ : Array Obj), (Go.Sort.grow (redrawn wr d_) os_).cell? ⟨(ad189.add (((ji8)).toNat * 2)).block, (ad189.add (((ji8)).toNat * 2)).off + 1, none⟩ = some (.slice A191_1 ((rd_T50 l0_1 (ji8)).f1).length c191_1) := cell_regrown_drew ((pw_cell_below HB.out hw191_1))
          have qf6_ : ∀ (d_ : Nat) (os_ : Array Obj), (Go.Sort.grow (redrawn wr d_) os_).cell? (ad189.add ((x3_1).toNat * 2)) = some (.int .i64 ((rd_T50 l0_1 x3_1).f0)) := cell_regrown_drew ((pw_cell_below HB.out hw192_0))
          have qf7_ : ∀ (d_ : Nat) (os_ : Array Obj), (Go.Sort.grow (redrawn wr d_) os_).cell? ⟨(ad189.add ((x3_1).toNat * 2)).block, (ad189.add ((x3_1).toNat * 2)).off + 1, none⟩ = some (.slice A192_1 ((rd_T50 l0_1 x3_1).f1).length c192_1) := cell_regrown_drew ((pw_cell_below HB.out hw192_1))
          have HBQ_ := aM (below_class HB.out)
          have HBS_ := HB
          clear HB
          refine wp_region_quiet_below (by kernel_rfl) (by kernel_rfl) ?_
          repeat (go_big_quiet_step ((refine with_class HBQ_.out ?_; intro hbz_; have HB := aM hbz_; clear hbz_; first | (go_at_call 89; apply Calls.regrown_of; with_reducible refine spec_IsValidFact.calls k1 _ _ l0_0 ((rd_T50 l0_1 x3_1).f0) _ _ ((rd_T50 l0_1 x3_1).f1) true _ ?side1 ?side2 ?side3 ?side4 A5.out; (case side1 => repeat (first | exact (Kd.C_below HR0_0.out HB.out) | exact (Kd.C_below HR189_0.out HB.out) | exact (Kd.C_below HR191_0.out HB.out) | exact (Kd.C_below HR192_0.out HB.out) | (with_reducible refine Kd.C_alloc ?_ _) | (with_reducible refine Kd.C_drewN ?_ _) | (with_reducible refine Kd.C_drew ?_))); (case side2 => first | exact HC0_0.out | exact HC189_0.out | exact HC191_0.out | exact HC192_0.out); (case side3 => repeat (first | exact (Kd.C_below HR189_1.out HB.out) | exact (Kd.C_below HR191_1.out HB.out) | exact (Kd.C_below HR192_1.out HB.out) | (with_reducible refine Kd.C_alloc ?_ _) | (with_reducible refine Kd.C_drewN ?_ _) | (with_reducible refine Kd.C_drew ?_))); (case side4 => first | exact HC189_1.out | exact HC191_1.out | exact HC192_1.out)) | (go_at_call 90; apply Calls.regrown_of; with_reducible refine spec_CompareFacts.calls k1 ((rd_T50 l0_1 (ji8)).f0) _ _ ((rd_T50 l0_1 (ji8)).f1) ((rd_T50 l0_1 x3_1).f0) _ _ ((rd_T50 l0_1 x3_1).f1) t193 _ ?side1 ?side2 ?side3 ?side4 A11.out; (case side1 => repeat (first | exact (Kd.C_below HR191_1.out HB.out) | exact (Kd.C_below HR189_1.out HB.out) | exact (Kd.C_below HR192_1.out HB.out) | (with_reducible refine Kd.C_alloc ?_ _) | (with_reducible refine Kd.C_drewN ?_ _) | (with_reducible refine Kd.C_drew ?_))); (case side2 => first | exact HC191_1.out | exact HC189_1.out | exact HC192_1.out); (case side3 => repeat (first | exact (Kd.C_below HR192_1.out HB.out) | exact (Kd.C_below HR189_1.out HB.out) | exact (Kd.C_below HR191_1.out HB.out) | (with_reducible refine Kd.C_alloc ?_ _) | (with_reducible refine Kd.C_drewN ?_ _) | (with_reducible refine Kd.C_drew ?_))); (case side4 => first | exact HC192_1.out | exact HC189_1.out | exact HC191_1.out)))))
          refine wpQuiet_nil ?_
          intro _ hw_
          obtain ⟨⟨dq_, osq_⟩, hw2_⟩ := hw_
          subst hw2_
          have hb := below_regrown_drew wr dq_ osq_
          have HB := HBS_
          clear HBS_
          clear qf0_ qf1_ qf2_ qf3_ qf4_ qf5_ qf6_ qf7_
          clear HBQ_
          generalize Go.Sort.grow (redrawn wr dq_) osq_ = w16 at hb ⊢
          generalize wr.drew = wd_ at BK187 HB hb
          have n0_ := aM (blk_below (g := gb187) (o := .cells #[.slice A0_0 l0_0.length c0_0, .slice (some ad189) l0_1.length c0_1] 32 (0, 0)) aK hb)
          have n1_ := aM (below_step aG hb)
          clear BK187
          clear HB
          have BK187 := n0_
          have HB := n1_
          clear n0_ n1_
          (try clear hb)
          (try clear hb2)
          (try clear hk)
          (try clear hi)
          try go_wp2
          go_ret
          exact ⟨by first | rfl | (simp [errW_none, errW_some] <;> rfl) | (simp only [← hji8]; first | rfl | (simp [errW_none, errW_some] <;> rfl)) | (simp [*, errW_none, errW_some] <;> rfl), by repeat (first | (with_reducible first | exact HB.out | apply below_alloc | apply pw_below_drewN | apply below_drew1 | refine below_set ?_ GE187.out) | exact HB.out)⟩
         ·rw [if_neg c12] at H
          have c12b0 : decide (0 ≤ t193) = false := decide_eq_false c12
          clear c12
          have H' := aM H
          clear H
          have hcz17_0 : wr.cell? ⟨gb187, 0, none⟩ = some (.slice A0_0 l0_0.length c0_0) := (blk_cell BK187.out 0).trans rfl
          have hcz17_1 : wr.cell? ⟨gb187, 1, none⟩ = some (.slice A0_1 l0_1.length c0_1) := (blk_cell BK187.out 1).trans rfl
          have hfz17_0 := blk_frozen BK187.out 0
          have hfz17_1 := blk_frozen BK187.out 1
          try go_wp2
          have n0_ := aM (blk_drew BK187.out)
          have n1_ := aM (below_drew1 HB.out)
          clear BK187
          clear HB
          have BK187 := n0_
          have HB := n1_
          clear n0_ n1_
          have p189 : 0 ≤ (x3_1 : Int) := aD
          have q189 : x3_1 < (l0_1.length : Int) := aD
          obtain ⟨ad189, A189_1, c189_1, e189, hx189_0, hx189_1, hl189_1, hi189_1⟩ := at_T50 HR0_1.out x3_1 p189 q189
          have hw189_1 := hx189_1
          have hw189_0 := hx189_0
          cases e189
          replace hx189_0 := (HB.out.cell (World.block_lt_of_cell? w _ hx189_0)).trans hx189_0
          replace hx189_1 := (HB.out.cell (World.block_lt_of_cell? w _ hx189_1)).trans hx189_1
          have HR189_1 := aM hi189_1
          have HC189_1 := aM hl189_1
          clear hi189_1 hl189_1
          replace p189 := eq_true p189
          replace q189 := eq_true q189
          have p191 : 0 ≤ ((ji8) : Int) := aD
          have q191 : (ji8) < (l0_1.length : Int) := aD
          obtain ⟨ad191, A191_1, c191_1, e191, hx191_0, hx191_1, hl191_1, hi191_1⟩ := at_T50 HR0_1.out (ji8) p191 q191
          have hw191_1 := hx191_1
          have hw191_0 := hx191_0
          obtain rfl : ad189 = ad191 := (by injection e191)
          replace hx191_0 := (HB.out.cell (World.block_lt_of_cell? w _ hx191_0)).trans hx191_0
          replace hx191_1 := (HB.out.cell (World.block_lt_of_cell? w _ hx191_1)).trans hx191_1
          have HR191_1 := aM hi191_1
          have HC191_1 := aM hl191_1
          clear hi191_1 hl191_1
          replace p191 := eq_true p191
          replace q191 := eq_true q191
          have p192 : 0 ≤ (x3_1 : Int) := aD
          have q192 : x3_1 < (l0_1.length : Int) := aD
          obtain ⟨ad192, A192_1, c192_1, e192, hx192_0, hx192_1, hl192_1, hi192_1⟩ := at_T50 HR0_1.out x3_1 p192 q192
          have hw192_1 := hx192_1
          have hw192_0 := hx192_0
          obtain rfl : ad189 = ad192 := (by injection e192)
          replace hx192_0 := (HB.out.cell (World.block_lt_of_cell? w _ hx192_0)).trans hx192_0
          replace hx192_1 := (HB.out.cell (World.block_lt_of_cell? w _ hx192_1)).trans hx192_1
          have HR192_1 := aM hi192_1
          have HC192_1 := aM hl192_1
          clear hi192_1 hl192_1
          replace p192 := eq_true p192
          replace q192 := eq_true q192
          have qf0_ : ∀ (d_ : Nat) (os_ : Array Obj), (Go.Sort.grow (redrawn wr d_) os_).cell? ⟨gb187, 0, none⟩ = some (.slice A0_0 l0_0.length c0_0) := cell_regrown_drew ((blk_cell BK187.out 0).trans rfl)
          have qf1_ : ∀ (d_ : Nat) (os_ : Array Obj), (Go.Sort.grow (redrawn wr d_) os_).cell? ⟨gb187, 1, none⟩ = some (.slice (some ad189) l0_1.length c0_1) := cell_regrown_drew ((blk_cell BK187.out 1).trans rfl)
          have qf2_ : ∀ (d_ : Nat) (os_ : Array Obj), (Go.Sort.grow (redrawn wr d_) os_).cell? (ad189.add ((x3_1).toNat * 2)) = some (.int .i64 ((rd_T50 l0_1 x3_1).f0)) := cell_regrown_drew ((pw_cell_below HB.out hw189_0))
          have qf3_ : ∀ (d_ : Nat) (os_ : Array Obj), (Go.Sort.grow (redrawn wr d_) os_).cell? ⟨(ad189.add ((x3_1).toNat * 2)).block, (ad189.add ((x3_1).toNat * 2)).off + 1, none⟩ = some (.slice A189_1 ((rd_T50 l0_1 x3_1).f1).length c189_1) := cell_regrown_drew ((pw_cell_below HB.out hw189_1))
          have qf4_ : ∀ (d_ : Nat) (os_ : Array Obj), (Go.Sort.grow (redrawn wr d_) os_).cell? (ad189.add (((ji8)).toNat * 2)) = some (.int .i64 ((rd_T50 l0_1 (ji8)).f0)) := cell_regrown_drew ((pw_cell_below HB.out hw191_0))
          have qf5_ : ∀ (d_ : Nat) (os_ : Array Obj), (Go.Sort.grow (redrawn wr d_) os_).cell? ⟨(ad189.add (((ji8)).toNat * 2)).block, (ad189.add (((ji8)).toNat * 2)).off + 1, none⟩ = some (.slice A191_1 ((rd_T50 l0_1 (ji8)).f1).length c191_1) := cell_regrown_drew ((pw_cell_below HB.out hw191_1))
          have qf6_ : ∀ (d_ : Nat) (os_ : Array Obj), (Go.Sort.grow (redrawn wr d_) os_).cell? (ad189.add ((x3_1).toNat * 2)) = some (.int .i64 ((rd_T50 l0_1 x3_1).f0)) := cell_regrown_drew ((pw_cell_below HB.out hw192_0))
          have qf7_ : ∀ (d_ : Nat) (os_ : Array Obj), (Go.Sort.grow (redrawn wr d_) os_).cell? ⟨(ad189.add ((x3_1).toNat * 2)).block, (ad189.add ((x3_1).toNat * 2)).off + 1, none⟩ = some (.slice A192_1 ((rd_T50 l0_1 x3_1).f1).length c192_1) := cell_regrown_drew ((pw_cell_below HB.out hw192_1))
          have HBQ_ := aM (below_class HB.out)
          have HBS_ := HB
          clear HB
          refine wp_region_quiet_below (by kernel_rfl) (by kernel_rfl) ?_
          repeat (go_big_quiet_step ((refine with_class HBQ_.out ?_; intro hbz_; have HB := aM hbz_; clear hbz_; first | (go_at_call 89; apply Calls.regrown_of; with_reducible refine spec_IsValidFact.calls k1 _ _ l0_0 ((rd_T50 l0_1 x3_1).f0) _ _ ((rd_T50 l0_1 x3_1).f1) true _ ?side1 ?side2 ?side3 ?side4 A5.out; (case side1 => repeat (first | exact (Kd.C_below HR0_0.out HB.out) | exact (Kd.C_below HR189_0.out HB.out) | exact (Kd.C_below HR191_0.out HB.out) | exact (Kd.C_below HR192_0.out HB.out) | (with_reducible refine Kd.C_alloc ?_ _) | (with_reducible refine Kd.C_drewN ?_ _) | (with_reducible refine Kd.C_drew ?_))); (case side2 => first | exact HC0_0.out | exact HC189_0.out | exact HC191_0.out | exact HC192_0.out); (case side3 => repeat (first | exact (Kd.C_below HR189_1.out HB.out) | exact (Kd.C_below HR191_1.out HB.out) | exact (Kd.C_below HR192_1.out HB.out) | (with_reducible refine Kd.C_alloc ?_ _) | (with_reducible refine Kd.C_drewN ?_ _) | (with_reducible refine Kd.C_drew ?_))); (case side4 => first | exact HC189_1.out | exact HC191_1.out | exact HC192_1.out)) | (go_at_call 90; apply Calls.regrown_of; with_reducible refine spec_CompareFacts.calls k1 ((rd_T50 l0_1 (ji8)).f0) _ _ ((rd_T50 l0_1 (ji8)).f1) ((rd_T50 l0_1 x3_1).f0) _ _ ((rd_T50 l0_1 x3_1).f1) t193 _ ?side1 ?side2 ?side3 ?side4 A11.out; (case side1 => repeat (first | exact (Kd.C_below HR191_1.out HB.out) | exact (Kd.C_below HR189_1.out HB.out) | exact (Kd.C_below HR192_1.out HB.out) | (with_reducible refine Kd.C_alloc ?_ _) | (with_reducible refine Kd.C_drewN ?_ _) | (with_reducible refine Kd.C_drew ?_))); (case side2 => first | exact HC191_1.out | exact HC189_1.out | exact HC192_1.out); (case side3 => repeat (first | exact (Kd.C_below HR192_1.out HB.out) | exact (Kd.C_below HR189_1.out HB.out) | exact (Kd.C_below HR191_1.out HB.out) | (with_reducible refine Kd.C_alloc ?_ _) | (with_reducible refine Kd.C_drewN ?_ _) | (with_reducible refine Kd.C_drew ?_))); (case side4 => first | exact HC192_1.out | exact HC189_1.out | exact HC191_1.out)))))
          refine wpQuiet_nil ?_
          intro _ hw_
          obtain ⟨⟨dq_, osq_⟩, hw2_⟩ := hw_
          subst hw2_
          have hb := below_regrown_drew wr dq_ osq_
          have HB := HBS_
          clear HBS_
          clear qf0_ qf1_ qf2_ qf3_ qf4_ qf5_ qf6_ qf7_
          clear HBQ_
          generalize Go.Sort.grow (redrawn wr dq_) osq_ = w20 at hb ⊢
          generalize wr.drew = wd_ at BK187 HB hb
          have n0_ := aM (blk_below (g := gb187) (o := .cells #[.slice A0_0 l0_0.length c0_0, .slice (some ad189) l0_1.length c0_1] 32 (0, 0)) aK hb)
          have n1_ := aM (below_step aG hb)
          clear BK187
          clear HB
          have BK187 := n0_
          have HB := n1_
          clear n0_ n1_
          (try clear hb)
          (try clear hb2)
          (try clear hk)
          (try clear hi)
          try go_wp2
          go_roundg k1
          case measure => have := HK1.out; omega
          case rel => exact ⟨(wrap64 (x3_1 + 1)), (by first | rfl | (simp; done) | (simp [*]; done)), H', ⟨by have := HK1.out; omega⟩, ⟨by (with_reducible repeat (first | refine blk_drewN ?_ _ | refine blk_drew ?_ | refine blk_alloc ?_ _)); exact BK187.out⟩, ⟨by repeat (first | (with_reducible first | exact HB.out | apply below_alloc | apply pw_below_drewN | apply below_drew1 | refine below_set ?_ GE187.out) | exact HB.out)⟩⟩
        ·rw [if_neg c10] at H
         exact absurd H (by simp)
       ·rw [if_neg c9] at H
        exact absurd H (by simp)
      ·rw [if_neg c7] at H
       have c7b0 : decide (0 < x3_1) = false := decide_eq_false c7
       clear c7
       have H' := aM H
       clear H
       have hcz21_0 : wr.cell? ⟨gb187, 0, none⟩ = some (.slice A0_0 l0_0.length c0_0) := (blk_cell BK187.out 0).trans rfl
       have hcz21_1 : wr.cell? ⟨gb187, 1, none⟩ = some (.slice A0_1 l0_1.length c0_1) := (blk_cell BK187.out 1).trans rfl
       have hfz21_0 := blk_frozen BK187.out 0
       have hfz21_1 := blk_frozen BK187.out 1
       try go_wp2
       have n0_ := aM (blk_drew BK187.out)
       have n1_ := aM (below_drew1 HB.out)
       clear BK187
       clear HB
       have BK187 := n0_
       have HB := n1_
       clear n0_ n1_
       have p189 : 0 ≤ (x3_1 : Int) := aD
       have q189 : x3_1 < (l0_1.length : Int) := aD
       obtain ⟨ad189, A189_1, c189_1, e189, hx189_0, hx189_1, hl189_1, hi189_1⟩ := at_T50 HR0_1.out x3_1 p189 q189
       have hw189_1 := hx189_1
       have hw189_0 := hx189_0
       cases e189
       replace hx189_0 := (HB.out.cell (World.block_lt_of_cell? w _ hx189_0)).trans hx189_0
       replace hx189_1 := (HB.out.cell (World.block_lt_of_cell? w _ hx189_1)).trans hx189_1
       have HR189_1 := aM hi189_1
       have HC189_1 := aM hl189_1
       clear hi189_1 hl189_1
       replace p189 := eq_true p189
       replace q189 := eq_true q189
       have qf0_ : ∀ (d_ : Nat) (os_ : Array Obj), (Go.Sort.grow (redrawn wr d_) os_).cell? ⟨gb187, 0, none⟩ = some (.slice A0_0 l0_0.length c0_0) := cell_regrown_drew ((blk_cell BK187.out 0).trans rfl)
       have qf1_ : ∀ (d_ : Nat) (os_ : Array Obj), (Go.Sort.grow (redrawn wr d_) os_).cell? ⟨gb187, 1, none⟩ = some (.slice (some ad189) l0_1.length c0_1) := cell_regrown_drew ((blk_cell BK187.out 1).trans rfl)
       have qf2_ : ∀ (d_ : Nat) (os_ : Array Obj), (Go.Sort.grow (redrawn wr d_) os_).cell? (ad189.add ((x3_1).toNat * 2)) = some (.int .i64 ((rd_T50 l0_1 x3_1).f0)) := cell_regrown_drew ((pw_cell_below HB.out hw189_0))
       have qf3_ : ∀ (d_ : Nat) (os_ : Array Obj), (Go.Sort.grow (redrawn wr d_) os_).cell? ⟨(ad189.add ((x3_1).toNat * 2)).block, (ad189.add ((x3_1).toNat * 2)).off + 1, none⟩ = some (.slice A189_1 ((rd_T50 l0_1 x3_1).f1).length c189_1) := cell_regrown_drew ((pw_cell_below HB.out hw189_1))
       have HBQ_ := aM (below_class HB.out)
       have HBS_ := HB
       clear HB
       refine wp_region_quiet_below (by kernel_rfl) (by kernel_rfl) ?_
       repeat (go_big_quiet_step ((refine with_class HBQ_.out ?_; intro hbz_; have HB := aM hbz_; clear hbz_; first | (go_at_call 89; apply Calls.regrown_of; with_reducible refine spec_IsValidFact.calls k1 _ _ l0_0 ((rd_T50 l0_1 x3_1).f0) _ _ ((rd_T50 l0_1 x3_1).f1) true _ ?side1 ?side2 ?side3 ?side4 A5.out; (case side1 => repeat (first | exact (Kd.C_below HR0_0.out HB.out) | exact (Kd.C_below HR189_0.out HB.out) | (with_reducible refine Kd.C_alloc ?_ _) | (with_reducible refine Kd.C_drewN ?_ _) | (with_reducible refine Kd.C_drew ?_))); (case side2 => first | exact HC0_0.out | exact HC189_0.out); (case side3 => exact aC); (case side4 => first | exact HC189_1.out)))))
       refine wpQuiet_nil ?_
       intro _ hw_
       obtain ⟨⟨dq_, osq_⟩, hw2_⟩ := hw_
       subst hw2_
       have hb := below_regrown_drew wr dq_ osq_
       have HB := HBS_
       clear HBS_
       clear qf0_ qf1_ qf2_ qf3_
       clear HBQ_
       generalize Go.Sort.grow (redrawn wr dq_) osq_ = w23 at hb ⊢
       generalize wr.drew = wd_ at BK187 HB hb
       have n0_ := aM (blk_below (g := gb187) (o := .cells #[.slice A0_0 l0_0.length c0_0, .slice (some ad189) l0_1.length c0_1] 32 (0, 0)) aK hb)
       have n1_ := aM (below_step aG hb)
       clear BK187
       clear HB
       have BK187 := n0_
       have HB := n1_
       clear n0_ n1_
       (try clear hb)
       (try clear hb2)
       (try clear hk)
       (try clear hi)
       try go_wp2
       go_roundg k1
       case measure => have := HK1.out; omega
       case rel => exact ⟨(wrap64 (x3_1 + 1)), (by first | rfl | (simp; done) | (simp [*]; done)), H', ⟨by have := HK1.out; omega⟩, ⟨by (with_reducible repeat (first | refine blk_drewN ?_ _ | refine blk_drew ?_ | refine blk_alloc ?_ _)); exact BK187.out⟩, ⟨by repeat (first | (with_reducible first | exact HB.out | apply below_alloc | apply pw_below_drewN | apply below_drew1 | refine below_set ?_ GE187.out) | exact HB.out)⟩⟩
     ·replace c6 := Bool.eq_false_iff.mpr c6
      subst c6
      have H1 : (some false) = some r := by rw [if_neg (show ¬ (false = true) by decide)] at H; exact H
      clear H
      have H := H1
      clear H1
      obtain rfl := Option.some.inj H
      have hcz24_0 : wr.cell? ⟨gb187, 0, none⟩ = some (.slice A0_0 l0_0.length c0_0) := (blk_cell BK187.out 0).trans rfl
      have hcz24_1 : wr.cell? ⟨gb187, 1, none⟩ = some (.slice A0_1 l0_1.length c0_1) := (blk_cell BK187.out 1).trans rfl
      have hfz24_0 := blk_frozen BK187.out 0
      have hfz24_1 := blk_frozen BK187.out 1
      try go_wp2
      have n0_ := aM (blk_drew BK187.out)
      have n1_ := aM (below_drew1 HB.out)
      clear BK187
      clear HB
      have BK187 := n0_
      have HB := n1_
      clear n0_ n1_
      have p189 : 0 ≤ (x3_1 : Int) := aD
      have q189 : x3_1 < (l0_1.length : Int) := aD
      obtain ⟨ad189, A189_1, c189_1, e189, hx189_0, hx189_1, hl189_1, hi189_1⟩ := at_T50 HR0_1.out x3_1 p189 q189
      have hw189_1 := hx189_1
      have hw189_0 := hx189_0
      cases e189
      replace hx189_0 := (HB.out.cell (World.block_lt_of_cell? w _ hx189_0)).trans hx189_0
      replace hx189_1 := (HB.out.cell (World.block_lt_of_cell? w _ hx189_1)).trans hx189_1
      have HR189_1 := aM hi189_1
      have HC189_1 := aM hl189_1
      clear hi189_1 hl189_1
      replace p189 := eq_true p189
      replace q189 := eq_true q189
      have qf0_ : ∀ (d_ : Nat) (os_ : Array Obj), (Go.Sort.grow (redrawn wr d_) os_).cell? ⟨gb187, 0, none⟩ = some (.slice A0_0 l0_0.length c0_0) := cell_regrown_drew ((blk_cell BK187.out 0).trans rfl)
      have qf1_ : ∀ (d_ : Nat) (os_ : Array Obj), (Go.Sort.grow (redrawn wr d_) os_).cell? ⟨gb187, 1, none⟩ = some (.slice (some ad189) l0_1.length c0_1) := cell_regrown_drew ((blk_cell BK187.out 1).trans rfl)
      have qf2_ : ∀ (d_ : Nat) (os_ : Array Obj), (Go.Sort.grow (redrawn wr d_) os_).cell? (ad189.add ((x3_1).toNat * 2)) = some (.int .i64 ((rd_T50 l0_1 x3_1).f0)) := cell_regrown_drew ((pw_cell_below HB.out hw189_0))
      have qf3_ : ∀ (d_ : Nat) (os_ : Array Obj), (Go.Sort.grow (redrawn wr d_) os_).cell? ⟨(ad189.add ((x3_1).toNat * 2)).block, (ad189.add ((x3_1).toNat * 2)).off + 1, none⟩ = some (.slice A189_1 ((rd_T50 l0_1 x3_1).f1).length c189_1) := cell_regrown_drew ((pw_cell_below HB.out hw189_1))
      have HBQ_ := aM (below_class HB.out)
      have HBS_ := HB
      clear HB
      refine wp_region_quiet_below (by kernel_rfl) (by kernel_rfl) ?_
      repeat (go_big_quiet_step ((refine with_class HBQ_.out ?_; intro hbz_; have HB := aM hbz_; clear hbz_; first | (go_at_call 89; apply Calls.regrown_of; with_reducible refine spec_IsValidFact.calls k1 _ _ l0_0 ((rd_T50 l0_1 x3_1).f0) _ _ ((rd_T50 l0_1 x3_1).f1) false _ ?side1 ?side2 ?side3 ?side4 A5.out; (case side1 => repeat (first | exact (Kd.C_below HR0_0.out HB.out) | exact (Kd.C_below HR189_0.out HB.out) | (with_reducible refine Kd.C_alloc ?_ _) | (with_reducible refine Kd.C_drewN ?_ _) | (with_reducible refine Kd.C_drew ?_))); (case side2 => first | exact HC0_0.out | exact HC189_0.out); (case side3 => exact aC); (case side4 => first | exact HC189_1.out)))))
      refine wpQuiet_nil ?_
      intro _ hw_
      obtain ⟨⟨dq_, osq_⟩, hw2_⟩ := hw_
      subst hw2_
      have hb := below_regrown_drew wr dq_ osq_
      have HB := HBS_
      clear HBS_
      clear qf0_ qf1_ qf2_ qf3_
      clear HBQ_
      generalize Go.Sort.grow (redrawn wr dq_) osq_ = w26 at hb ⊢
      generalize wr.drew = wd_ at BK187 HB hb
      have n0_ := aM (blk_below (g := gb187) (o := .cells #[.slice A0_0 l0_0.length c0_0, .slice (some ad189) l0_1.length c0_1] 32 (0, 0)) aK hb)
      have n1_ := aM (below_step aG hb)
      clear BK187
      clear HB
      have BK187 := n0_
      have HB := n1_
      clear n0_ n1_
      (try clear hb)
      (try clear hb2)
      (try clear hk)
      (try clear hi)
      try go_wp2
      go_ret
      exact ⟨by first | rfl | (simp [errW_none, errW_some] <;> rfl) | (simp [*, errW_none, errW_some] <;> rfl), by repeat (first | (with_reducible first | exact HB.out | apply below_alloc | apply pw_below_drewN | apply below_drew1 | refine below_set ?_ GE187.out) | exact HB.out)⟩
    ·rw [if_neg c4] at H
     exact absurd H (by simp)
   ·rw [if_neg c3] at H
    have c3b0 : decide (x3_1 < (l0_1.length : Int)) = false := decide_eq_false c3
    clear c3
    replace H := Option.bind_eq_some_iff.mp H
    obtain ⟨t188, A270, H⟩ := H
    replace H : (if t188 = true then (some (decide ((l0_1.length : Int) ≤ 14))) else (some false)) = some r := H
    have A27 := aM A270
    clear A270
    by_cases c28 : t188 = true
    ·subst c28
     have H1 : (some (decide ((l0_1.length : Int) ≤ 14))) = some r := by rw [if_pos rfl] at H; exact H
     clear H
     have H := H1
     clear H1
     obtain rfl := Option.some.inj H
     have hcz29_0 : wr.cell? ⟨gb187, 0, none⟩ = some (.slice A0_0 l0_0.length c0_0) := (blk_cell BK187.out 0).trans rfl
     have hcz29_1 : wr.cell? ⟨gb187, 1, none⟩ = some (.slice A0_1 l0_1.length c0_1) := (blk_cell BK187.out 1).trans rfl
     have hfz29_0 := blk_frozen BK187.out 0
     have hfz29_1 := blk_frozen BK187.out 1
     go_wp2_with (first | ((with_reducible refine gate_callee (f := 97) rfl ?_); refine goesL_ (some 41) rfl rfl Try.func97 (by kernel_rfl) rfl #[.slice A0_0 l0_0.length c0_0] rfl (by (try simp only [List.map_toArray, List.map_cons, List.map_nil]); first | done | rfl | (simp only [List.length_drop, List.length_take]; rfl)) ?_; (with_reducible refine (spec_AreValidRelations.calls _ _ l0_0 true _ ?side1 ?side2 A27.out).mono ?_); (case side1 => exact aC); (case side2 => exact HC0_0.out); rintro e w30 ⟨rfl, hb⟩; refine ⟨_, rfl, ?_⟩; have n0_ := aM (blk_below (g := gb187) (o := .cells #[.slice A0_0 l0_0.length c0_0, .slice A0_1 l0_1.length c0_1] 32 (0, 0)) aK hb); have n1_ := aM (below_step aG hb); clear BK187; clear HB; have BK187 := n0_; have HB := n1_; clear n0_ n1_; (try clear hb); (try clear hb2); (try clear hk); (try clear hi); have hcz31_0 : w30.cell? ⟨gb187, 0, none⟩ = some (.slice A0_0 l0_0.length c0_0) := (blk_cell BK187.out 0).trans rfl; have hcz31_1 : w30.cell? ⟨gb187, 1, none⟩ = some (.slice A0_1 l0_1.length c0_1) := (blk_cell BK187.out 1).trans rfl; have hfz31_0 := blk_frozen BK187.out 0; have hfz31_1 := blk_frozen BK187.out 1))
     go_ret
     exact ⟨by first | rfl | (simp [errW_none, errW_some] <;> rfl) | (simp [*, errW_none, errW_some] <;> rfl), by repeat (first | (with_reducible first | exact HB.out | apply below_alloc | apply pw_below_drewN | apply below_drew1 | refine below_set ?_ GE187.out) | exact HB.out)⟩
    ·replace c28 := Bool.eq_false_iff.mpr c28
     subst c28
     have H1 : (some false) = some r := by rw [if_neg (show ¬ (false = true) by decide)] at H; exact H
     clear H
     have H := H1
     clear H1
     obtain rfl := Option.some.inj H
     have hcz32_0 : wr.cell? ⟨gb187, 0, none⟩ = some (.slice A0_0 l0_0.length c0_0) := (blk_cell BK187.out 0).trans rfl
     have hcz32_1 : wr.cell? ⟨gb187, 1, none⟩ = some (.slice A0_1 l0_1.length c0_1) := (blk_cell BK187.out 1).trans rfl
     have hfz32_0 := blk_frozen BK187.out 0
     have hfz32_1 := blk_frozen BK187.out 1
     go_wp2_with (first | ((with_reducible refine gate_callee (f := 97) rfl ?_); refine goesL_ (some 41) rfl rfl Try.func97 (by kernel_rfl) rfl #[.slice A0_0 l0_0.length c0_0] rfl (by (try simp only [List.map_toArray, List.map_cons, List.map_nil]); first | done | rfl | (simp only [List.length_drop, List.length_take]; rfl)) ?_; (with_reducible refine (spec_AreValidRelations.calls _ _ l0_0 false _ ?side1 ?side2 A27.out).mono ?_); (case side1 => exact aC); (case side2 => exact HC0_0.out); rintro e w33 ⟨rfl, hb⟩; refine ⟨_, rfl, ?_⟩; have n0_ := aM (blk_below (g := gb187) (o := .cells #[.slice A0_0 l0_0.length c0_0, .slice A0_1 l0_1.length c0_1] 32 (0, 0)) aK hb); have n1_ := aM (below_step aG hb); clear BK187; clear HB; have BK187 := n0_; have HB := n1_; clear n0_ n1_; (try clear hb); (try clear hb2); (try clear hk); (try clear hi)))
     go_ret
     exact ⟨by first | rfl | (simp [errW_none, errW_some] <;> rfl) | (simp [*, errW_none, errW_some] <;> rfl), by repeat (first | (with_reducible first | exact HB.out | apply below_alloc | apply pw_below_drewN | apply below_drew1 | refine below_set ?_ GE187.out) | exact HB.out)⟩

end Go.Proofs.Ytehlhbidmanbmaa.PFnExactRepairRank
