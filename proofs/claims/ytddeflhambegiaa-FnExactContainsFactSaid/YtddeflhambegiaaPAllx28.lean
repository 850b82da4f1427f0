-- Laid by a program of this claim: what the functions come to, some of them proved by hand.
import Derived.Test.YtddeflhambegiaaPAllx0
import Derived.Test.YtddeflhambegiaaPAllx3
import Derived.Test.YtddeflhambegiaaPAllx7
import Derived.Test.YtddeflhambegiaaPAllx8
namespace Go.Proofs.Ytddeflhambegiaa.PAll
open Go.RowKit Go.Proofs.YtddeflhambegiaaW.PrintWords Go.Proofs.YtddeflhambegiaaW.PrintLast Go.Proofs.YtddeflhambegiaaW.PrintMore
attribute [local go_sem] max2_int min2_int max_two min_two max_three min_three max_four min_four   -- for this text's walks alone
set_option linter.unusedVariables false
set_option linter.unusedSimpArgs false

/-! ### impl_IsValidDatabase: function 48 -/
mutual
def impl_IsValidDatabase.j0 : Nat → Bool → List (S81) → List (S27) → Option (Bool)
  | 0, _, _, _ => none
  | k + 1, x14, x595000, x595001 => if x14 = true then (some false) else (impl_IsValidDatabase.l0 k x595001 (x595001.length : Int) 0 x595000 x595001)
def impl_IsValidDatabase.l0 : Nat → List (S27) → Int → Int → List (S81) → List (S27) → Option (Bool)
  | 0, _, _, _, _, _ => none
  | k + 1, x16, x17, x18, x595000, x595001 => if x18 < x17 then (if 0 ≤ x18 then (if x18 < (x16.length : Int) then ((impl_isFact.f x595000 ((rd_T27 x16 x18).f0) ((rd_T27 x16 x18).f1)).bind fun t598 => (if t598 = true then (if x18 > 0 then (if 0 ≤ (wrap64 (x18 - 1)) then (if (wrap64 (x18 - 1)) < (x595001.length : Int) then ((impl_CompareFacts.f k ((rd_T27 x595001 (wrap64 (x18 - 1))).f0) ((rd_T27 x595001 (wrap64 (x18 - 1))).f1) ((rd_T27 x16 x18).f0) ((rd_T27 x16 x18).f1)).bind fun t600 => (if t600 ≥ 0 then (some false) else (impl_IsValidDatabase.l0 k x16 x17 (wrap64 (x18 + 1)) x595000 x595001))) else (none)) else (none)) else (impl_IsValidDatabase.l0 k x16 x17 (wrap64 (x18 + 1)) x595000 x595001)) else (some false))) else (none)) else (none)) else (some true)
end
def impl_IsValidDatabase.f (k : Nat) (l0_0 : List (S81)) (l0_1 : List (S27)) : Option (Bool) := (impl_AreValidRelations.f l0_0).bind fun t595 => (if t595 = true then (impl_IsValidDatabase.j0 k (decide ((l0_1.length : Int) > 14)) l0_0 l0_1) else (impl_IsValidDatabase.j0 k true l0_0 l0_1))
theorem impl_IsValidDatabase.mono_l : ∀ k, (∀ y0 y1 y2, LeO (impl_IsValidDatabase.j0 k y0 y1 y2) (impl_IsValidDatabase.j0 (k + 1) y0 y1 y2)) ∧ (∀ y0 y1 y2 y3 y4, LeO (impl_IsValidDatabase.l0 k y0 y1 y2 y3 y4) (impl_IsValidDatabase.l0 (k + 1) y0 y1 y2 y3 y4))
  | 0 => ⟨fun _ _ _ r h => by simp [impl_IsValidDatabase.j0] at h, fun _ _ _ _ _ r h => by simp [impl_IsValidDatabase.l0] at h⟩
  | k + 1 => by
    obtain ⟨ih0, ih1⟩ := impl_IsValidDatabase.mono_l k
    refine ⟨?_, ?_⟩
    · intro y0 y1 y2
      unfold impl_IsValidDatabase.j0
      repeat' first
      | (with_reducible exact ih0 _ _ _)
      | (with_reducible exact ih1 _ _ _ _ _)
      | (with_reducible exact impl_CompareFacts.mono _ _ _ _ _)
      | (with_reducible exact LeO.refl _)
      | (with_reducible exact LeO.none _)
      | (with_reducible refine LeO.ite ?_ ?_)
      | (with_reducible refine LeO.bind ?_ (fun _ => ?_))
      | exact ih0 _ _ _
      | exact ih1 _ _ _ _ _
      | exact impl_CompareFacts.mono _ _ _ _ _
      | exact LeO.none _
      | refine LeO.ite ?_ ?_
      | refine LeO.bind ?_ (fun _ => ?_)
    · intro y0 y1 y2 y3 y4
      unfold impl_IsValidDatabase.l0
      repeat' first
      | (with_reducible exact ih0 _ _ _)
      | (with_reducible exact ih1 _ _ _ _ _)
      | (with_reducible exact impl_CompareFacts.mono _ _ _ _ _)
      | (with_reducible exact LeO.refl _)
      | (with_reducible exact LeO.none _)
      | (with_reducible refine LeO.ite ?_ ?_)
      | (with_reducible refine LeO.bind ?_ (fun _ => ?_))
      | exact ih0 _ _ _
      | exact ih1 _ _ _ _ _
      | exact impl_CompareFacts.mono _ _ _ _ _
      | exact LeO.none _
      | refine LeO.ite ?_ ?_
      | refine LeO.bind ?_ (fun _ => ?_)
theorem impl_IsValidDatabase.mono : ∀ a0 a1 k, LeO (impl_IsValidDatabase.f k a0 a1) (impl_IsValidDatabase.f (k + 1) a0 a1) := by
  intro a0 a1 k
  obtain ⟨ih0, ih1⟩ := impl_IsValidDatabase.mono_l k
  unfold impl_IsValidDatabase.f
  repeat' first
      | (with_reducible exact ih0 _ _ _)
      | (with_reducible exact ih1 _ _ _ _ _)
      | (with_reducible exact impl_CompareFacts.mono _ _ _ _ _)
      | (with_reducible exact LeO.refl _)
      | (with_reducible exact LeO.none _)
      | (with_reducible refine LeO.ite ?_ ?_)
      | (with_reducible refine LeO.bind ?_ (fun _ => ?_))
      | exact ih0 _ _ _
      | exact ih1 _ _ _ _ _
      | exact impl_CompareFacts.mono _ _ _ _ _
      | exact LeO.none _
      | refine LeO.ite ?_ ?_
      | refine LeO.bind ?_ (fun _ => ?_)
set_option maxHeartbeats 8000000 in
set_option maxRecDepth 100000 in
theorem impl_IsValidDatabase.calls (k : Nat) (A0_0 : Option Addr) (c0_0 : Nat) (l0_0 : List (S81)) (A0_1 : Option Addr) (c0_1 : Nat) (l0_1 : List (S27)) (r : Bool) (w : World) (hr0_0 : Kd.C k81 w A0_0 l0_0.length l0_0) (hc0_0 : l0_0.length ≤ c0_0) (hr0_1 : Kd.C k27 w A0_1 l0_1.length l0_1) (hc0_1 : l0_1.length ≤ c0_1) (h : impl_IsValidDatabase.f k l0_0 l0_1 = some r) :
    Calls Try.prog 48 #[.agg #[.slice A0_0 l0_0.length c0_0, .slice A0_1 l0_1.length c0_1]] w fun e w' => e = .returned (.bool r) ∧ Below w.heap.size w w' := by
  have hu60 := Try.underlying60
  have hu27 := Try.underlying27
  have HR0_0 := Aside0.mk hr0_0
  have HC0_0 := Aside0.mk hc0_0
  clear hr0_0 hc0_0
  have HR0_1 := Aside0.mk hr0_1
  have HC0_1 := Aside0.mk hc0_1
  clear hr0_1 hc0_1
  have HB := Aside0.mk (Below.refl w.heap.size w)
  have H : ((impl_AreValidRelations.f l0_0).bind fun t595 => (if t595 = true then (impl_IsValidDatabase.j0 k (decide ((l0_1.length : Int) > 14)) l0_0 l0_1) else (impl_IsValidDatabase.j0 k true l0_0 l0_1))) = some r := h
  clear h
  have HC2 := Aside0.mk H
  clear H
  go_enter Try.func48, Try.ntmps48
  go_upto_region 1 with (first | ((with_reducible refine gate_dst (N := 1) rfl ?_); (try (refine gate_guard (by rfl) ?_; dsimp only)); refine box_event ?hg (N := 1) ?hd (cs := #[.slice A0_0 l0_0.length c0_0, .slice A0_1 l0_1.length c0_1]) (t := 60) ?hr ?_; (case hd => rfl); (case hg => rfl); (case hr => first | (go_simp; done) | (go_simp; rfl)); intro gb594 hg w3 hbox hb; have n0_ := Aside0.mk (below_step (by repeat (first | (with_reducible first | exact HB.out | apply below_alloc | apply pw_below_drewN | apply below_drew1) | exact HB.out)) hb); have n1_ := Aside0.mk (hbox); have n2_ := Aside0.mk ((by rw [hg]; exact (below_size (by repeat (first | (with_reducible first | exact HB.out | apply below_alloc | apply pw_below_drewN | apply below_drew1) | exact HB.out))) : w.heap.size ≤ gb594)); have n3_ := Aside0.mk ((by rw [hg]; exact (below_size (by repeat (first | (with_reducible first | exact HB.out | apply below_alloc | apply pw_below_drewN | apply below_drew1) | exact HB.out))) : w.heap.size ≤ gb594)); clear HB; have HB := n0_; have BK594 := n1_; have GW594 := n2_; have GE594 := n3_; clear n0_ n1_ n2_ n3_; clear hb hbox hg))
  (try simp only [Act.put, List.setIfInBounds_toArray, List.set_cons_zero, List.set_cons_succ])
  go_cut [14] (fun v14 wc => ∃ (kq : Nat) (x14_1 : Bool), v14 = .bool x14_1 ∧ Aside0 (impl_IsValidDatabase.j0 kq x14_1 l0_0 l0_1 = some r) ∧ Aside0 (kq ≤ k) ∧ Aside0 (wc.heap[gb594]? = some (.cells #[(.slice A0_0 l0_0.length c0_0), (.slice A0_1 l0_1.length c0_1)] 60 (0, 0))) ∧ Aside0 (Below w.heap.size w wc))
  case first =>
    have H := HC2.out
    clear HC2
    replace H := Option.bind_eq_some_iff.mp H
    obtain ⟨t595, A40, H⟩ := H
    replace H : (if t595 = true then (impl_IsValidDatabase.j0 k (decide ((l0_1.length : Int) > 14)) l0_0 l0_1) else (impl_IsValidDatabase.j0 k true l0_0 l0_1)) = some r := H
    have A4 := Aside0.mk A40
    clear A40
    by_cases c5 : t595 = true
    · subst c5
      have H1 : (impl_IsValidDatabase.j0 k (decide ((l0_1.length : Int) > 14)) l0_0 l0_1) = some r := by rw [if_pos rfl] at H; exact H
      clear H
      have H := H1
      clear H1
      have H' := Aside0.mk H
      clear H
      have hcz6_0 : w3.cell? ⟨gb594, 0, none⟩ = some (.slice A0_0 l0_0.length c0_0) := (blk_cell BK594.out 0).trans rfl
      have hcz6_1 : w3.cell? ⟨gb594, 1, none⟩ = some (.slice A0_1 l0_1.length c0_1) := (blk_cell BK594.out 1).trans rfl
      have hfz6_0 := blk_frozen BK594.out 0
      have hfz6_1 := blk_frozen BK594.out 1
      go_wp2_with (first | ((with_reducible refine gate_callee (f := 69) rfl ?_); refine goesL_ (some 7) rfl rfl Try.func69 (by kernel_rfl) rfl #[.slice A0_0 l0_0.length c0_0] rfl (by (try simp only [List.map_toArray, List.map_cons, List.map_nil]); first | done | rfl | (simp only [List.length_drop, List.length_take]; rfl)) ?_; (with_reducible refine (impl_AreValidRelations.calls _ _ l0_0 true _ ?side1 ?side2 A4.out).mono ?_); (case side1 => repeat (first | exact (Kd.C_below HR0_0.out HB.out) | (with_reducible refine Kd.C_alloc ?_ _) | (with_reducible refine Kd.C_drewN ?_ _) | (with_reducible refine Kd.C_drew ?_))); (case side2 => exact HC0_0.out); rintro e w7 ⟨rfl, hb⟩; refine ⟨_, rfl, ?_⟩; have n0_ := Aside0.mk (blk_below (g := gb594) (o := .cells #[.slice A0_0 l0_0.length c0_0, .slice A0_1 l0_1.length c0_1] 60 (0, 0)) (by (with_reducible repeat (first | refine blk_drewN ?_ _ | refine blk_drew ?_ | refine blk_alloc ?_ _)); exact BK594.out) hb); have n1_ := Aside0.mk (below_step (by repeat (first | (with_reducible first | exact HB.out | apply below_alloc | apply pw_below_drewN | apply below_drew1 | refine below_set ?_ GE594.out) | exact HB.out)) hb); clear BK594; clear HB; have BK594 := n0_; have HB := n1_; clear n0_ n1_; (try clear hb); (try clear hb2); (try clear hk); (try clear hi); have hcz8_0 : w7.cell? ⟨gb594, 0, none⟩ = some (.slice A0_0 l0_0.length c0_0) := (blk_cell BK594.out 0).trans rfl; have hcz8_1 : w7.cell? ⟨gb594, 1, none⟩ = some (.slice A0_1 l0_1.length c0_1) := (blk_cell BK594.out 1).trans rfl; have hfz8_0 := blk_frozen BK594.out 0; have hfz8_1 := blk_frozen BK594.out 1))
      go_meet
      case rel => exact ⟨_, (decide ((l0_1.length : Int) > 14)), (by first | rfl | (simp; done) | (simp [*]; done)), H', ⟨by first | omega | exact Nat.le_refl _⟩, ⟨by (with_reducible repeat (first | refine blk_drewN ?_ _ | refine blk_drew ?_ | refine blk_alloc ?_ _)); exact BK594.out⟩, ⟨by repeat (first | (with_reducible first | exact HB.out | apply below_alloc | apply pw_below_drewN | apply below_drew1 | refine below_set ?_ GE594.out) | exact HB.out)⟩⟩
    · replace c5 := Bool.eq_false_iff.mpr c5
      subst c5
      have H1 : (impl_IsValidDatabase.j0 k true l0_0 l0_1) = some r := by rw [if_neg (show ¬ (false = true) by decide)] at H; exact H
      clear H
      have H := H1
      clear H1
      have H' := Aside0.mk H
      clear H
      have hcz9_0 : w3.cell? ⟨gb594, 0, none⟩ = some (.slice A0_0 l0_0.length c0_0) := (blk_cell BK594.out 0).trans rfl
      have hcz9_1 : w3.cell? ⟨gb594, 1, none⟩ = some (.slice A0_1 l0_1.length c0_1) := (blk_cell BK594.out 1).trans rfl
      have hfz9_0 := blk_frozen BK594.out 0
      have hfz9_1 := blk_frozen BK594.out 1
      go_wp2_with (first | ((with_reducible refine gate_callee (f := 69) rfl ?_); refine goesL_ (some 7) rfl rfl Try.func69 (by kernel_rfl) rfl #[.slice A0_0 l0_0.length c0_0] rfl (by (try simp only [List.map_toArray, List.map_cons, List.map_nil]); first | done | rfl | (simp only [List.length_drop, List.length_take]; rfl)) ?_; (with_reducible refine (impl_AreValidRelations.calls _ _ l0_0 false _ ?side1 ?side2 A4.out).mono ?_); (case side1 => repeat (first | exact (Kd.C_below HR0_0.out HB.out) | (with_reducible refine Kd.C_alloc ?_ _) | (with_reducible refine Kd.C_drewN ?_ _) | (with_reducible refine Kd.C_drew ?_))); (case side2 => exact HC0_0.out); rintro e w10 ⟨rfl, hb⟩; refine ⟨_, rfl, ?_⟩; have n0_ := Aside0.mk (blk_below (g := gb594) (o := .cells #[.slice A0_0 l0_0.length c0_0, .slice A0_1 l0_1.length c0_1] 60 (0, 0)) (by (with_reducible repeat (first | refine blk_drewN ?_ _ | refine blk_drew ?_ | refine blk_alloc ?_ _)); exact BK594.out) hb); have n1_ := Aside0.mk (below_step (by repeat (first | (with_reducible first | exact HB.out | apply below_alloc | apply pw_below_drewN | apply below_drew1 | refine below_set ?_ GE594.out) | exact HB.out)) hb); clear BK594; clear HB; have BK594 := n0_; have HB := n1_; clear n0_ n1_; (try clear hb); (try clear hb2); (try clear hk); (try clear hi)))
      go_meet
      case rel => exact ⟨_, (true), (by first | rfl | (simp; done) | (simp [*]; done)), H', ⟨by first | omega | exact Nat.le_refl _⟩, ⟨by (with_reducible repeat (first | refine blk_drewN ?_ _ | refine blk_drew ?_ | refine blk_alloc ?_ _)); exact BK594.out⟩, ⟨by repeat (first | (with_reducible first | exact HB.out | apply below_alloc | apply pw_below_drewN | apply below_drew1 | refine below_set ?_ GE594.out) | exact HB.out)⟩⟩
  case rest =>
    clear HC2
    try clear p2
    try clear c4
    try clear c5
    try clear c6
    try clear hcz6_0
    try clear hcz6_1
    try clear hcz8_0
    try clear hcz8_1
    try clear hcz9_0
    try clear hcz9_1
    try clear hfz6_0
    try clear hfz6_1
    try clear hfz8_0
    try clear hfz8_1
    try clear hfz9_0
    try clear hfz9_1
    obtain ⟨kq, x14_1, rfl, HA, HJ1, BK594, HB⟩ := hcut
    cases kq with
    | zero => exact absurd HA.out (by simp [impl_IsValidDatabase.j0])
    | succ kj1 =>
      have H := HA.out
      clear HA
      simp only [impl_IsValidDatabase.j0] at H
      by_cases c11 : x14_1 = true
      · subst c11
        have H1 : (some false) = some r := by rw [if_pos rfl] at H; exact H
        clear H
        have H := H1
        clear H1
        obtain rfl := Option.some.inj H
        go_wp2
        go_ret
        exact ⟨by first | rfl | (simp [errW_none, errW_some] <;> rfl) | (simp [*, errW_none, errW_some] <;> rfl), by repeat (first | (with_reducible first | exact HB.out | apply below_alloc | apply pw_below_drewN | apply below_drew1 | refine below_set ?_ GE594.out) | exact HB.out)⟩
      · replace c11 := Bool.eq_false_iff.mpr c11
        subst c11
        have H1 : (impl_IsValidDatabase.l0 kj1 l0_1 (l0_1.length : Int) 0 l0_0 l0_1) = some r := by rw [if_neg (show ¬ (false = true) by decide)] at H; exact H
        clear H
        have H := H1
        clear H1
        have H' := Aside0.mk H
        clear H
        have hcz12_0 : wc.cell? ⟨gb594, 0, none⟩ = some (.slice A0_0 l0_0.length c0_0) := (blk_cell BK594.out 0).trans rfl
        have hcz12_1 : wc.cell? ⟨gb594, 1, none⟩ = some (.slice A0_1 l0_1.length c0_1) := (blk_cell BK594.out 1).trans rfl
        have hfz12_0 := blk_frozen BK594.out 0
        have hfz12_1 := blk_frozen BK594.out 1
        go_wp2
        go_loopg [18] kj1 (fun kq v18 w' => ∃ (x18_2 : Int), v18 = .int .i64 x18_2 ∧ Aside0 (impl_IsValidDatabase.l0 kq l0_1 (l0_1.length : Int) x18_2 l0_0 l0_1 = some r) ∧ Aside0 (kq ≤ kj1) ∧ Aside0 (w'.heap[gb594]? = some (.cells #[(.slice A0_0 l0_0.length c0_0), (.slice A0_1 l0_1.length c0_1)] 60 (0, 0))) ∧ Aside0 (Below w.heap.size w w'))
        case atStart => exact ⟨(0), (by first | rfl | (simp; done) | (simp [*]; done)), H', ⟨Nat.le_refl _⟩, ⟨by (with_reducible repeat (first | refine blk_drewN ?_ _ | refine blk_drew ?_ | refine blk_alloc ?_ _)); exact BK594.out⟩, ⟨by repeat (first | (with_reducible first | exact HB.out | apply below_alloc | apply pw_below_drewN | apply below_drew1 | refine below_set ?_ GE594.out) | exact HB.out)⟩⟩
        case round =>
          clear H'
          try clear c1
          try clear p2
          try clear c4
          try clear c5
          try clear c6
          try clear c11
          try clear hcz12_0
          try clear hcz12_1
          try clear hcz6_0
          try clear hcz6_1
          try clear hcz8_0
          try clear hcz8_1
          try clear hcz9_0
          try clear hcz9_1
          try clear hfz12_0
          try clear hfz12_1
          try clear hfz6_0
          try clear hfz6_1
          try clear hfz8_0
          try clear hfz8_1
          try clear hfz9_0
          try clear hfz9_1
          try clear p2
          obtain ⟨x18_2, rfl, HA, HK2, BK594, HB⟩ := hrel
          cases gk with
          | zero => exact absurd HA.out (by simp [impl_IsValidDatabase.l0])
          | succ k2 =>
            have H := HA.out
            clear HA
            simp only [impl_IsValidDatabase.l0] at H
            by_cases c13 : x18_2 < (l0_1.length : Int)
            · rw [if_pos c13] at H
              have c13b0 : decide (x18_2 < (l0_1.length : Int)) = true := decide_eq_true c13
              clear c13
              by_cases c14 : 0 ≤ x18_2
              · rw [if_pos c14] at H
                have c14b0 : decide (0 ≤ x18_2) = true := decide_eq_true c14
                clear c14
                by_cases c15 : x18_2 < (l0_1.length : Int)
                · rw [if_pos c15] at H
                  have c15b0 : decide (x18_2 < (l0_1.length : Int)) = true := decide_eq_true c15
                  clear c15
                  replace H := Option.bind_eq_some_iff.mp H
                  obtain ⟨t598, A160, H⟩ := H
                  replace H : (if t598 = true then (if x18_2 > 0 then (if 0 ≤ (wrap64 (x18_2 - 1)) then (if (wrap64 (x18_2 - 1)) < (l0_1.length : Int) then ((impl_CompareFacts.f k2 ((rd_T27 l0_1 (wrap64 (x18_2 - 1))).f0) ((rd_T27 l0_1 (wrap64 (x18_2 - 1))).f1) ((rd_T27 l0_1 x18_2).f0) ((rd_T27 l0_1 x18_2).f1)).bind fun t600 => (if t600 ≥ 0 then (some false) else (impl_IsValidDatabase.l0 k2 l0_1 (l0_1.length : Int) (wrap64 (x18_2 + 1)) l0_0 l0_1))) else (none)) else (none)) else (impl_IsValidDatabase.l0 k2 l0_1 (l0_1.length : Int) (wrap64 (x18_2 + 1)) l0_0 l0_1)) else (some false)) = some r := H
                  have A16 := Aside0.mk A160
                  clear A160
                  by_cases c17 : t598 = true
                  · subst c17
                    have H1 : (if x18_2 > 0 then (if 0 ≤ (wrap64 (x18_2 - 1)) then (if (wrap64 (x18_2 - 1)) < (l0_1.length : Int) then ((impl_CompareFacts.f k2 ((rd_T27 l0_1 (wrap64 (x18_2 - 1))).f0) ((rd_T27 l0_1 (wrap64 (x18_2 - 1))).f1) ((rd_T27 l0_1 x18_2).f0) ((rd_T27 l0_1 x18_2).f1)).bind fun t600 => (if t600 ≥ 0 then (some false) else (impl_IsValidDatabase.l0 k2 l0_1 (l0_1.length : Int) (wrap64 (x18_2 + 1)) l0_0 l0_1))) else (none)) else (none)) else (impl_IsValidDatabase.l0 k2 l0_1 (l0_1.length : Int) (wrap64 (x18_2 + 1)) l0_0 l0_1)) = some r := by rw [if_pos rfl] at H; exact H
                    clear H
                    have H := H1
                    clear H1
                    by_cases c18 : x18_2 > 0
                    · rw [if_pos c18] at H
                      have c18b0 : decide (0 < x18_2) = true := decide_eq_true c18
                      clear c18
                      obtain ⟨ji19, hji19⟩ : ∃ j_ : Int, (wrap64 (x18_2 - 1)) = j_ := ⟨_, rfl⟩
                      replace H : (if 0 ≤ (ji19) then (if (ji19) < (l0_1.length : Int) then ((impl_CompareFacts.f k2 ((rd_T27 l0_1 (ji19)).f0) ((rd_T27 l0_1 (ji19)).f1) ((rd_T27 l0_1 x18_2).f0) ((rd_T27 l0_1 x18_2).f1)).bind fun t600 => (if t600 ≥ 0 then (some false) else (impl_IsValidDatabase.l0 k2 l0_1 (l0_1.length : Int) (wrap64 (x18_2 + 1)) l0_0 l0_1))) else (none)) else (none)) = some r := by first | (rw [hji19] at H; exact H) | (simp only [hji19] at H ⊢; exact H)
                      (try rw [hji19] at A16)
                      have hji19w : (IntKind.i64.wrap (x18_2 - 1)) = ji19 := (i64_w _).trans hji19
                      by_cases c20 : 0 ≤ (ji19)
                      · rw [if_pos c20] at H
                        have c20b0 : decide (0 ≤ (ji19)) = true := decide_eq_true c20
                        clear c20
                        by_cases c21 : (ji19) < (l0_1.length : Int)
                        · rw [if_pos c21] at H
                          have c21b0 : decide ((ji19) < (l0_1.length : Int)) = true := decide_eq_true c21
                          clear c21
                          replace H := Option.bind_eq_some_iff.mp H
                          obtain ⟨t600, A220, H⟩ := H
                          replace H : (if t600 ≥ 0 then (some false) else (impl_IsValidDatabase.l0 k2 l0_1 (l0_1.length : Int) (wrap64 (x18_2 + 1)) l0_0 l0_1)) = some r := H
                          have A22 := Aside0.mk A220
                          clear A220
                          by_cases c23 : t600 ≥ 0
                          · rw [if_pos c23] at H
                            have c23b0 : decide (0 ≤ t600) = true := decide_eq_true c23
                            clear c23
                            obtain rfl := Option.some.inj H
                            have p596 : 0 ≤ (x18_2 : Int) := of_decide_eq_true (by first | (with_reducible assumption) | assumption)
                            have q596 : x18_2 < (l0_1.length : Int) := of_decide_eq_true (by first | (with_reducible assumption) | assumption)
                            obtain ⟨ad596, A596_1, c596_1, e596, hx596_0, hx596_1, hl596_1, hi596_1⟩ := at_T27 HR0_1.out x18_2 p596 q596
                            cases e596
                            replace hx596_0 := (HB.out.cell (World.block_lt_of_cell? w _ hx596_0)).trans hx596_0
                            replace hx596_1 := (HB.out.cell (World.block_lt_of_cell? w _ hx596_1)).trans hx596_1
                            have HR596_1 := Aside0.mk hi596_1
                            have HC596_1 := Aside0.mk hl596_1
                            clear hi596_1 hl596_1
                            replace p596 := eq_true p596
                            replace q596 := eq_true q596
                            try go_wp2_with (first | ((with_reducible refine gate_dst (N := 4) rfl ?_); (try (refine gate_guard (by rfl) ?_; dsimp only)); refine box_event ?hg (N := 4) ?hd (cs := #[.int .i64 0, .slice none 0 0]) (t := 27) ?hr ?_; (case hd => rfl); (case hg => rfl); (case hr => first | (go_simp; done) | (go_simp; rfl)); intro gb597 hg w24 hbox hb; have n0_ := Aside0.mk (blk_below (g := gb594) (o := .cells #[.slice A0_0 l0_0.length c0_0, .slice (some ad596) l0_1.length c0_1] 60 (0, 0)) (by (with_reducible repeat (first | refine blk_drewN ?_ _ | refine blk_drew ?_ | refine blk_alloc ?_ _)); exact BK594.out) hb); have n1_ := Aside0.mk (below_step (by repeat (first | (with_reducible first | exact HB.out | apply below_alloc | apply pw_below_drewN | apply below_drew1 | refine below_set ?_ GE594.out) | exact HB.out)) hb); have n2_ := Aside0.mk (hbox); have n3_ := Aside0.mk ((by rw [hg]; exact (below_size (by repeat (first | (with_reducible first | exact HB.out | apply below_alloc | apply pw_below_drewN | apply below_drew1 | refine below_set ?_ GE594.out) | exact HB.out))) : w.heap.size ≤ gb597)); have n4_ := Aside0.mk ((by rw [hg]; exact (below_size (by repeat (first | (with_reducible first | exact HB.out | apply below_alloc | apply pw_below_drewN | apply below_drew1 | refine below_set ?_ GE594.out) | exact HB.out))) : w.heap.size ≤ gb597)); have n5_ := Aside0.mk ((by rw [hg]; exact Nat.ne_of_lt (blk_lt (g := gb594) (o := .cells #[.slice A0_0 l0_0.length c0_0, .slice (some ad596) l0_1.length c0_1] 60 (0, 0)) (by (with_reducible repeat (first | refine blk_drewN ?_ _ | refine blk_drew ?_ | refine blk_alloc ?_ _)); exact BK594.out)) : gb594 ≠ gb597)); have n6_ := Aside0.mk ((by rw [hg]; exact Nat.ne_of_gt (blk_lt (g := gb594) (o := .cells #[.slice A0_0 l0_0.length c0_0, .slice (some ad596) l0_1.length c0_1] 60 (0, 0)) (by (with_reducible repeat (first | refine blk_drewN ?_ _ | refine blk_drew ?_ | refine blk_alloc ?_ _)); exact BK594.out)) : gb597 ≠ gb594)); clear BK594; clear HB; have BK594 := n0_; have HB := n1_; have BK597 := n2_; have GW597 := n3_; have GE597 := n4_; have NB594_597 := n5_; have NB597_594 := n6_; clear n0_ n1_ n2_ n3_ n4_ n5_ n6_; clear hb hbox hg; have hnb25 := NB597_594.out; have hnc25 := NB594_597.out; have hcz26_0 : w24.cell? ⟨gb597, 0, none⟩ = some (.int .i64 0) := (blk_cell BK597.out 0).trans rfl; have hcz26_1 : w24.cell? ⟨gb597, 1, none⟩ = some (.slice none 0 0) := (blk_cell BK597.out 1).trans rfl; have hfz26_0 := blk_frozen BK597.out 0; have hfz26_1 := blk_frozen BK597.out 1))
                            have n0_ : Aside0 (((w24.setCell ⟨gb597, 0, none⟩ (.int .i64 ((rd_T27 l0_1 x18_2).f0))).setCell ⟨gb597, 1, none⟩ (.slice A596_1 ((rd_T27 l0_1 x18_2).f1).length c596_1)).heap[gb594]? = some (.cells #[.slice A0_0 l0_0.length c0_0, .slice (some ad596) l0_1.length c0_1] 60 (0, 0))) := ⟨by (with_reducible repeat (first | refine blk_drewN ?_ _ | refine blk_drew ?_ | refine blk_alloc ?_ _)); refine blk_far ?_ NB594_597.out _; (with_reducible repeat (first | refine blk_drewN ?_ _ | refine blk_drew ?_ | refine blk_alloc ?_ _)); refine blk_far ?_ NB594_597.out _; (with_reducible repeat (first | refine blk_drewN ?_ _ | refine blk_drew ?_ | refine blk_alloc ?_ _)); exact BK594.out⟩
                            have n1_ : Aside0 (((w24.setCell ⟨gb597, 0, none⟩ (.int .i64 ((rd_T27 l0_1 x18_2).f0))).setCell ⟨gb597, 1, none⟩ (.slice A596_1 ((rd_T27 l0_1 x18_2).f1).length c596_1)).heap[gb597]? = some (.cells #[.int .i64 ((rd_T27 l0_1 x18_2).f0), .slice A596_1 ((rd_T27 l0_1 x18_2).f1).length c596_1] 27 (0, 0))) := ⟨by (with_reducible repeat (first | refine blk_drewN ?_ _ | refine blk_drew ?_ | refine blk_alloc ?_ _)); refine blk_put (cs := #[.int .i64 ((rd_T27 l0_1 x18_2).f0), .slice none 0 0]) ?_ 1 _ rfl; (with_reducible repeat (first | refine blk_drewN ?_ _ | refine blk_drew ?_ | refine blk_alloc ?_ _)); refine blk_put (cs := #[.int .i64 0, .slice none 0 0]) ?_ 0 _ rfl; (with_reducible repeat (first | refine blk_drewN ?_ _ | refine blk_drew ?_ | refine blk_alloc ?_ _)); exact BK597.out⟩
                            have n2_ : Aside0 (Below w.heap.size w ((w24.setCell ⟨gb597, 0, none⟩ (.int .i64 ((rd_T27 l0_1 x18_2).f0))).setCell ⟨gb597, 1, none⟩ (.slice A596_1 ((rd_T27 l0_1 x18_2).f1).length c596_1))) := ⟨by repeat (first | (with_reducible first | exact HB.out | apply below_alloc | apply pw_below_drewN | apply below_drew1 | refine below_set ?_ GE594.out | refine below_set ?_ GE597.out) | exact HB.out)⟩
                            (try clear BK594)
                            (try clear BK597)
                            (try clear HB)
                            generalize ((w24.setCell ⟨gb597, 0, none⟩ (.int .i64 ((rd_T27 l0_1 x18_2).f0))).setCell ⟨gb597, 1, none⟩ (.slice A596_1 ((rd_T27 l0_1 x18_2).f1).length c596_1)) = w27 at n0_ n1_ n2_ ⊢
                            have BK594 := n0_
                            have BK597 := n1_
                            have HB := n2_
                            clear n0_ n1_ n2_
                            have n0_ := Aside0.mk (blk_drew BK594.out)
                            have n1_ := Aside0.mk (blk_drew BK597.out)
                            have n2_ := Aside0.mk (below_drew1 HB.out)
                            clear BK594
                            clear BK597
                            clear HB
                            have BK594 := n0_
                            have BK597 := n1_
                            have HB := n2_
                            clear n0_ n1_ n2_
                            have p599 : 0 ≤ ((ji19) : Int) := of_decide_eq_true (by first | (with_reducible assumption) | assumption)
                            have q599 : (ji19) < (l0_1.length : Int) := of_decide_eq_true (by first | (with_reducible assumption) | assumption)
                            obtain ⟨ad599, A599_1, c599_1, e599, hx599_0, hx599_1, hl599_1, hi599_1⟩ := at_T27 HR0_1.out (ji19) p599 q599
                            have hw599_1 := hx599_1
                            have hw599_0 := hx599_0
                            obtain rfl : ad596 = ad599 := (by injection e599)
                            replace hx599_0 := (HB.out.cell (World.block_lt_of_cell? w _ hx599_0)).trans hx599_0
                            replace hx599_1 := (HB.out.cell (World.block_lt_of_cell? w _ hx599_1)).trans hx599_1
                            have HR599_1 := Aside0.mk hi599_1
                            have HC599_1 := Aside0.mk hl599_1
                            clear hi599_1 hl599_1
                            replace p599 := eq_true p599
                            replace q599 := eq_true q599
                            have qf0_ : ∀ (d_ : Nat) (os_ : Array Obj), (Go.Sort.grow (redrawn w27 d_) os_).cell? ⟨gb594, 0, none⟩ = some (.slice A0_0 l0_0.length c0_0) := cell_regrown_drew ((blk_cell BK594.out 0).trans rfl)
                            have qf1_ : ∀ (d_ : Nat) (os_ : Array Obj), (Go.Sort.grow (redrawn w27 d_) os_).cell? ⟨gb594, 1, none⟩ = some (.slice (some ad596) l0_1.length c0_1) := cell_regrown_drew ((blk_cell BK594.out 1).trans rfl)
                            have qf2_ : ∀ (d_ : Nat) (os_ : Array Obj), (Go.Sort.grow (redrawn w27 d_) os_).cell? ⟨gb597, 0, none⟩ = some (.int .i64 ((rd_T27 l0_1 x18_2).f0)) := cell_regrown_drew ((blk_cell BK597.out 0).trans rfl)
                            have qf3_ : ∀ (d_ : Nat) (os_ : Array Obj), (Go.Sort.grow (redrawn w27 d_) os_).cell? ⟨gb597, 1, none⟩ = some (.slice A596_1 ((rd_T27 l0_1 x18_2).f1).length c596_1) := cell_regrown_drew ((blk_cell BK597.out 1).trans rfl)
                            have qf4_ : ∀ (d_ : Nat) (os_ : Array Obj), (Go.Sort.grow (redrawn w27 d_) os_).cell? (ad596.add (((ji19)).toNat * 2)) = some (.int .i64 ((rd_T27 l0_1 (ji19)).f0)) := cell_regrown_drew (((HB.out.cell (World.block_lt_of_cell? w _ hw599_0)).trans hw599_0))
                            have qf5_ : ∀ (d_ : Nat) (os_ : Array Obj), (Go.Sort.grow (redrawn w27 d_) os_).cell? ⟨(ad596.add (((ji19)).toNat * 2)).block, (ad596.add (((ji19)).toNat * 2)).off + 1, none⟩ = some (.slice A599_1 ((rd_T27 l0_1 (ji19)).f1).length c599_1) := cell_regrown_drew (((HB.out.cell (World.block_lt_of_cell? w _ hw599_1)).trans hw599_1))
                            have HBQ_ := Aside0.mk (below_class HB.out)
                            have HBS_ := HB
                            clear HB
                            refine wp_region_quiet_below (by kernel_rfl) (by kernel_rfl) ?_
                            repeat (go_big_quiet_step ((refine with_class HBQ_.out ?_; intro hbz_; have HB := Aside0.mk hbz_; clear hbz_; first | (go_at_call 70; apply Calls.regrown_of; with_reducible refine impl_isFact.calls _ _ l0_0 ((rd_T27 l0_1 x18_2).f0) _ _ ((rd_T27 l0_1 x18_2).f1) true _ ?side1 ?side2 ?side3 ?side4 A16.out; (case side1 => repeat (first | exact (Kd.C_below HR0_0.out HB.out) | exact (Kd.C_below HR599_0.out HB.out) | (with_reducible refine Kd.C_alloc ?_ _) | (with_reducible refine Kd.C_drewN ?_ _) | (with_reducible refine Kd.C_drew ?_))); (case side2 => first | exact HC0_0.out | exact HC599_0.out); (case side3 => repeat (first | exact (Kd.C_below HR596_1.out HB.out) | exact (Kd.C_below HR599_1.out HB.out) | (with_reducible refine Kd.C_alloc ?_ _) | (with_reducible refine Kd.C_drewN ?_ _) | (with_reducible refine Kd.C_drew ?_))); (case side4 => first | exact HC596_1.out | exact HC599_1.out)) | (go_at_call 18; apply Calls.regrown_of; with_reducible refine impl_CompareFacts.calls k2 ((rd_T27 l0_1 (ji19)).f0) _ _ ((rd_T27 l0_1 (ji19)).f1) ((rd_T27 l0_1 x18_2).f0) _ _ ((rd_T27 l0_1 x18_2).f1) t600 _ ?side1 ?side2 ?side3 ?side4 A22.out; (case side1 => repeat (first | exact (Kd.C_below HR599_1.out HB.out) | (with_reducible refine Kd.C_alloc ?_ _) | (with_reducible refine Kd.C_drewN ?_ _) | (with_reducible refine Kd.C_drew ?_))); (case side2 => first | exact HC599_1.out); (case side3 => repeat (first | exact (Kd.C_below HR596_1.out HB.out) | exact (Kd.C_below HR599_1.out HB.out) | (with_reducible refine Kd.C_alloc ?_ _) | (with_reducible refine Kd.C_drewN ?_ _) | (with_reducible refine Kd.C_drew ?_))); (case side4 => first | exact HC596_1.out | exact HC599_1.out)))))
                            refine wpQuiet_nil ?_
                            intro _ hw_
                            obtain ⟨⟨dq_, osq_⟩, hw2_⟩ := hw_
                            subst hw2_
                            have hb := below_regrown_drew w27 dq_ osq_
                            have HB := HBS_
                            clear HBS_
                            clear qf0_ qf1_ qf2_ qf3_ qf4_ qf5_
                            clear HBQ_
                            generalize Go.Sort.grow (redrawn w27 dq_) osq_ = w30 at hb ⊢
                            generalize w27.drew = wd_ at BK594 BK597 HB hb
                            have n0_ := Aside0.mk (blk_below (g := gb594) (o := .cells #[.slice A0_0 l0_0.length c0_0, .slice (some ad596) l0_1.length c0_1] 60 (0, 0)) (by (with_reducible repeat (first | refine blk_drewN ?_ _ | refine blk_drew ?_ | refine blk_alloc ?_ _)); exact BK594.out) hb)
                            have n1_ := Aside0.mk (blk_below (g := gb597) (o := .cells #[.int .i64 ((rd_T27 l0_1 x18_2).f0), .slice A596_1 ((rd_T27 l0_1 x18_2).f1).length c596_1] 27 (0, 0)) (by (with_reducible repeat (first | refine blk_drewN ?_ _ | refine blk_drew ?_ | refine blk_alloc ?_ _)); exact BK597.out) hb)
                            have n2_ := Aside0.mk (below_step (by repeat (first | (with_reducible first | exact HB.out | apply below_alloc | apply pw_below_drewN | apply below_drew1 | refine below_set ?_ GE594.out | refine below_set ?_ GE597.out) | exact HB.out)) hb)
                            clear BK594
                            clear BK597
                            clear HB
                            have BK594 := n0_
                            have BK597 := n1_
                            have HB := n2_
                            clear n0_ n1_ n2_
                            (try clear hb)
                            (try clear hb2)
                            (try clear hk)
                            (try clear hi)
                            try go_wp2
                            go_ret
                            exact ⟨by first | rfl | (simp [errW_none, errW_some] <;> rfl) | (simp only [← hji19]; first | rfl | (simp [errW_none, errW_some] <;> rfl)) | (simp [*, errW_none, errW_some] <;> rfl), by repeat (first | (with_reducible first | exact HB.out | apply below_alloc | apply pw_below_drewN | apply below_drew1 | refine below_set ?_ GE594.out | refine below_set ?_ GE597.out) | exact HB.out)⟩
                          · rw [if_neg c23] at H
                            have c23b0 : decide (0 ≤ t600) = false := decide_eq_false c23
                            clear c23
                            have H' := Aside0.mk H
                            clear H
                            have p596 : 0 ≤ (x18_2 : Int) := of_decide_eq_true (by first | (with_reducible assumption) | assumption)
                            have q596 : x18_2 < (l0_1.length : Int) := of_decide_eq_true (by first | (with_reducible assumption) | assumption)
                            obtain ⟨ad596, A596_1, c596_1, e596, hx596_0, hx596_1, hl596_1, hi596_1⟩ := at_T27 HR0_1.out x18_2 p596 q596
                            cases e596
                            replace hx596_0 := (HB.out.cell (World.block_lt_of_cell? w _ hx596_0)).trans hx596_0
                            replace hx596_1 := (HB.out.cell (World.block_lt_of_cell? w _ hx596_1)).trans hx596_1
                            have HR596_1 := Aside0.mk hi596_1
                            have HC596_1 := Aside0.mk hl596_1
                            clear hi596_1 hl596_1
                            replace p596 := eq_true p596
                            replace q596 := eq_true q596
                            try go_wp2_with (first | ((with_reducible refine gate_dst (N := 4) rfl ?_); (try (refine gate_guard (by rfl) ?_; dsimp only)); refine box_event ?hg (N := 4) ?hd (cs := #[.int .i64 0, .slice none 0 0]) (t := 27) ?hr ?_; (case hd => rfl); (case hg => rfl); (case hr => first | (go_simp; done) | (go_simp; rfl)); intro gb597 hg w31 hbox hb; have n0_ := Aside0.mk (blk_below (g := gb594) (o := .cells #[.slice A0_0 l0_0.length c0_0, .slice (some ad596) l0_1.length c0_1] 60 (0, 0)) (by (with_reducible repeat (first | refine blk_drewN ?_ _ | refine blk_drew ?_ | refine blk_alloc ?_ _)); exact BK594.out) hb); have n1_ := Aside0.mk (below_step (by repeat (first | (with_reducible first | exact HB.out | apply below_alloc | apply pw_below_drewN | apply below_drew1 | refine below_set ?_ GE594.out) | exact HB.out)) hb); have n2_ := Aside0.mk (hbox); have n3_ := Aside0.mk ((by rw [hg]; exact (below_size (by repeat (first | (with_reducible first | exact HB.out | apply below_alloc | apply pw_below_drewN | apply below_drew1 | refine below_set ?_ GE594.out) | exact HB.out))) : w.heap.size ≤ gb597)); have n4_ := Aside0.mk ((by rw [hg]; exact (below_size (by repeat (first | (with_reducible first | exact HB.out | apply below_alloc | apply pw_below_drewN | apply below_drew1 | refine below_set ?_ GE594.out) | exact HB.out))) : w.heap.size ≤ gb597)); have n5_ := Aside0.mk ((by rw [hg]; exact Nat.ne_of_lt (blk_lt (g := gb594) (o := .cells #[.slice A0_0 l0_0.length c0_0, .slice (some ad596) l0_1.length c0_1] 60 (0, 0)) (by (with_reducible repeat (first | refine blk_drewN ?_ _ | refine blk_drew ?_ | refine blk_alloc ?_ _)); exact BK594.out)) : gb594 ≠ gb597)); have n6_ := Aside0.mk ((by rw [hg]; exact Nat.ne_of_gt (blk_lt (g := gb594) (o := .cells #[.slice A0_0 l0_0.length c0_0, .slice (some ad596) l0_1.length c0_1] 60 (0, 0)) (by (with_reducible repeat (first | refine blk_drewN ?_ _ | refine blk_drew ?_ | refine blk_alloc ?_ _)); exact BK594.out)) : gb597 ≠ gb594)); clear BK594; clear HB; have BK594 := n0_; have HB := n1_; have BK597 := n2_; have GW597 := n3_; have GE597 := n4_; have NB594_597 := n5_; have NB597_594 := n6_; clear n0_ n1_ n2_ n3_ n4_ n5_ n6_; clear hb hbox hg; have hnb32 := NB597_594.out; have hnc32 := NB594_597.out; have hcz33_0 : w31.cell? ⟨gb597, 0, none⟩ = some (.int .i64 0) := (blk_cell BK597.out 0).trans rfl; have hcz33_1 : w31.cell? ⟨gb597, 1, none⟩ = some (.slice none 0 0) := (blk_cell BK597.out 1).trans rfl; have hfz33_0 := blk_frozen BK597.out 0; have hfz33_1 := blk_frozen BK597.out 1))
                            have n0_ : Aside0 (((w31.setCell ⟨gb597, 0, none⟩ (.int .i64 ((rd_T27 l0_1 x18_2).f0))).setCell ⟨gb597, 1, none⟩ (.slice A596_1 ((rd_T27 l0_1 x18_2).f1).length c596_1)).heap[gb594]? = some (.cells #[.slice A0_0 l0_0.length c0_0, .slice (some ad596) l0_1.length c0_1] 60 (0, 0))) := ⟨by (with_reducible repeat (first | refine blk_drewN ?_ _ | refine blk_drew ?_ | refine blk_alloc ?_ _)); refine blk_far ?_ NB594_597.out _; (with_reducible repeat (first | refine blk_drewN ?_ _ | refine blk_drew ?_ | refine blk_alloc ?_ _)); refine blk_far ?_ NB594_597.out _; (with_reducible repeat (first | refine blk_drewN ?_ _ | refine blk_drew ?_ | refine blk_alloc ?_ _)); exact BK594.out⟩
                            have n1_ : Aside0 (((w31.setCell ⟨gb597, 0, none⟩ (.int .i64 ((rd_T27 l0_1 x18_2).f0))).setCell ⟨gb597, 1, none⟩ (.slice A596_1 ((rd_T27 l0_1 x18_2).f1).length c596_1)).heap[gb597]? = some (.cells #[.int .i64 ((rd_T27 l0_1 x18_2).f0), .slice A596_1 ((rd_T27 l0_1 x18_2).f1).length c596_1] 27 (0, 0))) := ⟨by (with_reducible repeat (first | refine blk_drewN ?_ _ | refine blk_drew ?_ | refine blk_alloc ?_ _)); refine blk_put (cs := #[.int .i64 ((rd_T27 l0_1 x18_2).f0), .slice none 0 0]) ?_ 1 _ rfl; (with_reducible repeat (first | refine blk_drewN ?_ _ | refine blk_drew ?_ | refine blk_alloc ?_ _)); refine blk_put (cs := #[.int .i64 0, .slice none 0 0]) ?_ 0 _ rfl; (with_reducible repeat (first | refine blk_drewN ?_ _ | refine blk_drew ?_ | refine blk_alloc ?_ _)); exact BK597.out⟩
                            have n2_ : Aside0 (Below w.heap.size w ((w31.setCell ⟨gb597, 0, none⟩ (.int .i64 ((rd_T27 l0_1 x18_2).f0))).setCell ⟨gb597, 1, none⟩ (.slice A596_1 ((rd_T27 l0_1 x18_2).f1).length c596_1))) := ⟨by repeat (first | (with_reducible first | exact HB.out | apply below_alloc | apply pw_below_drewN | apply below_drew1 | refine below_set ?_ GE594.out | refine below_set ?_ GE597.out) | exact HB.out)⟩
                            (try clear BK594)
                            (try clear BK597)
                            (try clear HB)
                            generalize ((w31.setCell ⟨gb597, 0, none⟩ (.int .i64 ((rd_T27 l0_1 x18_2).f0))).setCell ⟨gb597, 1, none⟩ (.slice A596_1 ((rd_T27 l0_1 x18_2).f1).length c596_1)) = w34 at n0_ n1_ n2_ ⊢
                            have BK594 := n0_
                            have BK597 := n1_
                            have HB := n2_
                            clear n0_ n1_ n2_
                            have n0_ := Aside0.mk (blk_drew BK594.out)
                            have n1_ := Aside0.mk (blk_drew BK597.out)
                            have n2_ := Aside0.mk (below_drew1 HB.out)
                            clear BK594
                            clear BK597
                            clear HB
                            have BK594 := n0_
                            have BK597 := n1_
                            have HB := n2_
                            clear n0_ n1_ n2_
                            have p599 : 0 ≤ ((ji19) : Int) := of_decide_eq_true (by first | (with_reducible assumption) | assumption)
                            have q599 : (ji19) < (l0_1.length : Int) := of_decide_eq_true (by first | (with_reducible assumption) | assumption)
                            obtain ⟨ad599, A599_1, c599_1, e599, hx599_0, hx599_1, hl599_1, hi599_1⟩ := at_T27 HR0_1.out (ji19) p599 q599
                            have hw599_1 := hx599_1
                            have hw599_0 := hx599_0
                            obtain rfl : ad596 = ad599 := (by injection e599)
                            replace hx599_0 := (HB.out.cell (World.block_lt_of_cell? w _ hx599_0)).trans hx599_0
                            replace hx599_1 := (HB.out.cell (World.block_lt_of_cell? w _ hx599_1)).trans hx599_1
                            have HR599_1 := Aside0.mk hi599_1
                            have HC599_1 := Aside0.mk hl599_1
                            clear hi599_1 hl599_1
                            replace p599 := eq_true p599
                            replace q599 := eq_true q599
                            have qf0_ : ∀ (d_ : Nat) (os_ : Array Obj), (Go.Sort.grow (redrawn w34 d_) os_).cell? ⟨gb594, 0, none⟩ = some (.slice A0_0 l0_0.length c0_0) := cell_regrown_drew ((blk_cell BK594.out 0).trans rfl)
                            have qf1_ : ∀ (d_ : Nat) (os_ : Array Obj), (Go.Sort.grow (redrawn w34 d_) os_).cell? ⟨gb594, 1, none⟩ = some (.slice (some ad596) l0_1.length c0_1) := cell_regrown_drew ((blk_cell BK594.out 1).trans rfl)
                            have qf2_ : ∀ (d_ : Nat) (os_ : Array Obj), (Go.Sort.grow (redrawn w34 d_) os_).cell? ⟨gb597, 0, none⟩ = some (.int .i64 ((rd_T27 l0_1 x18_2).f0)) := cell_regrown_drew ((blk_cell BK597.out 0).trans rfl)
                            have qf3_ : ∀ (d_ : Nat) (os_ : Array Obj), (Go.Sort.grow (redrawn w34 d_) os_).cell? ⟨gb597, 1, none⟩ = some (.slice A596_1 ((rd_T27 l0_1 x18_2).f1).length c596_1) := cell_regrown_drew ((blk_cell BK597.out 1).trans rfl)
                            have qf4_ : ∀ (d_ : Nat) (os_ : Array Obj), (Go.Sort.grow (redrawn w34 d_) os_).cell? (ad596.add (((ji19)).toNat * 2)) = some (.int .i64 ((rd_T27 l0_1 (ji19)).f0)) := cell_regrown_drew (((HB.out.cell (World.block_lt_of_cell? w _ hw599_0)).trans hw599_0))
                            have qf5_ : ∀ (d_ : Nat) (os_ : Array Obj), (Go.Sort.grow (redrawn w34 d_) os_).cell? ⟨(ad596.add (((ji19)).toNat * 2)).block, (ad596.add (((ji19)).toNat * 2)).off + 1, none⟩ = some (.slice A599_1 ((rd_T27 l0_1 (ji19)).f1).length c599_1) := cell_regrown_drew (((HB.out.cell (World.block_lt_of_cell? w _ hw599_1)).trans hw599_1))
                            have HBQ_ := Aside0.mk (below_class HB.out)
                            have HBS_ := HB
                            clear HB
                            refine wp_region_quiet_below (by kernel_rfl) (by kernel_rfl) ?_
                            repeat (go_big_quiet_step ((refine with_class HBQ_.out ?_; intro hbz_; have HB := Aside0.mk hbz_; clear hbz_; first | (go_at_call 70; apply Calls.regrown_of; with_reducible refine impl_isFact.calls _ _ l0_0 ((rd_T27 l0_1 x18_2).f0) _ _ ((rd_T27 l0_1 x18_2).f1) true _ ?side1 ?side2 ?side3 ?side4 A16.out; (case side1 => repeat (first | exact (Kd.C_below HR0_0.out HB.out) | exact (Kd.C_below HR599_0.out HB.out) | (with_reducible refine Kd.C_alloc ?_ _) | (with_reducible refine Kd.C_drewN ?_ _) | (with_reducible refine Kd.C_drew ?_))); (case side2 => first | exact HC0_0.out | exact HC599_0.out); (case side3 => repeat (first | exact (Kd.C_below HR596_1.out HB.out) | exact (Kd.C_below HR599_1.out HB.out) | (with_reducible refine Kd.C_alloc ?_ _) | (with_reducible refine Kd.C_drewN ?_ _) | (with_reducible refine Kd.C_drew ?_))); (case side4 => first | exact HC596_1.out | exact HC599_1.out)) | (go_at_call 18; apply Calls.regrown_of; with_reducible refine impl_CompareFacts.calls k2 ((rd_T27 l0_1 (ji19)).f0) _ _ ((rd_T27 l0_1 (ji19)).f1) ((rd_T27 l0_1 x18_2).f0) _ _ ((rd_T27 l0_1 x18_2).f1) t600 _ ?side1 ?side2 ?side3 ?side4 A22.out; (case side1 => repeat (first | exact (Kd.C_below HR599_1.out HB.out) | (with_reducible refine Kd.C_alloc ?_ _) | (with_reducible refine Kd.C_drewN ?_ _) | (with_reducible refine Kd.C_drew ?_))); (case side2 => first | exact HC599_1.out); (case side3 => repeat (first | exact (Kd.C_below HR596_1.out HB.out) | exact (Kd.C_below HR599_1.out HB.out) | (with_reducible refine Kd.C_alloc ?_ _) | (with_reducible refine Kd.C_drewN ?_ _) | (with_reducible refine Kd.C_drew ?_))); (case side4 => first | exact HC596_1.out | exact HC599_1.out)))))
                            refine wpQuiet_nil ?_
                            intro _ hw_
                            obtain ⟨⟨dq_, osq_⟩, hw2_⟩ := hw_
                            subst hw2_
                            have hb := below_regrown_drew w34 dq_ osq_
                            have HB := HBS_
                            clear HBS_
                            clear qf0_ qf1_ qf2_ qf3_ qf4_ qf5_
                            clear HBQ_
                            generalize Go.Sort.grow (redrawn w34 dq_) osq_ = w37 at hb ⊢
                            generalize w34.drew = wd_ at BK594 BK597 HB hb
                            have n0_ := Aside0.mk (blk_below (g := gb594) (o := .cells #[.slice A0_0 l0_0.length c0_0, .slice (some ad596) l0_1.length c0_1] 60 (0, 0)) (by (with_reducible repeat (first | refine blk_drewN ?_ _ | refine blk_drew ?_ | refine blk_alloc ?_ _)); exact BK594.out) hb)
                            have n1_ := Aside0.mk (blk_below (g := gb597) (o := .cells #[.int .i64 ((rd_T27 l0_1 x18_2).f0), .slice A596_1 ((rd_T27 l0_1 x18_2).f1).length c596_1] 27 (0, 0)) (by (with_reducible repeat (first | refine blk_drewN ?_ _ | refine blk_drew ?_ | refine blk_alloc ?_ _)); exact BK597.out) hb)
                            have n2_ := Aside0.mk (below_step (by repeat (first | (with_reducible first | exact HB.out | apply below_alloc | apply pw_below_drewN | apply below_drew1 | refine below_set ?_ GE594.out | refine below_set ?_ GE597.out) | exact HB.out)) hb)
                            clear BK594
                            clear BK597
                            clear HB
                            have BK594 := n0_
                            have BK597 := n1_
                            have HB := n2_
                            clear n0_ n1_ n2_
                            (try clear hb)
                            (try clear hb2)
                            (try clear hk)
                            (try clear hi)
                            try go_wp2
                            go_roundg k2
                            case measure => have := HJ1.out; have := HK2.out; omega
                            case rel => exact ⟨(wrap64 (x18_2 + 1)), (by first | rfl | (simp; done) | (simp [*]; done)), H', ⟨by have := HJ1.out; have := HK2.out; omega⟩, ⟨by (with_reducible repeat (first | refine blk_drewN ?_ _ | refine blk_drew ?_ | refine blk_alloc ?_ _)); exact BK594.out⟩, ⟨by repeat (first | (with_reducible first | exact HB.out | apply below_alloc | apply pw_below_drewN | apply below_drew1 | refine below_set ?_ GE594.out | refine below_set ?_ GE597.out) | exact HB.out)⟩⟩
                        · rw [if_neg c21] at H
                          exact absurd H (by simp)
                      · rw [if_neg c20] at H
                        exact absurd H (by simp)
                    · rw [if_neg c18] at H
                      have c18b0 : decide (0 < x18_2) = false := decide_eq_false c18
                      clear c18
                      have H' := Aside0.mk H
                      clear H
                      have p596 : 0 ≤ (x18_2 : Int) := of_decide_eq_true (by first | (with_reducible assumption) | assumption)
                      have q596 : x18_2 < (l0_1.length : Int) := of_decide_eq_true (by first | (with_reducible assumption) | assumption)
                      obtain ⟨ad596, A596_1, c596_1, e596, hx596_0, hx596_1, hl596_1, hi596_1⟩ := at_T27 HR0_1.out x18_2 p596 q596
                      cases e596
                      replace hx596_0 := (HB.out.cell (World.block_lt_of_cell? w _ hx596_0)).trans hx596_0
                      replace hx596_1 := (HB.out.cell (World.block_lt_of_cell? w _ hx596_1)).trans hx596_1
                      have HR596_1 := Aside0.mk hi596_1
                      have HC596_1 := Aside0.mk hl596_1
                      clear hi596_1 hl596_1
                      replace p596 := eq_true p596
                      replace q596 := eq_true q596
                      try go_wp2_with (first | ((with_reducible refine gate_dst (N := 4) rfl ?_); (try (refine gate_guard (by rfl) ?_; dsimp only)); refine box_event ?hg (N := 4) ?hd (cs := #[.int .i64 0, .slice none 0 0]) (t := 27) ?hr ?_; (case hd => rfl); (case hg => rfl); (case hr => first | (go_simp; done) | (go_simp; rfl)); intro gb597 hg w38 hbox hb; have n0_ := Aside0.mk (blk_below (g := gb594) (o := .cells #[.slice A0_0 l0_0.length c0_0, .slice (some ad596) l0_1.length c0_1] 60 (0, 0)) (by (with_reducible repeat (first | refine blk_drewN ?_ _ | refine blk_drew ?_ | refine blk_alloc ?_ _)); exact BK594.out) hb); have n1_ := Aside0.mk (below_step (by repeat (first | (with_reducible first | exact HB.out | apply below_alloc | apply pw_below_drewN | apply below_drew1 | refine below_set ?_ GE594.out) | exact HB.out)) hb); have n2_ := Aside0.mk (hbox); have n3_ := Aside0.mk ((by rw [hg]; exact (below_size (by repeat (first | (with_reducible first | exact HB.out | apply below_alloc | apply pw_below_drewN | apply below_drew1 | refine below_set ?_ GE594.out) | exact HB.out))) : w.heap.size ≤ gb597)); have n4_ := Aside0.mk ((by rw [hg]; exact (below_size (by repeat (first | (with_reducible first | exact HB.out | apply below_alloc | apply pw_below_drewN | apply below_drew1 | refine below_set ?_ GE594.out) | exact HB.out))) : w.heap.size ≤ gb597)); have n5_ := Aside0.mk ((by rw [hg]; exact Nat.ne_of_lt (blk_lt (g := gb594) (o := .cells #[.slice A0_0 l0_0.length c0_0, .slice (some ad596) l0_1.length c0_1] 60 (0, 0)) (by (with_reducible repeat (first | refine blk_drewN ?_ _ | refine blk_drew ?_ | refine blk_alloc ?_ _)); exact BK594.out)) : gb594 ≠ gb597)); have n6_ := Aside0.mk ((by rw [hg]; exact Nat.ne_of_gt (blk_lt (g := gb594) (o := .cells #[.slice A0_0 l0_0.length c0_0, .slice (some ad596) l0_1.length c0_1] 60 (0, 0)) (by (with_reducible repeat (first | refine blk_drewN ?_ _ | refine blk_drew ?_ | refine blk_alloc ?_ _)); exact BK594.out)) : gb597 ≠ gb594)); clear BK594; clear HB; have BK594 := n0_; have HB := n1_; have BK597 := n2_; have GW597 := n3_; have GE597 := n4_; have NB594_597 := n5_; have NB597_594 := n6_; clear n0_ n1_ n2_ n3_ n4_ n5_ n6_; clear hb hbox hg; have hnb39 := NB597_594.out; have hnc39 := NB594_597.out; have hcz40_0 : w38.cell? ⟨gb597, 0, none⟩ = some (.int .i64 0) := (blk_cell BK597.out 0).trans rfl; have hcz40_1 : w38.cell? ⟨gb597, 1, none⟩ = some (.slice none 0 0) := (blk_cell BK597.out 1).trans rfl; have hfz40_0 := blk_frozen BK597.out 0; have hfz40_1 := blk_frozen BK597.out 1))
                      have n0_ : Aside0 (((w38.setCell ⟨gb597, 0, none⟩ (.int .i64 ((rd_T27 l0_1 x18_2).f0))).setCell ⟨gb597, 1, none⟩ (.slice A596_1 ((rd_T27 l0_1 x18_2).f1).length c596_1)).heap[gb594]? = some (.cells #[.slice A0_0 l0_0.length c0_0, .slice (some ad596) l0_1.length c0_1] 60 (0, 0))) := ⟨by (with_reducible repeat (first | refine blk_drewN ?_ _ | refine blk_drew ?_ | refine blk_alloc ?_ _)); refine blk_far ?_ NB594_597.out _; (with_reducible repeat (first | refine blk_drewN ?_ _ | refine blk_drew ?_ | refine blk_alloc ?_ _)); refine blk_far ?_ NB594_597.out _; (with_reducible repeat (first | refine blk_drewN ?_ _ | refine blk_drew ?_ | refine blk_alloc ?_ _)); exact BK594.out⟩
                      have n1_ : Aside0 (((w38.setCell ⟨gb597, 0, none⟩ (.int .i64 ((rd_T27 l0_1 x18_2).f0))).setCell ⟨gb597, 1, none⟩ (.slice A596_1 ((rd_T27 l0_1 x18_2).f1).length c596_1)).heap[gb597]? = some (.cells #[.int .i64 ((rd_T27 l0_1 x18_2).f0), .slice A596_1 ((rd_T27 l0_1 x18_2).f1).length c596_1] 27 (0, 0))) := ⟨by (with_reducible repeat (first | refine blk_drewN ?_ _ | refine blk_drew ?_ | refine blk_alloc ?_ _)); refine blk_put (cs := #[.int .i64 ((rd_T27 l0_1 x18_2).f0), .slice none 0 0]) ?_ 1 _ rfl; (with_reducible repeat (first | refine blk_drewN ?_ _ | refine blk_drew ?_ | refine blk_alloc ?_ _)); refine blk_put (cs := #[.int .i64 0, .slice none 0 0]) ?_ 0 _ rfl; (with_reducible repeat (first | refine blk_drewN ?_ _ | refine blk_drew ?_ | refine blk_alloc ?_ _)); exact BK597.out⟩
                      have n2_ : Aside0 (Below w.heap.size w ((w38.setCell ⟨gb597, 0, none⟩ (.int .i64 ((rd_T27 l0_1 x18_2).f0))).setCell ⟨gb597, 1, none⟩ (.slice A596_1 ((rd_T27 l0_1 x18_2).f1).length c596_1))) := ⟨by repeat (first | (with_reducible first | exact HB.out | apply below_alloc | apply pw_below_drewN | apply below_drew1 | refine below_set ?_ GE594.out | refine below_set ?_ GE597.out) | exact HB.out)⟩
                      (try clear BK594)
                      (try clear BK597)
                      (try clear HB)
                      generalize ((w38.setCell ⟨gb597, 0, none⟩ (.int .i64 ((rd_T27 l0_1 x18_2).f0))).setCell ⟨gb597, 1, none⟩ (.slice A596_1 ((rd_T27 l0_1 x18_2).f1).length c596_1)) = w41 at n0_ n1_ n2_ ⊢
                      have BK594 := n0_
                      have BK597 := n1_
                      have HB := n2_
                      clear n0_ n1_ n2_
                      have n0_ := Aside0.mk (blk_drew BK594.out)
                      have n1_ := Aside0.mk (blk_drew BK597.out)
                      have n2_ := Aside0.mk (below_drew1 HB.out)
                      clear BK594
                      clear BK597
                      clear HB
                      have BK594 := n0_
                      have BK597 := n1_
                      have HB := n2_
                      clear n0_ n1_ n2_
                      have qf0_ : ∀ (d_ : Nat) (os_ : Array Obj), (Go.Sort.grow (redrawn w41 d_) os_).cell? ⟨gb594, 0, none⟩ = some (.slice A0_0 l0_0.length c0_0) := cell_regrown_drew ((blk_cell BK594.out 0).trans rfl)
                      have qf1_ : ∀ (d_ : Nat) (os_ : Array Obj), (Go.Sort.grow (redrawn w41 d_) os_).cell? ⟨gb594, 1, none⟩ = some (.slice (some ad596) l0_1.length c0_1) := cell_regrown_drew ((blk_cell BK594.out 1).trans rfl)
                      have qf2_ : ∀ (d_ : Nat) (os_ : Array Obj), (Go.Sort.grow (redrawn w41 d_) os_).cell? ⟨gb597, 0, none⟩ = some (.int .i64 ((rd_T27 l0_1 x18_2).f0)) := cell_regrown_drew ((blk_cell BK597.out 0).trans rfl)
                      have qf3_ : ∀ (d_ : Nat) (os_ : Array Obj), (Go.Sort.grow (redrawn w41 d_) os_).cell? ⟨gb597, 1, none⟩ = some (.slice A596_1 ((rd_T27 l0_1 x18_2).f1).length c596_1) := cell_regrown_drew ((blk_cell BK597.out 1).trans rfl)
                      have HBQ_ := Aside0.mk (below_class HB.out)
                      have HBS_ := HB
                      clear HB
                      refine wp_region_quiet_below (by kernel_rfl) (by kernel_rfl) ?_
                      repeat (go_big_quiet_step ((refine with_class HBQ_.out ?_; intro hbz_; have HB := Aside0.mk hbz_; clear hbz_; first | (go_at_call 70; apply Calls.regrown_of; with_reducible refine impl_isFact.calls _ _ l0_0 ((rd_T27 l0_1 x18_2).f0) _ _ ((rd_T27 l0_1 x18_2).f1) true _ ?side1 ?side2 ?side3 ?side4 A16.out; (case side1 => repeat (first | exact (Kd.C_below HR0_0.out HB.out) | (with_reducible refine Kd.C_alloc ?_ _) | (with_reducible refine Kd.C_drewN ?_ _) | (with_reducible refine Kd.C_drew ?_))); (case side2 => first | exact HC0_0.out); (case side3 => repeat (first | exact (Kd.C_below HR596_1.out HB.out) | (with_reducible refine Kd.C_alloc ?_ _) | (with_reducible refine Kd.C_drewN ?_ _) | (with_reducible refine Kd.C_drew ?_))); (case side4 => first | exact HC596_1.out)))))
                      refine wpQuiet_nil ?_
                      intro _ hw_
                      obtain ⟨⟨dq_, osq_⟩, hw2_⟩ := hw_
                      subst hw2_
                      have hb := below_regrown_drew w41 dq_ osq_
                      have HB := HBS_
                      clear HBS_
                      clear qf0_ qf1_ qf2_ qf3_
                      clear HBQ_
                      generalize Go.Sort.grow (redrawn w41 dq_) osq_ = w43 at hb ⊢
                      generalize w41.drew = wd_ at BK594 BK597 HB hb
                      have n0_ := Aside0.mk (blk_below (g := gb594) (o := .cells #[.slice A0_0 l0_0.length c0_0, .slice (some ad596) l0_1.length c0_1] 60 (0, 0)) (by (with_reducible repeat (first | refine blk_drewN ?_ _ | refine blk_drew ?_ | refine blk_alloc ?_ _)); exact BK594.out) hb)
                      have n1_ := Aside0.mk (blk_below (g := gb597) (o := .cells #[.int .i64 ((rd_T27 l0_1 x18_2).f0), .slice A596_1 ((rd_T27 l0_1 x18_2).f1).length c596_1] 27 (0, 0)) (by (with_reducible repeat (first | refine blk_drewN ?_ _ | refine blk_drew ?_ | refine blk_alloc ?_ _)); exact BK597.out) hb)
                      have n2_ := Aside0.mk (below_step (by repeat (first | (with_reducible first | exact HB.out | apply below_alloc | apply pw_below_drewN | apply below_drew1 | refine below_set ?_ GE594.out | refine below_set ?_ GE597.out) | exact HB.out)) hb)
                      clear BK594
                      clear BK597
                      clear HB
                      have BK594 := n0_
                      have BK597 := n1_
                      have HB := n2_
                      clear n0_ n1_ n2_
                      (try clear hb)
                      (try clear hb2)
                      (try clear hk)
                      (try clear hi)
                      try go_wp2
                      go_roundg k2
                      case measure => have := HJ1.out; have := HK2.out; omega
                      case rel => exact ⟨(wrap64 (x18_2 + 1)), (by first | rfl | (simp; done) | (simp [*]; done)), H', ⟨by have := HJ1.out; have := HK2.out; omega⟩, ⟨by (with_reducible repeat (first | refine blk_drewN ?_ _ | refine blk_drew ?_ | refine blk_alloc ?_ _)); exact BK594.out⟩, ⟨by repeat (first | (with_reducible first | exact HB.out | apply below_alloc | apply pw_below_drewN | apply below_drew1 | refine below_set ?_ GE594.out | refine below_set ?_ GE597.out) | exact HB.out)⟩⟩
                  · replace c17 := Bool.eq_false_iff.mpr c17
                    subst c17
                    have H1 : (some false) = some r := by rw [if_neg (show ¬ (false = true) by decide)] at H; exact H
                    clear H
                    have H := H1
                    clear H1
                    obtain rfl := Option.some.inj H
                    have p596 : 0 ≤ (x18_2 : Int) := of_decide_eq_true (by first | (with_reducible assumption) | assumption)
                    have q596 : x18_2 < (l0_1.length : Int) := of_decide_eq_true (by first | (with_reducible assumption) | assumption)
                    obtain ⟨ad596, A596_1, c596_1, e596, hx596_0, hx596_1, hl596_1, hi596_1⟩ := at_T27 HR0_1.out x18_2 p596 q596
                    cases e596
                    replace hx596_0 := (HB.out.cell (World.block_lt_of_cell? w _ hx596_0)).trans hx596_0
                    replace hx596_1 := (HB.out.cell (World.block_lt_of_cell? w _ hx596_1)).trans hx596_1
                    have HR596_1 := Aside0.mk hi596_1
                    have HC596_1 := Aside0.mk hl596_1
                    clear hi596_1 hl596_1
                    replace p596 := eq_true p596
                    replace q596 := eq_true q596
                    try go_wp2_with (first | ((with_reducible refine gate_dst (N := 4) rfl ?_); (try (refine gate_guard (by rfl) ?_; dsimp only)); refine box_event ?hg (N := 4) ?hd (cs := #[.int .i64 0, .slice none 0 0]) (t := 27) ?hr ?_; (case hd => rfl); (case hg => rfl); (case hr => first | (go_simp; done) | (go_simp; rfl)); intro gb597 hg w44 hbox hb; have n0_ := Aside0.mk (blk_below (g := gb594) (o := .cells #[.slice A0_0 l0_0.length c0_0, .slice (some ad596) l0_1.length c0_1] 60 (0, 0)) (by (with_reducible repeat (first | refine blk_drewN ?_ _ | refine blk_drew ?_ | refine blk_alloc ?_ _)); exact BK594.out) hb); have n1_ := Aside0.mk (below_step (by repeat (first | (with_reducible first | exact HB.out | apply below_alloc | apply pw_below_drewN | apply below_drew1 | refine below_set ?_ GE594.out) | exact HB.out)) hb); have n2_ := Aside0.mk (hbox); have n3_ := Aside0.mk ((by rw [hg]; exact (below_size (by repeat (first | (with_reducible first | exact HB.out | apply below_alloc | apply pw_below_drewN | apply below_drew1 | refine below_set ?_ GE594.out) | exact HB.out))) : w.heap.size ≤ gb597)); have n4_ := Aside0.mk ((by rw [hg]; exact (below_size (by repeat (first | (with_reducible first | exact HB.out | apply below_alloc | apply pw_below_drewN | apply below_drew1 | refine below_set ?_ GE594.out) | exact HB.out))) : w.heap.size ≤ gb597)); have n5_ := Aside0.mk ((by rw [hg]; exact Nat.ne_of_lt (blk_lt (g := gb594) (o := .cells #[.slice A0_0 l0_0.length c0_0, .slice (some ad596) l0_1.length c0_1] 60 (0, 0)) (by (with_reducible repeat (first | refine blk_drewN ?_ _ | refine blk_drew ?_ | refine blk_alloc ?_ _)); exact BK594.out)) : gb594 ≠ gb597)); have n6_ := Aside0.mk ((by rw [hg]; exact Nat.ne_of_gt (blk_lt (g := gb594) (o := .cells #[.slice A0_0 l0_0.length c0_0, .slice (some ad596) l0_1.length c0_1] 60 (0, 0)) (by (with_reducible repeat (first | refine blk_drewN ?_ _ | refine blk_drew ?_ | refine blk_alloc ?_ _)); exact BK594.out)) : gb597 ≠ gb594)); clear BK594; clear HB; have BK594 := n0_; have HB := n1_; have BK597 := n2_; have GW597 := n3_; have GE597 := n4_; have NB594_597 := n5_; have NB597_594 := n6_; clear n0_ n1_ n2_ n3_ n4_ n5_ n6_; clear hb hbox hg; have hnb45 := NB597_594.out; have hnc45 := NB594_597.out; have hcz46_0 : w44.cell? ⟨gb597, 0, none⟩ = some (.int .i64 0) := (blk_cell BK597.out 0).trans rfl; have hcz46_1 : w44.cell? ⟨gb597, 1, none⟩ = some (.slice none 0 0) := (blk_cell BK597.out 1).trans rfl; have hfz46_0 := blk_frozen BK597.out 0; have hfz46_1 := blk_frozen BK597.out 1))
                    have n0_ : Aside0 (((w44.setCell ⟨gb597, 0, none⟩ (.int .i64 ((rd_T27 l0_1 x18_2).f0))).setCell ⟨gb597, 1, none⟩ (.slice A596_1 ((rd_T27 l0_1 x18_2).f1).length c596_1)).heap[gb594]? = some (.cells #[.slice A0_0 l0_0.length c0_0, .slice (some ad596) l0_1.length c0_1] 60 (0, 0))) := ⟨by (with_reducible repeat (first | refine blk_drewN ?_ _ | refine blk_drew ?_ | refine blk_alloc ?_ _)); refine blk_far ?_ NB594_597.out _; (with_reducible repeat (first | refine blk_drewN ?_ _ | refine blk_drew ?_ | refine blk_alloc ?_ _)); refine blk_far ?_ NB594_597.out _; (with_reducible repeat (first | refine blk_drewN ?_ _ | refine blk_drew ?_ | refine blk_alloc ?_ _)); exact BK594.out⟩
                    have n1_ : Aside0 (((w44.setCell ⟨gb597, 0, none⟩ (.int .i64 ((rd_T27 l0_1 x18_2).f0))).setCell ⟨gb597, 1, none⟩ (.slice A596_1 ((rd_T27 l0_1 x18_2).f1).length c596_1)).heap[gb597]? = some (.cells #[.int .i64 ((rd_T27 l0_1 x18_2).f0), .slice A596_1 ((rd_T27 l0_1 x18_2).f1).length c596_1] 27 (0, 0))) := ⟨by (with_reducible repeat (first | refine blk_drewN ?_ _ | refine blk_drew ?_ | refine blk_alloc ?_ _)); refine blk_put (cs := #[.int .i64 ((rd_T27 l0_1 x18_2).f0), .slice none 0 0]) ?_ 1 _ rfl; (with_reducible repeat (first | refine blk_drewN ?_ _ | refine blk_drew ?_ | refine blk_alloc ?_ _)); refine blk_put (cs := #[.int .i64 0, .slice none 0 0]) ?_ 0 _ rfl; (with_reducible repeat (first | refine blk_drewN ?_ _ | refine blk_drew ?_ | refine blk_alloc ?_ _)); exact BK597.out⟩
                    have n2_ : Aside0 (Below w.heap.size w ((w44.setCell ⟨gb597, 0, none⟩ (.int .i64 ((rd_T27 l0_1 x18_2).f0))).setCell ⟨gb597, 1, none⟩ (.slice A596_1 ((rd_T27 l0_1 x18_2).f1).length c596_1))) := ⟨by repeat (first | (with_reducible first | exact HB.out | apply below_alloc | apply pw_below_drewN | apply below_drew1 | refine below_set ?_ GE594.out | refine below_set ?_ GE597.out) | exact HB.out)⟩
                    (try clear BK594)
                    (try clear BK597)
                    (try clear HB)
                    generalize ((w44.setCell ⟨gb597, 0, none⟩ (.int .i64 ((rd_T27 l0_1 x18_2).f0))).setCell ⟨gb597, 1, none⟩ (.slice A596_1 ((rd_T27 l0_1 x18_2).f1).length c596_1)) = w47 at n0_ n1_ n2_ ⊢
                    have BK594 := n0_
                    have BK597 := n1_
                    have HB := n2_
                    clear n0_ n1_ n2_
                    have n0_ := Aside0.mk (blk_drew BK594.out)
                    have n1_ := Aside0.mk (blk_drew BK597.out)
                    have n2_ := Aside0.mk (below_drew1 HB.out)
                    clear BK594
                    clear BK597
                    clear HB
                    have BK594 := n0_
                    have BK597 := n1_
                    have HB := n2_
                    clear n0_ n1_ n2_
                    have qf0_ : ∀ (d_ : Nat) (os_ : Array Obj), (Go.Sort.grow (redrawn w47 d_) os_).cell? ⟨gb594, 0, none⟩ = some (.slice A0_0 l0_0.length c0_0) := cell_regrown_drew ((blk_cell BK594.out 0).trans rfl)
                    have qf1_ : ∀ (d_ : Nat) (os_ : Array Obj), (Go.Sort.grow (redrawn w47 d_) os_).cell? ⟨gb594, 1, none⟩ = some (.slice (some ad596) l0_1.length c0_1) := cell_regrown_drew ((blk_cell BK594.out 1).trans rfl)
                    have qf2_ : ∀ (d_ : Nat) (os_ : Array Obj), (Go.Sort.grow (redrawn w47 d_) os_).cell? ⟨gb597, 0, none⟩ = some (.int .i64 ((rd_T27 l0_1 x18_2).f0)) := cell_regrown_drew ((blk_cell BK597.out 0).trans rfl)
                    have qf3_ : ∀ (d_ : Nat) (os_ : Array Obj), (Go.Sort.grow (redrawn w47 d_) os_).cell? ⟨gb597, 1, none⟩ = some (.slice A596_1 ((rd_T27 l0_1 x18_2).f1).length c596_1) := cell_regrown_drew ((blk_cell BK597.out 1).trans rfl)
                    have HBQ_ := Aside0.mk (below_class HB.out)
                    have HBS_ := HB
                    clear HB
                    refine wp_region_quiet_below (by kernel_rfl) (by kernel_rfl) ?_
                    repeat (go_big_quiet_step ((refine with_class HBQ_.out ?_; intro hbz_; have HB := Aside0.mk hbz_; clear hbz_; first | (go_at_call 70; apply Calls.regrown_of; with_reducible refine impl_isFact.calls _ _ l0_0 ((rd_T27 l0_1 x18_2).f0) _ _ ((rd_T27 l0_1 x18_2).f1) false _ ?side1 ?side2 ?side3 ?side4 A16.out; (case side1 => repeat (first | exact (Kd.C_below HR0_0.out HB.out) | (with_reducible refine Kd.C_alloc ?_ _) | (with_reducible refine Kd.C_drewN ?_ _) | (with_reducible refine Kd.C_drew ?_))); (case side2 => first | exact HC0_0.out); (case side3 => repeat (first | exact (Kd.C_below HR596_1.out HB.out) | (with_reducible refine Kd.C_alloc ?_ _) | (with_reducible refine Kd.C_drewN ?_ _) | (with_reducible refine Kd.C_drew ?_))); (case side4 => first | exact HC596_1.out)))))
                    refine wpQuiet_nil ?_
                    intro _ hw_
                    obtain ⟨⟨dq_, osq_⟩, hw2_⟩ := hw_
                    subst hw2_
                    have hb := below_regrown_drew w47 dq_ osq_
                    have HB := HBS_
                    clear HBS_
                    clear qf0_ qf1_ qf2_ qf3_
                    clear HBQ_
                    generalize Go.Sort.grow (redrawn w47 dq_) osq_ = w49 at hb ⊢
                    generalize w47.drew = wd_ at BK594 BK597 HB hb
                    have n0_ := Aside0.mk (blk_below (g := gb594) (o := .cells #[.slice A0_0 l0_0.length c0_0, .slice (some ad596) l0_1.length c0_1] 60 (0, 0)) (by (with_reducible repeat (first | refine blk_drewN ?_ _ | refine blk_drew ?_ | refine blk_alloc ?_ _)); exact BK594.out) hb)
                    have n1_ := Aside0.mk (blk_below (g := gb597) (o := .cells #[.int .i64 ((rd_T27 l0_1 x18_2).f0), .slice A596_1 ((rd_T27 l0_1 x18_2).f1).length c596_1] 27 (0, 0)) (by (with_reducible repeat (first | refine blk_drewN ?_ _ | refine blk_drew ?_ | refine blk_alloc ?_ _)); exact BK597.out) hb)
                    have n2_ := Aside0.mk (below_step (by repeat (first | (with_reducible first | exact HB.out | apply below_alloc | apply pw_below_drewN | apply below_drew1 | refine below_set ?_ GE594.out | refine below_set ?_ GE597.out) | exact HB.out)) hb)
                    clear BK594
                    clear BK597
                    clear HB
                    have BK594 := n0_
                    have BK597 := n1_
                    have HB := n2_
                    clear n0_ n1_ n2_
                    (try clear hb)
                    (try clear hb2)
                    (try clear hk)
                    (try clear hi)
                    try go_wp2
                    go_ret
                    exact ⟨by first | rfl | (simp [errW_none, errW_some] <;> rfl) | (simp [*, errW_none, errW_some] <;> rfl), by repeat (first | (with_reducible first | exact HB.out | apply below_alloc | apply pw_below_drewN | apply below_drew1 | refine below_set ?_ GE594.out | refine below_set ?_ GE597.out) | exact HB.out)⟩
                · rw [if_neg c15] at H
                  exact absurd H (by simp)
              · rw [if_neg c14] at H
                exact absurd H (by simp)
            · rw [if_neg c13] at H
              have c13b0 : decide (x18_2 < (l0_1.length : Int)) = false := decide_eq_false c13
              clear c13
              obtain rfl := Option.some.inj H
              go_wp2
              go_ret
              exact ⟨by first | rfl | (simp [errW_none, errW_some] <;> rfl) | (simp [*, errW_none, errW_some] <;> rfl), by repeat (first | (with_reducible first | exact HB.out | apply below_alloc | apply pw_below_drewN | apply below_drew1 | refine below_set ?_ GE594.out) | exact HB.out)⟩

end Go.Proofs.Ytddeflhambegiaa.PAll
