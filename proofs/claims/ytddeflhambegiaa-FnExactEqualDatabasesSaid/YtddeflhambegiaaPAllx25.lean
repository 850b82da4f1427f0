-- Laid by a program of this claim: what the functions come to, some of them proved by hand.
import Derived.Test.YtddeflhambegiaaPAllx0
import Derived.Test.YtddeflhambegiaaPAllx1
import Derived.Test.YtddeflhambegiaaPAllx3
import Derived.Test.YtddeflhambegiaaPAllx22
namespace Go.Proofs.Ytddeflhambegiaa.PAll
open Go.RowKit Go.Proofs.YtddeflhambegiaaW.PrintWords Go.Proofs.YtddeflhambegiaaW.PrintLast Go.Proofs.YtddeflhambegiaaW.PrintMore
attribute [local go_sem] max2_int min2_int max_two min_two max_three min_three max_four min_four   -- for this text's walks alone
set_option linter.unusedVariables false
set_option linter.unusedSimpArgs false

attribute [local go_sem high] eqA81
/-! ### impl_Relation: function 89 -/
def impl_Relation.l0 : Nat → List (S81) → List (S81) → Int → Int → Option (Bool)
  | 0, _, _, _, _ => none
  | k + 1, x0, x1, x12, x13 => if x13 < x12 then (if 0 ≤ x13 then (if x13 < (x0.length : Int) then (if x13 < (x1.length : Int) then (if (!((((rd_T81 x0 x13).f0).toList) == (((rd_T81 x1 x13).f0).toList)) || (!(((rd_T81 x0 x13).f1) == ((rd_T81 x1 x13).f1)) || (!(((rd_T81 x0 x13).f2) == ((rd_T81 x1 x13).f2))))) = true then (some false) else (impl_Relation.l0 k x0 x1 x12 (wrap64 (x13 + 1)))) else (none)) else (none)) else (none)) else (some true)
def impl_Relation.f (k : Nat) (l0 : List (S81)) (l1 : List (S81)) : Option (Bool) := if (l0.length : Int) = (l1.length : Int) then (impl_Relation.l0 k l0 l1 (l0.length : Int) 0) else (some false)
theorem impl_Relation.mono_l : ∀ k, (∀ y0 y1 y2 y3, LeO (impl_Relation.l0 k y0 y1 y2 y3) (impl_Relation.l0 (k + 1) y0 y1 y2 y3))
  | 0 => fun _ _ _ _ r h => by simp [impl_Relation.l0] at h
  | k + 1 => by
    have ih0 := impl_Relation.mono_l k
    · intro y0 y1 y2 y3
      unfold impl_Relation.l0
      repeat' first
      | (with_reducible exact ih0 _ _ _ _)
      | (with_reducible exact LeO.refl _)
      | (with_reducible exact LeO.none _)
      | (with_reducible refine LeO.ite ?_ ?_)
      | (with_reducible refine LeO.bind ?_ (fun _ => ?_))
      | exact ih0 _ _ _ _
      | exact LeO.none _
      | refine LeO.ite ?_ ?_
      | refine LeO.bind ?_ (fun _ => ?_)
theorem impl_Relation.mono : ∀ a0 a1 k, LeO (impl_Relation.f k a0 a1) (impl_Relation.f (k + 1) a0 a1) := by
  intro a0 a1 k
  have ih0 := impl_Relation.mono_l k
  unfold impl_Relation.f
  repeat' first
      | (with_reducible exact ih0 _ _ _ _)
      | (with_reducible exact LeO.refl _)
      | (with_reducible exact LeO.none _)
      | (with_reducible refine LeO.ite ?_ ?_)
      | (with_reducible refine LeO.bind ?_ (fun _ => ?_))
      | exact ih0 _ _ _ _
      | exact LeO.none _
      | refine LeO.ite ?_ ?_
      | refine LeO.bind ?_ (fun _ => ?_)
set_option maxHeartbeats 8000000 in
set_option maxRecDepth 100000 in
theorem impl_Relation.calls (k : Nat) (A0 : Option Addr) (c0 : Nat) (l0 : List (S81)) (A1 : Option Addr) (c1 : Nat) (l1 : List (S81)) (r : Bool) (w : World) (hr0 : Kd.C k81 w A0 l0.length l0) (hc0 : l0.length ≤ c0) (hr1 : Kd.C k81 w A1 l1.length l1) (hc1 : l1.length ≤ c1) (h : impl_Relation.f k l0 l1 = some r) :
    Calls Try.prog 89 #[.slice A0 l0.length c0, .slice A1 l1.length c1] w fun e w' => e = .returned (.bool r) ∧ Drawn0 w w' := by
  have hu81 := Try.underlying81
  have HR0 := Aside0.mk hr0
  have HC0 := Aside0.mk hc0
  clear hr0 hc0
  have HR1 := Aside0.mk hr1
  have HC1 := Aside0.mk hc1
  clear hr1 hc1
  have H : (if (l0.length : Int) = (l1.length : Int) then (impl_Relation.l0 k l0 l1 (l0.length : Int) 0) else (some false)) = some r := h
  clear h
  by_cases c3 : (l0.length : Int) = (l1.length : Int)
  · rw [if_pos c3] at H
    have c3b0 : ((l0.length : Int) == (l1.length : Int)) = true := beq_iff_eq.mpr c3
    have c3b1 : ((l0.length : Int) != (l1.length : Int)) = false := bne_eq_false_iff_eq.mpr c3
    have c3b2 : (l0.length == l1.length) = true := by first | simpa using c3 | (simp at c3 ⊢; omega)
    clear c3
    have H' := Aside0.mk H
    clear H
    go_enter Try.func89, Try.ntmps89
    go_wp2
    repeat (go_quiet (fail); try go_wp2)
    go_loopg [13] k (fun kq v13 w' => ∃ (x13_1 : Int), v13 = .int .i64 x13_1 ∧ Aside0 (impl_Relation.l0 kq l0 l1 (l0.length : Int) x13_1 = some r) ∧ Aside0 (kq ≤ k) ∧ Drawn0 w w')
    case atStart => exact ⟨(0), (by first | rfl | (simp; done) | (simp [*]; done)), H', ⟨Nat.le_refl _⟩, by repeat (first | exact Drawn0.refl _ | apply Drawn0.step)⟩
    case round =>
      clear H'
      try clear c1
      try clear p2
      try clear c3
      try clear c3b0
      try clear c3b1
      try clear c3b2
      obtain ⟨x13_1, rfl, HA, HK1, ⟨m1, rfl⟩⟩ := hrel
      cases gk with
      | zero => exact absurd HA.out (by simp [impl_Relation.l0])
      | succ k1 =>
        have H := HA.out
        clear HA
        simp only [impl_Relation.l0] at H
        by_cases c4 : x13_1 < (l0.length : Int)
        · rw [if_pos c4] at H
          have c4b0 : decide (x13_1 < (l0.length : Int)) = true := decide_eq_true c4
          clear c4
          by_cases c5 : 0 ≤ x13_1
          · rw [if_pos c5] at H
            have c5b0 : decide (0 ≤ x13_1) = true := decide_eq_true c5
            clear c5
            by_cases c6 : x13_1 < (l0.length : Int)
            · rw [if_pos c6] at H
              have c6b0 : decide (x13_1 < (l0.length : Int)) = true := decide_eq_true c6
              clear c6
              by_cases c7 : x13_1 < (l1.length : Int)
              · rw [if_pos c7] at H
                have c7b0 : decide (x13_1 < (l1.length : Int)) = true := decide_eq_true c7
                clear c7
                by_cases c8 : (!((((rd_T81 l0 x13_1).f0).toList) == (((rd_T81 l1 x13_1).f0).toList)) || (!(((rd_T81 l0 x13_1).f1) == ((rd_T81 l1 x13_1).f1)) || (!(((rd_T81 l0 x13_1).f2) == ((rd_T81 l1 x13_1).f2))))) = true
                · rw [if_pos c8] at H
                  have c8b0 : (!((((rd_T81 l0 x13_1).f0).toList) == (((rd_T81 l1 x13_1).f0).toList)) || (!(((rd_T81 l0 x13_1).f1) == ((rd_T81 l1 x13_1).f1)) || (!(((rd_T81 l0 x13_1).f2) == ((rd_T81 l1 x13_1).f2))))) = true := c8
                  clear c8
                  obtain rfl := Option.some.inj H
                  have p539 : 0 ≤ (x13_1 : Int) := of_decide_eq_true (by first | (with_reducible assumption) | assumption)
                  have q539 : x13_1 < (l0.length : Int) := of_decide_eq_true (by first | (with_reducible assumption) | assumption)
                  obtain ⟨ad539, e539, hx539_0, hx539_1, hx539_2⟩ := at_T81 HR0.out x13_1 p539 q539
                  cases e539
                  replace p539 := eq_true p539
                  replace q539 := eq_true q539
                  have p540 : 0 ≤ (x13_1 : Int) := of_decide_eq_true (by first | (with_reducible assumption) | assumption)
                  have q540 : x13_1 < (l1.length : Int) := of_decide_eq_true (by first | (with_reducible assumption) | assumption)
                  obtain ⟨ad540, e540, hx540_0, hx540_1, hx540_2⟩ := at_T81 HR1.out x13_1 p540 q540
                  cases e540
                  replace p540 := eq_true p540
                  replace q540 := eq_true q540
                  go_wp2
                  repeat (go_quiet (fail); try go_wp2)
                  go_ret
                  exact ⟨by first | rfl | (simp; done) | (simp [*]; done), by repeat (first | exact Drawn0.refl _ | apply Drawn0.step)⟩
                · rw [if_neg c8] at H
                  have c8b0 : (!((((rd_T81 l0 x13_1).f0).toList) == (((rd_T81 l1 x13_1).f0).toList)) || (!(((rd_T81 l0 x13_1).f1) == ((rd_T81 l1 x13_1).f1)) || (!(((rd_T81 l0 x13_1).f2) == ((rd_T81 l1 x13_1).f2))))) = false := by simpa using c8
                  clear c8
                  have H' := Aside0.mk H
                  clear H
                  have p539 : 0 ≤ (x13_1 : Int) := of_decide_eq_true (by first | (with_reducible assumption) | assumption)
                  have q539 : x13_1 < (l0.length : Int) := of_decide_eq_true (by first | (with_reducible assumption) | assumption)
                  obtain ⟨ad539, e539, hx539_0, hx539_1, hx539_2⟩ := at_T81 HR0.out x13_1 p539 q539
                  cases e539
                  replace p539 := eq_true p539
                  replace q539 := eq_true q539
                  have p540 : 0 ≤ (x13_1 : Int) := of_decide_eq_true (by first | (with_reducible assumption) | assumption)
                  have q540 : x13_1 < (l1.length : Int) := of_decide_eq_true (by first | (with_reducible assumption) | assumption)
                  obtain ⟨ad540, e540, hx540_0, hx540_1, hx540_2⟩ := at_T81 HR1.out x13_1 p540 q540
                  cases e540
                  replace p540 := eq_true p540
                  replace q540 := eq_true q540
                  go_wp2
                  repeat (go_quiet (fail); try go_wp2)
                  go_roundg k1
                  case measure => have := HK1.out; omega
                  case rel => exact ⟨(wrap64 (x13_1 + 1)), (by first | rfl | (simp; done) | (simp [*]; done)), H', ⟨by have := HK1.out; omega⟩, by repeat (first | exact Drawn0.refl _ | apply Drawn0.step)⟩
              · rw [if_neg c7] at H
                exact absurd H (by simp)
            · rw [if_neg c6] at H
              exact absurd H (by simp)
          · rw [if_neg c5] at H
            exact absurd H (by simp)
        · rw [if_neg c4] at H
          have c4b0 : decide (x13_1 < (l0.length : Int)) = false := decide_eq_false c4
          clear c4
          obtain rfl := Option.some.inj H
          go_wp2
          repeat (go_quiet (fail); try go_wp2)
          go_ret
          exact ⟨by first | rfl | (simp; done) | (simp [*]; done), by repeat (first | exact Drawn0.refl _ | apply Drawn0.step)⟩
  · rw [if_neg c3] at H
    have c3b0 : ((l0.length : Int) == (l1.length : Int)) = false := beq_eq_false_iff_ne.mpr c3
    have c3b1 : ((l0.length : Int) != (l1.length : Int)) = true := bne_iff_ne.mpr c3
    have c3b2 : (l0.length == l1.length) = false := by first | simpa using c3 | (simp at c3 ⊢; omega)
    obtain rfl := Option.some.inj H
    go_enter Try.func89, Try.ntmps89
    go_wp2
    repeat (go_quiet (fail); try go_wp2)
    go_ret
    exact ⟨by first | rfl | (simp; done) | (simp [*]; done), by repeat (first | exact Drawn0.refl _ | apply Drawn0.step)⟩

-- NOT PRINTED: function 90 (impl_Fact_90)

/-! ### impl_EqualDatabases: function 46 -/

section
open Base
def factEq (x y : S27) : Bool := cmpF x.f0 x.f1 y.f0 y.f1 == 0
set_option maxHeartbeats 4000000 in
set_option maxRecDepth 100000 in
theorem factEq_calls (x y : S27) (Ax Ay : Option Addr) (cx cy : Nat) (w : World) (hx : Kd.C (Kd.int .i64) w Ax x.f1.length x.f1) (hxc : x.f1.length ≤ cx) (hy : Kd.C (Kd.int .i64) w Ay y.f1.length y.f1) (hyc : y.f1.length ≤ cy) :
    Calls Try.prog 91 #[.agg #[.int .i64 x.f0, .slice Ax x.f1.length cx], .agg #[.int .i64 y.f0, .slice Ay y.f1.length cy]] w fun e w' => e = .returned (.bool (factEq x y)) ∧ Below w.heap.size w w' := by
  have hu := Try.underlying27
  have HC : Aside0 (∀ o o', Calls Try.prog 18 #[.agg #[.int .i64 x.f0, .slice Ax x.f1.length cx], .agg #[.int .i64 y.f0, .slice Ay y.f1.length cy]] ((w.alloc o).alloc o') fun e w' => e = .returned (.int .i64 (cmpF x.f0 x.f1 y.f0 y.f1)) ∧ Below ((w.alloc o).alloc o').heap.size ((w.alloc o).alloc o') w') := ⟨fun o o' =>
    have hB : Below w.heap.size w ((w.alloc o).alloc o') := below_alloc (below_alloc (Below.refl _ _) _) _
    impl_CompareFacts.calls (x.f1.length + 1) x.f0 Ax cx x.f1 y.f0 Ay cy y.f1 _ _ (Kd.C_below hx hB) hxc (Kd.C_below hy hB) hyc (cmpFI x.f0 x.f1 y.f0 y.f1 hx.2.1 hy.2.1 _ (Nat.lt_succ_self _))⟩
  clear hx hy hxc hyc
  have e0 : factEq x y = (cmpF x.f0 x.f1 y.f0 y.f1 == 0) := rfl
  rw [e0]
  generalize cmpF x.f0 x.f1 y.f0 y.f1 = z at HC ⊢
  go_enter Try.func91, Try.ntmps91
  go_wp2_with (go_at_call 18; refine (HC.out _ _).mono ?_; rintro e w' ⟨rfl, hb'⟩)
  go_ret
  exact ⟨rfl, below_then (below_alloc (below_alloc (Below.refl _ _) _) _) (below_alloc (below_alloc (Below.refl w.heap.size w) _) _).size hb'⟩
set_option maxHeartbeats 4000000 in
set_option maxRecDepth 100000 in
theorem factsEq_calls (A0 A1 : Option Addr) (c0 c1 : Nat) (l m : List S27) (w : World) (hr : Kd.C k27 w A0 l.length l) (hs : Kd.C k27 w A1 m.length m) :
    Calls Try.prog 90 #[.slice A0 l.length c0, .slice A1 m.length c1, .func (.func 91) #[] #[]] w fun e w' => e = .returned (.bool (eqW factEq l m)) ∧ Below w.heap.size w w' := by
  have hl : l.length ≤ 9223372036854775807 := hr.2.1
  have HR := Aside0.mk hr
  have HS := Aside0.mk hs
  clear hr hs
  by_cases hlen : l.length = m.length
  · have hd1 : ((l.length : Int) == (m.length : Int)) = true := by simp [hlen]
    have hd2 : ((l.length : Int) != (m.length : Int)) = false := by simp [hlen]
    have HLEN := Aside0.mk hlen
    clear hlen
    go_enter Try.func90, Try.ntmps90
    go_wp2
    go_loopg [17] l.length (fun gg s17 wr => ∃ kk : Nat, kk ≤ l.length ∧ l.length - kk ≤ gg ∧ s17 = .int .i64 kk ∧ Aside0 (Below w.heap.size w wr) ∧ Aside0 (∀ j, j < kk → factEq (l.getD j z27) (m.getD j z27) = true))
    case atStart => exact ⟨0, Nat.zero_le _, by omega, rfl, ⟨Below.refl _ _⟩, ⟨fun j hj => absurd hj (Nat.not_lt_zero _)⟩⟩
    case round =>
      obtain ⟨kk, hkk, hg, rfl, BW, HA⟩ := hrel
      by_cases hltk : kk < l.length
      · have hltz : (kk : Int) < (l.length : Int) := by omega
        have hltm : (kk : Int) < (m.length : Int) := by have := HLEN.out; omega
        obtain ⟨ad, A2, c2, e, h0, h1, h2, h3⟩ := at_T27 (Kd.C_below HR.out BW.out) (kk : Int) (by omega) hltz
        obtain ⟨ad', A3, c3, e', g0, g1, g2, g3⟩ := at_T27 (Kd.C_below HS.out BW.out) (kk : Int) (by omega) hltm
        rw [Int.toNat_natCast] at h0 h1 g0 g1
        cases e
        cases e'
        have G0 : ∀ o, (wr.alloc o).cell? (ad'.add (kk * 2)) = some (.int .i64 (rd_T27 m (kk : Int)).f0) := fun o => (World.cell?_alloc_lt _ _ _ (World.block_lt_of_cell? _ _ g0)).trans g0
        have G1 : ∀ o, (wr.alloc o).cell? ⟨(ad'.add (kk * 2)).block, (ad'.add (kk * 2)).off + 1, none⟩ = some (.slice A3 (rd_T27 m (kk : Int)).f1.length c3) := fun o => (World.cell?_alloc_lt _ _ _ (World.block_lt_of_cell? _ _ g1)).trans g1
        have HCL : Aside0 (∀ o o', Calls Try.prog 91 #[.agg #[.int .i64 (rd_T27 l (kk : Int)).f0, .slice A2 (rd_T27 l (kk : Int)).f1.length c2], .agg #[.int .i64 (rd_T27 m (kk : Int)).f0, .slice A3 (rd_T27 m (kk : Int)).f1.length c3]] ((wr.alloc o).alloc o') fun e w' => e = .returned (.bool (factEq (rd_T27 l (kk : Int)) (rd_T27 m (kk : Int)))) ∧ Below ((wr.alloc o).alloc o').heap.size ((wr.alloc o).alloc o') w') := ⟨fun o o' =>
          have hB : Below wr.heap.size wr ((wr.alloc o).alloc o') := below_alloc (below_alloc (Below.refl _ _) _) _
          factEq_calls _ _ A2 A3 c2 c3 _ (Kd.C_below h3 hB) h2 (Kd.C_below g3 hB) g2⟩
        have HB2 : Aside0 (∀ o o', Below w.heap.size w ((wr.alloc o).alloc o')) := ⟨fun o o' => below_alloc (below_alloc BW.out _) _⟩
        clear h2 h3 g2 g3 g0 g1
        have hrd : rd_T27 l (kk : Int) = l.getD kk z27 := by unfold rd_T27; rw [Int.toNat_natCast]
        have hrm : rd_T27 m (kk : Int) = m.getD kk z27 := by unfold rd_T27; rw [Int.toNat_natCast]
        have HQ : Aside0 (factEq (rd_T27 l (kk : Int)) (rd_T27 m (kk : Int)) = factEq (l.getD kk z27) (m.getD kk z27)) := ⟨by rw [hrd, hrm]⟩
        clear hrd hrm
        cases hq : factEq (rd_T27 l (kk : Int)) (rd_T27 m (kk : Int)) with
        | true =>
          rw [hq] at HCL HQ
          clear hq
          go_wp2_with (go_at_call 91; refine (HCL.out _ _).mono ?_; rintro e w' ⟨rfl, hb'⟩)
          go_roundg (l.length - (kk + 1))
          case measure => omega
          case rel =>
            refine ⟨kk + 1, by omega, by omega, by go_num, ⟨below_then (HB2.out _ _) (HB2.out _ _).size hb'⟩, ⟨fun j hj => ?_⟩⟩
            by_cases e : j = kk
            · subst e
              exact HQ.out.symm
            · exact HA.out j (by omega)
        | false =>
          rw [hq] at HCL HQ
          clear hq
          go_wp2_with (go_at_call 91; refine (HCL.out _ _).mono ?_; rintro e w' ⟨rfl, hb'⟩)
          go_ret
          refine ⟨?_, below_then (HB2.out _ _) (HB2.out _ _).size hb'⟩
          rw [eqW_miss factEq z27 l m kk HLEN.out hltk HQ.out.symm]
          rfl
      · have hltz : ¬ (kk : Int) < (l.length : Int) := by omega
        have hltm : ¬ (kk : Int) < (m.length : Int) := by have := HLEN.out; omega
        have hd : decide (kk < l.length) = false := decide_eq_false hltk
        have hd' : decide (kk < m.length) = false := decide_eq_false (by have := HLEN.out; omega)
        have HK := Aside0.mk (show l.length ≤ kk by omega)
        clear hltk hltz hltm
        go_wp2
        go_ret
        refine ⟨?_, BW.out⟩
        rw [eqW_hit factEq z27 l m HLEN.out (fun j (hj : j < l.length) => HA.out j (Nat.lt_of_lt_of_le hj HK.out))]
        rfl
  · have hd1 : ((l.length : Int) == (m.length : Int)) = false := by simp; omega
    have hd2 : ((l.length : Int) != (m.length : Int)) = true := by simp; omega
    have he := eqW_len factEq l m hlen
    rw [he]
    clear hlen
    go_enter Try.func90, Try.ntmps90
    go_wp2
    go_ret
    exact ⟨rfl, by first | exact Below.refl _ _ | exact below_drew1 (Below.refl _ _) | exact pw_below_drewN (Below.refl _ _) _⟩
def impl_EqualDatabases.f (k : Nat) (l0_0 : List S81) (l0_1 : List S27) (l1_0 : List S81) (l1_1 : List S27) : Option Bool :=
  (impl_Relation.f k l0_0 l1_0).bind fun b => some (b && eqW factEq l0_1 l1_1)
theorem impl_EqualDatabases.mono : ∀ a0 a1 a2 a3 k, LeO (impl_EqualDatabases.f k a0 a1 a2 a3) (impl_EqualDatabases.f (k + 1) a0 a1 a2 a3) := by
  intro a0 a1 a2 a3 k
  unfold impl_EqualDatabases.f
  exact LeO.bind (impl_Relation.mono _ _ _) (fun _ => LeO.refl _)
set_option maxHeartbeats 4000000 in
set_option maxRecDepth 100000 in
theorem impl_EqualDatabases.calls (k : Nat) (A0_0 : Option Addr) (c0_0 : Nat) (l0_0 : List S81) (A0_1 : Option Addr) (c0_1 : Nat) (l0_1 : List S27) (A1_0 : Option Addr) (c1_0 : Nat) (l1_0 : List S81) (A1_1 : Option Addr) (c1_1 : Nat) (l1_1 : List S27) (r : Bool) (w : World) (hr0_0 : Kd.C k81 w A0_0 l0_0.length l0_0) (hc0_0 : l0_0.length ≤ c0_0) (hr0_1 : Kd.C k27 w A0_1 l0_1.length l0_1) (hc0_1 : l0_1.length ≤ c0_1) (hr1_0 : Kd.C k81 w A1_0 l1_0.length l1_0) (hc1_0 : l1_0.length ≤ c1_0) (hr1_1 : Kd.C k27 w A1_1 l1_1.length l1_1) (hc1_1 : l1_1.length ≤ c1_1) (h : impl_EqualDatabases.f k l0_0 l0_1 l1_0 l1_1 = some r) :
    Calls Try.prog 46 #[.agg #[.slice A0_0 l0_0.length c0_0, .slice A0_1 l0_1.length c0_1], .agg #[.slice A1_0 l1_0.length c1_0, .slice A1_1 l1_1.length c1_1]] w fun e w' => e = .returned (.bool r) ∧ Below w.heap.size w w' := by
  obtain ⟨b, hb, hr⟩ := Option.bind_eq_some_iff.mp h
  obtain rfl := Option.some.inj hr
  clear h hr
  have HC1 : Aside0 (∀ W : World, Below w.heap.size w W → Calls Try.prog 89 #[.slice A0_0 l0_0.length c0_0, .slice A1_0 l1_0.length c1_0] W fun e w'' => e = .returned (.bool b) ∧ Below W.heap.size W w'') :=
    ⟨fun W hB => calls_below_of_drawn (impl_Relation.calls k A0_0 c0_0 l0_0 A1_0 c1_0 l1_0 b _ (Kd.C_below hr0_0 hB) hc0_0 (Kd.C_below hr1_0 hB) hc1_0 hb)⟩
  have HC2 : Aside0 (∀ W : World, Below w.heap.size w W → Calls Try.prog 90 #[.slice A0_1 l0_1.length c0_1, .slice A1_1 l1_1.length c1_1, .func (.func 91) #[] #[]] W fun e w'' => e = .returned (.bool (eqW factEq l0_1 l1_1)) ∧ Below W.heap.size W w'') :=
    ⟨fun W hB => factsEq_calls A0_1 A1_1 c0_1 c1_1 l0_1 l1_1 _ (Kd.C_below hr0_1 hB) (Kd.C_below hr1_1 hB)⟩
  clear hr0_0 hr0_1 hr1_0 hr1_1 hb
  generalize eqW factEq l0_1 l1_1 = bb at HC2 ⊢
  have HZ : Aside0 (∀ o o' : Obj, (w.alloc o).heap.size = w.heap.size + 1 ∧ ((w.alloc o).alloc o').heap[w.heap.size]? = some o ∧ ((w.alloc o).alloc o').heap[w.heap.size + 1]? = some o') := ⟨fun o o' => by
    have hz : (w.alloc o).heap.size = w.heap.size + 1 := by show (Array.push _ _).size = _; exact Array.size_push ..
    have h1 := heap_alloc_new w o
    have h2 := heap_alloc_new (w.alloc o) o'
    rw [hz] at h2
    refine ⟨hz, ?_, h2⟩
    show (Array.push _ _)[_]? = _
    rw [Array.getElem?_push_lt (by rw [hz]; omega)]
    rw [← h1]
    exact (Array.getElem?_eq_getElem _).symm⟩
  have F0 : Aside0 (((w.alloc (.cells #[.slice A0_0 l0_0.length c0_0, .slice A0_1 l0_1.length c0_1] 60)).alloc (.cells #[.slice A1_0 l1_0.length c1_0, .slice A1_1 l1_1.length c1_1] 60)).cell? ⟨w.heap.size, 0, none⟩ = some (.slice A0_0 l0_0.length c0_0)) := ⟨(blk_cell (HZ.out _ _).2.1 0).trans rfl⟩
  have F1 : Aside0 (((w.alloc (.cells #[.slice A0_0 l0_0.length c0_0, .slice A0_1 l0_1.length c0_1] 60)).alloc (.cells #[.slice A1_0 l1_0.length c1_0, .slice A1_1 l1_1.length c1_1] 60)).cell? ⟨w.heap.size, 1, none⟩ = some (.slice A0_1 l0_1.length c0_1)) := ⟨(blk_cell (HZ.out _ _).2.1 1).trans rfl⟩
  have F2 : Aside0 (((w.alloc (.cells #[.slice A0_0 l0_0.length c0_0, .slice A0_1 l0_1.length c0_1] 60)).alloc (.cells #[.slice A1_0 l1_0.length c1_0, .slice A1_1 l1_1.length c1_1] 60)).cell? ⟨w.heap.size + 1, 0, none⟩ = some (.slice A1_0 l1_0.length c1_0)) := ⟨(blk_cell (HZ.out _ _).2.2 0).trans rfl⟩
  have F3 : Aside0 (((w.alloc (.cells #[.slice A0_0 l0_0.length c0_0, .slice A0_1 l0_1.length c0_1] 60)).alloc (.cells #[.slice A1_0 l1_0.length c1_0, .slice A1_1 l1_1.length c1_1] 60)).cell? ⟨w.heap.size + 1, 1, none⟩ = some (.slice A1_1 l1_1.length c1_1)) := ⟨(blk_cell (HZ.out _ _).2.2 1).trans rfl⟩
  have B2 : Aside0 (Below w.heap.size w ((w.alloc (.cells #[.slice A0_0 l0_0.length c0_0, .slice A0_1 l0_1.length c0_1] 60)).alloc (.cells #[.slice A1_0 l1_0.length c1_0, .slice A1_1 l1_1.length c1_1] 60))) := ⟨below_alloc (below_alloc (Below.refl _ _) _) _⟩
  clear HZ
  cases b with
  | false =>
    go_enter Try.func46, Try.ntmps46
    go_wp2_with (first | (go_at_call 89; refine (HC1.out _ B2.out).mono ?_; rintro e w3 ⟨rfl, hb3⟩; have k1 := pw_cell_below hb3 F1.out; have k3 := pw_cell_below hb3 F3.out) | (go_at_call 90; refine (HC2.out _ (below_then B2.out B2.out.size hb3)).mono ?_; rintro e w4 ⟨rfl, hb4⟩))
    go_ret
    exact ⟨rfl, below_then B2.out B2.out.size hb3⟩
  | true =>
    go_enter Try.func46, Try.ntmps46
    go_wp2_with (first | (go_at_call 89; refine (HC1.out _ B2.out).mono ?_; rintro e w3 ⟨rfl, hb3⟩; have k1 := pw_cell_below hb3 F1.out; have k3 := pw_cell_below hb3 F3.out) | (go_at_call 90; refine (HC2.out _ (below_then B2.out B2.out.size hb3)).mono ?_; rintro e w4 ⟨rfl, hb4⟩))
    go_ret
    exact ⟨rfl, below_then (below_then B2.out B2.out.size hb3) (below_then B2.out B2.out.size hb3).size hb4⟩
end


end Go.Proofs.Ytddeflhambegiaa.PAll
