-- Laid by a program of this claim: what the functions come to, some of them proved by hand.
import Derived.Test.YtdpaopfghggiaaaDoorPFnExactParseIntx0
namespace Go.Proofs.YtdpaopfghggiaaaDoor.PFnExactParseInt
open Go.RowKit Go.Proofs.YtdpaopfghggiaaaDoorW.PrintWords Go.Proofs.YtdpaopfghggiaaaDoorW.PrintLast Go.Proofs.YtdpaopfghggiaaaDoorW.PrintMore
attribute [local go_sem] max2_int min2_int max_two min_two max_three min_three max_four min_four   -- for this text's walks alone
set_option linter.unusedVariables false
set_option linter.unusedSimpArgs false

/-! ### spec_FormatInt: function 11 -/
def spec_FormatInt.l0 : Nat → Int → ByteArray → Bool → Option (ByteArray)
  | 0, _, _, _ => none
  | k + 1, x0, x3, x4 => if x0 = 0 then (if x4 = true then (if 1 + x3.size ≤ 9223372036854775807 then (some ((⟨#[45]⟩ : ByteArray) ++ x3)) else (none)) else (some x3)) else (if (Int.tmod x0 10) < 0 then ((some (([(wrap64 (48 + (wrap64 (-(Int.tmod x0 10))))) % 256] : List Int) : List Int)).bind fun y101 => (if (strOfNums y101).size + x3.size ≤ 9223372036854775807 then (spec_FormatInt.l0 k (wrap64 (Int.tdiv x0 10)) ((strOfNums y101) ++ x3) x4) else (none))) else ((some (([(wrap64 (48 + (Int.tmod x0 10))) % 256] : List Int) : List Int)).bind fun y104 => (if (strOfNums y104).size + x3.size ≤ 9223372036854775807 then (spec_FormatInt.l0 k (wrap64 (Int.tdiv x0 10)) ((strOfNums y104) ++ x3) x4) else (none))))
def spec_FormatInt.f (k : Nat) (a0 : Int) : Option (ByteArray) := if a0 = 0 then (some (⟨#[48]⟩ : ByteArray)) else (spec_FormatInt.l0 k a0 (⟨#[]⟩ : ByteArray) (decide (a0 < 0)))
set_option maxHeartbeats 8000000 in
set_option maxRecDepth 100000 in
theorem spec_FormatInt.calls (k : Nat) (a0 : Int) (r : ByteArray) (w : World) (h : spec_FormatInt.f k a0 = some r) :
    Calls Tryd.prog 11 #[.int .i64 a0] w fun e w' => e = .returned (.string r) ∧ Below w.heap.size w w' := by
  have HB := Aside0.mk (Below.refl w.heap.size w)
  have H : (if a0 = 0 then (some (⟨#[48]⟩ : ByteArray)) else (spec_FormatInt.l0 k a0 (⟨#[]⟩ : ByteArray) (decide (a0 < 0)))) = some r := h
  clear h
  by_cases c2 : a0 = 0
  · rw [if_pos c2] at H
    have c2b0 : (a0 == 0) = true := beq_iff_eq.mpr c2
    have c2b1 : (a0 != 0) = false := bne_eq_false_iff_eq.mpr c2
    clear c2
    obtain rfl := Option.some.inj H
    go_enter Tryd.func11, Tryd.ntmps11
    go_wp2
    go_ret
    exact ⟨by first | rfl | (simp [errW_none, errW_some] <;> rfl) | (simp [*, errW_none, errW_some] <;> rfl), by repeat (first | (with_reducible first | exact HB.out | apply below_alloc | apply pw_below_drewN | apply below_drew1) | exact HB.out)⟩
  · rw [if_neg c2] at H
    have c2b0 : (a0 == 0) = false := beq_eq_false_iff_ne.mpr c2
    have c2b1 : (a0 != 0) = true := bne_iff_ne.mpr c2
    have H' := Aside0.mk H
    clear H
    go_enter Tryd.func11, Tryd.ntmps11
    go_wp2
    go_loopg [0, 3] k (fun kq v0 v3 w' => ∃ (x0_1 : Int) (x3_1 : ByteArray), v0 = .int .i64 x0_1 ∧ v3 = .string x3_1 ∧ Aside0 (spec_FormatInt.l0 kq x0_1 x3_1 (decide (a0 < 0)) = some r) ∧ Aside0 (kq ≤ k) ∧ Aside0 (Below w.heap.size w w'))
    case atStart => exact ⟨(a0), ((⟨#[]⟩ : ByteArray)), (by first | rfl | (simp; done) | (simp [*]; done)), (by first | rfl | (simp; done) | (simp [*]; done)), H', ⟨Nat.le_refl _⟩, ⟨by repeat (first | (with_reducible first | exact HB.out | apply below_alloc | apply pw_below_drewN | apply below_drew1) | exact HB.out)⟩⟩
    case round =>
      clear H'
      try clear c1
      try clear c2
      try clear c2b0
      try clear c2b1
      try clear p2
      obtain ⟨x0_1, x3_1, rfl, rfl, HA, HK1, HB⟩ := hrel
      cases gk with
      | zero => exact absurd HA.out (by simp [spec_FormatInt.l0])
      | succ k1 =>
        have H := HA.out
        clear HA
        simp only [spec_FormatInt.l0] at H
        by_cases c3 : x0_1 = 0
        · rw [if_pos c3] at H
          have c3b0 : (x0_1 == 0) = true := beq_iff_eq.mpr c3
          have c3b1 : (x0_1 != 0) = false := bne_eq_false_iff_eq.mpr c3
          clear c3
          by_cases c4 : (decide (a0 < 0)) = true
          · rw [if_pos c4] at H
            have c4b0 : (decide (a0 < 0)) = true := c4
            clear c4
            by_cases c5 : 1 + x3_1.size ≤ 9223372036854775807
            · rw [if_pos c5] at H
              have c5b0 := eq_true c5
              have c5b1 : decide (1 + x3_1.size ≤ 9223372036854775807) = true := decide_eq_true c5
              try have c5b2 : (9223372036854775807 < 1 + x3_1.size) = False := eq_false (Nat.not_lt.2 c5)
              obtain rfl := Option.some.inj H
              go_wp2
              all_goals first | (exfalso; have := of_decide_eq_true c4b0; omega) | (go_ret; exact ⟨by first | rfl | (simp [errW_none, errW_some] <;> rfl) | (simp [*, errW_none, errW_some] <;> rfl), by repeat (first | (with_reducible first | exact HB.out | apply below_alloc | apply pw_below_drewN | apply below_drew1) | exact HB.out)⟩)
            · rw [if_neg c5] at H
              exact absurd H (by simp)
          · rw [if_neg c4] at H
            have c4b0 : (decide (a0 < 0)) = false := by simpa using c4
            clear c4
            obtain rfl := Option.some.inj H
            go_wp2
            all_goals first | (exfalso; have := of_decide_eq_false c4b0; omega) | (go_ret; exact ⟨by first | rfl | (simp [errW_none, errW_some] <;> rfl) | (simp [*, errW_none, errW_some] <;> rfl), by repeat (first | (with_reducible first | exact HB.out | apply below_alloc | apply pw_below_drewN | apply below_drew1) | exact HB.out)⟩)
        · rw [if_neg c3] at H
          have c3b0 : (x0_1 == 0) = false := beq_eq_false_iff_ne.mpr c3
          have c3b1 : (x0_1 != 0) = true := bne_iff_ne.mpr c3
          by_cases c6 : (Int.tmod x0_1 10) < 0
          · rw [if_pos c6] at H
            have c6b0 : decide ((Int.tmod x0_1 10) < 0) = true := decide_eq_true c6
            clear c6
            obtain ⟨y101, hy101⟩ : ∃ y_ : List Int, y_ = (([(wrap64 (48 + (wrap64 (-(Int.tmod x0_1 10))))) % 256] : List Int)) := ⟨_, rfl⟩
            replace H : (if (strOfNums y101).size + x3_1.size ≤ 9223372036854775807 then (spec_FormatInt.l0 k1 (wrap64 (Int.tdiv x0_1 10)) ((strOfNums y101) ++ x3_1) (decide (a0 < 0))) else (none)) = some r := by first | (rw [hy101]; with_reducible exact H) | (have H2_ := (Option.bind_some _ _).symm.trans H; rw [hy101]; with_reducible exact H2_) | (have H2_ := (Option.bind_some _ _).symm.trans H; with_reducible exact H2_) | with_reducible exact H | (rw [hy101]; exact H) | exact H
            have Ny101 := Aside0.mk hy101
            clear hy101
            by_cases c7 : (strOfNums y101).size + x3_1.size ≤ 9223372036854775807
            · rw [if_pos c7] at H
              have c7b0 := eq_true c7
              have c7b1 : decide ((strOfNums y101).size + x3_1.size ≤ 9223372036854775807) = true := decide_eq_true c7
              try have c7b2 : (9223372036854775807 < (strOfNums y101).size + x3_1.size) = False := eq_false (Nat.not_lt.2 c7)
              have H' := Aside0.mk H
              clear H
              go_wp2_with (first | ((with_reducible refine gate_dst (N := 21) rfl ?_); refine Kd.R_lit (Kd.int .u8) _ 5 ?hg (N := 21) ?hd (xs := ([(wrap64 (48 + (wrap64 (-(Int.tmod x0_1 10))))) % 256] : List Int)) (inner := [.int .u8 ((wrap64 (48 + (wrap64 (-(Int.tmod x0_1 10))))) % 256)]) (ok := fun _ => True) (okp := fun _ => True) ?hr ?hp (fun _ hk => hk) trivial (Below.refl _ _) (Nat.le_refl _) (by simp) ?_; (case hd => rfl); (case hg => rfl); (case hr => first | (go_simp; done) | (go_simp; rfl)); (case hp => exact (Reps.one (show Kd.M (Kd.int .u8) _ _ _ ((wrap64 (48 + (wrap64 (-(Int.tmod x0_1 10))))) % 256) [.int .u8 ((wrap64 (48 + (wrap64 (-(Int.tmod x0_1 10))))) % 256)] from rfl) (Reps.none _ _))); intro v102 w8 ho9 hb hg_ hnew_; clear hg_ hnew_; (first | rw [← Ny101.out] at ho9 | (simp only [Int.reduceToNat] at ho9; rw [← Ny101.out] at ho9)); have n0_ := Aside0.mk (Kd.R_lower ho9 (below_size (by repeat (first | (with_reducible first | exact HB.out | apply below_alloc | apply pw_below_drewN | apply below_drew1) | exact HB.out)))); have n1_ := Aside0.mk (below_step (by repeat (first | (with_reducible first | exact HB.out | apply below_alloc | apply pw_below_drewN | apply below_drew1) | exact HB.out)) hb); clear HB; have HO103 := n0_; have HB := n1_; clear n0_ n1_; clear hb ho9; have hcv10 := own_string (P := Tryd.prog) Tryd.underlying35 Tryd.underlying5 Tryd.underlying9 (Kd.own_of_R HO103.out)))
              go_roundg k1
              case measure => have := HK1.out; omega
              case rel => exact ⟨(wrap64 (Int.tdiv x0_1 10)), ((strOfNums y101) ++ x3_1), (by first | rfl | (simp; done) | (simp [*]; done)), (by first | rfl | (simp; done) | (simp [*]; done)), H', ⟨by have := HK1.out; omega⟩, ⟨by repeat (first | (with_reducible first | exact HB.out | apply below_alloc | apply pw_below_drewN | apply below_drew1) | exact HB.out)⟩⟩
            · rw [if_neg c7] at H
              exact absurd H (by simp)
          · rw [if_neg c6] at H
            have c6b0 : decide ((Int.tmod x0_1 10) < 0) = false := decide_eq_false c6
            clear c6
            obtain ⟨y104, hy104⟩ : ∃ y_ : List Int, y_ = (([(wrap64 (48 + (Int.tmod x0_1 10))) % 256] : List Int)) := ⟨_, rfl⟩
            replace H : (if (strOfNums y104).size + x3_1.size ≤ 9223372036854775807 then (spec_FormatInt.l0 k1 (wrap64 (Int.tdiv x0_1 10)) ((strOfNums y104) ++ x3_1) (decide (a0 < 0))) else (none)) = some r := by first | (rw [hy104]; with_reducible exact H) | (have H2_ := (Option.bind_some _ _).symm.trans H; rw [hy104]; with_reducible exact H2_) | (have H2_ := (Option.bind_some _ _).symm.trans H; with_reducible exact H2_) | with_reducible exact H | (rw [hy104]; exact H) | exact H
            have Ny104 := Aside0.mk hy104
            clear hy104
            by_cases c11 : (strOfNums y104).size + x3_1.size ≤ 9223372036854775807
            · rw [if_pos c11] at H
              have c11b0 := eq_true c11
              have c11b1 : decide ((strOfNums y104).size + x3_1.size ≤ 9223372036854775807) = true := decide_eq_true c11
              try have c11b2 : (9223372036854775807 < (strOfNums y104).size + x3_1.size) = False := eq_false (Nat.not_lt.2 c11)
              have H' := Aside0.mk H
              clear H
              go_wp2_with (first | ((with_reducible refine gate_dst (N := 21) rfl ?_); refine Kd.R_lit (Kd.int .u8) _ 5 ?hg (N := 21) ?hd (xs := ([(wrap64 (48 + (Int.tmod x0_1 10))) % 256] : List Int)) (inner := [.int .u8 ((wrap64 (48 + (Int.tmod x0_1 10))) % 256)]) (ok := fun _ => True) (okp := fun _ => True) ?hr ?hp (fun _ hk => hk) trivial (Below.refl _ _) (Nat.le_refl _) (by simp) ?_; (case hd => rfl); (case hg => rfl); (case hr => first | (go_simp; done) | (go_simp; rfl)); (case hp => exact (Reps.one (show Kd.M (Kd.int .u8) _ _ _ ((wrap64 (48 + (Int.tmod x0_1 10))) % 256) [.int .u8 ((wrap64 (48 + (Int.tmod x0_1 10))) % 256)] from rfl) (Reps.none _ _))); intro v105 w12 ho13 hb hg_ hnew_; clear hg_ hnew_; (first | rw [← Ny104.out] at ho13 | (simp only [Int.reduceToNat] at ho13; rw [← Ny104.out] at ho13)); have n0_ := Aside0.mk (Kd.R_lower ho13 (below_size (by repeat (first | (with_reducible first | exact HB.out | apply below_alloc | apply pw_below_drewN | apply below_drew1) | exact HB.out)))); have n1_ := Aside0.mk (below_step (by repeat (first | (with_reducible first | exact HB.out | apply below_alloc | apply pw_below_drewN | apply below_drew1) | exact HB.out)) hb); clear HB; have HO106 := n0_; have HB := n1_; clear n0_ n1_; clear hb ho13; have hcv14 := own_string (P := Tryd.prog) Tryd.underlying35 Tryd.underlying5 Tryd.underlying9 (Kd.own_of_R HO106.out)))
              go_roundg k1
              case measure => have := HK1.out; omega
              case rel => exact ⟨(wrap64 (Int.tdiv x0_1 10)), ((strOfNums y104) ++ x3_1), (by first | rfl | (simp; done) | (simp [*]; done)), (by first | rfl | (simp; done) | (simp [*]; done)), H', ⟨by have := HK1.out; omega⟩, ⟨by repeat (first | (with_reducible first | exact HB.out | apply below_alloc | apply pw_below_drewN | apply below_drew1) | exact HB.out)⟩⟩
            · rw [if_neg c11] at H
              exact absurd H (by simp)

/-! ### spec_ParseInt: function 36 -/
mutual
def spec_ParseInt.l0 : Nat → ByteArray → Int → Int → Int → Option (Int × Bool)
  | 0, _, _, _, _ => none
  | k + 1, x0, x4, x5, x6 => if x6 < (x0.size : Int) then (spec_ParseInt.j1 k x0 x4 x5 x6 (decide (x6 < 11))) else (spec_ParseInt.j1 k x0 x4 x5 x6 false)
def spec_ParseInt.j1 : Nat → ByteArray → Int → Int → Int → Bool → Option (Int × Bool)
  | 0, _, _, _, _, _ => none
  | k + 1, x0, x4, x5, x6, x14 => if x14 = true then (if 0 ≤ x6 then (if x6 < (x0.size : Int) then (if (bt x0 x6) ≥ 48 then (if (bt x0 x6) ≤ 57 then (spec_ParseInt.l0 k x0 (wrap64 ((wrap64 (x4 * 10)) + (((bt x0 x6) - 48) % 256))) (wrap64 (x5 + 1)) (wrap64 (x6 + 1))) else (spec_ParseInt.l0 k x0 x4 x5 (wrap64 (x6 + 1)))) else (spec_ParseInt.l0 k x0 x4 x5 (wrap64 (x6 + 1)))) else (none)) else (none)) else (if (x0.size : Int) > 0 then (if 0 < (x0.size : Int) then (spec_ParseInt.j2 k x0 x4 x5 ((bt x0 0) == 45)) else (none)) else (spec_ParseInt.j2 k x0 x4 x5 false))
def spec_ParseInt.j2 : Nat → ByteArray → Int → Int → Bool → Option (Int × Bool)
  | 0, _, _, _, _ => none
  | k + 1, x0, x4, x5, x44 => if x44 = true then (if x5 > 9 then (some (0, false)) else (if (x0.size : Int) > 10 then (some (0, false)) else ((spec_FormatInt.f k (wrap64 (-x4))).bind fun t107 => (if t107.toList = x0.toList then (some (wrap64 (-x4), true)) else (some (0, false)))))) else (if x5 > 9 then (some (0, false)) else (if (x0.size : Int) > 10 then (some (0, false)) else ((spec_FormatInt.f k x4).bind fun t108 => (if t108.toList = x0.toList then (some (x4, true)) else (some (0, false))))))
end
def spec_ParseInt.f (k : Nat) (a0 : ByteArray) : Option (Int × Bool) := spec_ParseInt.l0 k a0 0 0 0
set_option maxHeartbeats 8000000 in
set_option maxRecDepth 100000 in
theorem spec_ParseInt.calls (k : Nat) (a0 : ByteArray) (r1 : Int) (r2 : Bool) (w : World) (h : spec_ParseInt.f k a0 = some (r1, r2)) :
    Calls Tryd.prog 36 #[.string a0] w fun e w' => e = .returned (.tuple #[.int .i64 r1, .bool r2]) ∧ Below w.heap.size w w' := by
  unfold spec_ParseInt.f at h
  · go_enter Tryd.func36, Tryd.ntmps36
    go_wp2_with (first | (go_at_call 11; refine (spec_FormatInt.calls ?_ _ ?_ _ ?h).mono ?_; (case h => exact zA); rintro e w1 ⟨rfl, hb⟩; replace hb := aM hb; have HB : Below w.heap.size w w1 := zB))
    go_loopg [4, 5, 6] k (fun kq v4 v5 v6 w' => ∃ (x4_0 : Int) (x5_0 : Int) (x6_0 : Int), v4 = .int .i64 x4_0 ∧ v5 = .int .i64 x5_0 ∧ v6 = .int .i64 x6_0 ∧ spec_ParseInt.l0 kq a0 x4_0 x5_0 x6_0 = some (r1, r2) ∧ Below w.heap.size w w')
    case atStart => exact ⟨_, _, _, zR, zR, zR, zA, zB⟩
    case round =>
      clear h
      obtain ⟨x4_0, x5_0, x6_0, rfl, rfl, rfl, h, hb⟩ := hrel
      replace hb := aM hb
      have HB : Below w.heap.size w wr := zB
      rcases gk with _ | kk0
      exact absurd h (by simp [spec_ParseInt.l0])
      simp only [spec_ParseInt.l0] at h
      replace h := il h; rcases h with ⟨c1, c1a, h⟩ | ⟨c1, c1a, h⟩
      rcases kk0 with _ | kj2
      exact absurd h (by simp [spec_ParseInt.j1])
      simp only [spec_ParseInt.j1] at h
      replace h := ib h; rcases h with ⟨c3, h⟩ | ⟨c3, h⟩
      replace h := ie h; rcases h with ⟨c4, c4a, h⟩ | ⟨c4, c4a, h⟩
      replace h := il h; rcases h with ⟨c5, c5a, h⟩ | ⟨c5, c5a, h⟩
      replace h := ih h; rcases h with ⟨c6, c6a, h⟩ | ⟨c6, c6a, h⟩
      replace h := ie h; rcases h with ⟨c7, c7a, h⟩ | ⟨c7, c7a, h⟩
      obtain ⟨kf, hkf⟩ : ∃ kf, kf = kj2 := ⟨_, rfl⟩; rw [← hkf] at h
      have pb1 := eq_true (aD : 0 ≤ (x6_0 : Int))
      have qb1 := eq_true (aD : x6_0 < (a0.size : Int))
      have hxb1 := bt_at a0 (x6_0)
      have pb2 := eq_true (aD : 0 ≤ (x6_0 : Int))
      have qb2 := eq_true (aD : x6_0 < (a0.size : Int))
      have hxb2 := bt_at a0 (x6_0)
      have pb3 := eq_true (aD : 0 ≤ (x6_0 : Int))
      have qb3 := eq_true (aD : x6_0 < (a0.size : Int))
      have hxb3 := bt_at a0 (x6_0)
      rotate_left
      obtain ⟨kf, hkf⟩ : ∃ kf, kf = kj2 := ⟨_, rfl⟩; rw [← hkf] at h
      have pb4 := eq_true (aD : 0 ≤ (x6_0 : Int))
      have qb4 := eq_true (aD : x6_0 < (a0.size : Int))
      have hxb4 := bt_at a0 (x6_0)
      have pb5 := eq_true (aD : 0 ≤ (x6_0 : Int))
      have qb5 := eq_true (aD : x6_0 < (a0.size : Int))
      have hxb5 := bt_at a0 (x6_0)
      rotate_left
      obtain ⟨kf, hkf⟩ : ∃ kf, kf = kj2 := ⟨_, rfl⟩; rw [← hkf] at h
      have pb6 := eq_true (aD : 0 ≤ (x6_0 : Int))
      have qb6 := eq_true (aD : x6_0 < (a0.size : Int))
      have hxb6 := bt_at a0 (x6_0)
      rotate_left
      exact absurd h (by simp)
      exact absurd h (by simp)
      replace h := ig h; rcases h with ⟨c8, c8a, h⟩ | ⟨c8, c8a, h⟩
      have cz := c8.out
      have c8x1 : decide (0 < a0.size) = true := decide_eq_true (by omega)
      clear cz
      replace h := il h; rcases h with ⟨c9, c9a, h⟩ | ⟨c9, c9a, h⟩
      have cz := c9.out
      have c9x1 : decide (0 < a0.size) = true := decide_eq_true (by omega)
      clear cz
      rcases kj2 with _ | kj10
      exact absurd h (by simp [spec_ParseInt.j2])
      simp only [spec_ParseInt.j2] at h
      replace h := ib h; rcases h with ⟨c11, h⟩ | ⟨c11, h⟩
      replace h := ig h; rcases h with ⟨c12, c12a, h⟩ | ⟨c12, c12a, h⟩
      simp only [Option.some.injEq, Prod.mk.injEq] at h
      obtain ⟨rfl, rfl⟩ := h
      have hxb7 : ∀ h : 0 < a0.size, ((a0[0]'h).toNat : Int) = bt a0 0 := bt_at a0 0
      have qib7 := eq_true (aD : 0 < (a0.size : Int))
      have qb7 : (0 < a0.size) = True := eq_true (by have : (0 : Int) < (a0.size : Int) := aD; omega)
      rotate_left
      replace h := ig h; rcases h with ⟨c13, c13a, h⟩ | ⟨c13, c13a, h⟩
      have cz := c13.out
      have c13x1 : decide (10 < a0.size) = true := decide_eq_true (by omega)
      clear cz
      simp only [Option.some.injEq, Prod.mk.injEq] at h
      obtain ⟨rfl, rfl⟩ := h
      have hxb8 : ∀ h : 0 < a0.size, ((a0[0]'h).toNat : Int) = bt a0 0 := bt_at a0 0
      have qib8 := eq_true (aD : 0 < (a0.size : Int))
      have qb8 : (0 < a0.size) = True := eq_true (by have : (0 : Int) < (a0.size : Int) := aD; omega)
      rotate_left
      have cz := c13.out
      have c13x1 : decide (10 < a0.size) = false := decide_eq_false (by omega)
      clear cz
      replace h := bs h; obtain ⟨t107, B14, h⟩ := h
      replace h := iq h; rcases h with ⟨c15, ⟨c15a, c15b⟩, h⟩ | ⟨c15, ⟨c15a, c15b⟩, h⟩
      simp only [Option.some.injEq, Prod.mk.injEq] at h
      obtain ⟨rfl, rfl⟩ := h
      have hxb9 : ∀ h : 0 < a0.size, ((a0[0]'h).toNat : Int) = bt a0 0 := bt_at a0 0
      have qib9 := eq_true (aD : 0 < (a0.size : Int))
      have qb9 : (0 < a0.size) = True := eq_true (by have : (0 : Int) < (a0.size : Int) := aD; omega)
      rotate_left
      simp only [Option.some.injEq, Prod.mk.injEq] at h
      obtain ⟨rfl, rfl⟩ := h
      have hxb10 : ∀ h : 0 < a0.size, ((a0[0]'h).toNat : Int) = bt a0 0 := bt_at a0 0
      have qib10 := eq_true (aD : 0 < (a0.size : Int))
      have qb10 : (0 < a0.size) = True := eq_true (by have : (0 : Int) < (a0.size : Int) := aD; omega)
      rotate_left
      replace h := ig h; rcases h with ⟨c16, c16a, h⟩ | ⟨c16, c16a, h⟩
      simp only [Option.some.injEq, Prod.mk.injEq] at h
      obtain ⟨rfl, rfl⟩ := h
      have hxb11 : ∀ h : 0 < a0.size, ((a0[0]'h).toNat : Int) = bt a0 0 := bt_at a0 0
      have qib11 := eq_true (aD : 0 < (a0.size : Int))
      have qb11 : (0 < a0.size) = True := eq_true (by have : (0 : Int) < (a0.size : Int) := aD; omega)
      rotate_left
      replace h := ig h; rcases h with ⟨c17, c17a, h⟩ | ⟨c17, c17a, h⟩
      have cz := c17.out
      have c17x1 : decide (10 < a0.size) = true := decide_eq_true (by omega)
      clear cz
      simp only [Option.some.injEq, Prod.mk.injEq] at h
      obtain ⟨rfl, rfl⟩ := h
      have hxb12 : ∀ h : 0 < a0.size, ((a0[0]'h).toNat : Int) = bt a0 0 := bt_at a0 0
      have qib12 := eq_true (aD : 0 < (a0.size : Int))
      have qb12 : (0 < a0.size) = True := eq_true (by have : (0 : Int) < (a0.size : Int) := aD; omega)
      rotate_left
      have cz := c17.out
      have c17x1 : decide (10 < a0.size) = false := decide_eq_false (by omega)
      clear cz
      replace h := bs h; obtain ⟨t108, B18, h⟩ := h
      replace h := iq h; rcases h with ⟨c19, ⟨c19a, c19b⟩, h⟩ | ⟨c19, ⟨c19a, c19b⟩, h⟩
      simp only [Option.some.injEq, Prod.mk.injEq] at h
      obtain ⟨rfl, rfl⟩ := h
      have hxb13 : ∀ h : 0 < a0.size, ((a0[0]'h).toNat : Int) = bt a0 0 := bt_at a0 0
      have qib13 := eq_true (aD : 0 < (a0.size : Int))
      have qb13 : (0 < a0.size) = True := eq_true (by have : (0 : Int) < (a0.size : Int) := aD; omega)
      rotate_left
      simp only [Option.some.injEq, Prod.mk.injEq] at h
      obtain ⟨rfl, rfl⟩ := h
      have hxb14 : ∀ h : 0 < a0.size, ((a0[0]'h).toNat : Int) = bt a0 0 := bt_at a0 0
      have qib14 := eq_true (aD : 0 < (a0.size : Int))
      have qb14 : (0 < a0.size) = True := eq_true (by have : (0 : Int) < (a0.size : Int) := aD; omega)
      rotate_left
      exact absurd h (by simp)
      have cz := c8.out
      have c8x1 : decide (0 < a0.size) = false := decide_eq_false (by omega)
      clear cz
      rcases kj2 with _ | kj20
      exact absurd h (by simp [spec_ParseInt.j2])
      simp only [spec_ParseInt.j2] at h
      (try replace h := iff_ h)
      replace h := ig h; rcases h with ⟨c21, c21a, h⟩ | ⟨c21, c21a, h⟩
      simp only [Option.some.injEq, Prod.mk.injEq] at h
      obtain ⟨rfl, rfl⟩ := h
      rotate_left
      replace h := ig h; rcases h with ⟨c22, c22a, h⟩ | ⟨c22, c22a, h⟩
      have cz := c22.out
      have c22x1 : decide (10 < a0.size) = true := decide_eq_true (by omega)
      clear cz
      simp only [Option.some.injEq, Prod.mk.injEq] at h
      obtain ⟨rfl, rfl⟩ := h
      rotate_left
      have cz := c22.out
      have c22x1 : decide (10 < a0.size) = false := decide_eq_false (by omega)
      clear cz
      replace h := bs h; obtain ⟨t108, B23, h⟩ := h
      replace h := iq h; rcases h with ⟨c24, ⟨c24a, c24b⟩, h⟩ | ⟨c24, ⟨c24a, c24b⟩, h⟩
      simp only [Option.some.injEq, Prod.mk.injEq] at h
      obtain ⟨rfl, rfl⟩ := h
      rotate_left
      simp only [Option.some.injEq, Prod.mk.injEq] at h
      obtain ⟨rfl, rfl⟩ := h
      rotate_left
      rcases kk0 with _ | kj25
      exact absurd h (by simp [spec_ParseInt.j1])
      simp only [spec_ParseInt.j1] at h
      (try replace h := iff_ h)
      replace h := ig h; rcases h with ⟨c26, c26a, h⟩ | ⟨c26, c26a, h⟩
      have cz := c26.out
      have c26x1 : decide (0 < a0.size) = true := decide_eq_true (by omega)
      clear cz
      replace h := il h; rcases h with ⟨c27, c27a, h⟩ | ⟨c27, c27a, h⟩
      have cz := c27.out
      have c27x1 : decide (0 < a0.size) = true := decide_eq_true (by omega)
      clear cz
      rcases kj25 with _ | kj28
      exact absurd h (by simp [spec_ParseInt.j2])
      simp only [spec_ParseInt.j2] at h
      replace h := ib h; rcases h with ⟨c29, h⟩ | ⟨c29, h⟩
      replace h := ig h; rcases h with ⟨c30, c30a, h⟩ | ⟨c30, c30a, h⟩
      simp only [Option.some.injEq, Prod.mk.injEq] at h
      obtain ⟨rfl, rfl⟩ := h
      have hxb15 : ∀ h : 0 < a0.size, ((a0[0]'h).toNat : Int) = bt a0 0 := bt_at a0 0
      have qib15 := eq_true (aD : 0 < (a0.size : Int))
      have qb15 : (0 < a0.size) = True := eq_true (by have : (0 : Int) < (a0.size : Int) := aD; omega)
      rotate_left
      replace h := ig h; rcases h with ⟨c31, c31a, h⟩ | ⟨c31, c31a, h⟩
      have cz := c31.out
      have c31x1 : decide (10 < a0.size) = true := decide_eq_true (by omega)
      clear cz
      simp only [Option.some.injEq, Prod.mk.injEq] at h
      obtain ⟨rfl, rfl⟩ := h
      have hxb16 : ∀ h : 0 < a0.size, ((a0[0]'h).toNat : Int) = bt a0 0 := bt_at a0 0
      have qib16 := eq_true (aD : 0 < (a0.size : Int))
      have qb16 : (0 < a0.size) = True := eq_true (by have : (0 : Int) < (a0.size : Int) := aD; omega)
      rotate_left
      have cz := c31.out
      have c31x1 : decide (10 < a0.size) = false := decide_eq_false (by omega)
      clear cz
      replace h := bs h; obtain ⟨t107, B32, h⟩ := h
      replace h := iq h; rcases h with ⟨c33, ⟨c33a, c33b⟩, h⟩ | ⟨c33, ⟨c33a, c33b⟩, h⟩
      simp only [Option.some.injEq, Prod.mk.injEq] at h
      obtain ⟨rfl, rfl⟩ := h
      have hxb17 : ∀ h : 0 < a0.size, ((a0[0]'h).toNat : Int) = bt a0 0 := bt_at a0 0
      have qib17 := eq_true (aD : 0 < (a0.size : Int))
      have qb17 : (0 < a0.size) = True := eq_true (by have : (0 : Int) < (a0.size : Int) := aD; omega)
      rotate_left
      simp only [Option.some.injEq, Prod.mk.injEq] at h
      obtain ⟨rfl, rfl⟩ := h
      have hxb18 : ∀ h : 0 < a0.size, ((a0[0]'h).toNat : Int) = bt a0 0 := bt_at a0 0
      have qib18 := eq_true (aD : 0 < (a0.size : Int))
      have qb18 : (0 < a0.size) = True := eq_true (by have : (0 : Int) < (a0.size : Int) := aD; omega)
      rotate_left
      replace h := ig h; rcases h with ⟨c34, c34a, h⟩ | ⟨c34, c34a, h⟩
      simp only [Option.some.injEq, Prod.mk.injEq] at h
      obtain ⟨rfl, rfl⟩ := h
      have hxb19 : ∀ h : 0 < a0.size, ((a0[0]'h).toNat : Int) = bt a0 0 := bt_at a0 0
      have qib19 := eq_true (aD : 0 < (a0.size : Int))
      have qb19 : (0 < a0.size) = True := eq_true (by have : (0 : Int) < (a0.size : Int) := aD; omega)
      rotate_left
      replace h := ig h; rcases h with ⟨c35, c35a, h⟩ | ⟨c35, c35a, h⟩
      have cz := c35.out
      have c35x1 : decide (10 < a0.size) = true := decide_eq_true (by omega)
      clear cz
      simp only [Option.some.injEq, Prod.mk.injEq] at h
      obtain ⟨rfl, rfl⟩ := h
      have hxb20 : ∀ h : 0 < a0.size, ((a0[0]'h).toNat : Int) = bt a0 0 := bt_at a0 0
      have qib20 := eq_true (aD : 0 < (a0.size : Int))
      have qb20 : (0 < a0.size) = True := eq_true (by have : (0 : Int) < (a0.size : Int) := aD; omega)
      rotate_left
      have cz := c35.out
      have c35x1 : decide (10 < a0.size) = false := decide_eq_false (by omega)
      clear cz
      replace h := bs h; obtain ⟨t108, B36, h⟩ := h
      replace h := iq h; rcases h with ⟨c37, ⟨c37a, c37b⟩, h⟩ | ⟨c37, ⟨c37a, c37b⟩, h⟩
      simp only [Option.some.injEq, Prod.mk.injEq] at h
      obtain ⟨rfl, rfl⟩ := h
      have hxb21 : ∀ h : 0 < a0.size, ((a0[0]'h).toNat : Int) = bt a0 0 := bt_at a0 0
      have qib21 := eq_true (aD : 0 < (a0.size : Int))
      have qb21 : (0 < a0.size) = True := eq_true (by have : (0 : Int) < (a0.size : Int) := aD; omega)
      rotate_left
      simp only [Option.some.injEq, Prod.mk.injEq] at h
      obtain ⟨rfl, rfl⟩ := h
      have hxb22 : ∀ h : 0 < a0.size, ((a0[0]'h).toNat : Int) = bt a0 0 := bt_at a0 0
      have qib22 := eq_true (aD : 0 < (a0.size : Int))
      have qb22 : (0 < a0.size) = True := eq_true (by have : (0 : Int) < (a0.size : Int) := aD; omega)
      rotate_left
      exact absurd h (by simp)
      have cz := c26.out
      have c26x1 : decide (0 < a0.size) = false := decide_eq_false (by omega)
      clear cz
      rcases kj25 with _ | kj38
      exact absurd h (by simp [spec_ParseInt.j2])
      simp only [spec_ParseInt.j2] at h
      (try replace h := iff_ h)
      replace h := ig h; rcases h with ⟨c39, c39a, h⟩ | ⟨c39, c39a, h⟩
      simp only [Option.some.injEq, Prod.mk.injEq] at h
      obtain ⟨rfl, rfl⟩ := h
      rotate_left
      replace h := ig h; rcases h with ⟨c40, c40a, h⟩ | ⟨c40, c40a, h⟩
      have cz := c40.out
      have c40x1 : decide (10 < a0.size) = true := decide_eq_true (by omega)
      clear cz
      simp only [Option.some.injEq, Prod.mk.injEq] at h
      obtain ⟨rfl, rfl⟩ := h
      rotate_left
      have cz := c40.out
      have c40x1 : decide (10 < a0.size) = false := decide_eq_false (by omega)
      clear cz
      replace h := bs h; obtain ⟨t108, B41, h⟩ := h
      replace h := iq h; rcases h with ⟨c42, ⟨c42a, c42b⟩, h⟩ | ⟨c42, ⟨c42a, c42b⟩, h⟩
      simp only [Option.some.injEq, Prod.mk.injEq] at h
      obtain ⟨rfl, rfl⟩ := h
      rotate_left
      simp only [Option.some.injEq, Prod.mk.injEq] at h
      obtain ⟨rfl, rfl⟩ := h
      rotate_left
      all_goals (go_wp2_with (first | (go_at_call 11; refine (spec_FormatInt.calls ?_ _ ?_ _ ?h).mono ?_; (case h => exact zA); rintro e w1 ⟨rfl, hb⟩; replace hb := aM hb; have HB : Below w.heap.size w w1 := zB)); first | (go_ret2; exact zE zB) | (go_roundg kf; (case measure => omega); (case rel => exact ⟨_, _, _, zR, zR, zR, zA, zB⟩)))

/-! ### strconv_Itoa_52: function 52 -/
def strconv_Itoa_52.f (a0 : Int) : Option (ByteArray) := if -9223372036854775808 ≤ a0 then (if a0 ≤ 9223372036854775807 then (some (⟨(Lib.itoa a0).toArray⟩ : ByteArray)) else (none)) else (none)
theorem strconv_Itoa_52.calls (a0 : Int) (r : ByteArray) (w : World) (h : strconv_Itoa_52.f a0 = some r) (hp_ : Go.Proofs.YtdpaopfghggiaaaDoor.Shelf.Pow w) :
  Calls Tryd.prog 52 #[.int .i64 a0] w fun e w' => e = .returned (.string r) ∧ Below w.heap.size w w' := by
 unfold strconv_Itoa_52.f at h
 replace h := ie h; rcases h with ⟨c0, c0a, h⟩ | ⟨c0, c0a, h⟩
 replace h := ie h; rcases h with ⟨c1, c1a, h⟩ | ⟨c1, c1a, h⟩
 obtain rfl := si h
 exact Shelf.Itoa a0 c0.out c1.out w hp_
 exact absurd h (by simp)
 exact absurd h (by simp)


/-! ### impl_within: function 71 -/
def impl_within.f (a0 : Int) (a1 : Int) (a2 : Int) : Option (Bool) := if a1 ≤ a0 then (some (decide (a0 ≤ a2))) else (some false)
set_option maxHeartbeats 8000000 in
set_option maxRecDepth 100000 in
theorem impl_within.calls (a0 : Int) (a1 : Int) (a2 : Int) (r : Bool) (w : World) (h : impl_within.f a0 a1 a2 = some r) :
    Calls Tryd.prog 71 #[.int .i64 a0, .int .i64 a1, .int .i64 a2] w fun e w' => e = .returned (.bool r) ∧ Drawn0 w w' := by
  unfold impl_within.f at h
  replace h := ie h; rcases h with ⟨c0, c0a, h⟩ | ⟨c0, c0a, h⟩
  obtain rfl := si h
  rotate_left
  obtain rfl := si h
  rotate_left
  all_goals (go_enter Tryd.func71, Tryd.ntmps71; go_wp2; go_ret; exact zE zD)

/-! ### impl_ParseInt: function 37 -/
def impl_ParseInt.f (a0 : ByteArray) : Option (Int × Bool) := some (if (a0.size : Int) > 10 then (0, false) else
  match Lib.atoi a0.toList with
  | none => (0, false)
  | some n => if Lib.itoa n = a0.toList ∧ -999999999 ≤ n ∧ n ≤ 999999999 then (n, true) else (0, false))
theorem win_ (n : Int) : impl_within.f n (-999999999) 999999999 = some (decide (-999999999 ≤ n ∧ n ≤ 999999999)) := by
  unfold impl_within.f
  by_cases h : -999999999 ≤ n
  · rw [if_pos h]; simp [h]
  · rw [if_neg h]; simp [h]
theorem impl_ParseInt.calls (a0 : ByteArray) (r1 : Int) (r2 : Bool) (w : World) (h : impl_ParseInt.f a0 = some (r1, r2)) (hp_ : Go.Proofs.YtdpaopfghggiaaaDoor.Shelf.PowE w) :
  Calls Tryd.prog 37 #[.string a0] w fun e w' => e = .returned (.tuple #[.int .i64 r1, .bool r2]) ∧ Below w.heap.size w w' := by
  unfold impl_ParseInt.f at h
  replace h := Option.some.inj h
  by_cases hs : (a0.size : Int) > 10
  · rw [if_pos hs] at h
    obtain ⟨rfl, rfl⟩ := Prod.mk.inj h
    have hx : decide (10 < (a0.size : Int)) = true := decide_eq_true hs
    have hy : decide (10 < a0.size) = true := decide_eq_true (by omega)
    clear hs
    go_enter Tryd.func37, Tryd.ntmps37
    go_wp2_with fail
    go_ret2
    exact ⟨rfl, Below.refl _ _⟩
  · rw [if_neg hs] at h
    have hl : a0.size ≤ 18 := by omega
    have hx : decide (10 < (a0.size : Int)) = false := decide_eq_false hs
    have hy : decide (10 < a0.size) = false := decide_eq_false (by omega)
    replace hl := Aside0.mk hl
    clear hs
    cases ha : Lib.atoi a0.toList with
    | none =>
      rw [ha] at h
      obtain ⟨rfl, rfl⟩ := Prod.mk.inj h
      go_enter Tryd.func37, Tryd.ntmps37
      go_wp2_with (go_at_call 70; refine (Shelf.Atoi_none a0 hl.out ha _ hp_).mono ?_; rintro e w1 ⟨T, N, rfl, hb⟩)
      go_ret2
      exact ⟨rfl, hb⟩
    | some n =>
      rw [ha] at h
      simp only at h
      have hb2 := Lib.atoi_bound ha (by rw [show a0.toList.length = a0.size from by rw [ByteArray.toList_eq, Array.length_toList]; rfl]; exact hl.out)
      obtain ⟨S, hS⟩ : ∃ S : ByteArray, (⟨(Lib.itoa n).toArray⟩ : ByteArray) = S := ⟨_, rfl⟩
      have hI := fun W hW => strconv_Itoa_52.calls n S W (by unfold strconv_Itoa_52.f; rw [if_pos (by omega), if_pos (by omega), hS]) hW
      have hq : (Lib.itoa n = a0.toList) ↔ S = a0 := by
        constructor
        · intro e; rw [← hS, e, ByteArray.toList_eq]
        · intro e; rw [← e, ← hS, ByteArray.toList_eq]
      replace h : (if S = a0 ∧ -999999999 ≤ n ∧ n ≤ 999999999 then (n, true) else ((0 : Int), false)) = (r1, r2) := by
        rw [← h]; exact ite_congr (by rw [hq]) (fun _ => rfl) (fun _ => rfl)
      have hw := win_ n
      by_cases c : S = a0
      · subst c
        clear hS hq
        by_cases d : -999999999 ≤ n ∧ n ≤ 999999999
        · rw [if_pos ⟨rfl, d⟩] at h
          obtain ⟨rfl, rfl⟩ := Prod.mk.inj h
          rw [decide_eq_true d] at hw
          clear d hb2
          go_enter Tryd.func37, Tryd.ntmps37
          go_wp2_with (first | (go_at_call 70; refine (Shelf.Atoi_some _ hl.out n ha _).mono ?_; rintro e w1 ⟨rfl, hb⟩) | (go_at_call 52; refine (hI _ (hp_.pow.on hb)).mono ?_; rintro e w2 ⟨rfl, hc⟩) | (go_at_call 71; refine (impl_within.calls _ _ _ _ _ hw).mono ?_; rintro e w3 ⟨rfl, hd⟩))
          go_ret2
          exact ⟨rfl, below_then hb hb.size (below_then hc hc.size hd.below)⟩
        · rw [if_neg (fun z => d z.2)] at h
          obtain ⟨rfl, rfl⟩ := Prod.mk.inj h
          rw [decide_eq_false d] at hw
          clear d hb2
          go_enter Tryd.func37, Tryd.ntmps37
          go_wp2_with (first | (go_at_call 70; refine (Shelf.Atoi_some _ hl.out n ha _).mono ?_; rintro e w1 ⟨rfl, hb⟩) | (go_at_call 52; refine (hI _ (hp_.pow.on hb)).mono ?_; rintro e w2 ⟨rfl, hc⟩) | (go_at_call 71; refine (impl_within.calls _ _ _ _ _ hw).mono ?_; rintro e w3 ⟨rfl, hd⟩))
          go_ret2
          exact ⟨rfl, below_then hb hb.size (below_then hc hc.size hd.below)⟩
      · rw [if_neg (fun z => c z.1)] at h
        obtain ⟨rfl, rfl⟩ := Prod.mk.inj h
        clear hS hq hb2
        have ct : ¬ S.toList = a0.toList := fun e => c (by rw [ByteArray.toList_eq, ByteArray.toList_eq] at e; exact ByteArray.ext (Array.ext' e))
        have cg : (!S.toList == a0.toList) = true := by simp [ct]
        go_enter Tryd.func37, Tryd.ntmps37
        go_wp2_with (first | (go_at_call 70; refine (Shelf.Atoi_some _ hl.out n ha _).mono ?_; rintro e w1 ⟨rfl, hb⟩) | (go_at_call 52; refine (hI _ (hp_.pow.on hb)).mono ?_; rintro e w2 ⟨rfl, hc⟩))
        all_goals first | exact absurd (by assumption : S.toList = a0.toList) ct | (go_ret2; exact ⟨rfl, below_then hb hb.size hc⟩)


/-! ### laws_FnExactParseInt: function 8 -/
def laws_FnExactParseInt.f (k : Nat) (a0 : ByteArray) : Option (Bool) := if (a0.size : Int) > 1048576 then (some true) else ((spec_ParseInt.f k a0).bind fun bt140 => ((impl_ParseInt.f a0).bind fun bt142 => (if bt142.1 = bt140.1 then (if (bt142.2 != bt140.2) = true then (some false) else (some true)) else (some false))))
set_option maxHeartbeats 8000000 in
set_option maxRecDepth 100000 in
theorem laws_FnExactParseInt.calls (k : Nat) (a0 : ByteArray) (r : Bool) (w : World) (h : laws_FnExactParseInt.f k a0 = some r) (hr_ : r = true) (hp_ : Go.Proofs.YtdpaopfghggiaaaDoor.Shelf.PowE w) :
    Calls Tryd.prog 8 #[.string a0] w fun e w' => e = .returned (.bool r) ∧ Below w.heap.size w w' := by
  have HRT_ := Aside0.mk hr_
  clear hr_
  unfold laws_FnExactParseInt.f at h
  replace h := ig h; rcases h with ⟨c0, c0a, h⟩ | ⟨c0, c0a, h⟩
  have cz := c0.out
  have c0x1 : decide (1048576 < a0.size) = true := decide_eq_true (by omega)
  clear cz
  obtain rfl := si h
  rotate_left
  have cz := c0.out
  have c0x1 : decide (1048576 < a0.size) = false := decide_eq_false (by omega)
  clear cz
  replace h := bs h; obtain ⟨⟨t140, t141⟩, B1, h⟩ := h
  dsimp only at h
  replace h := bs h; obtain ⟨⟨t142, t143⟩, B2, h⟩ := h
  dsimp only at h
  replace h := iq h; rcases h with ⟨c3, ⟨c3a, c3b⟩, h⟩ | ⟨c3, ⟨c3a, c3b⟩, h⟩
  replace h := ib h; rcases h with ⟨c4, h⟩ | ⟨c4, h⟩
  have c4x0 : (!t143 == t141) = true := c4
  obtain rfl := si h
  rotate_left
  have c4x0 : (!t143 == t141) = false := c4
  obtain rfl := si h
  rotate_left
  obtain rfl := si h
  rotate_left
  all_goals (go_enter Tryd.func8, Tryd.ntmps8; go_wp2_with (first | (go_at_call 36; refine (spec_ParseInt.calls ?_ _ ?_ ?_ _ ?h).mono ?_; (case h => exact zA); rintro e w1 ⟨rfl, hb⟩; replace hb := aM hb; have HB : Below w.heap.size w w1 := zB) | (go_at_call 37; refine (impl_ParseInt.calls _ ?_ ?_ _ ?h ?hp).mono ?_; (case h => exact zA); (case hp => exact hp_.on zB); rintro e w1 ⟨rfl, hb⟩; replace hb := aM hb; have HB : Below w.heap.size w w1 := zB)); go_ret; exact zE zB)

end Go.Proofs.YtdpaopfghggiaaaDoor.PFnExactParseInt
