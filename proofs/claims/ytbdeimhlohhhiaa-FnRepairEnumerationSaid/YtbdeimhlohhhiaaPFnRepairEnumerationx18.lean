import Derived.Test.YtbdeimhlohhhiaaPFnRepairEnumerationx0
import Derived.Test.YtbdeimhlohhhiaaPFnRepairEnumerationx2
import Derived.Test.YtbdeimhlohhhiaaPFnRepairEnumerationx4
import Derived.Test.YtbdeimhlohhhiaaPFnRepairEnumerationx10
import Derived.Test.YtbdeimhlohhhiaaPFnRepairEnumerationx17
namespace Go.Proofs.Ytbdeimhlohhhiaa.PFnRepairEnumeration
open Go.RowKit Go.Proofs.YtbdeimhlohhhiaaW.PrintWords Go.Proofs.YtbdeimhlohhhiaaW.PrintLast Go.Proofs.YtbdeimhlohhhiaaW.PrintMore
attribute [local go_sem] max2_int min2_int max_two min_two max_three min_three max_four min_four
set_option linter.unusedVariables false
set_option linter.unusedSimpArgs false

/-! ### spec_l1New: function 43 -/
def spec_l1New.l0 : Nat → List Int → Int → Int → Option (List Int × Int × Int)
 | 0, _, _, _ => none
 | k + 1, x0, x3, x4 => if x4 < (x0.length : Int) then (if x4 < 4000 then (if 0 ≤ x4 then (spec_l1New.l0 k x0 (Go.bits .and .i64 (wrap64 ((wrap64 ((wrap64 (x3 * 131)) + (wrap64 (rd x0 x4)))) + 7)) 1073741823) (wrap64 (x4 + 1))) else (none)) else (some (x0, 0, x3))) else (some (x0, 0, x3))
def spec_l1New.f (k : Nat) (l0 : List Int) : Option (List Int × Int × Int) := spec_l1New.l0 k l0 (wrap64 (10101 + (l0.length : Int))) 0
set_option maxHeartbeats 8000000 in
set_option maxRecDepth 100000 in
theorem spec_l1New.calls (k : Nat) (A0 : Option Addr) (c0 : Nat) (l0 : List Int) (r1 : List Int) (r2 : Int) (r3 : Int) (w0 w : World) (hB : Below w0.heap.size w0 w) (hr0 : Kd.C (Kd.int .u8) w0 A0 l0.length l0) (hc0 : l0.length ≤ c0) (h : spec_l1New.f k l0 = some (r1, r2, r3)) :
  Calls Try.prog 43 #[.slice A0 l0.length c0] w fun e w' => ∃ g_ : Nat, e = .returned (.pointer (some ⟨g_, 0, none⟩)) ∧ IsS83 w0 w' g_ r1 r2 r3 ∧ Below w0.heap.size w0 w' ∧ Below w.heap.size w w' := by
 have hu83 := Try.underlying83
 have HR0 := aM hr0
 have HC0 := aM hc0
 clear hr0 hc0
 have HBW := aM (Below.refl w.heap.size w)
 have HW0 := aM hB.size
 have HB := aM hB
 clear hB
 have H : (spec_l1New.l0 k l0 (wrap64 (10101 + (l0.length : Int))) 0) = some (r1, r2, r3) := h
 clear h
 have H' := aM H
 clear H
 go_enter Try.func43, Try.ntmps43
 go_wp2
 go_loopg [3, 4] k (fun kq v3 v4 w' => ∃ (x3_1 : Int) (x4_1 : Int), v3 = .int .i64 x3_1 ∧ v4 = .int .i64 x4_1 ∧ Aside0 (spec_l1New.l0 kq l0 x3_1 x4_1 = some (r1, r2, r3)) ∧ Aside0 (kq ≤ k) ∧ Aside0 (Below w0.heap.size w0 w') ∧ Aside0 (Below w.heap.size w w'))
 case atStart => exact ⟨(wrap64 (10101 + (l0.length : Int))), (0), aX, aX, H', ⟨Nat.le_refl _⟩, ⟨aB⟩, HBW⟩
 case round =>
  clear H'
  obtain ⟨x3_1, x4_1, rfl, rfl, HA, HK1, HB, HBW⟩ := hrel
  cases gk with
  | zero => exact absurd HA.out (by simp [spec_l1New.l0])
  | succ k1 =>
   have H := HA.out
   clear HA
   simp only [spec_l1New.l0] at H
   by_cases c2 : x4_1 < (l0.length : Int)
   ·rw [if_pos c2] at H
    have c2b0 : decide (x4_1 < (l0.length : Int)) = true := decide_eq_true c2
    clear c2
    by_cases c3 : x4_1 < 4000
    ·rw [if_pos c3] at H
     have c3b0 : decide (x4_1 < 4000) = true := decide_eq_true c3
     clear c3
     by_cases c4 : 0 ≤ x4_1
     ·rw [if_pos c4] at H
      have c4b0 : decide (0 ≤ x4_1) = true := decide_eq_true c4
      clear c4
      have H' := aM H
      clear H
      have p560 : 0 ≤ (x4_1 : Int) := aD
      have q560 : x4_1 < (l0.length : Int) := aD
      obtain ⟨ad560, e560, hx560_0⟩ := Kd.at_int HR0.out x4_1 p560 q560
      cases e560
      replace hx560_0 := pw_cell_below HB.out hx560_0
      replace p560 := eq_true p560
      replace q560 := eq_true q560
      go_wp2
      go_roundg k1
      case measure => have := HK1.out; omega
      case rel => exact ⟨(Go.bits .and .i64 (wrap64 ((wrap64 ((wrap64 (x3_1 * 131)) + (wrap64 (rd l0 x4_1)))) + 7)) 1073741823), (wrap64 (x4_1 + 1)), aX, aX, H', ⟨by have := HK1.out; omega⟩, ⟨aB⟩, HBW⟩
     ·rw [if_neg c4] at H
      exact absurd H (by simp)
    ·rw [if_neg c3] at H
     have c3b0 : decide (x4_1 < 4000) = false := decide_eq_false c3
     clear c3
     simp only [Option.some.injEq, Prod.mk.injEq] at H
     obtain ⟨rfl, rfl, rfl⟩ := H
     go_wp2_with (first | ((with_reducible refine gate_dst (N := 31) rfl ?_); refine bE 31 (cs := #[.slice A0 l0.length c0, .int .i64 0, .int .i64 x3_1]) (t := 83) ?_; intro gb561 hg w5 hbox hb; have BK561 := aM (hbox); have GW561 := aM ((by rw [hg]; exact (below_size (by repeat (first | (with_reducible first | exact HBW.out | apply below_alloc | apply pw_below_drewN | apply below_drew1) | exact HBW.out))) : w.heap.size ≤ gb561)); have GE561 := aM ((Nat.le_trans HW0.out (by rw [hg]; exact (below_size (by repeat (first | (with_reducible first | exact HBW.out | apply below_alloc | apply pw_below_drewN | apply below_drew1) | exact HBW.out))) : w.heap.size ≤ gb561) : w0.heap.size ≤ gb561)); replace HBW := aM (below_step HBW.out hb); replace HB := aM (below_step aB hb); clear hb hbox hg))
     go_ret
     exact ⟨_, rfl, (show IsS83 w0 _ gb561 l0 0 x3_1 from ⟨_, _, aK, GE561.out, HR0.out⟩), aG, by repeat (first | (with_reducible first | exact HBW.out | apply below_alloc | apply pw_below_drewN | apply below_drew1 | refine below_set ?_ GW561.out) | exact HBW.out)⟩
   ·rw [if_neg c2] at H
    have c2b0 : decide (x4_1 < (l0.length : Int)) = false := decide_eq_false c2
    clear c2
    simp only [Option.some.injEq, Prod.mk.injEq] at H
    obtain ⟨rfl, rfl, rfl⟩ := H
    go_wp2_with (first | ((with_reducible refine gate_dst (N := 31) rfl ?_); refine bE 31 (cs := #[.slice A0 l0.length c0, .int .i64 0, .int .i64 x3_1]) (t := 83) ?_; intro gb562 hg w6 hbox hb; have BK562 := aM (hbox); have GW562 := aM ((by rw [hg]; exact (below_size (by repeat (first | (with_reducible first | exact HBW.out | apply below_alloc | apply pw_below_drewN | apply below_drew1) | exact HBW.out))) : w.heap.size ≤ gb562)); have GE562 := aM ((Nat.le_trans HW0.out (by rw [hg]; exact (below_size (by repeat (first | (with_reducible first | exact HBW.out | apply below_alloc | apply pw_below_drewN | apply below_drew1) | exact HBW.out))) : w.heap.size ≤ gb562) : w0.heap.size ≤ gb562)); replace HBW := aM (below_step HBW.out hb); replace HB := aM (below_step aB hb); clear hb hbox hg))
    go_ret
    exact ⟨_, rfl, (show IsS83 w0 _ gb562 l0 0 x3_1 from ⟨_, _, aK, GE562.out, HR0.out⟩), aG, by repeat (first | (with_reducible first | exact HBW.out | apply below_alloc | apply pw_below_drewN | apply below_drew1 | refine below_set ?_ GW562.out) | exact HBW.out)⟩

/-! ### spec_DrawNthRepair: function 33 -/
def spec_DrawNthRepair.f (k : Nat) (l0 : List Int) : Option ((List (S70)) × (List (S35)) × Int) := (spec_l1New.f k l0).bind fun bt564 => ((spec_l4Any.f k bt564.1 bt564.2.1 bt564.2.2).bind fun bt568 => ((spec_CountRepairs.f k bt568.1 bt568.2.1).bind fun t577 => ((spec_l1Below.f bt564.1 bt568.2.2.1 bt568.2.2.2 (mn 200 (wrap64 (t577 + 2)))).bind fun bt578 => (some (bt568.1, bt568.2.1, wrap64 (bt578.1 - 1))))))
def spec_DrawNthRepair.T3 : Bool × List (List Nat × List Nat) := (true, [([], []), ([], []), ([], []), ([2], [2]), ([3], [3]), ([4], [4]), ([1, 5, 3], [1, 5]), ([6], [6]), ([0, 6, 0], [0]), ([7, 8, 0, 1, 2, 3, 4, 5, 6, 7, 8], [7])])
def spec_DrawNthRepair.B3 : List Nat := [0, 0, 0, 4, 12, 28, 62, 126, 127, 511]
theorem spec_DrawNthRepair.tab3 : rtab .any (opsOf Try.f33 3) = spec_DrawNthRepair.T3 := by kernel_rfl
theorem spec_DrawNthRepair.bits3 : waitsOk spec_DrawNthRepair.T3.2 spec_DrawNthRepair.B3 = true := by kernel_rfl
set_option maxHeartbeats 8000000 in
set_option maxRecDepth 100000 in
theorem spec_DrawNthRepair.calls (k : Nat) (A0 : Option Addr) (c0 : Nat) (l0 : List Int) (r1 : List (S70)) (r2 : List (S35)) (r3 : Int) (w : World) (hr0 : Kd.C (Kd.int .u8) w A0 l0.length l0) (hc0 : l0.length ≤ c0) (h : spec_DrawNthRepair.f k l0 = some (r1, r2, r3)) :
  Calls Try.prog 33 #[.slice A0 l0.length c0] w fun e w' => ∃ v0_ v1_ : Value, e = .returned (.tuple #[.agg #[v0_, v1_], .int .i64 r3]) ∧ Kd.R k70 70 w' w.heap.size (fun k_ => (w.heap.size ≤ k_)) v0_ r1 ∧ Kd.N k35 35 w' w.heap.size (fun k_ => (w.heap.size ≤ k_) ∧ some k_ ≠ (v0_ : Value).ownBlock) v1_ r2 ∧ Below w.heap.size w w' := by
 have hu27 := Try.underlying27
 have HR0 := aM hr0
 have HC0 := aM hc0
 clear hr0 hc0
 have HB := aM (Below.refl w.heap.size w)
 have H : ((spec_l1New.f k l0).bind fun bt564 => ((spec_l4Any.f k bt564.1 bt564.2.1 bt564.2.2).bind fun bt568 => ((spec_CountRepairs.f k bt568.1 bt568.2.1).bind fun t577 => ((spec_l1Below.f bt564.1 bt568.2.2.1 bt568.2.2.2 (mn 200 (wrap64 (t577 + 2)))).bind fun bt578 => (some (bt568.1, bt568.2.1, wrap64 (bt578.1 - 1))))))) = some (r1, r2, r3) := h
 clear h
 replace H := bM H
 obtain ⟨⟨t564, t565, t566⟩, A20, H⟩ := H
 dsimp only at H
 have A2 := aM A20
 clear A20
 replace H := bM H
 obtain ⟨⟨t568, t571, t574, t575⟩, A30, H⟩ := H
 dsimp only at H
 have A3 := aM A30
 clear A30
 replace H := bM H
 obtain ⟨t577, A40, H⟩ := H
 have A4 := aM A40
 clear A40
 obtain ⟨ji5, hji5⟩ : ∃ j_ : Int, (mn 200 (wrap64 (t577 + 2))) = j_ := ⟨_, rfl⟩
 replace H : ((spec_l1Below.f t564 t574 t575 (ji5)).bind fun bt578 => (some (t568, t571, wrap64 (bt578.1 - 1)))) = some (r1, r2, r3) := by first | (rw [hji5] at H; exact H) | (simp only [hji5] at H ⊢; exact H)
 (try rw [hji5] at A2)
 (try rw [hji5] at A3)
 (try rw [hji5] at A4)
 (try (have hji5h : ji5 ≤ 200 := by (rw [← hji5]; unfold mn; (repeat' split) <;> omega)))
 (try (have hji5g : ji5 ≤ 64 := by omega))
 have hji5_ : (if (wrap64 (t577 + 2)) < 200 then (wrap64 (t577 + 2)) else 200) = ji5 := hji5
 replace H := bM H
 obtain ⟨⟨t578, t579, t580⟩, A60, H⟩ := H
 dsimp only at H
 have A6 := aM A60
 clear A60
 simp only [Option.some.injEq, Prod.mk.injEq] at H
 obtain ⟨rfl, rfl, rfl⟩ := H
 go_enter Try.func33, Try.ntmps33
 try go_wp2_with (first | ((with_reducible refine gate_dst (N := 2) rfl ?_); refine bE 2 (cs := #[.slice none 0 0, .slice none 0 0]) (t := 27) ?_; intro gb563 hg w7 hbox hb; have BK563 := aM (hbox); have GW563 := aM ((by rw [hg]; exact (below_size aB) : w.heap.size ≤ gb563)); have GE563 := aM ((by rw [hg]; exact (below_size aB) : w.heap.size ≤ gb563)); replace HB := aM (below_step aB hb); clear hb hbox hg) | ((with_reducible refine gate_callee (f := 43) rfl ?_); refine goesL_ (some 7) rfl rfl Try.func43 (by kernel_rfl) rfl #[.slice A0 l0.length c0] rfl aA ?_; (with_reducible refine (spec_l1New.calls k _ _ l0 t564 t565 t566 w _ ?side1 ?side2 ?side3 A2.out).mono ?_); (case side1 => exact aG); (case side2 => exact HR0.out); (case side3 => exact HC0.out); rintro e w8 ⟨g567, rfl, hi, hb, hb2⟩; refine ⟨_, rfl, ?_⟩; have HI567 := aM (hi); have NB567_563 := aM (IsS83.ne_blk hi (blk_below (g := gb563) (o := .cells #[.slice none 0 0, .slice none 0 0] 27 (0, 0)) aK hb2) (by decide)); have NB563_567 := aM (Ne.symm (IsS83.ne_blk hi (blk_below (g := gb563) (o := .cells #[.slice none 0 0, .slice none 0 0] 27 (0, 0)) aK hb2) (by decide))); replace BK563 := aM (blk_below (g := gb563) (o := .cells #[.slice none 0 0, .slice none 0 0] 27 (0, 0)) aK hb2); replace HB := aM (hb); (try clear hb); (try clear hb2); (try clear hk); (try clear hi)) | ((with_reducible refine gate_callee (f := 42) rfl ?_); refine goesL_ (some 9) rfl rfl Try.func42 (by kernel_rfl) rfl #[.pointer (some ⟨g567, 0, none⟩)] rfl aA ?_; (with_reducible refine (spec_l4Any.calls k g567 t564 t565 t566 t568 t571 t574 t575 w _ ?side1 ?side2 A3.out).mono ?_); (case side1 => repeat (first | (with_reducible first | exact HI567.out | apply IsS83.alloc | apply IsS83.drewN | apply IsS83.drew | apply IsS83.set_1 | apply IsS83.set_2 | refine IsS83.far ?_ NB567_563.out _) | exact HI567.out)); (case side2 => repeat (first | (with_reducible first | exact HB.out | apply below_alloc | apply pw_below_drewN | apply below_drew1 | refine below_set ?_ (IsS83.ge HI567.out) | refine below_set ?_ GE563.out) | exact HB.out)); rintro e w9 ⟨v569, v572, rfl, ho0, ho1, hi, hb, hk⟩; refine ⟨_, rfl, ?_⟩; have HO570 := aM (Kd.R_lower (Kd.R_newM (M := fun k_ => (w.heap.size ≤ k_)) (Kd.R_mono (ok' := fun k_ => True) ho0 (fun _ hk_ => trivial)) (below_size (by repeat (first | (with_reducible first | exact HB.out | apply below_alloc | apply pw_below_drewN | apply below_drew1 | refine below_set ?_ (IsS83.ge HI567.out) | refine below_set ?_ GE563.out) | exact HB.out))) (fun k_ h_ => h_)) (below_size (by repeat (first | (with_reducible first | exact HB.out | apply below_alloc | apply pw_below_drewN | apply below_drew1 | refine below_set ?_ (IsS83.ge HI567.out) | refine below_set ?_ GE563.out) | exact HB.out)))); have HO573 := aM (Kd.N_lower (Kd.N_mono (ok' := fun k_ => (w.heap.size ≤ k_) ∧ some k_ ≠ (v569 : Value).ownBlock ∧ k_ ≠ gb563 ∧ k_ ≠ g567) ho1 (fun k_ hk_ => ⟨(Nat.le_trans (below_size (by repeat (first | (with_reducible first | exact HB.out | apply below_alloc | apply pw_below_drewN | apply below_drew1 | refine below_set ?_ (IsS83.ge HI567.out) | refine below_set ?_ GE563.out) | exact HB.out))) hk_.1), hk_.2, (Kd.freshB (g := gb563) (o := .cells #[.slice none 0 0, .slice none 0 0] 27 (0, 0)) aK k_ hk_.1), (IsS83.fresh (by repeat (first | (with_reducible first | exact HI567.out | apply IsS83.alloc | apply IsS83.drewN | apply IsS83.drew | apply IsS83.set_1 | apply IsS83.set_2 | refine IsS83.far ?_ NB567_563.out _) | exact HI567.out)) k_ hk_.1)⟩)) (below_size (by repeat (first | (with_reducible first | exact HB.out | apply below_alloc | apply pw_below_drewN | apply below_drew1 | refine below_set ?_ (IsS83.ge HI567.out) | refine below_set ?_ GE563.out) | exact HB.out)))); replace BK563 := aM (KeepBut.blk hk (g' := gb563) (o := .cells #[.slice none 0 0, .slice none 0 0] 27 (0, 0)) aK NB563_567.out (by simp)); replace HB := aM (hb); replace HI567 := aM (hi); (try clear hb); (try clear hb2); (try clear hk); (try clear hi); (try clear ho0); (try clear ho1)) | ((with_reducible refine gate_dst (N := 5) rfl ?_); refine bE 5 (cs := #[.slice none 0 0, .slice none 0 0]) (t := 27) ?_; intro gb576 hg w10 hbox hb; have BK576 := aM (hbox); have GW576 := aM ((by rw [hg]; exact (below_size (by repeat (first | (with_reducible first | exact HB.out | apply below_alloc | apply pw_below_drewN | apply below_drew1 | refine below_set ?_ (IsS83.ge HI567.out) | refine below_set ?_ GE563.out) | exact HB.out))) : w.heap.size ≤ gb576)); have GE576 := aM ((by rw [hg]; exact (below_size (by repeat (first | (with_reducible first | exact HB.out | apply below_alloc | apply pw_below_drewN | apply below_drew1 | refine below_set ?_ (IsS83.ge HI567.out) | refine below_set ?_ GE563.out) | exact HB.out))) : w.heap.size ≤ gb576)); have NB563_576 := aM ((by rw [hg]; exact Nat.ne_of_lt (blk_lt (g := gb563) (o := .cells #[.slice none 0 0, .slice none 0 0] 27 (0, 0)) aK) : gb563 ≠ gb576)); have NB576_563 := aM ((by rw [hg]; exact Nat.ne_of_gt (blk_lt (g := gb563) (o := .cells #[.slice none 0 0, .slice none 0 0] 27 (0, 0)) aK) : gb576 ≠ gb563)); have NB567_576 := aM ((by rw [hg]; exact Nat.ne_of_lt (IsS83.lt (show IsS83 w _ g567 t564 t574 t575 from by repeat (first | (with_reducible first | exact HI567.out | apply IsS83.alloc | apply IsS83.drewN | apply IsS83.drew | apply IsS83.set_1 | apply IsS83.set_2 | refine IsS83.far ?_ NB567_563.out _) | exact HI567.out))) : g567 ≠ gb576)); have NB576_567 := aM ((by rw [hg]; exact Nat.ne_of_gt (IsS83.lt (show IsS83 w _ g567 t564 t574 t575 from by repeat (first | (with_reducible first | exact HI567.out | apply IsS83.alloc | apply IsS83.drewN | apply IsS83.drew | apply IsS83.set_1 | apply IsS83.set_2 | refine IsS83.far ?_ NB567_563.out _) | exact HI567.out))) : gb576 ≠ g567)); replace HO570 := aM (Kd.R_below (aR HO570) hb); replace HO573 := aM (Kd.N_below (Kd.N_elderB (aN HO573) gb576 (Nat.le_of_eq hg.symm)) hb); replace BK563 := aM (kB gb563 #[.slice none 0 0, .slice none 0 0] 27 hb); replace HB := aM (below_step (by repeat (first | (with_reducible first | exact HB.out | apply below_alloc | apply pw_below_drewN | apply below_drew1 | refine below_set ?_ (IsS83.ge HI567.out) | refine below_set ?_ GE563.out) | exact HB.out)) hb); replace HI567 := aM (IsS83.below (by repeat (first | (with_reducible first | exact HI567.out | apply IsS83.alloc | apply IsS83.drewN | apply IsS83.drew | apply IsS83.set_1 | apply IsS83.set_2 | refine IsS83.far ?_ NB567_563.out _) | exact HI567.out)) hb); clear hb hbox hg; obtain ⟨Ao11, co11, eo11⟩ := Kd.R_slice HO570.out; subst eo11; have hnb12 := NB576_563.out; have hnc12 := NB563_576.out; have hnb13 := NB576_567.out; have hnc13 := NB567_576.out; have hcz14_0 : w10.cell? ⟨gb576, 0, none⟩ = some (.slice none 0 0) := (blk_cell BK576.out 0).trans rfl; have hcz14_1 : w10.cell? ⟨gb576, 1, none⟩ = some (.slice none 0 0) := (blk_cell BK576.out 1).trans rfl; have hfz14_0 := blk_frozen BK576.out 0; have hfz14_1 := blk_frozen BK576.out 1; obtain ⟨Ao15, co15, eo15⟩ := Kd.N_slice HO573.out; subst eo15))
 have n0_ : Aside0 (Kd.R k70 70 ((w10.setCell ⟨gb576, 0, none⟩ (.slice Ao11 t568.length co11)).setCell ⟨gb576, 1, none⟩ (.slice Ao15 t571.length co15)) w.heap.size (fun k_ => (w.heap.size ≤ k_)) (.slice Ao11 t568.length co11) t568) := ⟨by (with_reducible repeat apply pR); exact Kd.R_mono (Kd.R_far (p := ⟨gb576, 1, none⟩) (Kd.R_far (p := ⟨gb576, 0, none⟩) (Kd.R_types HO570.out BK576.out (by decide)) (fun _ hk => hk.2) (.slice Ao11 t568.length co11)) (fun _ hk => hk.2) (.slice Ao15 t571.length co15)) (fun _ hk => hk.1.1)⟩
 have n1_ : Aside0 (Kd.N k35 35 ((w10.setCell ⟨gb576, 0, none⟩ (.slice Ao11 t568.length co11)).setCell ⟨gb576, 1, none⟩ (.slice Ao15 t571.length co15)) w.heap.size (fun k_ => (w.heap.size ≤ k_) ∧ some k_ ≠ (.slice Ao11 t568.length co11 : Value).ownBlock ∧ k_ ≠ gb563 ∧ k_ ≠ g567 ∧ k_ ≠ gb576) (.slice Ao15 t571.length co15) t571) := ⟨by (with_reducible repeat apply pN); exact Kd.N_mono (Kd.N_far (p := ⟨gb576, 1, none⟩) (Kd.N_far (p := ⟨gb576, 0, none⟩) (Kd.N_mono HO573.out (fun k_ hk => (⟨hk, hk.2⟩ : _ ∧ k_ ≠ gb576))) (fun _ hk => hk.2) (.slice Ao11 t568.length co11)) (fun _ hk => hk.2) (.slice Ao15 t571.length co15)) (fun _ hk => ⟨hk.1.1.1, ⟨hk.1.1.2.1, ⟨hk.1.1.2.2.1, ⟨hk.1.1.2.2.2, hk.1.2⟩⟩⟩⟩)⟩
 have n2_ : Aside0 (((w10.setCell ⟨gb576, 0, none⟩ (.slice Ao11 t568.length co11)).setCell ⟨gb576, 1, none⟩ (.slice Ao15 t571.length co15)).heap[gb563]? = some (.cells #[.slice none 0 0, .slice none 0 0] 27 (0, 0))) := ⟨by (with_reducible repeat refine pB ?_); refine blk_far ?_ NB563_576.out _; (with_reducible repeat refine pB ?_); refine blk_far ?_ NB563_576.out _; (with_reducible repeat refine pB ?_); exact BK563.out⟩
 have n3_ : Aside0 (((w10.setCell ⟨gb576, 0, none⟩ (.slice Ao11 t568.length co11)).setCell ⟨gb576, 1, none⟩ (.slice Ao15 t571.length co15)).heap[gb576]? = some (.cells #[.slice Ao11 t568.length co11, .slice Ao15 t571.length co15] 27 (0, 0))) := ⟨by (with_reducible repeat refine pB ?_); refine blk_put (cs := #[.slice Ao11 t568.length co11, .slice none 0 0]) ?_ 1 _ rfl; (with_reducible repeat refine pB ?_); refine blk_put (cs := #[.slice none 0 0, .slice none 0 0]) ?_ 0 _ rfl; (with_reducible repeat refine pB ?_); exact BK576.out⟩
 have n4_ : Aside0 (IsS83 w ((w10.setCell ⟨gb576, 0, none⟩ (.slice Ao11 t568.length co11)).setCell ⟨gb576, 1, none⟩ (.slice Ao15 t571.length co15)) g567 t564 t574 t575) := ⟨by repeat (first | (with_reducible first | exact HI567.out | apply IsS83.alloc | apply IsS83.drewN | apply IsS83.drew | apply IsS83.set_1 | apply IsS83.set_2 | refine IsS83.far ?_ NB567_563.out _ | refine IsS83.far ?_ NB567_576.out _) | exact HI567.out)⟩
 have n5_ : Aside0 (Below w.heap.size w ((w10.setCell ⟨gb576, 0, none⟩ (.slice Ao11 t568.length co11)).setCell ⟨gb576, 1, none⟩ (.slice Ao15 t571.length co15))) := ⟨by repeat (first | (with_reducible first | exact HB.out | apply below_alloc | apply pw_below_drewN | apply below_drew1 | refine below_set ?_ (IsS83.ge HI567.out) | refine below_set ?_ GE563.out | refine below_set ?_ GE576.out) | exact HB.out)⟩
 (try clear HO570)
 (try clear HO573)
 (try clear BK563)
 (try clear BK576)
 (try clear HI567)
 (try clear HB)
 generalize ((w10.setCell ⟨gb576, 0, none⟩ (.slice Ao11 t568.length co11)).setCell ⟨gb576, 1, none⟩ (.slice Ao15 t571.length co15)) = w16 at n0_ n1_ n2_ n3_ n4_ n5_ ⊢
 have HO570 := n0_
 have HO573 := n1_
 have BK563 := n2_
 have BK576 := n3_
 have HI567 := n4_
 have HB := n5_
 clear n0_ n1_ n2_ n3_ n4_ n5_
 replace HO570 := aM (Kd.R_drew HO570.out)
 replace HO573 := aM (Kd.N_drew HO573.out)
 replace BK563 := aM (blk_drew BK563.out)
 replace BK576 := aM (blk_drew BK576.out)
 replace HI567 := aM (IsS83.drew HI567.out)
 replace HB := aM (below_drew1 HB.out)
 refine start_ (n := 10) (S := fun w' => w'.cell? ⟨gb576, 0, none⟩ = some (.slice Ao11 t568.length co11) ∧ w'.cell? ⟨gb576, 1, none⟩ = some (.slice Ao15 t571.length co15)) (ds := []) #[false, false, false, false, false, false, false, false, false, false] (by kernel_rfl) rfl rfl ⟨(blk_cell BK576.out 0).trans rfl, (blk_cell BK576.out 1).trans rfl⟩ (fun hHeld => ?_); refine with_tabW spec_DrawNthRepair.tab3 spec_DrawNthRepair.bits3 (fun HT_ HW_ => ?_)
 generalize w16.drew = w17 at HO570 HO573 BK563 BK576 HI567 HB hHeld ⊢
 refine pU 1 11 ?_
 refine tU2 0 10 hHeld ?_
 refine tU2 2 12 hHeld ?_
 refine oU 3 13 (fun K hK => ?_)
 refine goes_ Try.func37 (by kernel_rfl) rfl #[.agg #[.slice Ao11 t568.length co11, .slice Ao15 t571.length co15]] (by rfl) rfl rfl aA ?_
 with_reducible refine (spec_CountRepairs.calls k _ _ t568 _ _ t571 t577 _ ?side1 ?side2 ?side3 ?side4 A4.out).mono ?_
 (case side1 => repeat (first | exact (Kd.R_reads' HO570.out).2.2 | (with_reducible refine pC ?_)))
 (case side2 => exact (Kd.R_reads' HO570.out).2.1)
 (case side3 => repeat (first | exact (Kd.N_reads' HO573.out).2.2 | (with_reducible refine pC ?_)))
 (case side4 => exact (Kd.N_reads' HO573.out).2.1)
 rintro e w18 ⟨rfl, hb⟩
 refine ⟨_, rfl, ?_⟩
 have n0_ := aM (Kd.R_below (aR HO570) hb)
 have n1_ := aM (Kd.N_below (aN HO573) hb)
 have n2_ := aM (kB gb563 #[.slice none 0 0, .slice none 0 0] 27 hb)
 have n3_ := aM (IsS83.below (by repeat (first | (with_reducible first | exact HI567.out | apply IsS83.alloc | apply IsS83.drewN | apply IsS83.drew | apply IsS83.set_1 | apply IsS83.set_2 | refine IsS83.far ?_ NB567_563.out _ | refine IsS83.far ?_ NB567_576.out _) | exact HI567.out)) hb)
 have n4_ := aM (kB gb576 #[.slice Ao11 t568.length co11, .slice Ao15 t571.length co15] 27 hb)
 have n5_ := aM (below_step (by repeat (first | (with_reducible first | exact HB.out | apply below_alloc | apply pw_below_drewN | apply below_drew1 | refine below_set ?_ (IsS83.ge HI567.out) | refine below_set ?_ GE563.out | refine below_set ?_ GE576.out) | exact HB.out)) hb)
 clear HO570
 clear HO573
 clear BK563
 clear HI567
 clear BK576
 clear HB
 have HO570 := n0_
 have HO573 := n1_
 have BK563 := n2_
 have HI567 := n3_
 have BK576 := n4_
 have HB := n5_
 clear n0_ n1_ n2_ n3_ n4_ n5_
 (try clear hb)
 (try clear hb2)
 (try clear hk)
 (try clear hi)
 refine hK.out _ _ ⟨(blk_cell BK576.out 0).trans rfl, (blk_cell BK576.out 1).trans rfl⟩ (fun hHeld => ?_)
 clear hK K
 refine nU 13 ?_
 refine pU 4 14 ?_
 refine pU 5 15 ?_
 refine oU 6 16 (fun K hK => ?_)
 refine goes_ Try.func66 (by kernel_rfl) rfl #[.pointer (some ⟨g567, 0, none⟩), .int .i64 ji5] (by rfl) rfl rfl (by (try simp only [List.map_toArray, List.map_cons, List.map_nil]); first | done | (simp only [hji5]; rfl) | rfl | (simp only [List.length_drop, List.length_take]; rfl)) ?_
 with_reducible refine (spec_l1Below.calls g567 t564 t574 t575 ji5 t578 t579 t580 w _ ?side1 ?side2 A6.out).mono ?_
 (case side1 => repeat (first | (with_reducible first | exact HI567.out | apply IsS83.alloc | apply IsS83.drewN | apply IsS83.drew | apply IsS83.set_1 | apply IsS83.set_2 | refine IsS83.far ?_ NB567_563.out _ | refine IsS83.far ?_ NB567_576.out _) | exact HI567.out))
 (case side2 => repeat (first | (with_reducible first | exact HB.out | apply below_alloc | apply pw_below_drewN | apply below_drew1 | refine below_set ?_ (IsS83.ge HI567.out) | refine below_set ?_ GE563.out | refine below_set ?_ GE576.out) | exact HB.out))
 rintro e w19 ⟨rfl, hi, hb, hk⟩
 refine ⟨_, rfl, ?_⟩
 have n0_ := aM (KeepBut.blk hk (g' := gb563) (o := .cells #[.slice none 0 0, .slice none 0 0] 27 (0, 0)) aK NB563_567.out (by simp))
 have n1_ := aM (Kd.R_mono (Kd.R_keep (IsS83.apart (show IsS83 w _ g567 t564 t574 t575 from by repeat (first | (with_reducible first | exact HI567.out | apply IsS83.alloc | apply IsS83.drewN | apply IsS83.drew | apply IsS83.set_1 | apply IsS83.set_2 | refine IsS83.far ?_ NB567_563.out _ | refine IsS83.far ?_ NB567_576.out _) | exact HI567.out)) (aR HO570) (by decide)) hk (fun _ h => h.2)) (fun _ h => h.1))
 have n2_ := aM (Kd.N_mono (Kd.N_keep (Kd.N_mono (ok := fun k_ => (((w.heap.size ≤ k_)) ∧ (some k_ ≠ (.slice Ao11 t568.length co11 : Value).ownBlock ∧ (k_ ≠ gb563 ∧ (k_ ≠ g567 ∧ k_ ≠ gb576))))) (aN HO573) (fun k_ hk_ => (⟨hk_, hk_.2.2.2.1⟩ : _ ∧ k_ ≠ g567))) hk (fun _ h => h.2)) (fun _ h => h.1))
 have n3_ := aM (KeepBut.blk hk (g' := gb576) (o := .cells #[.slice Ao11 t568.length co11, .slice Ao15 t571.length co15] 27 (0, 0)) aK NB576_567.out (by simp))
 have n4_ := aM (hb)
 have n5_ := aM (hi)
 clear BK563
 clear HO570
 clear HO573
 clear BK576
 clear HB
 clear HI567
 have BK563 := n0_
 have HO570 := n1_
 have HO573 := n2_
 have BK576 := n3_
 have HB := n4_
 have HI567 := n5_
 clear n0_ n1_ n2_ n3_ n4_ n5_
 (try clear hb)
 (try clear hb2)
 (try clear hk)
 (try clear hi)
 refine hK.out _ _ ⟨(blk_cell BK576.out 0).trans rfl, (blk_cell BK576.out 1).trans rfl⟩ (fun hHeld => ?_)
 clear hK K
 refine nU 16 ?_
 refine pU 7 17 ?_
 refine one_ (i := 8) (N := none) #[true, true, true, true, true, true, true, true, true, false] rfl rfl (one_of HT_.out (by kernel_rfl)) (by decide) (fun K hK => ?_)
 have hs20 : w19.cell? ⟨gb563, 0, none⟩ = some (.slice none 0 0) := (blk_cell BK563.out 0).trans rfl
 have hfs20 := blk_frozen BK563.out 0
 have hns20_1 := NB576_563.out
 have hms20_1 := NB563_576.out
 have hs21 : w19.cell? ⟨gb563, 1, none⟩ = some (.slice none 0 0) := (blk_cell BK563.out 1).trans rfl
 have hfs21 := blk_frozen BK563.out 1
 have hns21_1 := NB576_563.out
 have hms21_1 := NB563_576.out
 refine skip_ (w1 := ?_) (by rfl) rfl ?_ ?_
 rotate_left
 ·go_simp
  rfl
 refine hK.out _ _ ⟨((cell_far (p := ⟨gb563, _, none⟩) NB576_563.out _).trans (((cell_far (p := ⟨gb563, _, none⟩) NB576_563.out _).trans (hHeld.1)))), ((cell_far (p := ⟨gb563, _, none⟩) NB576_563.out _).trans (((cell_far (p := ⟨gb563, _, none⟩) NB576_563.out _).trans (hHeld.2))))⟩ (fun hHeld => ?_)
 clear hK K
 refine pU 9 3 ?_
 refine done_ (done_of HT_.out (by kernel_rfl)) ?_
 try go_wp2
 refine bodyPost_ret (results_ct rfl _ _ gb563 27 #[.slice Ao11 t568.length co11, .slice Ao15 t571.length co15] (0, 0) _ rfl (by (with_reducible repeat refine pB ?_); refine blk_put (cs := #[.slice Ao11 t568.length co11, .slice none 0 0]) ?_ 1 _ rfl; (with_reducible repeat refine pB ?_); refine blk_put (cs := #[.slice none 0 0, .slice none 0 0]) ?_ 0 _ rfl; (with_reducible repeat refine pB ?_); exact BK563.out) Try.underlying27 rfl (by kernel_rfl)) rfl ?_
 exact ⟨_, _, by first | rfl | (simp [errW_none, errW_some] <;> rfl) | (simp only [← hji5]; first | rfl | (simp [errW_none, errW_some] <;> rfl)) | (simp [*, errW_none, errW_some] <;> rfl), by (with_reducible repeat apply pR); exact Kd.R_mono (Kd.R_far (p := ⟨gb563, 1, none⟩) (Kd.R_far (p := ⟨gb563, 0, none⟩) (Kd.R_types HO570.out BK563.out (by decide)) (fun _ hk => hk.2) (.slice Ao11 t568.length co11)) (fun _ hk => hk.2) (.slice Ao15 t571.length co15)) (fun _ hk => hk.1), by (with_reducible repeat apply pN); exact Kd.N_mono (Kd.N_far (p := ⟨gb563, 1, none⟩) (Kd.N_far (p := ⟨gb563, 0, none⟩) (Kd.N_mono HO573.out (fun k_ hk => (⟨hk, hk.2.2.1⟩ : _ ∧ k_ ≠ gb563))) (fun _ hk => hk.2) (.slice Ao11 t568.length co11)) (fun _ hk => hk.2) (.slice Ao15 t571.length co15)) (fun _ hk => ⟨hk.1.1, hk.1.2.1⟩), by repeat (first | (with_reducible first | exact HB.out | apply below_alloc | apply pw_below_drewN | apply below_drew1 | refine below_set ?_ (IsS83.ge HI567.out) | refine below_set ?_ GE563.out | refine below_set ?_ GE576.out) | exact HB.out)⟩

/-! ### impl_countRepairs: function 67 -/
def impl_countRepairs.l0 : Nat → Int → List (List Int) → Int → Int → Option (Int)
 | 0, _, _, _, _ => none
 | k + 1, x3, x6, x7, x8 => if x8 < x7 then (if 0 ≤ x8 then (if x8 < (x6.length : Int) then (impl_countRepairs.l0 k (wrap64 (x3 * ((rd_L4 x6 x8).length : Int))) x6 x7 (wrap64 (x8 + 1))) else (none)) else (none)) else (some x3)
def impl_countRepairs.f (k : Nat) (l0 : List (List Int)) : Option (Int) := impl_countRepairs.l0 k 1 l0 (l0.length : Int) 0
set_option maxHeartbeats 8000000 in
set_option maxRecDepth 100000 in
theorem impl_countRepairs.calls (k : Nat) (A0 : Option Addr) (c0 : Nat) (l0 : List (List Int)) (r : Int) (w : World) (hr0 : Kd.C (Kd.slice 3 (Kd.int .i64)) w A0 l0.length l0) (hc0 : l0.length ≤ c0) (h : impl_countRepairs.f k l0 = some r) :
  Calls Try.prog 67 #[.slice A0 l0.length c0] w fun e w' => e = .returned (.int .i64 r) ∧ Drawn0 w w' := by
 unfold impl_countRepairs.f at h
 ·go_enter Try.func67, Try.ntmps67
  go_wp2
  go_loopg [3, 8] k (fun kq v3 v8 w' => ∃ (x3_0 : Int) (x8_0 : Int), v3 = .int .i64 x3_0 ∧ v8 = .int .i64 x8_0 ∧ impl_countRepairs.l0 kq x3_0 l0 (l0.length : Int) x8_0 = some r ∧ Drawn0 w w')
  case atStart => exact ⟨_, _, zR, zR, zA, zD⟩
  case round =>
   clear h
   obtain ⟨x3_0, x8_0, rfl, rfl, h, hb⟩ := hrel
   have hd := hb
   replace hb := hb.below
   replace hb := aM hb
   have HB : Below w.heap.size w wr := zB
   rcases gk with _ | kk0
   exact absurd h (by simp [impl_countRepairs.l0])
   simp only [impl_countRepairs.l0] at h
   replace h := il h; rcases h with ⟨c1, c1a, h⟩ | ⟨c1, c1a, h⟩
   replace h := ie h; rcases h with ⟨c2, c2a, h⟩ | ⟨c2, c2a, h⟩
   replace h := il h; rcases h with ⟨c3, c3a, h⟩ | ⟨c3, c3a, h⟩
   obtain ⟨kf, hkf⟩ : ∃ kf, kf = kk0 := ⟨_, rfl⟩; rw [← hkf] at h
   obtain ⟨ad581, A581_0, c581_0, e581, hx581_0, hl581_0, hi581_0⟩ := at_L4 hr0 (x8_0 : Int) aD aD
   have p581 := eq_true (aD : 0 ≤ (x8_0 : Int))
   have q581 := eq_true (aD : x8_0 < (l0.length : Int))
   cases e581
   replace hx581_0 := qa hx581_0
   rotate_left
   exact absurd h (by simp)
   exact absurd h (by simp)
   obtain rfl := si h
   rotate_left
   all_goals (go_wp2; first | (go_ret; exact zE zD) | (go_roundg kf; (case measure => omega); (case rel => exact ⟨_, _, zR, zR, zA, zD⟩)))

/-! ### impl_CountRepairs: function 34 -/
def impl_CountRepairs.f (k : Nat) (l0_0 : List (S70)) (l0_1 : List (S35)) : Option (Int) := (impl_IsValidDatabase.f l0_0 l0_1).bind fun t583 => (if t583 = true then ((impl_blocks.f k l0_0 l0_1).bind fun t584 => ((impl_countRepairs.f k t584).bind fun t587 => (some t587))) else (some 0))
set_option maxHeartbeats 8000000 in
set_option maxRecDepth 100000 in
theorem impl_CountRepairs.calls (k : Nat) (A0_0 : Option Addr) (c0_0 : Nat) (l0_0 : List (S70)) (A0_1 : Option Addr) (c0_1 : Nat) (l0_1 : List (S35)) (r : Int) (w : World) (hr0_0 : Kd.C k70 w A0_0 l0_0.length l0_0) (hc0_0 : l0_0.length ≤ c0_0) (hr0_1 : Kd.C k35 w A0_1 l0_1.length l0_1) (hc0_1 : l0_1.length ≤ c0_1) (h : impl_CountRepairs.f k l0_0 l0_1 = some r) :
  Calls Try.prog 34 #[.agg #[.slice A0_0 l0_0.length c0_0, .slice A0_1 l0_1.length c0_1]] w fun e w' => e = .returned (.int .i64 r) ∧ Below w.heap.size w w' := by
 have hu27 := Try.underlying27
 obtain ⟨W, hW⟩ : ∃ W, w.alloc (.cells #[.slice A0_0 l0_0.length c0_0, .slice A0_1 l0_1.length c0_1] 27) = W := ⟨_, rfl⟩
 have q0 := qa (w := W) (p := ⟨w.heap.size, 0, none⟩) (v := .slice A0_0 l0_0.length c0_0) (by subst hW; go_simp)
 have q1 := qa (w := W) (p := ⟨w.heap.size, 1, none⟩) (v := .slice A0_1 l0_1.length c0_1) (by subst hW; go_simp)
 have HB : Below w.heap.size w W := by subst hW; exact zB
 have HW := Below.refl W.heap.size W
 have hb := aM HB
 unfold impl_CountRepairs.f at h
 replace h := bs h; obtain ⟨t583, B0, h⟩ := h
 replace h := ib h; rcases h with ⟨rfl, h⟩ | ⟨rfl, h⟩
 replace h := bs h; obtain ⟨t584, B2, h⟩ := h
 replace h := bs h; obtain ⟨t587, B3, h⟩ := h
 obtain rfl := si h
 rotate_left
 obtain rfl := si h
 rotate_left
 all_goals (go_enter Try.func34, Try.ntmps34; go_wp2_with (first | (go_at_call 20; refine (impl_IsValidDatabase.calls _ _ _ _ _ _ ?_ _ ?_ ?_ ?_ ?_ ?h).mono ?_; (case h => exact zA); (iterate 4 (first | exact zC | exact zA)); rintro e w1 ⟨rfl, hb⟩; replace hb := aM hb; have HW : Below W.heap.size W w1 := zB; have HB : Below w.heap.size w w1 := zB) | (go_at_call 44; refine (impl_blocks.calls ?_ _ _ _ _ _ _ ?_ _ ?_ ?_ ?_ ?_ ?h).mono ?_; (case h => exact zA); (iterate 4 (first | exact zC | exact zA)); rintro e w1 ⟨v0, rfl, ho0, hb⟩; obtain ⟨A0, c0, rfl, hc0, hC0⟩ := Kd.R_reads (Kd.S_R ho0); replace hb := aM hb; have HW : Below W.heap.size W w1 := zB; have HB : Below w.heap.size w w1 := zB) | (go_at_call 67; refine (impl_countRepairs.calls ?_ _ _ _ ?_ _ ?_ ?_ ?h).mono ?_; (case h => exact zA); (iterate 2 (first | exact zC | exact zA)); rintro e w1 ⟨rfl, hb⟩; replace hb := hb.below; replace hb := aM hb; have HW : Below W.heap.size W w1 := zB; have HB : Below w.heap.size w w1 := zB)); go_ret; exact zE zB)

end Go.Proofs.Ytbdeimhlohhhiaa.PFnRepairEnumeration
