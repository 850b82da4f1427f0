-- Laid by a program of this claim: what the functions come to, some of them proved by hand.
import Derived.Test.YteddnlklfjpgoaaPFnExactInsertFactx0
import Derived.Test.YteddnlklfjpgoaaPFnExactInsertFactx4
namespace Go.Proofs.Yteddnlklfjpgoaa.PFnExactInsertFact
open Go.RowKit Go.Proofs.YteddnlklfjpgoaaW.PrintWords Go.Proofs.YteddnlklfjpgoaaW.PrintLast Go.Proofs.YteddnlklfjpgoaaW.PrintMore
attribute [local go_sem] max2_int min2_int max_two min_two max_three min_three max_four min_four   -- for this text's walks alone
set_option linter.unusedVariables false
set_option linter.unusedSimpArgs false

/-! ### spec_l4Copy: function 46 -/
def spec_l4Copy.l0 : Nat → Int → List (S74) → List (S45) → List (S74) → List (S45) → Option ((List (S74)) × (List (S45)))
 | 0, _, _, _, _, _ => none
 | k + 1, x4, x214000, x214001, x222000, x222001 => if x4 < (x214001.length : Int) then (if 0 ≤ x4 then ((some (([] : List Int) : List Int)).bind fun y223 => (if y223.length + ((rd_T45 x214001 x4).f1).length < 17592186044416 then (if x222001.length < 4398046511104 then (spec_l4Copy.l0 k (wrap64 (x4 + 1)) x214000 x214001 x222000 (x222001 ++ [(⟨(rd_T45 x214001 x4).f0, (y223 ++ ((rd_T45 x214001 x4).f1))⟩ : S45)])) else (none)) else (none))) else (none)) else (some (x222000, x222001))
def spec_l4Copy.f (k : Nat) (l0_0 : List (S74)) (l0_1 : List (S45)) : Option ((List (S74)) × (List (S45))) := (some (([] : List (S74)) : List (S74))).bind fun y215 => (if y215.length + l0_0.length < 4398046511104 then (spec_l4Copy.l0 k 0 l0_0 l0_1 (y215 ++ l0_0) ([] : List (S45))) else (none))
def spec_l4Copy.T5 : Bool × List (List Nat × List Nat) := (true, [([], []), ([0], [0]), ([], []), ([2], [2]), ([], []), ([3, 4], [3, 4]), ([5], [5]), ([6], [6]), ([], []), ([], []), ([9], [9]), ([], []), ([10, 11], [10, 11]), ([12], [12]), ([13], [13]), ([8, 14], [8, 14]), ([7, 15], [7, 15]), ([16], [16]), ([1, 17, 15], [1, 17]), ([0, 1, 2, 3, 4, 5, 6, 7, 8, 9, 10, 11, 12, 13, 14, 15, 16, 17, 18], []), ([19, 18, 18, 0, 1, 2, 3, 4, 5, 6, 7, 8, 9, 10, 11, 12, 13, 14, 15, 16, 17, 18], [18, 19])])
def spec_l4Copy.B5 : List Nat := [0, 1, 0, 4, 0, 28, 60, 124, 0, 0, 512, 0, 3584, 7680, 15872, 32512, 65532, 131068, 262143, 524287, 1048575]
theorem spec_l4Copy.tab5 : rtab .any (opsOf Try.f46 5) = spec_l4Copy.T5 := by kernel_rfl
theorem spec_l4Copy.bits5 : waitsOk spec_l4Copy.T5.2 spec_l4Copy.B5 = true := by kernel_rfl
set_option maxHeartbeats 8000000 in
set_option maxRecDepth 100000 in
theorem spec_l4Copy.calls (k : Nat) (A0_0 : Option Addr) (c0_0 : Nat) (l0_0 : List (S74)) (A0_1 : Option Addr) (c0_1 : Nat) (l0_1 : List (S45)) (r1 : List (S74)) (r2 : List (S45)) (w : World) (hr0_0 : Kd.C k74 w A0_0 l0_0.length l0_0) (hc0_0 : l0_0.length ≤ c0_0) (hr0_1 : Kd.C k45 w A0_1 l0_1.length l0_1) (hc0_1 : l0_1.length ≤ c0_1) (h : spec_l4Copy.f k l0_0 l0_1 = some (r1, r2)) :
  Calls Try.prog 46 #[.agg #[.slice A0_0 l0_0.length c0_0, .slice A0_1 l0_1.length c0_1]] w fun e w' => ∃ v0_ v1_ : Value, e = .returned (.agg #[v0_, v1_]) ∧ Kd.R k74 74 w' w.heap.size (fun _ => True) v0_ r1 ∧ Kd.S k45 45 w' w.heap.size (fun _ => True) v1_ r2 ∧ Below w.heap.size w w' := by
 have hu31 := Try.underlying31
 have hu45 := Try.underlying45
 have HR0_0 := aM hr0_0
 have HC0_0 := aM hc0_0
 clear hr0_0 hc0_0
 have HR0_1 := aM hr0_1
 have HC0_1 := aM hc0_1
 clear hr0_1 hc0_1
 have HB := aM (Below.refl w.heap.size w)
 have H : ((some (([] : List (S74)) : List (S74))).bind fun y215 => (if y215.length + l0_0.length < 4398046511104 then (spec_l4Copy.l0 k 0 l0_0 l0_1 (y215 ++ l0_0) ([] : List (S45))) else (none))) = some (r1, r2) := h
 clear h
 obtain ⟨y215, hy215⟩ : ∃ y_ : List (S74), y_ = (([] : List (S74))) := ⟨_, rfl⟩
 replace H : (if y215.length + l0_0.length < 4398046511104 then (spec_l4Copy.l0 k 0 l0_0 l0_1 (y215 ++ l0_0) ([] : List (S45))) else (none)) = some (r1, r2) := by first | (rw [hy215]; with_reducible exact H) | (have H2_ := (Option.bind_some _ _).symm.trans H; rw [hy215]; with_reducible exact H2_) | (have H2_ := (Option.bind_some _ _).symm.trans H; with_reducible exact H2_) | with_reducible exact H | (rw [hy215]; exact H) | exact H
 have Ny215 := aM hy215
 clear hy215
 by_cases c2 : y215.length + l0_0.length < 4398046511104
 ·rw [if_pos c2] at H
  have LMc2 := aM c2
  clear c2
  obtain ⟨y218, hy218⟩ : ∃ y_ : List (S74), y_ = (y215 ++ l0_0) := ⟨_, rfl⟩
  replace H : (spec_l4Copy.l0 k 0 l0_0 l0_1 y218 ([] : List (S45))) = some (r1, r2) := by first | (rw [hy218]; with_reducible exact H) | (have H2_ := (Option.bind_some _ _).symm.trans H; rw [hy218]; with_reducible exact H2_) | (have H2_ := (Option.bind_some _ _).symm.trans H; with_reducible exact H2_) | with_reducible exact H | (rw [hy218]; exact H) | exact H
  have Ny218 := aM hy218
  clear hy218
  have H' := aM H
  clear H
  go_enter Try.func46, Try.ntmps46
  go_wp2_with (first | ((with_reducible refine gate_dst (N := 1) rfl ?_); refine box_event ?hg (N := 1) ?hd (cs := #[.slice A0_0 l0_0.length c0_0, .slice A0_1 l0_1.length c0_1]) (t := 31) ?hr ?_; (case hd => rfl); (case hg => rfl); (case hr => first | (go_simp; done) | (go_simp; rfl)); intro gb213 hg w3 hbox hb; have n0_ := aM (below_step aB hb); have n1_ := aM (hbox); have n2_ := aM ((by rw [hg]; exact (below_size aB) : w.heap.size ≤ gb213)); have n3_ := aM ((by rw [hg]; exact (below_size aB) : w.heap.size ≤ gb213)); clear HB; have HB := n0_; have BK213 := n1_; have GW213 := n2_; have GE213 := n3_; clear n0_ n1_ n2_ n3_; clear hb hbox hg) | ((with_reducible refine gate_dst (N := 2) rfl ?_); refine box_event ?hg (N := 2) ?hd (cs := #[.slice none 0 0, .slice none 0 0]) (t := 31) ?hr ?_; (case hd => rfl); (case hg => rfl); (case hr => first | (go_simp; done) | (go_simp; rfl)); intro gb214 hg w4 hbox hb; have n0_ := aM (blk_below (g := gb213) (o := .cells #[.slice A0_0 l0_0.length c0_0, .slice A0_1 l0_1.length c0_1] 31 (0, 0)) aK hb); have n1_ := aM (below_step aG hb); have n2_ := aM (hbox); have n3_ := aM ((by rw [hg]; exact (below_size aG) : w.heap.size ≤ gb214)); have n4_ := aM ((by rw [hg]; exact (below_size aG) : w.heap.size ≤ gb214)); have n5_ := aM ((by rw [hg]; exact Nat.ne_of_lt (blk_lt (g := gb213) (o := .cells #[.slice A0_0 l0_0.length c0_0, .slice A0_1 l0_1.length c0_1] 31 (0, 0)) aK) : gb213 ≠ gb214)); have n6_ := aM ((by rw [hg]; exact Nat.ne_of_gt (blk_lt (g := gb213) (o := .cells #[.slice A0_0 l0_0.length c0_0, .slice A0_1 l0_1.length c0_1] 31 (0, 0)) aK) : gb214 ≠ gb213)); clear BK213; clear HB; have BK213 := n0_; have HB := n1_; have BK214 := n2_; have GW214 := n3_; have GE214 := n4_; have NB213_214 := n5_; have NB214_213 := n6_; clear n0_ n1_ n2_ n3_ n4_ n5_ n6_; clear hb hbox hg) | ((with_reducible refine gate_dst (N := 5) rfl ?_); refine Kd.R_lit k74 _ 74 ?hg (N := 5) ?hd (xs := ([] : List (S74))) (inner := []) (ok := fun _ => True) (okp := fun _ => True) ?hr ?hp (fun _ hk => hk) trivial (Below.refl _ _) (Nat.le_refl _) (by simp) ?_; (case hd => rfl); (case hg => rfl); (case hr => first | (go_simp; done) | (go_simp; rfl)); (case hp => exact (Reps.none _ _)); intro v216 w5 ho6 hb hg_ hnew_; clear hg_ hnew_; (first | rw [← Ny215.out] at ho6 | (simp only [Int.reduceToNat] at ho6; rw [← Ny215.out] at ho6)); have n0_ := aM (Kd.R_lower ho6 (below_size aG)); have n1_ := aM (blk_below (g := gb213) (o := .cells #[.slice A0_0 l0_0.length c0_0, .slice A0_1 l0_1.length c0_1] 31 (0, 0)) aK hb); have n2_ := aM (blk_below (g := gb214) (o := .cells #[.slice none 0 0, .slice none 0 0] 31 (0, 0)) aK hb); have n3_ := aM (below_step aG hb); clear BK213; clear BK214; clear HB; have HO217 := n0_; have BK213 := n1_; have BK214 := n2_; have HB := n3_; clear n0_ n1_ n2_ n3_; clear hb ho6; have hnb7 := NB213_214.out; have hnc7 := NB214_213.out; have hcz8_0 : w5.cell? ⟨gb213, 0, none⟩ = some (.slice A0_0 l0_0.length c0_0) := (blk_cell BK213.out 0).trans rfl; have hcz8_1 : w5.cell? ⟨gb213, 1, none⟩ = some (.slice A0_1 l0_1.length c0_1) := (blk_cell BK213.out 1).trans rfl; have hfz8_0 := blk_frozen BK213.out 0; have hfz8_1 := blk_frozen BK213.out 1) | ((with_reducible refine gate_builtin (b := .append) (xs := #[.tmp 5, .tmp 7]) rfl ?_); at_builtin; refine Kd.R_append_rows k74 (w0 := w) w.heap.size rfl (.tmp 5) (.tmp 7) 28 74 (.agg #[(.string ⟨#[]⟩), (.int .i64 0), (.int .i64 0)]) 32 rfl Try.underlying28 info74 rfl (by decide) (by omega) v216 y215 l0_0 _ _ _ (fun _ => True) (fun _ => False) rfl rfl ?aO ?aR (fun _ _ h => h) (fun _ h => h.elim) ?aF ?aB ?aS ?aL ?_; (case aR => exact aC); (case aB => exact aG); (case aF => exact (fun _ _ => trivial)); (case aO => exact (aR HO217)); (case aS => exact (below_size aG)); (case aL => have := LMc2.out; omega); intro v219 w9 ho hb hg hat; rw [← Ny218.out] at ho; have n0_ := aM (blk_grown (g := gb213) (o := .cells #[.slice A0_0 l0_0.length c0_0, .slice A0_1 l0_1.length c0_1] 31 (0, 0)) aK hg (Kd.R_ne HO217.out BK213.out (by decide))); have n1_ := aM (blk_grown (g := gb214) (o := .cells #[.slice none 0 0, .slice none 0 0] 31 (0, 0)) aK hg (Kd.R_ne HO217.out BK214.out (by decide))); have n2_ := aM (hb); have n3_ := aM (ho); clear BK213; clear BK214; clear HB; clear HO217; have BK213 := n0_; have BK214 := n1_; have HB := n2_; have HO220 := n3_; clear n0_ n1_ n2_ n3_; clear ho hb hg hat; obtain ⟨Ao10, co10, eo10⟩ := Kd.R_slice HO220.out; subst eo10) | ((with_reducible refine gate_dst (N := 3) rfl ?_); refine box_event ?hg (N := 3) ?hd (cs := #[.slice none 0 0, .slice none 0 0]) (t := 31) ?hr ?_; (case hd => rfl); (case hg => rfl); (case hr => first | (go_simp; done) | (go_simp; rfl)); intro gb221 hg w11 hbox hb; have n0_ := aM (Kd.R_below (aR HO220) hb); have n1_ := aM (blk_below (g := gb213) (o := .cells #[.slice A0_0 l0_0.length c0_0, .slice A0_1 l0_1.length c0_1] 31 (0, 0)) aK hb); have n2_ := aM (blk_below (g := gb214) (o := .cells #[.slice none 0 0, .slice none 0 0] 31 (0, 0)) aK hb); have n3_ := aM (below_step aG hb); have n4_ := aM (hbox); have n5_ := aM ((by rw [hg]; exact (below_size aG) : w.heap.size ≤ gb221)); have n6_ := aM ((by rw [hg]; exact (below_size aG) : w.heap.size ≤ gb221)); have n7_ := aM ((by rw [hg]; exact Nat.ne_of_lt (blk_lt (g := gb213) (o := .cells #[.slice A0_0 l0_0.length c0_0, .slice A0_1 l0_1.length c0_1] 31 (0, 0)) aK) : gb213 ≠ gb221)); have n8_ := aM ((by rw [hg]; exact Nat.ne_of_gt (blk_lt (g := gb213) (o := .cells #[.slice A0_0 l0_0.length c0_0, .slice A0_1 l0_1.length c0_1] 31 (0, 0)) aK) : gb221 ≠ gb213)); have n9_ := aM ((by rw [hg]; exact Nat.ne_of_lt (blk_lt (g := gb214) (o := .cells #[.slice none 0 0, .slice none 0 0] 31 (0, 0)) aK) : gb214 ≠ gb221)); have n10_ := aM ((by rw [hg]; exact Nat.ne_of_gt (blk_lt (g := gb214) (o := .cells #[.slice none 0 0, .slice none 0 0] 31 (0, 0)) aK) : gb221 ≠ gb214)); clear HO220; clear BK213; clear BK214; clear HB; have HO220 := n0_; have BK213 := n1_; have BK214 := n2_; have HB := n3_; have BK221 := n4_; have GW221 := n5_; have GE221 := n6_; have NB213_221 := n7_; have NB221_213 := n8_; have NB214_221 := n9_; have NB221_214 := n10_; clear n0_ n1_ n2_ n3_ n4_ n5_ n6_ n7_ n8_ n9_ n10_; clear hb hbox hg; have hnb12 := NB221_213.out; have hnc12 := NB213_221.out; have hnb13 := NB221_214.out; have hnc13 := NB214_221.out; have hcz14_0 : w11.cell? ⟨gb221, 0, none⟩ = some (.slice none 0 0) := (blk_cell BK221.out 0).trans rfl; have hcz14_1 : w11.cell? ⟨gb221, 1, none⟩ = some (.slice none 0 0) := (blk_cell BK221.out 1).trans rfl; have hfz14_0 := blk_frozen BK221.out 0; have hfz14_1 := blk_frozen BK221.out 1))
  go_loopg [4] k (fun kq v4 w' => ∃ (x4_1 : Int) (x222001_1 : List (S45)) (u222001 : Value), v4 = .int .i64 x4_1 ∧ Aside0 (spec_l4Copy.l0 kq x4_1 l0_0 l0_1 y218 x222001_1 = some (r1, r2)) ∧ Aside0 (kq ≤ k) ∧ Aside0 (Kd.R k74 74 w' w.heap.size (fun _ => True) (.slice Ao10 y218.length co10) y218) ∧ Aside0 (Kd.S k45 45 w' w.heap.size (fun _ => True) u222001 x222001_1) ∧ Aside0 (w'.heap[gb213]? = some (.cells #[(.slice A0_0 l0_0.length c0_0), (.slice A0_1 l0_1.length c0_1)] 31 (0, 0))) ∧ Aside0 (w'.heap[gb214]? = some (.cells #[(.slice none 0 0), (.slice none 0 0)] 31 (0, 0))) ∧ Aside0 (w'.heap[gb221]? = some (.cells #[(.slice Ao10 y218.length co10), u222001] 31 (0, 0))) ∧ Aside0 (Below w.heap.size w w'))
  case atStart => exact ⟨(0), (([] : List (S45))), (.slice none 0 0), (by first | rfl | (simp; done) | (simp [*]; done)), H', ⟨Nat.le_refl _⟩, ⟨by (with_reducible repeat (first | apply Kd.R_alloc | apply Kd.R_drewN | apply Kd.R_drew)); exact Kd.R_mono (Kd.R_far (p := ⟨gb221, 1, none⟩) (Kd.R_far (p := ⟨gb221, 0, none⟩) (Kd.R_types HO220.out BK221.out (by decide)) (fun _ hk => hk.2) (.slice Ao10 y218.length co10)) (fun _ hk => hk.2) (.slice none 0 0)) (fun _ hk => trivial)⟩, ⟨by first | exact Kd.S_nil _ _ _ _ _ | exact Kd.N_nil _ _ _ _ _ | exact Kd.V_nil _ _ _ _ _ | exact Kd.Q_nil _ _ _ _ _ | exact Kd.R_nil _ _ _ _ _⟩, ⟨by (with_reducible repeat (first | refine blk_drewN ?_ _ | refine blk_drew ?_ | refine blk_alloc ?_ _)); refine blk_far ?_ NB213_221.out _; (with_reducible repeat (first | refine blk_drewN ?_ _ | refine blk_drew ?_ | refine blk_alloc ?_ _)); refine blk_far ?_ NB213_221.out _; (with_reducible repeat (first | refine blk_drewN ?_ _ | refine blk_drew ?_ | refine blk_alloc ?_ _)); exact BK213.out⟩, ⟨by (with_reducible repeat (first | refine blk_drewN ?_ _ | refine blk_drew ?_ | refine blk_alloc ?_ _)); refine blk_far ?_ NB214_221.out _; (with_reducible repeat (first | refine blk_drewN ?_ _ | refine blk_drew ?_ | refine blk_alloc ?_ _)); refine blk_far ?_ NB214_221.out _; (with_reducible repeat (first | refine blk_drewN ?_ _ | refine blk_drew ?_ | refine blk_alloc ?_ _)); exact BK214.out⟩, ⟨by (with_reducible repeat (first | refine blk_drewN ?_ _ | refine blk_drew ?_ | refine blk_alloc ?_ _)); refine blk_put (cs := #[.slice Ao10 y218.length co10, .slice none 0 0]) ?_ 1 _ rfl; (with_reducible repeat (first | refine blk_drewN ?_ _ | refine blk_drew ?_ | refine blk_alloc ?_ _)); refine blk_put (cs := #[.slice none 0 0, .slice none 0 0]) ?_ 0 _ rfl; (with_reducible repeat (first | refine blk_drewN ?_ _ | refine blk_drew ?_ | refine blk_alloc ?_ _)); exact BK221.out⟩, ⟨by repeat (first | (with_reducible first | exact HB.out | apply below_alloc | apply pw_below_drewN | apply below_drew1 | refine below_set ?_ GE213.out | refine below_set ?_ GE214.out | refine below_set ?_ GE221.out) | exact HB.out)⟩⟩
  case round =>
   clear H'
   try clear c1
   try clear c2
   try clear p2
   try clear c4
   try clear c7
   try clear c12
   try clear c13
   try clear hcz14_0
   try clear hcz14_1
   try clear hcz8_0
   try clear hcz8_1
   try clear hfz14_0
   try clear hfz14_1
   try clear hfz8_0
   try clear hfz8_1
   obtain ⟨x4_1, x222001_1, u222001, rfl, HA, HK1, HO_222000, HO_222001, BK213, BK214, BK221, HB⟩ := hrel
   cases gk with
   | zero => exact absurd HA.out (by simp [spec_l4Copy.l0])
   | succ k1 =>
    have H := HA.out
    clear HA
    simp only [spec_l4Copy.l0] at H
    by_cases c15 : x4_1 < (l0_1.length : Int)
    ·rw [if_pos c15] at H
     have c15b0 : decide (x4_1 < (l0_1.length : Int)) = true := decide_eq_true c15
     clear c15
     by_cases c16 : 0 ≤ x4_1
     ·rw [if_pos c16] at H
      have c16b0 : decide (0 ≤ x4_1) = true := decide_eq_true c16
      clear c16
      obtain ⟨y223, hy223⟩ : ∃ y_ : List Int, y_ = (([] : List Int)) := ⟨_, rfl⟩
      replace H : (if y223.length + ((rd_T45 l0_1 x4_1).f1).length < 17592186044416 then (if x222001_1.length < 4398046511104 then (spec_l4Copy.l0 k1 (wrap64 (x4_1 + 1)) l0_0 l0_1 y218 (x222001_1 ++ [(⟨(rd_T45 l0_1 x4_1).f0, (y223 ++ ((rd_T45 l0_1 x4_1).f1))⟩ : S45)])) else (none)) else (none)) = some (r1, r2) := by first | (rw [hy223]; with_reducible exact H) | (have H2_ := (Option.bind_some _ _).symm.trans H; rw [hy223]; with_reducible exact H2_) | (have H2_ := (Option.bind_some _ _).symm.trans H; with_reducible exact H2_) | with_reducible exact H | (rw [hy223]; exact H) | exact H
      have Ny223 := aM hy223
      clear hy223
      by_cases c17 : y223.length + ((rd_T45 l0_1 x4_1).f1).length < 17592186044416
      ·rw [if_pos c17] at H
       have LMc17 := aM c17
       clear c17
       obtain ⟨y227, hy227⟩ : ∃ y_ : List Int, y_ = (y223 ++ ((rd_T45 l0_1 x4_1).f1)) := ⟨_, rfl⟩
       replace H : (if x222001_1.length < 4398046511104 then (spec_l4Copy.l0 k1 (wrap64 (x4_1 + 1)) l0_0 l0_1 y218 (x222001_1 ++ [(⟨(rd_T45 l0_1 x4_1).f0, y227⟩ : S45)])) else (none)) = some (r1, r2) := by first | (rw [hy227]; with_reducible exact H) | (have H2_ := (Option.bind_some _ _).symm.trans H; rw [hy227]; with_reducible exact H2_) | (have H2_ := (Option.bind_some _ _).symm.trans H; with_reducible exact H2_) | with_reducible exact H | (rw [hy227]; exact H) | exact H
       have Ny227 := aM hy227
       clear hy227
       by_cases c18 : x222001_1.length < 4398046511104
       ·rw [if_pos c18] at H
        have LMc18 := aM c18
        clear c18
        obtain ⟨y230, hy230⟩ : ∃ y_ : List (S45), y_ = (x222001_1 ++ [(⟨(rd_T45 l0_1 x4_1).f0, y227⟩ : S45)]) := ⟨_, rfl⟩
        replace H : (spec_l4Copy.l0 k1 (wrap64 (x4_1 + 1)) l0_0 l0_1 y218 y230) = some (r1, r2) := by first | (rw [hy230]; with_reducible exact H) | (have H2_ := (Option.bind_some _ _).symm.trans H; rw [hy230]; with_reducible exact H2_) | (have H2_ := (Option.bind_some _ _).symm.trans H; with_reducible exact H2_) | with_reducible exact H | (rw [hy230]; exact H) | exact H
        have Ny230 := aM hy230
        clear hy230
        have H' := aM H
        clear H
        have hnb19 := NB213_214.out
        have hnc19 := NB214_213.out
        have hnb20 := NB213_221.out
        have hnc20 := NB221_213.out
        have hcz21_0 : wr.cell? ⟨gb213, 0, none⟩ = some (.slice A0_0 l0_0.length c0_0) := (blk_cell BK213.out 0).trans rfl
        have hcz21_1 : wr.cell? ⟨gb213, 1, none⟩ = some (.slice A0_1 l0_1.length c0_1) := (blk_cell BK213.out 1).trans rfl
        have hfz21_0 := blk_frozen BK213.out 0
        have hfz21_1 := blk_frozen BK213.out 1
        try go_wp2
        have n0_ := aM (Kd.R_drew HO_222000.out)
        have n1_ := aM (Kd.S_drew HO_222001.out)
        have n2_ := aM (blk_drew BK213.out)
        have n3_ := aM (blk_drew BK214.out)
        have n4_ := aM (blk_drew BK221.out)
        have n5_ := aM (below_drew1 HB.out)
        clear HO_222000
        clear HO_222001
        clear BK213
        clear BK214
        clear BK221
        clear HB
        have HO_222000 := n0_
        have HO_222001 := n1_
        have BK213 := n2_
        have BK214 := n3_
        have BK221 := n4_
        have HB := n5_
        clear n0_ n1_ n2_ n3_ n4_ n5_
        have p222 : 0 ≤ (x4_1 : Int) := aD
        have q222 : x4_1 < (l0_1.length : Int) := aD
        obtain ⟨ad222, A222_1, c222_1, e222, hx222_0, hx222_1, hl222_1, hi222_1⟩ := at_T45 HR0_1.out x4_1 p222 q222
        have hw222_1 := hx222_1
        have hw222_0 := hx222_0
        cases e222
        replace hx222_0 := (HB.out.cell (World.block_lt_of_cell? w _ hx222_0)).trans hx222_0
        replace hx222_1 := (HB.out.cell (World.block_lt_of_cell? w _ hx222_1)).trans hx222_1
        have HR222_1 := aM hi222_1
        have HC222_1 := aM hl222_1
        clear hi222_1 hl222_1
        replace p222 := eq_true p222
        replace q222 := eq_true q222
        have p226 : 0 ≤ (x4_1 : Int) := aD
        have q226 : x4_1 < (l0_1.length : Int) := aD
        obtain ⟨ad226, A226_1, c226_1, e226, hx226_0, hx226_1, hl226_1, hi226_1⟩ := at_T45 HR0_1.out x4_1 p226 q226
        have hw226_1 := hx226_1
        have hw226_0 := hx226_0
        obtain rfl : ad222 = ad226 := (by injection e226)
        replace hx226_0 := (HB.out.cell (World.block_lt_of_cell? w _ hx226_0)).trans hx226_0
        replace hx226_1 := (HB.out.cell (World.block_lt_of_cell? w _ hx226_1)).trans hx226_1
        have HR226_1 := aM hi226_1
        have HC226_1 := aM hl226_1
        clear hi226_1 hl226_1
        replace p226 := eq_true p226
        replace q226 := eq_true q226
        have ea_ := Option.some.inj (hx222_1.symm.trans hx226_1)
        injection ea_ with ea_ en_ ec_
        subst ea_
        subst ec_
        clear en_
        refine start_ (n := 21) (S := fun w' => w'.cell? ⟨gb221, 0, none⟩ = some (.slice Ao10 y218.length co10) ∧ w'.cell? ⟨gb221, 1, none⟩ = some (u222001) ∧ w'.cell? ⟨gb213, 0, none⟩ = some (.slice A0_0 l0_0.length c0_0) ∧ w'.cell? ⟨gb213, 1, none⟩ = some (.slice (some ad222) l0_1.length c0_1) ∧ w'.cell? (ad222.add ((x4_1).toNat * 2)) = some (.int .i64 ((rd_T45 l0_1 x4_1).f0)) ∧ w'.cell? ⟨(ad222.add ((x4_1).toNat * 2)).block, (ad222.add ((x4_1).toNat * 2)).off + 1, none⟩ = some (.slice A222_1 ((rd_T45 l0_1 x4_1).f1).length c222_1) ∧ w'.cell? (ad222.add ((x4_1).toNat * 2)) = some (.int .i64 ((rd_T45 l0_1 x4_1).f0)) ∧ w'.cell? ⟨(ad222.add ((x4_1).toNat * 2)).block, (ad222.add ((x4_1).toNat * 2)).off + 1, none⟩ = some (.slice A222_1 ((rd_T45 l0_1 x4_1).f1).length c222_1)) (ds := [20]) #[false, false, false, false, false, false, false, false, false, false, false, false, false, false, false, false, false, false, false, false, false] (by kernel_rfl) rfl rfl ⟨(blk_cell BK221.out 0).trans rfl, (blk_cell BK221.out 1).trans rfl, (blk_cell BK213.out 0).trans rfl, (blk_cell BK213.out 1).trans rfl, (pw_cell_below HB.out hw222_0), (pw_cell_below HB.out hw222_1), (pw_cell_below HB.out hw226_0), (pw_cell_below HB.out hw226_1)⟩ (fun hHeld => ?_); refine with_tabW spec_l4Copy.tab5 spec_l4Copy.bits5 (fun HT_ HW_ => ?_)
        generalize wr.drew = w22 at HO_222000 HO_222001 BK213 BK214 BK221 HB HR222_1 HR226_1 hx222_0 hx222_1 hx226_0 hx226_1 hHeld ⊢
        refine pure_ (i := 0) (N := some 17) (v := ?_) (a' := ?_) #[true, false, false, false, false, false, false, false, false, false, false, false, false, false, false, false, false, false, false, false, false] rfl rfl (any_of HT_.out (by kernel_rfl)) (fun _ _ _ h => h) (Or.inl ⟨by rfl, ?_⟩) ?_ ?_
        rotate_left
        ·exact aI
        rotate_left
        ·exact aP
        refine pure_ (i := 2) (N := some 19) (v := ?_) (a' := ?_) #[true, false, true, false, false, false, false, false, false, false, false, false, false, false, false, false, false, false, false, false, false] rfl rfl (any_of HT_.out (by kernel_rfl)) (fun _ _ _ h => h) (Or.inl ⟨by rfl, ?_⟩) ?_ ?_
        rotate_left
        ·exact aI
        rotate_left
        ·exact aP
        refine pure_ (i := 4) (N := some 21) (v := ?_) (a' := ?_) #[true, false, true, false, true, false, false, false, false, false, false, false, false, false, false, false, false, false, false, false, false] rfl rfl (any_of HT_.out (by kernel_rfl)) (fun _ _ _ h => h) (Or.inl ⟨by rfl, ?_⟩) ?_ ?_
        rotate_left
        ·exact aI
        rotate_left
        ·exact aP
        refine pure_ (i := 9) (N := some 26) (v := ?_) (a' := ?_) #[true, false, true, false, true, false, false, false, false, true, false, false, false, false, false, false, false, false, false, false, false] rfl rfl (any_of HT_.out (by kernel_rfl)) (fun _ _ _ h => h) (Or.inl ⟨by rfl, ?_⟩) ?_ ?_
        rotate_left
        ·exact aI
        rotate_left
        ·exact aP
        refine pure_ (i := 11) (N := some 28) (v := ?_) (a' := ?_) #[true, false, true, false, true, false, false, false, false, true, false, true, false, false, false, false, false, false, false, false, false] rfl rfl (any_of HT_.out (by kernel_rfl)) (fun _ _ _ h => h) (Or.inl ⟨by rfl, ?_⟩) ?_ ?_
        rotate_left
        ·exact aI
        rotate_left
        ·exact aP
        refine take_ (i := 1) (N := some 18) (v := ?_) (a' := ?_) #[true, true, true, false, true, false, false, false, false, true, false, true, false, false, false, false, false, false, false, false, false] rfl rfl (take_ofW HT_.out HW_.out (by kernel_rfl)) (fun _ _ _ h => h) (Or.inl ⟨by rfl, ?_⟩) hHeld ?_ ?_
        rotate_left
        ·rintro w' ⟨s0, s1, s2, s3, s4, s5, s6, s7⟩
         go_simp
         with_reducible rfl
        rotate_left
        ·exact aP
        refine take_ (i := 3) (N := some 20) (v := ?_) (a' := ?_) #[true, true, true, true, true, false, false, false, false, true, false, true, false, false, false, false, false, false, false, false, false] rfl rfl (take_ofW HT_.out HW_.out (by kernel_rfl)) (fun _ _ _ h => h) (Or.inl ⟨by rfl, ?_⟩) hHeld ?_ ?_
        rotate_left
        ·rintro w' ⟨s0, s1, s2, s3, s4, s5, s6, s7⟩
         go_simp
         with_reducible rfl
        rotate_left
        ·exact aP
        refine pure_ (i := 5) (N := some 22) (v := ?_) (a' := ?_) #[true, true, true, true, true, true, false, false, false, true, false, true, false, false, false, false, false, false, false, false, false] rfl rfl (any_of HT_.out (by kernel_rfl)) (fun _ _ _ h => h) (Or.inl ⟨by rfl, ?_⟩) ?_ ?_
        rotate_left
        ·exact aI
        rotate_left
        ·exact aP
        refine pure_ (i := 6) (N := some 23) (v := ?_) (a' := ?_) #[true, true, true, true, true, true, true, false, false, true, false, true, false, false, false, false, false, false, false, false, false] rfl rfl (any_of HT_.out (by kernel_rfl)) (fun _ _ _ h => h) (Or.inl ⟨by rfl, ?_⟩) ?_ ?_
        rotate_left
        ·exact aI
        rotate_left
        ·exact aP
        refine take_ (i := 7) (N := some 24) (v := ?_) (a' := ?_) #[true, true, true, true, true, true, true, true, false, true, false, true, false, false, false, false, false, false, false, false, false] rfl rfl (take_ofW HT_.out HW_.out (by kernel_rfl)) (fun _ _ _ h => h) (Or.inl ⟨by rfl, ?_⟩) hHeld ?_ ?_
        rotate_left
        ·rintro w' ⟨s0, s1, s2, s3, s4, s5, s6, s7⟩
         go_simp
         with_reducible rfl
        rotate_left
        ·exact aP
        refine take_ (i := 10) (N := some 27) (v := ?_) (a' := ?_) #[true, true, true, true, true, true, true, true, false, true, true, true, false, false, false, false, false, false, false, false, false] rfl rfl (take_ofW HT_.out HW_.out (by kernel_rfl)) (fun _ _ _ h => h) (Or.inl ⟨by rfl, ?_⟩) hHeld ?_ ?_
        rotate_left
        ·rintro w' ⟨s0, s1, s2, s3, s4, s5, s6, s7⟩
         go_simp
         with_reducible rfl
        rotate_left
        ·exact aP
        refine pure_ (i := 12) (N := some 29) (v := ?_) (a' := ?_) #[true, true, true, true, true, true, true, true, false, true, true, true, true, false, false, false, false, false, false, false, false] rfl rfl (any_of HT_.out (by kernel_rfl)) (fun _ _ _ h => h) (Or.inl ⟨by rfl, ?_⟩) ?_ ?_
        rotate_left
        ·exact aI
        rotate_left
        ·exact aP
        refine pure_ (i := 13) (N := some 30) (v := ?_) (a' := ?_) #[true, true, true, true, true, true, true, true, false, true, true, true, true, true, false, false, false, false, false, false, false] rfl rfl (any_of HT_.out (by kernel_rfl)) (fun _ _ _ h => h) (Or.inl ⟨by rfl, ?_⟩) ?_ ?_
        rotate_left
        ·exact aI
        rotate_left
        ·exact aP
        refine take_ (i := 14) (N := some 31) (v := ?_) (a' := ?_) #[true, true, true, true, true, true, true, true, false, true, true, true, true, true, true, false, false, false, false, false, false] rfl rfl (take_ofW HT_.out HW_.out (by kernel_rfl)) (fun _ _ _ h => h) (Or.inl ⟨by rfl, ?_⟩) hHeld ?_ ?_
        rotate_left
        ·rintro w' ⟨s0, s1, s2, s3, s4, s5, s6, s7⟩
         go_simp
         with_reducible rfl
        rotate_left
        ·exact aP
        refine one_ (i := 8) (N := some 25) #[true, true, true, true, true, true, true, true, true, true, true, true, true, true, true, false, false, false, false, false, false] rfl rfl (one_of HT_.out (by kernel_rfl)) (by decide) (fun K hK => ?_)
        refine Kd.R_lit_step (Kd.int .i64) _ 3 ?hg (N := 25) ?hd (xs := ([] : List Int)) (inner := []) (ok := fun _ => True) (okp := fun _ => True) ?hr ?hp (fun _ hk => hk) trivial (Below.refl _ _) (Nat.le_refl _) (by simp) ?_; (case hd => rfl); (case hg => rfl); (case hr => first | (go_simp; done) | (go_simp; rfl)); (case hp => exact (Reps.none _ _))
        intro v224 w23 ho24 hb hg_ hnew_
        clear hg_ hnew_
        (first | rw [← Ny223.out] at ho24 | (simp only [Int.reduceToNat] at ho24; rw [← Ny223.out] at ho24))
        have n0_ := aM (Kd.R_below (aR HO_222000) hb)
        have n1_ := aM (Kd.S_elder' (aS HO_222001) (Kd.R_base ho24) hb)
        have n2_ := aM (Kd.R_lower ho24 (below_size aG))
        have n3_ := aM (blk_below (g := gb213) (o := .cells #[.slice A0_0 l0_0.length c0_0, .slice (some ad222) l0_1.length c0_1] 31 (0, 0)) aK hb)
        have n4_ := aM (blk_below (g := gb214) (o := .cells #[.slice none 0 0, .slice none 0 0] 31 (0, 0)) aK hb)
        have n5_ := aM (blk_below (g := gb221) (o := .cells #[.slice Ao10 y218.length co10, u222001] 31 (0, 0)) aK hb)
        have n6_ := aM (below_step aG hb)
        clear HO_222000
        clear HO_222001
        clear BK213
        clear BK214
        clear BK221
        clear HB
        have HO_222000 := n0_
        have HO_222001 := n1_
        have HO225 := n2_
        have BK213 := n3_
        have BK214 := n4_
        have BK221 := n5_
        have HB := n6_
        clear n0_ n1_ n2_ n3_ n4_ n5_ n6_
        clear hb ho24
        refine hK.out _ _ ⟨(blk_cell BK221.out 0).trans rfl, (blk_cell BK221.out 1).trans rfl, (blk_cell BK213.out 0).trans rfl, (blk_cell BK213.out 1).trans rfl, (pw_cell_below HB.out hw222_0), (pw_cell_below HB.out hw222_1), (pw_cell_below HB.out hw226_0), (pw_cell_below HB.out hw226_1)⟩ (fun hHeld => ?_)
        clear hK K
        refine norm_ (a' := ?_) ?_ ?_
        rotate_left
        ·show Act.put _ (some 25) _ = _
         simp only [Act.put, List.setIfInBounds_toArray, List.set_cons_zero, List.set_cons_succ, i64_w, i32_w]
         rfl
        refine one_ (i := 15) (N := some 32) #[true, true, true, true, true, true, true, true, true, true, true, true, true, true, true, true, false, false, false, false, false] rfl rfl (one_of HT_.out (by kernel_rfl)) (by decide) (fun K hK => ?_)
        refine Kd.R_append_rows_step (Kd.int .i64) (w0 := w) w.heap.size (by rfl) (.tmp 25) (.tmp 31) 26 3 (.int .i64 0) 8 rfl Try.underlying26 info3 rfl (by decide) (by omega) v224 y223 ((rd_T45 l0_1 x4_1).f1) _ _ _ (fun _ => True) (fun _ => False) rfl rfl ?aO ?aR (fun _ _ h => h) (fun _ h => h.elim) ?aF ?aB ?aS ?aL ?_
        (case aR => exact aC)
        (case aB => exact aG)
        (case aF => exact (fun _ _ => trivial))
        (case aO => exact (aR HO225))
        (case aS => exact (below_size aG))
        (case aL => have := LMc17.out; omega)
        intro v228 w25 ho hb hg hat
        rw [← Ny227.out] at ho
        have n0_ := aM (Kd.R_over' (aR HO_222000) (Kd.R_typed (aR HO225)) (by decide) hg)
        have n1_ := aM (Kd.S_after (ok := (fun _ => True)) (aS HO_222001) hg hat)
        have n2_ := aM (blk_grown (g := gb213) (o := .cells #[.slice A0_0 l0_0.length c0_0, .slice (some ad222) l0_1.length c0_1] 31 (0, 0)) aK hg (Kd.R_ne HO225.out BK213.out (by decide)))
        have n3_ := aM (blk_grown (g := gb214) (o := .cells #[.slice none 0 0, .slice none 0 0] 31 (0, 0)) aK hg (Kd.R_ne HO225.out BK214.out (by decide)))
        have n4_ := aM (blk_grown (g := gb221) (o := .cells #[.slice Ao10 y218.length co10, u222001] 31 (0, 0)) aK hg (Kd.R_ne HO225.out BK221.out (by decide)))
        have n5_ := aM (hb)
        have n6_ := aM (ho)
        clear HO_222000
        clear HO_222001
        clear BK213
        clear BK214
        clear BK221
        clear HB
        clear HO225
        have HO_222000 := n0_
        have HO_222001 := n1_
        have BK213 := n2_
        have BK214 := n3_
        have BK221 := n4_
        have HB := n5_
        have HO229 := n6_
        clear n0_ n1_ n2_ n3_ n4_ n5_ n6_
        clear ho hb hg hat
        obtain ⟨Ao26, co26, eo26⟩ := Kd.R_slice HO229.out
        (first | subst eo26 | (injection eo26 with f1_ f2_ f3_; have f4_ := f1_.symm; have f5_ := f3_.symm; clear f1_ f2_ f3_; subst f4_; subst f5_))
        refine hK.out _ _ ⟨(blk_cell BK221.out 0).trans rfl, (blk_cell BK221.out 1).trans rfl, (blk_cell BK213.out 0).trans rfl, (blk_cell BK213.out 1).trans rfl, (pw_cell_below HB.out hw222_0), (pw_cell_below HB.out hw222_1), (pw_cell_below HB.out hw226_0), (pw_cell_below HB.out hw226_1)⟩ (fun hHeld => ?_)
        clear hK K
        refine norm_ (a' := ?_) ?_ ?_
        rotate_left
        ·show Act.put _ (some 32) _ = _
         simp only [Act.put, List.setIfInBounds_toArray, List.set_cons_zero, List.set_cons_succ, i64_w, i32_w]
         rfl
        refine pure_ (i := 16) (N := some 33) (v := ?_) (a' := ?_) #[true, true, true, true, true, true, true, true, true, true, true, true, true, true, true, true, true, false, false, false, false] rfl rfl (any_of HT_.out (by kernel_rfl)) (fun _ _ _ h => h) (Or.inl ⟨by rfl, ?_⟩) ?_ ?_
        rotate_left
        ·exact aI
        rotate_left
        ·exact aP
        refine one_ (i := 17) (N := some 34) #[true, true, true, true, true, true, true, true, true, true, true, true, true, true, true, true, true, true, false, false, false] rfl rfl (one_of HT_.out (by kernel_rfl)) (by decide) (fun K hK => ?_)
        refine value_ (w1 := ?_) (v := ?_) (by rfl) rfl ?_ ?_
        rotate_left 2
        ·go_simp
         constructor
         ·rfl
         ·rfl
        refine hK.out _ _ ⟨(blk_cell (blk_alloc BK221.out _) 0).trans rfl, (blk_cell (blk_alloc BK221.out _) 1).trans rfl, (blk_cell (blk_alloc BK213.out _) 0).trans rfl, (blk_cell (blk_alloc BK213.out _) 1).trans rfl, (World.cell?_alloc_lt _ _ _ (World.block_lt_of_cell? _ _ ((pw_cell_below HB.out hw222_0)))).trans ((pw_cell_below HB.out hw222_0)), (World.cell?_alloc_lt _ _ _ (World.block_lt_of_cell? _ _ ((pw_cell_below HB.out hw222_1)))).trans ((pw_cell_below HB.out hw222_1)), (World.cell?_alloc_lt _ _ _ (World.block_lt_of_cell? _ _ ((pw_cell_below HB.out hw226_0)))).trans ((pw_cell_below HB.out hw226_0)), (World.cell?_alloc_lt _ _ _ (World.block_lt_of_cell? _ _ ((pw_cell_below HB.out hw226_1)))).trans ((pw_cell_below HB.out hw226_1))⟩ (fun hHeld => ?_)
        clear hK K
        refine norm_ (a' := ?_) ?_ ?_
        rotate_left
        ·show Act.put _ (some 34) _ = _
         simp only [Act.put, List.setIfInBounds_toArray, List.set_cons_zero, List.set_cons_succ, i64_w, i32_w]
         rfl
        refine one_ (i := 18) (N := some 35) #[true, true, true, true, true, true, true, true, true, true, true, true, true, true, true, true, true, true, true, false, false] rfl rfl (one_of HT_.out (by kernel_rfl)) (by decide) (fun K hK => ?_)
        refine Kd.S_append_step k45 (w0 := w) w.heap.size (by rfl) (.tmp 18) (.tmp 34) 29 45 (.agg #[(.int .i64 0), (.slice none 0 0)]) 32 rfl Try.underlying29 info45 rfl (by decide) (by omega) u222001 x222001_1 (⟨(rd_T45 l0_1 x4_1).f0, y227⟩ : S45) [.int .i64 ((rd_T45 l0_1 x4_1).f0), .slice Ao26 y227.length co26] (fun _ => True) (fun k_ => some k_ = (.slice Ao26 y227.length co26 : Value).ownBlock) rfl rfl ?aP (fun k_ hk_ => ((Kd.R_mono (ok' := fun k_ => ((fun _ => True)) k_ ∧ some k_ ≠ (u222001 : Value).ownBlock) (Kd.R_apart' (HO229.out) (Kd.S_typed HO_222001.out) (by decide)) (fun k_ hk => ⟨trivial, hk.2⟩))).1 k_ hk_.symm) ?aF ?aO ?aB ?aS ?aL ?_
        (case aP => exact k45_mkM _ _ _ (⟨(rd_T45 l0_1 x4_1).f0, y227⟩ : S45) (Kd.R_mono (Kd.R_tight rfl (Kd.R_mono (ok' := fun k_ => ((fun _ => True)) k_ ∧ some k_ ≠ (u222001 : Value).ownBlock) (Kd.R_apart' (HO229.out) (Kd.S_typed HO_222001.out) (by decide)) (fun k_ hk => ⟨trivial, hk.2⟩))) (fun _ h_ => h_)))
        (case aB => exact aG)
        (case aF => exact (fun _ _ => trivial))
        (case aO => exact (by (with_reducible repeat (first | apply Kd.S_alloc | apply Kd.S_drewN | apply Kd.S_drew)); exact Kd.S_mono HO_222001.out (fun k_ hk => ⟨trivial, fun e_ => hk.2 e_⟩)))
        (case aS => exact (below_size aG))
        (case aL => have := LMc18.out; omega)
        intro v231 w27 ho hb hg hat
        rw [← Ny230.out] at ho
        have n0_ := aM (Kd.R_over' (aR HO_222000) (Kd.S_typed (aS HO_222001)) (by decide) hg)
        have n1_ := aM (blk_grown (g := gb213) (o := .cells #[.slice A0_0 l0_0.length c0_0, .slice (some ad222) l0_1.length c0_1] 31 (0, 0)) aK hg (Kd.S_ne HO_222001.out BK213.out (by decide)))
        have n2_ := aM (blk_grown (g := gb214) (o := .cells #[.slice none 0 0, .slice none 0 0] 31 (0, 0)) aK hg (Kd.S_ne HO_222001.out BK214.out (by decide)))
        have n3_ := aM (blk_grown (g := gb221) (o := .cells #[.slice Ao10 y218.length co10, u222001] 31 (0, 0)) aK hg (Kd.S_ne HO_222001.out BK221.out (by decide)))
        have n4_ := aM (hb)
        have n5_ := aM (ho)
        clear HO_222000
        clear BK213
        clear BK214
        clear BK221
        clear HB
        clear HO_222001
        clear HO229
        have HO_222000 := n0_
        have BK213 := n1_
        have BK214 := n2_
        have BK221 := n3_
        have HB := n4_
        have HO232 := n5_
        clear n0_ n1_ n2_ n3_ n4_ n5_
        clear ho hb hg hat
        obtain ⟨Ao28, co28, eo28⟩ := Kd.S_slice HO232.out
        (first | subst eo28 | (injection eo28 with f1_ f2_ f3_; have f4_ := f1_.symm; have f5_ := f3_.symm; clear f1_ f2_ f3_; subst f4_; subst f5_))
        refine hK.out _ _ ⟨(blk_cell BK221.out 0).trans rfl, (blk_cell BK221.out 1).trans rfl, (blk_cell BK213.out 0).trans rfl, (blk_cell BK213.out 1).trans rfl, (pw_cell_below HB.out hw222_0), (pw_cell_below HB.out hw222_1), (pw_cell_below HB.out hw226_0), (pw_cell_below HB.out hw226_1)⟩ (fun hHeld => ?_)
        clear hK K
        refine norm_ (a' := ?_) ?_ ?_
        rotate_left
        ·show Act.put _ (some 35) _ = _
         simp only [Act.put, List.setIfInBounds_toArray, List.set_cons_zero, List.set_cons_succ, i64_w, i32_w]
         rfl
        refine pure_ (i := 19) (N := some 36) (v := ?_) (a' := ?_) #[true, true, true, true, true, true, true, true, true, true, true, true, true, true, true, true, true, true, true, true, false] rfl rfl (any_of HT_.out (by kernel_rfl)) (fun _ _ _ h => h) (Or.inl ⟨by rfl, ?_⟩) ?_ ?_
        rotate_left
        ·exact aI
        rotate_left
        ·exact aP
        refine last_ (i := 20) (N := none) #[true, true, true, true, true, true, true, true, true, true, true, true, true, true, true, true, true, true, true, true, true] rfl rfl (one_of HT_.out (by kernel_rfl)) (by decide) (fun K hK => ?_)
        have hs29 : w27.cell? ⟨gb221, 1, none⟩ = some (u222001) := (blk_cell BK221.out 1).trans rfl
        have hfs29 := blk_frozen BK221.out 1
        have hns29_0 := NB213_221.out
        have hns29_1 := NB214_221.out
        have hms29_0 := NB221_213.out
        have hms29_1 := NB221_214.out
        refine skip_ (w1 := ?_) (by rfl) rfl ?_ ?_
        rotate_left
        ·go_simp
         rfl
        refine hK.out _ _ ?_
        clear hK K
        refine done_ (done_of HT_.out (by kernel_rfl)) ?_
        try go_wp2
        go_roundg k1
        case measure => have := HK1.out; omega
        case rel => exact ⟨(wrap64 (x4_1 + 1)), (y230), (.slice Ao28 y230.length co28), (by first | rfl | (simp; done) | (simp [*]; done)), H', ⟨by have := HK1.out; omega⟩, ⟨by (with_reducible repeat (first | apply Kd.R_alloc | apply Kd.R_drewN | apply Kd.R_drew)); exact Kd.R_mono (Kd.R_far (p := ⟨gb221, 1, none⟩) (Kd.R_types HO_222000.out BK221.out (by decide)) (fun _ hk => hk.2) (.slice Ao28 y230.length co28)) (fun _ hk => trivial)⟩, ⟨by (with_reducible repeat (first | apply Kd.S_alloc | apply Kd.S_drewN | apply Kd.S_drew)); exact Kd.S_mono (Kd.S_far (p := ⟨gb221, 1, none⟩) (Kd.S_types HO232.out BK221.out (by decide)) (fun _ hk => hk.2) (.slice Ao28 y230.length co28)) (fun _ hk => trivial)⟩, ⟨by (with_reducible repeat (first | refine blk_drewN ?_ _ | refine blk_drew ?_ | refine blk_alloc ?_ _)); refine blk_far ?_ NB213_221.out _; (with_reducible repeat (first | refine blk_drewN ?_ _ | refine blk_drew ?_ | refine blk_alloc ?_ _)); exact BK213.out⟩, ⟨by (with_reducible repeat (first | refine blk_drewN ?_ _ | refine blk_drew ?_ | refine blk_alloc ?_ _)); refine blk_far ?_ NB214_221.out _; (with_reducible repeat (first | refine blk_drewN ?_ _ | refine blk_drew ?_ | refine blk_alloc ?_ _)); exact BK214.out⟩, ⟨by (with_reducible repeat (first | refine blk_drewN ?_ _ | refine blk_drew ?_ | refine blk_alloc ?_ _)); refine blk_put (cs := #[.slice Ao10 y218.length co10, u222001]) ?_ 1 _ rfl; (with_reducible repeat (first | refine blk_drewN ?_ _ | refine blk_drew ?_ | refine blk_alloc ?_ _)); exact BK221.out⟩, ⟨by repeat (first | (with_reducible first | exact HB.out | apply below_alloc | apply pw_below_drewN | apply below_drew1 | refine below_set ?_ GE213.out | refine below_set ?_ GE214.out | refine below_set ?_ GE221.out) | exact HB.out)⟩⟩
       ·rw [if_neg c18] at H
        exact absurd H (by simp)
      ·rw [if_neg c17] at H
       exact absurd H (by simp)
     ·rw [if_neg c16] at H
      exact absurd H (by simp)
    ·rw [if_neg c15] at H
     have c15b0 : decide (x4_1 < (l0_1.length : Int)) = false := decide_eq_false c15
     clear c15
     simp only [Option.some.injEq, Prod.mk.injEq] at H
     obtain ⟨rfl, rfl⟩ := H
     have hnb30 := NB213_214.out
     have hnc30 := NB214_213.out
     have hnb31 := NB213_221.out
     have hnc31 := NB221_213.out
     have hcz32_0 : wr.cell? ⟨gb213, 0, none⟩ = some (.slice A0_0 l0_0.length c0_0) := (blk_cell BK213.out 0).trans rfl
     have hcz32_1 : wr.cell? ⟨gb213, 1, none⟩ = some (.slice A0_1 l0_1.length c0_1) := (blk_cell BK213.out 1).trans rfl
     have hfz32_0 := blk_frozen BK213.out 0
     have hfz32_1 := blk_frozen BK213.out 1
     have hnb33 := NB221_214.out
     have hnc33 := NB214_221.out
     have hcz34_0 : wr.cell? ⟨gb221, 0, none⟩ = some (.slice Ao10 y218.length co10) := (blk_cell BK221.out 0).trans rfl
     have hcz34_1 : wr.cell? ⟨gb221, 1, none⟩ = some (u222001) := (blk_cell BK221.out 1).trans rfl
     have hfz34_0 := blk_frozen BK221.out 0
     have hfz34_1 := blk_frozen BK221.out 1
     have hcz35_0 : wr.cell? ⟨gb214, 0, none⟩ = some (.slice none 0 0) := (blk_cell BK214.out 0).trans rfl
     have hcz35_1 : wr.cell? ⟨gb214, 1, none⟩ = some (.slice none 0 0) := (blk_cell BK214.out 1).trans rfl
     have hfz35_0 := blk_frozen BK214.out 0
     have hfz35_1 := blk_frozen BK214.out 1
     obtain ⟨Ao36, co36, eo36⟩ := Kd.S_slice HO_222001.out
     subst eo36
     go_wp2
     refine bodyPost_ret (results_cell_row rfl _ _ gb214 31 #[.slice Ao10 y218.length co10, .slice Ao36 x222001_1.length co36] (0, 0) _ rfl (by (with_reducible repeat (first | refine blk_drewN ?_ _ | refine blk_drew ?_ | refine blk_alloc ?_ _)); refine blk_put (cs := #[.slice Ao10 y218.length co10, .slice none 0 0]) ?_ 1 _ rfl; (with_reducible repeat (first | refine blk_drewN ?_ _ | refine blk_drew ?_ | refine blk_alloc ?_ _)); refine blk_put (cs := #[.slice none 0 0, .slice none 0 0]) ?_ 0 _ rfl; (with_reducible repeat (first | refine blk_drewN ?_ _ | refine blk_drew ?_ | refine blk_alloc ?_ _)); exact BK214.out) Try.underlying31 rfl (by kernel_rfl)) rfl ?_
     exact ⟨_, _, by first | rfl | (simp [errW_none, errW_some] <;> rfl) | (simp [*, errW_none, errW_some] <;> rfl), by (with_reducible repeat (first | apply Kd.R_alloc | apply Kd.R_drewN | apply Kd.R_drew)); exact Kd.R_mono (Kd.R_far (p := ⟨gb214, 1, none⟩) (Kd.R_far (p := ⟨gb214, 0, none⟩) (Kd.R_types HO_222000.out BK214.out (by decide)) (fun _ hk => hk.2) (.slice Ao10 y218.length co10)) (fun _ hk => hk.2) (.slice Ao36 x222001_1.length co36)) (fun _ hk => trivial), by (with_reducible repeat (first | apply Kd.S_alloc | apply Kd.S_drewN | apply Kd.S_drew)); exact Kd.S_mono (Kd.S_far (p := ⟨gb214, 1, none⟩) (Kd.S_far (p := ⟨gb214, 0, none⟩) (Kd.S_types HO_222001.out BK214.out (by decide)) (fun _ hk => hk.2) (.slice Ao10 y218.length co10)) (fun _ hk => hk.2) (.slice Ao36 x222001_1.length co36)) (fun _ hk => trivial), by repeat (first | (with_reducible first | exact HB.out | apply below_alloc | apply pw_below_drewN | apply below_drew1 | refine below_set ?_ GE213.out | refine below_set ?_ GE214.out | refine below_set ?_ GE221.out) | exact HB.out)⟩
 ·rw [if_neg c2] at H
  exact absurd H (by simp)

/-! ### spec_FactIndex: function 53 -/
def spec_FactIndex.l0 : Nat → Int → List (S74) → List (S45) → Int → List Int → Option (Int)
 | 0, _, _, _, _, _ => none
 | k + 1, x5, x234000, x234001, x235000, x235001 => if x5 < (x234001.length : Int) then (if 0 ≤ x5 then ((spec_CompareFacts.f k ((rd_T45 x234001 x5).f0) ((rd_T45 x234001 x5).f1) x235000 x235001).bind fun t236 => (if t236 = 0 then (some x5) else (spec_FactIndex.l0 k (wrap64 (x5 + 1)) x234000 x234001 x235000 x235001))) else (none)) else (some (-1))
def spec_FactIndex.f (k : Nat) (l0_0 : List (S74)) (l0_1 : List (S45)) (a1_0 : Int) (l1_1 : List Int) : Option (Int) := spec_FactIndex.l0 k 0 l0_0 l0_1 a1_0 l1_1
set_option maxHeartbeats 8000000 in
set_option maxRecDepth 100000 in
theorem spec_FactIndex.calls (k : Nat) (A0_0 : Option Addr) (c0_0 : Nat) (l0_0 : List (S74)) (A0_1 : Option Addr) (c0_1 : Nat) (l0_1 : List (S45)) (a1_0 : Int) (A1_1 : Option Addr) (c1_1 : Nat) (l1_1 : List Int) (r : Int) (w : World) (hr0_0 : Kd.C k74 w A0_0 l0_0.length l0_0) (hc0_0 : l0_0.length ≤ c0_0) (hr0_1 : Kd.C k45 w A0_1 l0_1.length l0_1) (hc0_1 : l0_1.length ≤ c0_1) (hr1_1 : Kd.C (Kd.int .i64) w A1_1 l1_1.length l1_1) (hc1_1 : l1_1.length ≤ c1_1) (h : spec_FactIndex.f k l0_0 l0_1 a1_0 l1_1 = some r) :
  Calls Try.prog 53 #[.agg #[.slice A0_0 l0_0.length c0_0, .slice A0_1 l0_1.length c0_1], .agg #[.int .i64 a1_0, .slice A1_1 l1_1.length c1_1]] w fun e w' => e = .returned (.int .i64 r) ∧ Below w.heap.size w w' := by
 have hu31 := Try.underlying31
 have hu45 := Try.underlying45
 obtain ⟨W, hW⟩ : ∃ W, (w.alloc (.cells #[.slice A0_0 l0_0.length c0_0, .slice A0_1 l0_1.length c0_1] 31)).alloc (.cells #[.int .i64 a1_0, .slice A1_1 l1_1.length c1_1] 45) = W := ⟨_, rfl⟩
 have q0 := qa (w := W) (p := ⟨w.heap.size, 0, none⟩) (v := .slice A0_0 l0_0.length c0_0) (by subst hW; go_simp)
 have q1 := qa (w := W) (p := ⟨w.heap.size, 1, none⟩) (v := .slice A0_1 l0_1.length c0_1) (by subst hW; go_simp)
 have q2 := qa (w := W) (p := ⟨w.heap.size + 1, 0, none⟩) (v := .int .i64 a1_0) (by subst hW; go_simp)
 have q3 := qa (w := W) (p := ⟨w.heap.size + 1, 1, none⟩) (v := .slice A1_1 l1_1.length c1_1) (by subst hW; go_simp)
 have HB : Below w.heap.size w W := by subst hW; exact zB
 have HW := Below.refl W.heap.size W
 have hb := aM HB
 have rg_ := @bcl w
 have rd_ := @bdr w
 have rG_ := @bcl W
 have rD_ := @bdr W
 unfold spec_FactIndex.f at h
 ·go_enter Try.func53, Try.ntmps53
  go_wp2
  (repeat ((refine nw (w0 := w) zB ?_; intro W1 HB hb hd; have HW : Below W.heap.size W W1 := zB; (first | (refine Txt.rg (id := 4) [0, 1, 2, 3, 4, 5, 6, 7] (by kernel_rfl) (by kernel_rfl) ?_; simp only [List.map_cons, List.map_nil, List.getD_cons_zero, List.getD_cons_succ])); (repeat (first | (refine Txt.off rfl ?_; simp only [Act.put, List.setIfInBounds_toArray, List.set_cons_zero, List.set_cons_succ]) | (refine Txt.take rfl rfl ?_; intro K hK; go_big_quiet_op; go_big_quiet_on) | (refine Txt.call rfl rfl Try.func49 (by kernel_rfl) rfl (spec_CompareFacts.calls ?_ _ _ _ _ _ _ _ _ ?_ _ ?_ ?_ ?_ ?_ ?h) rfl ?_; (case h => exact zA); (iterate 4 (first | exact zC | exact zA)); rintro e w1 ⟨rfl, hb⟩; replace hb := aM hb; have HW : Below W.heap.size W w1 := zB; have HB : Below w.heap.size w w1 := zB; refine ⟨_, rfl, zS, ?_⟩; simp only [Act.put, List.setIfInBounds_toArray, List.set_cons_zero, List.set_cons_succ]))); refine Txt.nil ?_); (try go_wp2)))
  go_loopg [5] k (fun kq v5 w' => ∃ (x5_0 : Int), v5 = .int .i64 x5_0 ∧ spec_FactIndex.l0 kq x5_0 l0_0 l0_1 a1_0 l1_1 = some r ∧ Below W.heap.size W w')
  case atStart => exact ⟨_, zR, zA, zB⟩
  case round =>
   clear h
   obtain ⟨x5_0, rfl, h, hb⟩ := hrel
   replace hb := aM hb
   have HW : Below W.heap.size W wr := zB
   have HB : Below w.heap.size w wr := zB
   rcases gk with _ | kk0
   exact absurd h (by simp [spec_FactIndex.l0])
   simp only [spec_FactIndex.l0] at h
   replace h := il h; rcases h with ⟨c1, c1a, h⟩ | ⟨c1, c1a, h⟩
   replace h := ie h; rcases h with ⟨c2, c2a, h⟩ | ⟨c2, c2a, h⟩
   replace h := bs h; obtain ⟨t236, B3, h⟩ := h
   replace h := iq h; rcases h with ⟨c4, ⟨c4a, c4b⟩, h⟩ | ⟨c4, ⟨c4a, c4b⟩, h⟩
   obtain rfl := si h
   obtain ⟨ad235, A235_1, c235_1, e235, hx235_0, hx235_1, hl235_1, hi235_1⟩ := at_T45 hr0_1 (x5_0 : Int) aD aD
   have p235 := eq_true (aD : 0 ≤ (x5_0 : Int))
   have q235 := eq_true (aD : x5_0 < (l0_1.length : Int))
   cases e235
   replace hx235_0 := qa hx235_0
   replace hx235_1 := qa hx235_1
   rotate_left
   obtain ⟨kf, hkf⟩ : ∃ kf, kf = kk0 := ⟨_, rfl⟩; rw [← hkf] at h
   obtain ⟨ad235, A235_1, c235_1, e235, hx235_0, hx235_1, hl235_1, hi235_1⟩ := at_T45 hr0_1 (x5_0 : Int) aD aD
   have p235 := eq_true (aD : 0 ≤ (x5_0 : Int))
   have q235 := eq_true (aD : x5_0 < (l0_1.length : Int))
   cases e235
   replace hx235_0 := qa hx235_0
   replace hx235_1 := qa hx235_1
   rotate_left
   exact absurd h (by simp)
   obtain rfl := si h
   rotate_left
   all_goals (go_wp2; (repeat ((refine nw (w0 := w) zB ?_; intro W1 HB hb hd; have HW : Below W.heap.size W W1 := zB; (first | (refine Txt.rg (id := 4) [0, 1, 2, 3, 4, 5, 6, 7] (by kernel_rfl) (by kernel_rfl) ?_; simp only [List.map_cons, List.map_nil, List.getD_cons_zero, List.getD_cons_succ])); (repeat (first | (refine Txt.off rfl ?_; simp only [Act.put, List.setIfInBounds_toArray, List.set_cons_zero, List.set_cons_succ]) | (refine Txt.take rfl rfl ?_; intro K hK; go_big_quiet_op; go_big_quiet_on) | (refine Txt.call rfl rfl Try.func49 (by kernel_rfl) rfl (spec_CompareFacts.calls ?_ _ _ _ _ _ _ _ _ ?_ _ ?_ ?_ ?_ ?_ ?h) rfl ?_; (case h => exact zA); (iterate 4 (first | exact zC | exact zA)); rintro e w1 ⟨rfl, hb⟩; replace hb := aM hb; have HW : Below W.heap.size W w1 := zB; have HB : Below w.heap.size w w1 := zB; refine ⟨_, rfl, zS, ?_⟩; simp only [Act.put, List.setIfInBounds_toArray, List.set_cons_zero, List.set_cons_succ]))); refine Txt.nil ?_); (try go_wp2))); first | (go_ret; exact zE zB) | (go_roundg kf; (case measure => omega); (case rel => exact ⟨_, zR, zA, zB⟩)))

/-! ### spec_ContainsFact: function 48 -/
def spec_ContainsFact.f (k : Nat) (l0_0 : List (S74)) (l0_1 : List (S45)) (a1_0 : Int) (l1_1 : List Int) : Option (Bool) := (spec_IsValidDatabase.f k l0_0 l0_1).bind fun t239 => (if t239 = true then ((spec_FactIndex.f k l0_0 l0_1 a1_0 l1_1).bind fun t240 => (some (decide (t240 ≥ 0)))) else (some false))
set_option maxHeartbeats 8000000 in
set_option maxRecDepth 100000 in
theorem spec_ContainsFact.calls (k : Nat) (A0_0 : Option Addr) (c0_0 : Nat) (l0_0 : List (S74)) (A0_1 : Option Addr) (c0_1 : Nat) (l0_1 : List (S45)) (a1_0 : Int) (A1_1 : Option Addr) (c1_1 : Nat) (l1_1 : List Int) (r : Bool) (w : World) (hr0_0 : Kd.C k74 w A0_0 l0_0.length l0_0) (hc0_0 : l0_0.length ≤ c0_0) (hr0_1 : Kd.C k45 w A0_1 l0_1.length l0_1) (hc0_1 : l0_1.length ≤ c0_1) (hr1_1 : Kd.C (Kd.int .i64) w A1_1 l1_1.length l1_1) (hc1_1 : l1_1.length ≤ c1_1) (h : spec_ContainsFact.f k l0_0 l0_1 a1_0 l1_1 = some r) :
  Calls Try.prog 48 #[.agg #[.slice A0_0 l0_0.length c0_0, .slice A0_1 l0_1.length c0_1], .agg #[.int .i64 a1_0, .slice A1_1 l1_1.length c1_1]] w fun e w' => e = .returned (.bool r) ∧ Below w.heap.size w w' := by
 have hu31 := Try.underlying31
 have hu45 := Try.underlying45
 obtain ⟨W, hW⟩ : ∃ W, (w.alloc (.cells #[.slice A0_0 l0_0.length c0_0, .slice A0_1 l0_1.length c0_1] 31)).alloc (.cells #[.int .i64 a1_0, .slice A1_1 l1_1.length c1_1] 45) = W := ⟨_, rfl⟩
 have q0 := qa (w := W) (p := ⟨w.heap.size, 0, none⟩) (v := .slice A0_0 l0_0.length c0_0) (by subst hW; go_simp)
 have q1 := qa (w := W) (p := ⟨w.heap.size, 1, none⟩) (v := .slice A0_1 l0_1.length c0_1) (by subst hW; go_simp)
 have q2 := qa (w := W) (p := ⟨w.heap.size + 1, 0, none⟩) (v := .int .i64 a1_0) (by subst hW; go_simp)
 have q3 := qa (w := W) (p := ⟨w.heap.size + 1, 1, none⟩) (v := .slice A1_1 l1_1.length c1_1) (by subst hW; go_simp)
 have HB : Below w.heap.size w W := by subst hW; exact zB
 have HW := Below.refl W.heap.size W
 have hb := aM HB
 unfold spec_ContainsFact.f at h
 replace h := bs h; obtain ⟨t239, B0, h⟩ := h
 replace h := ib h; rcases h with ⟨rfl, h⟩ | ⟨rfl, h⟩
 replace h := bs h; obtain ⟨t240, B2, h⟩ := h
 obtain rfl := si h
 rotate_left
 obtain rfl := si h
 rotate_left
 all_goals (go_enter Try.func48, Try.ntmps48; go_wp2_with (first | (go_at_call 28; refine (spec_IsValidDatabase.calls ?_ _ _ _ _ _ _ ?_ _ ?_ ?_ ?_ ?_ ?h).mono ?_; (case h => exact zA); (iterate 4 (first | exact zC | exact zA)); rintro e w1 ⟨rfl, hb⟩; replace hb := aM hb; have HW : Below W.heap.size W w1 := zB; have HB : Below w.heap.size w w1 := zB) | (go_at_call 53; refine (spec_FactIndex.calls ?_ _ _ _ _ _ _ _ _ _ _ ?_ _ ?_ ?_ ?_ ?_ ?_ ?_ ?h).mono ?_; (case h => exact zA); (iterate 6 (first | exact zC | exact zA)); rintro e w1 ⟨rfl, hb⟩; replace hb := aM hb; have HW : Below W.heap.size W w1 := zB; have HB : Below w.heap.size w w1 := zB)); go_ret; exact zE zB)

end Go.Proofs.Yteddnlklfjpgoaa.PFnExactInsertFact
