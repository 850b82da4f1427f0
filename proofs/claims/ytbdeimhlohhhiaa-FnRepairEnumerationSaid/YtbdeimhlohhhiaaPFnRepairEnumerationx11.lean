import Derived.Test.YtbdeimhlohhhiaaPFnRepairEnumerationx0
import Derived.Test.YtbdeimhlohhhiaaPFnRepairEnumerationx7
namespace Go.Proofs.Ytbdeimhlohhhiaa.PFnRepairEnumeration
open Go.RowKit Go.Proofs.YtbdeimhlohhhiaaW.PrintWords Go.Proofs.YtbdeimhlohhhiaaW.PrintLast Go.Proofs.YtbdeimhlohhhiaaW.PrintMore
attribute [local go_sem] max2_int min2_int max_two min_two max_three min_three max_four min_four
set_option linter.unusedVariables false
set_option linter.unusedSimpArgs false

/-! ### spec_l4Copy: function 56 -/
def spec_l4Copy.l0 : Nat → Int → List (S70) → List (S35) → List (S70) → List (S35) → Option ((List (S70)) × (List (S35)))
 | 0, _, _, _, _, _ => none
 | k + 1, x4, x321000, x321001, x329000, x329001 => if x4 < (x321001.length : Int) then (if 0 ≤ x4 then ((some (([] : List Int) : List Int)).bind fun y330 => (if y330.length + ((rd_T35 x321001 x4).f1).length < 17592186044416 then (if x329001.length < 4398046511104 then (spec_l4Copy.l0 k (wrap64 (x4 + 1)) x321000 x321001 x329000 (x329001 ++ [(⟨(rd_T35 x321001 x4).f0, (y330 ++ ((rd_T35 x321001 x4).f1))⟩ : S35)])) else (none)) else (none))) else (none)) else (some (x329000, x329001))
def spec_l4Copy.f (k : Nat) (l0_0 : List (S70)) (l0_1 : List (S35)) : Option ((List (S70)) × (List (S35))) := (some (([] : List (S70)) : List (S70))).bind fun y322 => (if y322.length + l0_0.length < 4398046511104 then (spec_l4Copy.l0 k 0 l0_0 l0_1 (y322 ++ l0_0) ([] : List (S35))) else (none))
def spec_l4Copy.T5 : Bool × List (List Nat × List Nat) := (true, [([], []), ([0], [0]), ([], []), ([2], [2]), ([], []), ([3, 4], [3, 4]), ([5], [5]), ([6], [6]), ([], []), ([], []), ([9], [9]), ([], []), ([10, 11], [10, 11]), ([12], [12]), ([13], [13]), ([8, 14], [8, 14]), ([7, 15], [7, 15]), ([16], [16]), ([1, 17, 15], [1, 17]), ([0, 1, 2, 3, 4, 5, 6, 7, 8, 9, 10, 11, 12, 13, 14, 15, 16, 17, 18], []), ([19, 18, 18, 0, 1, 2, 3, 4, 5, 6, 7, 8, 9, 10, 11, 12, 13, 14, 15, 16, 17, 18], [18, 19])])
def spec_l4Copy.B5 : List Nat := [0, 1, 0, 4, 0, 28, 60, 124, 0, 0, 512, 0, 3584, 7680, 15872, 32512, 65532, 131068, 262143, 524287, 1048575]
theorem spec_l4Copy.tab5 : rtab .any (opsOf Try.f56 5) = spec_l4Copy.T5 := by kernel_rfl
theorem spec_l4Copy.bits5 : waitsOk spec_l4Copy.T5.2 spec_l4Copy.B5 = true := by kernel_rfl
set_option maxHeartbeats 8000000 in
set_option maxRecDepth 100000 in
theorem spec_l4Copy.calls (k : Nat) (A0_0 : Option Addr) (c0_0 : Nat) (l0_0 : List (S70)) (A0_1 : Option Addr) (c0_1 : Nat) (l0_1 : List (S35)) (r1 : List (S70)) (r2 : List (S35)) (w : World) (hr0_0 : Kd.C k70 w A0_0 l0_0.length l0_0) (hc0_0 : l0_0.length ≤ c0_0) (hr0_1 : Kd.C k35 w A0_1 l0_1.length l0_1) (hc0_1 : l0_1.length ≤ c0_1) (h : spec_l4Copy.f k l0_0 l0_1 = some (r1, r2)) :
  Calls Try.prog 56 #[.agg #[.slice A0_0 l0_0.length c0_0, .slice A0_1 l0_1.length c0_1]] w fun e w' => ∃ v0_ v1_ : Value, e = .returned (.agg #[v0_, v1_]) ∧ Kd.R k70 70 w' w.heap.size (fun _ => True) v0_ r1 ∧ Kd.S k35 35 w' w.heap.size (fun _ => True) v1_ r2 ∧ Below w.heap.size w w' := by
 have hu27 := Try.underlying27
 have hu35 := Try.underlying35
 have HR0_0 := aM hr0_0
 have HC0_0 := aM hc0_0
 clear hr0_0 hc0_0
 have HR0_1 := aM hr0_1
 have HC0_1 := aM hc0_1
 clear hr0_1 hc0_1
 have HB := aM (Below.refl w.heap.size w)
 have H : ((some (([] : List (S70)) : List (S70))).bind fun y322 => (if y322.length + l0_0.length < 4398046511104 then (spec_l4Copy.l0 k 0 l0_0 l0_1 (y322 ++ l0_0) ([] : List (S35))) else (none))) = some (r1, r2) := h
 clear h
 obtain ⟨y322, hy322⟩ : ∃ y_ : List (S70), y_ = (([] : List (S70))) := ⟨_, rfl⟩
 first | replace H := bY hy322 H | rw [← hy322] at H
 have Ny322 := aM hy322
 clear hy322
 by_cases c2 : y322.length + l0_0.length < 4398046511104
 ·rw [if_pos c2] at H
  have LMc2 := aM c2
  clear c2
  obtain ⟨y325, hy325⟩ : ∃ y_ : List (S70), y_ = (y322 ++ l0_0) := ⟨_, rfl⟩
  first | replace H := bY hy325 H | rw [← hy325] at H
  have Ny325 := aM hy325
  clear hy325
  have H' := aM H
  clear H
  go_enter Try.func56, Try.ntmps56
  go_wp2_with (first | ((with_reducible refine gate_dst (N := 1) rfl ?_); refine bE 1 (cs := #[.slice A0_0 l0_0.length c0_0, .slice A0_1 l0_1.length c0_1]) (t := 27) ?_; intro gb320 hg w3 hbox hb; have BK320 := aM (hbox); have GW320 := aM ((by rw [hg]; exact (below_size aB) : w.heap.size ≤ gb320)); have GE320 := aM ((by rw [hg]; exact (below_size aB) : w.heap.size ≤ gb320)); replace HB := aM (below_step aB hb); clear hb hbox hg) | ((with_reducible refine gate_dst (N := 2) rfl ?_); refine bE 2 (cs := #[.slice none 0 0, .slice none 0 0]) (t := 27) ?_; intro gb321 hg w4 hbox hb; have BK321 := aM (hbox); have GW321 := aM ((by rw [hg]; exact (below_size aG) : w.heap.size ≤ gb321)); have GE321 := aM ((by rw [hg]; exact (below_size aG) : w.heap.size ≤ gb321)); have NB320_321 := aM ((by rw [hg]; exact Nat.ne_of_lt (blk_lt (g := gb320) (o := .cells #[.slice A0_0 l0_0.length c0_0, .slice A0_1 l0_1.length c0_1] 27 (0, 0)) aK) : gb320 ≠ gb321)); have NB321_320 := aM ((by rw [hg]; exact Nat.ne_of_gt (blk_lt (g := gb320) (o := .cells #[.slice A0_0 l0_0.length c0_0, .slice A0_1 l0_1.length c0_1] 27 (0, 0)) aK) : gb321 ≠ gb320)); replace BK320 := aM (kB gb320 #[.slice A0_0 l0_0.length c0_0, .slice A0_1 l0_1.length c0_1] 27 hb); replace HB := aM (below_step aG hb); clear hb hbox hg) | ((with_reducible refine gate_dst (N := 5) rfl ?_); refine Kd.R_lit k70 _ 70 ?hg (N := 5) ?hd (xs := ([] : List (S70))) (inner := []) (ok := fun _ => True) (okp := fun _ => True) ?hr ?hp (fun _ hk => hk) trivial (Below.refl _ _) (Nat.le_refl _) (by simp) ?_; (case hd => rfl); (case hg => rfl); (case hr => first | (go_simp; done) | (go_simp; rfl)); (case hp => exact (Reps.none _ _)); intro v323 w5 ho6 hb hg_ hnew_; clear hg_ hnew_; (first | rw [← Ny322.out] at ho6 | (simp only [Int.reduceToNat] at ho6; rw [← Ny322.out] at ho6)); have n0_ := aM (Kd.R_lower ho6 (below_size aG)); have n1_ := aM (kB gb320 #[.slice A0_0 l0_0.length c0_0, .slice A0_1 l0_1.length c0_1] 27 hb); have n2_ := aM (kB gb321 #[.slice none 0 0, .slice none 0 0] 27 hb); have n3_ := aM (below_step aG hb); clear BK320; clear BK321; clear HB; have HO324 := n0_; have BK320 := n1_; have BK321 := n2_; have HB := n3_; clear n0_ n1_ n2_ n3_; clear hb ho6; have hnb7 := NB320_321.out; have hnc7 := NB321_320.out; have hcz8_0 : w5.cell? ⟨gb320, 0, none⟩ = some (.slice A0_0 l0_0.length c0_0) := (blk_cell BK320.out 0).trans rfl; have hcz8_1 : w5.cell? ⟨gb320, 1, none⟩ = some (.slice A0_1 l0_1.length c0_1) := (blk_cell BK320.out 1).trans rfl; have hfz8_0 := blk_frozen BK320.out 0; have hfz8_1 := blk_frozen BK320.out 1) | ((with_reducible refine gate_builtin (b := .append) (xs := #[.tmp 5, .tmp 7]) rfl ?_); at_builtin; refine Kd.R_append_rows k70 (w0 := w) w.heap.size rfl (.tmp 5) (.tmp 7) 24 70 (.agg #[(.string ⟨#[]⟩), (.int .i64 0), (.int .i64 0)]) 32 rfl Try.underlying24 info70 rfl (by decide) (by omega) v323 y322 l0_0 _ _ _ (fun _ => True) (fun _ => False) rfl rfl ?aO ?aR (fun _ _ h => h) (fun _ h => h.elim) ?aF ?aB ?aS ?aL ?_; (case aR => exact aC); (case aB => exact aG); (case aF => exact (fun _ _ => trivial)); (case aO => exact (aR HO324)); (case aS => exact (below_size aG)); (case aL => have := LMc2.out; omega); intro v326 w9 ho hb hg hat; rw [← Ny325.out] at ho; have n0_ := aM (blk_grown (g := gb320) (o := .cells #[.slice A0_0 l0_0.length c0_0, .slice A0_1 l0_1.length c0_1] 27 (0, 0)) aK hg (Kd.R_ne HO324.out BK320.out (by decide))); have n1_ := aM (blk_grown (g := gb321) (o := .cells #[.slice none 0 0, .slice none 0 0] 27 (0, 0)) aK hg (Kd.R_ne HO324.out BK321.out (by decide))); have n2_ := aM (hb); have n3_ := aM (ho); clear BK320; clear BK321; clear HB; clear HO324; have BK320 := n0_; have BK321 := n1_; have HB := n2_; have HO327 := n3_; clear n0_ n1_ n2_ n3_; clear ho hb hg hat; obtain ⟨Ao10, co10, eo10⟩ := Kd.R_slice HO327.out; subst eo10) | ((with_reducible refine gate_dst (N := 3) rfl ?_); refine bE 3 (cs := #[.slice none 0 0, .slice none 0 0]) (t := 27) ?_; intro gb328 hg w11 hbox hb; have n0_ := aM (Kd.R_below (aR HO327) hb); have n1_ := aM (kB gb320 #[.slice A0_0 l0_0.length c0_0, .slice A0_1 l0_1.length c0_1] 27 hb); have n2_ := aM (kB gb321 #[.slice none 0 0, .slice none 0 0] 27 hb); have n3_ := aM (below_step aG hb); have n4_ := aM (hbox); have n5_ := aM ((by rw [hg]; exact (below_size aG) : w.heap.size ≤ gb328)); have n6_ := aM ((by rw [hg]; exact (below_size aG) : w.heap.size ≤ gb328)); have n7_ := aM ((by rw [hg]; exact Nat.ne_of_lt (blk_lt (g := gb320) (o := .cells #[.slice A0_0 l0_0.length c0_0, .slice A0_1 l0_1.length c0_1] 27 (0, 0)) aK) : gb320 ≠ gb328)); have n8_ := aM ((by rw [hg]; exact Nat.ne_of_gt (blk_lt (g := gb320) (o := .cells #[.slice A0_0 l0_0.length c0_0, .slice A0_1 l0_1.length c0_1] 27 (0, 0)) aK) : gb328 ≠ gb320)); have n9_ := aM ((by rw [hg]; exact Nat.ne_of_lt (blk_lt (g := gb321) (o := .cells #[.slice none 0 0, .slice none 0 0] 27 (0, 0)) aK) : gb321 ≠ gb328)); have n10_ := aM ((by rw [hg]; exact Nat.ne_of_gt (blk_lt (g := gb321) (o := .cells #[.slice none 0 0, .slice none 0 0] 27 (0, 0)) aK) : gb328 ≠ gb321)); clear HO327; clear BK320; clear BK321; clear HB; have HO327 := n0_; have BK320 := n1_; have BK321 := n2_; have HB := n3_; have BK328 := n4_; have GW328 := n5_; have GE328 := n6_; have NB320_328 := n7_; have NB328_320 := n8_; have NB321_328 := n9_; have NB328_321 := n10_; clear n0_ n1_ n2_ n3_ n4_ n5_ n6_ n7_ n8_ n9_ n10_; clear hb hbox hg; have hnb12 := NB328_320.out; have hnc12 := NB320_328.out; have hnb13 := NB328_321.out; have hnc13 := NB321_328.out; have hcz14_0 : w11.cell? ⟨gb328, 0, none⟩ = some (.slice none 0 0) := (blk_cell BK328.out 0).trans rfl; have hcz14_1 : w11.cell? ⟨gb328, 1, none⟩ = some (.slice none 0 0) := (blk_cell BK328.out 1).trans rfl; have hfz14_0 := blk_frozen BK328.out 0; have hfz14_1 := blk_frozen BK328.out 1))
  go_loopg [4] k (fun kq v4 w' => ∃ (x4_1 : Int) (x329001_1 : List (S35)) (u329001 : Value), v4 = .int .i64 x4_1 ∧ Aside0 (spec_l4Copy.l0 kq x4_1 l0_0 l0_1 y325 x329001_1 = some (r1, r2)) ∧ Aside0 (kq ≤ k) ∧ Aside0 (Kd.R k70 70 w' w.heap.size (fun _ => True) (.slice Ao10 y325.length co10) y325) ∧ Aside0 (Kd.S k35 35 w' w.heap.size (fun _ => True) u329001 x329001_1) ∧ Aside0 (w'.heap[gb320]? = some (.cells #[(.slice A0_0 l0_0.length c0_0), (.slice A0_1 l0_1.length c0_1)] 27 (0, 0))) ∧ Aside0 (w'.heap[gb321]? = some (.cells #[(.slice none 0 0), (.slice none 0 0)] 27 (0, 0))) ∧ Aside0 (w'.heap[gb328]? = some (.cells #[(.slice Ao10 y325.length co10), u329001] 27 (0, 0))) ∧ Aside0 (Below w.heap.size w w'))
  case atStart => exact ⟨(0), (([] : List (S35))), (.slice none 0 0), aX, H', ⟨Nat.le_refl _⟩, ⟨by (with_reducible repeat apply pR); exact Kd.R_mono (Kd.R_far (p := ⟨gb328, 1, none⟩) (Kd.R_far (p := ⟨gb328, 0, none⟩) (Kd.R_types HO327.out BK328.out (by decide)) (fun _ hk => hk.2) (.slice Ao10 y325.length co10)) (fun _ hk => hk.2) (.slice none 0 0)) (fun _ hk => trivial)⟩, ⟨by first | exact Kd.S_nil _ _ _ _ _ | exact Kd.N_nil _ _ _ _ _ | exact Kd.V_nil _ _ _ _ _ | exact Kd.Q_nil _ _ _ _ _ | exact Kd.R_nil _ _ _ _ _⟩, ⟨by (with_reducible repeat refine pB ?_); refine blk_far ?_ NB320_328.out _; (with_reducible repeat refine pB ?_); refine blk_far ?_ NB320_328.out _; (with_reducible repeat refine pB ?_); exact BK320.out⟩, ⟨by (with_reducible repeat refine pB ?_); refine blk_far ?_ NB321_328.out _; (with_reducible repeat refine pB ?_); refine blk_far ?_ NB321_328.out _; (with_reducible repeat refine pB ?_); exact BK321.out⟩, ⟨by (with_reducible repeat refine pB ?_); refine blk_put (cs := #[.slice Ao10 y325.length co10, .slice none 0 0]) ?_ 1 _ rfl; (with_reducible repeat refine pB ?_); refine blk_put (cs := #[.slice none 0 0, .slice none 0 0]) ?_ 0 _ rfl; (with_reducible repeat refine pB ?_); exact BK328.out⟩, ⟨aG⟩⟩
  case round =>
   clear H'
   try clear c1
   try clear c2
   try clear p2
   try clear c5
   try clear c7
   try clear c12
   try clear c13
   try clear hcz14_0
   try clear hcz14_1
   try clear hcz8_0
   try clear hcz8_1
   try clear hfz14_0
   try clear hfz14_1
   try clear hfz8_0
   try clear hfz8_1
   obtain ⟨x4_1, x329001_1, u329001, rfl, HA, HK1, HO_329000, HO_329001, BK320, BK321, BK328, HB⟩ := hrel
   cases gk with
   | zero => exact absurd HA.out (by simp [spec_l4Copy.l0])
   | succ k1 =>
    have H := HA.out
    clear HA
    simp only [spec_l4Copy.l0] at H
    by_cases c15 : x4_1 < (l0_1.length : Int)
    ·rw [if_pos c15] at H
     have c15b0 : decide (x4_1 < (l0_1.length : Int)) = true := decide_eq_true c15
     clear c15
     by_cases c16 : 0 ≤ x4_1
     ·rw [if_pos c16] at H
      have c16b0 : decide (0 ≤ x4_1) = true := decide_eq_true c16
      clear c16
      obtain ⟨y330, hy330⟩ : ∃ y_ : List Int, y_ = (([] : List Int)) := ⟨_, rfl⟩
      first | replace H := bY hy330 H | rw [← hy330] at H
      have Ny330 := aM hy330
      clear hy330
      by_cases c17 : y330.length + ((rd_T35 l0_1 x4_1).f1).length < 17592186044416
      ·rw [if_pos c17] at H
       have LMc17 := aM c17
       clear c17
       obtain ⟨y334, hy334⟩ : ∃ y_ : List Int, y_ = (y330 ++ ((rd_T35 l0_1 x4_1).f1)) := ⟨_, rfl⟩
       first | replace H := bY hy334 H | rw [← hy334] at H
       have Ny334 := aM hy334
       clear hy334
       by_cases c18 : x329001_1.length < 4398046511104
       ·rw [if_pos c18] at H
        have LMc18 := aM c18
        clear c18
        obtain ⟨y337, hy337⟩ : ∃ y_ : List (S35), y_ = (x329001_1 ++ [(⟨(rd_T35 l0_1 x4_1).f0, y334⟩ : S35)]) := ⟨_, rfl⟩
        first | replace H := bY hy337 H | rw [← hy337] at H
        have Ny337 := aM hy337
        clear hy337
        have H' := aM H
        clear H
        have hnb19 := NB320_321.out
        have hnc19 := NB321_320.out
        have hnb20 := NB320_328.out
        have hnc20 := NB328_320.out
        have hcz21_0 : wr.cell? ⟨gb320, 0, none⟩ = some (.slice A0_0 l0_0.length c0_0) := (blk_cell BK320.out 0).trans rfl
        have hcz21_1 : wr.cell? ⟨gb320, 1, none⟩ = some (.slice A0_1 l0_1.length c0_1) := (blk_cell BK320.out 1).trans rfl
        have hfz21_0 := blk_frozen BK320.out 0
        have hfz21_1 := blk_frozen BK320.out 1
        try go_wp2
        replace HO_329000 := aM (Kd.R_drew HO_329000.out)
        replace HO_329001 := aM (Kd.S_drew HO_329001.out)
        replace BK320 := aM (blk_drew BK320.out)
        replace BK321 := aM (blk_drew BK321.out)
        replace BK328 := aM (blk_drew BK328.out)
        replace HB := aM (below_drew1 HB.out)
        have p329 : 0 ≤ (x4_1 : Int) := aD
        have q329 : x4_1 < (l0_1.length : Int) := aD
        obtain ⟨ad329, A329_1, c329_1, e329, hx329_0, hx329_1, hl329_1, hi329_1⟩ := at_T35 HR0_1.out x4_1 p329 q329
        have hw329_1 := hx329_1
        have hw329_0 := hx329_0
        cases e329
        replace hx329_0 := (HB.out.cell (World.block_lt_of_cell? w _ hx329_0)).trans hx329_0
        replace hx329_1 := (HB.out.cell (World.block_lt_of_cell? w _ hx329_1)).trans hx329_1
        have HR329_1 := aM hi329_1
        have HC329_1 := aM hl329_1
        clear hi329_1 hl329_1
        replace p329 := eq_true p329
        replace q329 := eq_true q329
        have p333 : 0 ≤ (x4_1 : Int) := aD
        have q333 : x4_1 < (l0_1.length : Int) := aD
        obtain ⟨ad333, A333_1, c333_1, e333, hx333_0, hx333_1, hl333_1, hi333_1⟩ := at_T35 HR0_1.out x4_1 p333 q333
        have hw333_1 := hx333_1
        have hw333_0 := hx333_0
        obtain rfl : ad329 = ad333 := (by injection e333)
        replace hx333_0 := (HB.out.cell (World.block_lt_of_cell? w _ hx333_0)).trans hx333_0
        replace hx333_1 := (HB.out.cell (World.block_lt_of_cell? w _ hx333_1)).trans hx333_1
        have HR333_1 := aM hi333_1
        have HC333_1 := aM hl333_1
        clear hi333_1 hl333_1
        replace p333 := eq_true p333
        replace q333 := eq_true q333
        have ea_ := Option.some.inj (hx329_1.symm.trans hx333_1)
        injection ea_ with ea_ en_ ec_
        subst ea_
        subst ec_
        clear en_
        refine start_ (n := 21) (S := fun w' => w'.cell? ⟨gb328, 0, none⟩ = some (.slice Ao10 y325.length co10) ∧ w'.cell? ⟨gb328, 1, none⟩ = some (u329001) ∧ w'.cell? ⟨gb320, 0, none⟩ = some (.slice A0_0 l0_0.length c0_0) ∧ w'.cell? ⟨gb320, 1, none⟩ = some (.slice (some ad329) l0_1.length c0_1) ∧ w'.cell? (ad329.add ((x4_1).toNat * 2)) = some (.int .i64 ((rd_T35 l0_1 x4_1).f0)) ∧ w'.cell? ⟨(ad329.add ((x4_1).toNat * 2)).block, (ad329.add ((x4_1).toNat * 2)).off + 1, none⟩ = some (.slice A329_1 ((rd_T35 l0_1 x4_1).f1).length c329_1) ∧ w'.cell? (ad329.add ((x4_1).toNat * 2)) = some (.int .i64 ((rd_T35 l0_1 x4_1).f0)) ∧ w'.cell? ⟨(ad329.add ((x4_1).toNat * 2)).block, (ad329.add ((x4_1).toNat * 2)).off + 1, none⟩ = some (.slice A329_1 ((rd_T35 l0_1 x4_1).f1).length c329_1)) (ds := [20]) #[false, false, false, false, false, false, false, false, false, false, false, false, false, false, false, false, false, false, false, false, false] (by kernel_rfl) rfl rfl ⟨(blk_cell BK328.out 0).trans rfl, (blk_cell BK328.out 1).trans rfl, (blk_cell BK320.out 0).trans rfl, (blk_cell BK320.out 1).trans rfl, (pw_cell_below HB.out hw329_0), (pw_cell_below HB.out hw329_1), (pw_cell_below HB.out hw333_0), (pw_cell_below HB.out hw333_1)⟩ (fun hHeld => ?_); refine with_tabW spec_l4Copy.tab5 spec_l4Copy.bits5 (fun HT_ HW_ => ?_)
        generalize wr.drew = w22 at HO_329000 HO_329001 BK320 BK321 BK328 HB HR329_1 HR333_1 hx329_0 hx329_1 hx333_0 hx333_1 hHeld ⊢
        refine pU 0 17 ?_
        refine pU 2 19 ?_
        refine pU 4 21 ?_
        refine pU 9 26 ?_
        refine pU 11 28 ?_
        refine tU8 1 18 hHeld ?_
        refine tU8 3 20 hHeld ?_
        refine pU 5 22 ?_
        refine pU 6 23 ?_
        refine tU8 7 24 hHeld ?_
        refine tU8 10 27 hHeld ?_
        refine pU 12 29 ?_
        refine pU 13 30 ?_
        refine tU8 14 31 hHeld ?_
        refine oU 8 25 (fun K hK => ?_)
        refine Kd.R_lit_step (Kd.int .i64) _ 3 ?hg (N := 25) ?hd (xs := ([] : List Int)) (inner := []) (ok := fun _ => True) (okp := fun _ => True) ?hr ?hp (fun _ hk => hk) trivial (Below.refl _ _) (Nat.le_refl _) (by simp) ?_; (case hd => rfl); (case hg => rfl); (case hr => first | (go_simp; done) | (go_simp; rfl)); (case hp => exact (Reps.none _ _))
        intro v331 w23 ho24 hb hg_ hnew_
        clear hg_ hnew_
        (first | rw [← Ny330.out] at ho24 | (simp only [Int.reduceToNat] at ho24; rw [← Ny330.out] at ho24))
        have n0_ := aM (Kd.R_below (aR HO_329000) hb)
        have n1_ := aM (Kd.S_elder' (aS HO_329001) (Kd.R_base ho24) hb)
        have n2_ := aM (Kd.R_lower ho24 (below_size aG))
        have n3_ := aM (kB gb320 #[.slice A0_0 l0_0.length c0_0, .slice (some ad329) l0_1.length c0_1] 27 hb)
        have n4_ := aM (kB gb321 #[.slice none 0 0, .slice none 0 0] 27 hb)
        have n5_ := aM (kB gb328 #[.slice Ao10 y325.length co10, u329001] 27 hb)
        have n6_ := aM (below_step aG hb)
        clear HO_329000
        clear HO_329001
        clear BK320
        clear BK321
        clear BK328
        clear HB
        have HO_329000 := n0_
        have HO_329001 := n1_
        have HO332 := n2_
        have BK320 := n3_
        have BK321 := n4_
        have BK328 := n5_
        have HB := n6_
        clear n0_ n1_ n2_ n3_ n4_ n5_ n6_
        clear hb ho24
        refine hK.out _ _ ⟨(blk_cell BK328.out 0).trans rfl, (blk_cell BK328.out 1).trans rfl, (blk_cell BK320.out 0).trans rfl, (blk_cell BK320.out 1).trans rfl, (pw_cell_below HB.out hw329_0), (pw_cell_below HB.out hw329_1), (pw_cell_below HB.out hw333_0), (pw_cell_below HB.out hw333_1)⟩ (fun hHeld => ?_)
        clear hK K
        refine nU 25 ?_
        refine oU 15 32 (fun K hK => ?_)
        refine Kd.R_append_rows_step (Kd.int .i64) (w0 := w) w.heap.size (by rfl) (.tmp 25) (.tmp 31) 32 3 (.int .i64 0) 8 rfl Try.underlying32 info3 rfl (by decide) (by omega) v331 y330 ((rd_T35 l0_1 x4_1).f1) _ _ _ (fun _ => True) (fun _ => False) rfl rfl ?aO ?aR (fun _ _ h => h) (fun _ h => h.elim) ?aF ?aB ?aS ?aL ?_
        (case aR => exact aC)
        (case aB => exact aG)
        (case aF => exact (fun _ _ => trivial))
        (case aO => exact (aR HO332))
        (case aS => exact (below_size aG))
        (case aL => have := LMc17.out; omega)
        intro v335 w25 ho hb hg hat
        rw [← Ny334.out] at ho
        have n0_ := aM (Kd.R_over' (aR HO_329000) (Kd.R_typed (aR HO332)) (by decide) hg)
        have n1_ := aM (Kd.S_after (ok := (fun _ => True)) (aS HO_329001) hg hat)
        have n2_ := aM (blk_grown (g := gb320) (o := .cells #[.slice A0_0 l0_0.length c0_0, .slice (some ad329) l0_1.length c0_1] 27 (0, 0)) aK hg (Kd.R_ne HO332.out BK320.out (by decide)))
        have n3_ := aM (blk_grown (g := gb321) (o := .cells #[.slice none 0 0, .slice none 0 0] 27 (0, 0)) aK hg (Kd.R_ne HO332.out BK321.out (by decide)))
        have n4_ := aM (blk_grown (g := gb328) (o := .cells #[.slice Ao10 y325.length co10, u329001] 27 (0, 0)) aK hg (Kd.R_ne HO332.out BK328.out (by decide)))
        have n5_ := aM (hb)
        have n6_ := aM (ho)
        clear HO_329000
        clear HO_329001
        clear BK320
        clear BK321
        clear BK328
        clear HB
        clear HO332
        have HO_329000 := n0_
        have HO_329001 := n1_
        have BK320 := n2_
        have BK321 := n3_
        have BK328 := n4_
        have HB := n5_
        have HO336 := n6_
        clear n0_ n1_ n2_ n3_ n4_ n5_ n6_
        clear ho hb hg hat
        obtain ⟨Ao26, co26, eo26⟩ := Kd.R_slice HO336.out
        (first | subst eo26 | (injection eo26 with f1_ f2_ f3_; have f4_ := f1_.symm; have f5_ := f3_.symm; clear f1_ f2_ f3_; subst f4_; subst f5_))
        refine hK.out _ _ ⟨(blk_cell BK328.out 0).trans rfl, (blk_cell BK328.out 1).trans rfl, (blk_cell BK320.out 0).trans rfl, (blk_cell BK320.out 1).trans rfl, (pw_cell_below HB.out hw329_0), (pw_cell_below HB.out hw329_1), (pw_cell_below HB.out hw333_0), (pw_cell_below HB.out hw333_1)⟩ (fun hHeld => ?_)
        clear hK K
        refine nU 32 ?_
        refine pU 16 33 ?_
        refine oU 17 34 (fun K hK => ?_)
        refine value_ (w1 := ?_) (v := ?_) (by rfl) rfl ?_ ?_
        rotate_left 2
        ·go_simp
         constructor
         ·rfl
         ·rfl
        refine hK.out _ _ ⟨(blk_cell (blk_alloc BK328.out _) 0).trans rfl, (blk_cell (blk_alloc BK328.out _) 1).trans rfl, (blk_cell (blk_alloc BK320.out _) 0).trans rfl, (blk_cell (blk_alloc BK320.out _) 1).trans rfl, (World.cell?_alloc_lt _ _ _ (World.block_lt_of_cell? _ _ ((pw_cell_below HB.out hw329_0)))).trans ((pw_cell_below HB.out hw329_0)), (World.cell?_alloc_lt _ _ _ (World.block_lt_of_cell? _ _ ((pw_cell_below HB.out hw329_1)))).trans ((pw_cell_below HB.out hw329_1)), (World.cell?_alloc_lt _ _ _ (World.block_lt_of_cell? _ _ ((pw_cell_below HB.out hw333_0)))).trans ((pw_cell_below HB.out hw333_0)), (World.cell?_alloc_lt _ _ _ (World.block_lt_of_cell? _ _ ((pw_cell_below HB.out hw333_1)))).trans ((pw_cell_below HB.out hw333_1))⟩ (fun hHeld => ?_)
        clear hK K
        refine nU 34 ?_
        refine oU 18 35 (fun K hK => ?_)
        refine Kd.S_append_step k35 (w0 := w) w.heap.size (by rfl) (.tmp 18) (.tmp 34) 25 35 (.agg #[(.int .i64 0), (.slice none 0 0)]) 32 rfl Try.underlying25 info35 rfl (by decide) (by omega) u329001 x329001_1 (⟨(rd_T35 l0_1 x4_1).f0, y334⟩ : S35) [.int .i64 ((rd_T35 l0_1 x4_1).f0), .slice Ao26 y334.length co26] (fun _ => True) (fun k_ => some k_ = (.slice Ao26 y334.length co26 : Value).ownBlock) rfl rfl ?aP (fun k_ hk_ => ((Kd.R_mono (ok' := fun k_ => ((fun _ => True)) k_ ∧ some k_ ≠ (u329001 : Value).ownBlock) (Kd.R_apart' (HO336.out) (Kd.S_typed HO_329001.out) (by decide)) (fun k_ hk => ⟨trivial, hk.2⟩))).1 k_ hk_.symm) ?aF ?aO ?aB ?aS ?aL ?_
        (case aP => exact k35_mkM _ _ _ (⟨(rd_T35 l0_1 x4_1).f0, y334⟩ : S35) (Kd.R_mono (Kd.R_tight rfl (Kd.R_mono (ok' := fun k_ => ((fun _ => True)) k_ ∧ some k_ ≠ (u329001 : Value).ownBlock) (Kd.R_apart' (HO336.out) (Kd.S_typed HO_329001.out) (by decide)) (fun k_ hk => ⟨trivial, hk.2⟩))) (fun _ h_ => h_)))
        (case aB => exact aG)
        (case aF => exact (fun _ _ => trivial))
        (case aO => exact (by (with_reducible repeat apply pS); exact Kd.S_mono HO_329001.out (fun k_ hk => ⟨trivial, fun e_ => hk.2 e_⟩)))
        (case aS => exact (below_size aG))
        (case aL => have := LMc18.out; omega)
        intro v338 w27 ho hb hg hat
        rw [← Ny337.out] at ho
        have n0_ := aM (Kd.R_over' (aR HO_329000) (Kd.S_typed (aS HO_329001)) (by decide) hg)
        have n1_ := aM (blk_grown (g := gb320) (o := .cells #[.slice A0_0 l0_0.length c0_0, .slice (some ad329) l0_1.length c0_1] 27 (0, 0)) aK hg (Kd.S_ne HO_329001.out BK320.out (by decide)))
        have n2_ := aM (blk_grown (g := gb321) (o := .cells #[.slice none 0 0, .slice none 0 0] 27 (0, 0)) aK hg (Kd.S_ne HO_329001.out BK321.out (by decide)))
        have n3_ := aM (blk_grown (g := gb328) (o := .cells #[.slice Ao10 y325.length co10, u329001] 27 (0, 0)) aK hg (Kd.S_ne HO_329001.out BK328.out (by decide)))
        have n4_ := aM (hb)
        have n5_ := aM (ho)
        clear HO_329000
        clear BK320
        clear BK321
        clear BK328
        clear HB
        clear HO_329001
        clear HO336
        have HO_329000 := n0_
        have BK320 := n1_
        have BK321 := n2_
        have BK328 := n3_
        have HB := n4_
        have HO339 := n5_
        clear n0_ n1_ n2_ n3_ n4_ n5_
        clear ho hb hg hat
        obtain ⟨Ao28, co28, eo28⟩ := Kd.S_slice HO339.out
        (first | subst eo28 | (injection eo28 with f1_ f2_ f3_; have f4_ := f1_.symm; have f5_ := f3_.symm; clear f1_ f2_ f3_; subst f4_; subst f5_))
        refine hK.out _ _ ⟨(blk_cell BK328.out 0).trans rfl, (blk_cell BK328.out 1).trans rfl, (blk_cell BK320.out 0).trans rfl, (blk_cell BK320.out 1).trans rfl, (pw_cell_below HB.out hw329_0), (pw_cell_below HB.out hw329_1), (pw_cell_below HB.out hw333_0), (pw_cell_below HB.out hw333_1)⟩ (fun hHeld => ?_)
        clear hK K
        refine nU 35 ?_
        refine pU 19 36 ?_
        refine last_ (i := 20) (N := none) #[true, true, true, true, true, true, true, true, true, true, true, true, true, true, true, true, true, true, true, true, true] rfl rfl (one_of HT_.out (by kernel_rfl)) (by decide) (fun K hK => ?_)
        have hs29 : w27.cell? ⟨gb328, 1, none⟩ = some (u329001) := (blk_cell BK328.out 1).trans rfl
        have hfs29 := blk_frozen BK328.out 1
        have hns29_0 := NB320_328.out
        have hns29_1 := NB321_328.out
        have hms29_0 := NB328_320.out
        have hms29_1 := NB328_321.out
        refine skip_ (w1 := ?_) (by rfl) rfl ?_ ?_
        rotate_left
        ·go_simp
         rfl
        refine hK.out _ _ ?_
        clear hK K
        refine done_ (done_of HT_.out (by kernel_rfl)) ?_
        try go_wp2
        go_roundg k1
        case measure => have := HK1.out; omega
        case rel => exact ⟨(wrap64 (x4_1 + 1)), (y337), (.slice Ao28 y337.length co28), aX, H', ⟨by have := HK1.out; omega⟩, ⟨by (with_reducible repeat apply pR); exact Kd.R_mono (Kd.R_far (p := ⟨gb328, 1, none⟩) (Kd.R_types HO_329000.out BK328.out (by decide)) (fun _ hk => hk.2) (.slice Ao28 y337.length co28)) (fun _ hk => trivial)⟩, ⟨by (with_reducible repeat apply pS); exact Kd.S_mono (Kd.S_far (p := ⟨gb328, 1, none⟩) (Kd.S_types HO339.out BK328.out (by decide)) (fun _ hk => hk.2) (.slice Ao28 y337.length co28)) (fun _ hk => trivial)⟩, ⟨by (with_reducible repeat refine pB ?_); refine blk_far ?_ NB320_328.out _; (with_reducible repeat refine pB ?_); exact BK320.out⟩, ⟨by (with_reducible repeat refine pB ?_); refine blk_far ?_ NB321_328.out _; (with_reducible repeat refine pB ?_); exact BK321.out⟩, ⟨by (with_reducible repeat refine pB ?_); refine blk_put (cs := #[.slice Ao10 y325.length co10, u329001]) ?_ 1 _ rfl; (with_reducible repeat refine pB ?_); exact BK328.out⟩, ⟨aG⟩⟩
       ·rw [if_neg c18] at H
        exact absurd H (by simp)
      ·rw [if_neg c17] at H
       exact absurd H (by simp)
     ·rw [if_neg c16] at H
      exact absurd H (by simp)
    ·rw [if_neg c15] at H
     have c15b0 : decide (x4_1 < (l0_1.length : Int)) = false := decide_eq_false c15
     clear c15
     simp only [Option.some.injEq, Prod.mk.injEq] at H
     obtain ⟨rfl, rfl⟩ := H
     have hnb30 := NB320_321.out
     have hnc30 := NB321_320.out
     have hnb31 := NB320_328.out
     have hnc31 := NB328_320.out
     have hcz32_0 : wr.cell? ⟨gb320, 0, none⟩ = some (.slice A0_0 l0_0.length c0_0) := (blk_cell BK320.out 0).trans rfl
     have hcz32_1 : wr.cell? ⟨gb320, 1, none⟩ = some (.slice A0_1 l0_1.length c0_1) := (blk_cell BK320.out 1).trans rfl
     have hfz32_0 := blk_frozen BK320.out 0
     have hfz32_1 := blk_frozen BK320.out 1
     have hnb33 := NB328_321.out
     have hnc33 := NB321_328.out
     have hcz34_0 : wr.cell? ⟨gb328, 0, none⟩ = some (.slice Ao10 y325.length co10) := (blk_cell BK328.out 0).trans rfl
     have hcz34_1 : wr.cell? ⟨gb328, 1, none⟩ = some (u329001) := (blk_cell BK328.out 1).trans rfl
     have hfz34_0 := blk_frozen BK328.out 0
     have hfz34_1 := blk_frozen BK328.out 1
     have hcz35_0 : wr.cell? ⟨gb321, 0, none⟩ = some (.slice none 0 0) := (blk_cell BK321.out 0).trans rfl
     have hcz35_1 : wr.cell? ⟨gb321, 1, none⟩ = some (.slice none 0 0) := (blk_cell BK321.out 1).trans rfl
     have hfz35_0 := blk_frozen BK321.out 0
     have hfz35_1 := blk_frozen BK321.out 1
     obtain ⟨Ao36, co36, eo36⟩ := Kd.S_slice HO_329001.out
     subst eo36
     go_wp2
     refine bodyPost_ret (results_cell_row rfl _ _ gb321 27 #[.slice Ao10 y325.length co10, .slice Ao36 x329001_1.length co36] (0, 0) _ rfl (by (with_reducible repeat refine pB ?_); refine blk_put (cs := #[.slice Ao10 y325.length co10, .slice none 0 0]) ?_ 1 _ rfl; (with_reducible repeat refine pB ?_); refine blk_put (cs := #[.slice none 0 0, .slice none 0 0]) ?_ 0 _ rfl; (with_reducible repeat refine pB ?_); exact BK321.out) Try.underlying27 rfl (by kernel_rfl)) rfl ?_
     exact ⟨_, _, aE, by (with_reducible repeat apply pR); exact Kd.R_mono (Kd.R_far (p := ⟨gb321, 1, none⟩) (Kd.R_far (p := ⟨gb321, 0, none⟩) (Kd.R_types HO_329000.out BK321.out (by decide)) (fun _ hk => hk.2) (.slice Ao10 y325.length co10)) (fun _ hk => hk.2) (.slice Ao36 x329001_1.length co36)) (fun _ hk => trivial), by (with_reducible repeat apply pS); exact Kd.S_mono (Kd.S_far (p := ⟨gb321, 1, none⟩) (Kd.S_far (p := ⟨gb321, 0, none⟩) (Kd.S_types HO_329001.out BK321.out (by decide)) (fun _ hk => hk.2) (.slice Ao10 y325.length co10)) (fun _ hk => hk.2) (.slice Ao36 x329001_1.length co36)) (fun _ hk => trivial), aG⟩
 ·rw [if_neg c2] at H
  exact absurd H (by simp)

/-! ### spec_FactIndex: function 60 -/
def spec_FactIndex.l0 : Nat → Int → List (S70) → List (S35) → Int → List Int → Option (Int)
 | 0, _, _, _, _, _ => none
 | k + 1, x5, x341000, x341001, x342000, x342001 => if x5 < (x341001.length : Int) then (if 0 ≤ x5 then ((spec_CompareFacts.f k ((rd_T35 x341001 x5).f0) ((rd_T35 x341001 x5).f1) x342000 x342001).bind fun t343 => (if t343 = 0 then (some x5) else (spec_FactIndex.l0 k (wrap64 (x5 + 1)) x341000 x341001 x342000 x342001))) else (none)) else (some (-1))
def spec_FactIndex.f (k : Nat) (l0_0 : List (S70)) (l0_1 : List (S35)) (a1_0 : Int) (l1_1 : List Int) : Option (Int) := spec_FactIndex.l0 k 0 l0_0 l0_1 a1_0 l1_1
set_option maxHeartbeats 8000000 in
set_option maxRecDepth 100000 in
theorem spec_FactIndex.calls (k : Nat) (A0_0 : Option Addr) (c0_0 : Nat) (l0_0 : List (S70)) (A0_1 : Option Addr) (c0_1 : Nat) (l0_1 : List (S35)) (a1_0 : Int) (A1_1 : Option Addr) (c1_1 : Nat) (l1_1 : List Int) (r : Int) (w : World) (hr0_0 : Kd.C k70 w A0_0 l0_0.length l0_0) (hc0_0 : l0_0.length ≤ c0_0) (hr0_1 : Kd.C k35 w A0_1 l0_1.length l0_1) (hc0_1 : l0_1.length ≤ c0_1) (hr1_1 : Kd.C (Kd.int .i64) w A1_1 l1_1.length l1_1) (hc1_1 : l1_1.length ≤ c1_1) (h : spec_FactIndex.f k l0_0 l0_1 a1_0 l1_1 = some r) :
  Calls Try.prog 60 #[.agg #[.slice A0_0 l0_0.length c0_0, .slice A0_1 l0_1.length c0_1], .agg #[.int .i64 a1_0, .slice A1_1 l1_1.length c1_1]] w fun e w' => e = .returned (.int .i64 r) ∧ Below w.heap.size w w' := by
 have hu27 := Try.underlying27
 have hu35 := Try.underlying35
 obtain ⟨W, hW⟩ : ∃ W, (w.alloc (.cells #[.slice A0_0 l0_0.length c0_0, .slice A0_1 l0_1.length c0_1] 27)).alloc (.cells #[.int .i64 a1_0, .slice A1_1 l1_1.length c1_1] 35) = W := ⟨_, rfl⟩
 have q0 := qa (w := W) (p := ⟨w.heap.size, 0, none⟩) (v := .slice A0_0 l0_0.length c0_0) (by subst hW; go_simp)
 have q1 := qa (w := W) (p := ⟨w.heap.size, 1, none⟩) (v := .slice A0_1 l0_1.length c0_1) (by subst hW; go_simp)
 have q2 := qa (w := W) (p := ⟨w.heap.size + 1, 0, none⟩) (v := .int .i64 a1_0) (by subst hW; go_simp)
 have q3 := qa (w := W) (p := ⟨w.heap.size + 1, 1, none⟩) (v := .slice A1_1 l1_1.length c1_1) (by subst hW; go_simp)
 have HB : Below w.heap.size w W := by subst hW; exact zB
 have HW := Below.refl W.heap.size W
 have hb := aM HB
 have rg_ := @bcl w
 have rd_ := @bdr w
 have rG_ := @bcl W
 have rD_ := @bdr W
 unfold spec_FactIndex.f at h
 ·go_enter Try.func60, Try.ntmps60
  go_wp2
  (repeat ((refine nw (w0 := w) zB ?_; intro W1 HB hb hd; have HW : Below W.heap.size W W1 := zB; (first | (refine Txt.rg (id := 4) [0, 1, 2, 3, 4, 5, 6, 7] (by kernel_rfl) (by kernel_rfl) ?_; simp only [List.map_cons, List.map_nil, List.getD_cons_zero, List.getD_cons_succ])); (repeat (first | (refine Txt.off rfl ?_; simp only [Act.put, List.setIfInBounds_toArray, List.set_cons_zero, List.set_cons_succ]) | (refine Txt.take rfl rfl ?_; intro K hK; go_big_quiet_op; go_big_quiet_on) | (refine Txt.call rfl rfl Try.func46 (by kernel_rfl) rfl (spec_CompareFacts.calls ?_ _ _ _ _ _ _ _ _ ?_ _ ?_ ?_ ?_ ?_ ?h) rfl ?_; (case h => exact zA); (iterate 4 (first | exact zC | exact zA)); rintro e w1 ⟨rfl, hb⟩; replace hb := aM hb; have HW : Below W.heap.size W w1 := zB; have HB : Below w.heap.size w w1 := zB; refine ⟨_, rfl, zS, ?_⟩; simp only [Act.put, List.setIfInBounds_toArray, List.set_cons_zero, List.set_cons_succ]))); refine Txt.nil ?_); (try go_wp2)))
  go_loopg [5] k (fun kq v5 w' => ∃ (x5_0 : Int), v5 = .int .i64 x5_0 ∧ spec_FactIndex.l0 kq x5_0 l0_0 l0_1 a1_0 l1_1 = some r ∧ Below W.heap.size W w')
  case atStart => exact ⟨_, zR, zA, zB⟩
  case round =>
   clear h
   obtain ⟨x5_0, rfl, h, hb⟩ := hrel
   replace hb := aM hb
   have HW : Below W.heap.size W wr := zB
   have HB : Below w.heap.size w wr := zB
   rcases gk with _ | kk0
   exact absurd h (by simp [spec_FactIndex.l0])
   simp only [spec_FactIndex.l0] at h
   replace h := il h; rcases h with ⟨c1, c1a, h⟩ | ⟨c1, c1a, h⟩
   replace h := ie h; rcases h with ⟨c2, c2a, h⟩ | ⟨c2, c2a, h⟩
   replace h := bs h; obtain ⟨t343, B3, h⟩ := h
   replace h := iq h; rcases h with ⟨c4, ⟨c4a, c4b⟩, h⟩ | ⟨c4, ⟨c4a, c4b⟩, h⟩
   obtain rfl := si h
   obtain ⟨ad342, A342_1, c342_1, e342, hx342_0, hx342_1, hl342_1, hi342_1⟩ := at_T35 hr0_1 (x5_0 : Int) aD aD
   have p342 := eq_true (aD : 0 ≤ (x5_0 : Int))
   have q342 := eq_true (aD : x5_0 < (l0_1.length : Int))
   cases e342
   replace hx342_0 := qa hx342_0
   replace hx342_1 := qa hx342_1
   rotate_left
   obtain ⟨kf, hkf⟩ : ∃ kf, kf = kk0 := ⟨_, rfl⟩; rw [← hkf] at h
   obtain ⟨ad342, A342_1, c342_1, e342, hx342_0, hx342_1, hl342_1, hi342_1⟩ := at_T35 hr0_1 (x5_0 : Int) aD aD
   have p342 := eq_true (aD : 0 ≤ (x5_0 : Int))
   have q342 := eq_true (aD : x5_0 < (l0_1.length : Int))
   cases e342
   replace hx342_0 := qa hx342_0
   replace hx342_1 := qa hx342_1
   rotate_left
   exact absurd h (by simp)
   obtain rfl := si h
   rotate_left
   all_goals (go_wp2; (repeat ((refine nw (w0 := w) zB ?_; intro W1 HB hb hd; have HW : Below W.heap.size W W1 := zB; (first | (refine Txt.rg (id := 4) [0, 1, 2, 3, 4, 5, 6, 7] (by kernel_rfl) (by kernel_rfl) ?_; simp only [List.map_cons, List.map_nil, List.getD_cons_zero, List.getD_cons_succ])); (repeat (first | (refine Txt.off rfl ?_; simp only [Act.put, List.setIfInBounds_toArray, List.set_cons_zero, List.set_cons_succ]) | (refine Txt.take rfl rfl ?_; intro K hK; go_big_quiet_op; go_big_quiet_on) | (refine Txt.call rfl rfl Try.func46 (by kernel_rfl) rfl (spec_CompareFacts.calls ?_ _ _ _ _ _ _ _ _ ?_ _ ?_ ?_ ?_ ?_ ?h) rfl ?_; (case h => exact zA); (iterate 4 (first | exact zC | exact zA)); rintro e w1 ⟨rfl, hb⟩; replace hb := aM hb; have HW : Below W.heap.size W w1 := zB; have HB : Below w.heap.size w w1 := zB; refine ⟨_, rfl, zS, ?_⟩; simp only [Act.put, List.setIfInBounds_toArray, List.set_cons_zero, List.set_cons_succ]))); refine Txt.nil ?_); (try go_wp2))); first | (go_ret; exact zE zB) | (go_roundg kf; (case measure => omega); (case rel => exact ⟨_, zR, zA, zB⟩)))

/-! ### spec_ContainsFact: function 57 -/
def spec_ContainsFact.f (k : Nat) (l0_0 : List (S70)) (l0_1 : List (S35)) (a1_0 : Int) (l1_1 : List Int) : Option (Bool) := (spec_IsValidDatabase.f k l0_0 l0_1).bind fun t346 => (if t346 = true then ((spec_FactIndex.f k l0_0 l0_1 a1_0 l1_1).bind fun t347 => (some (decide (t347 ≥ 0)))) else (some false))
set_option maxHeartbeats 8000000 in
set_option maxRecDepth 100000 in
theorem spec_ContainsFact.calls (k : Nat) (A0_0 : Option Addr) (c0_0 : Nat) (l0_0 : List (S70)) (A0_1 : Option Addr) (c0_1 : Nat) (l0_1 : List (S35)) (a1_0 : Int) (A1_1 : Option Addr) (c1_1 : Nat) (l1_1 : List Int) (r : Bool) (w : World) (hr0_0 : Kd.C k70 w A0_0 l0_0.length l0_0) (hc0_0 : l0_0.length ≤ c0_0) (hr0_1 : Kd.C k35 w A0_1 l0_1.length l0_1) (hc0_1 : l0_1.length ≤ c0_1) (hr1_1 : Kd.C (Kd.int .i64) w A1_1 l1_1.length l1_1) (hc1_1 : l1_1.length ≤ c1_1) (h : spec_ContainsFact.f k l0_0 l0_1 a1_0 l1_1 = some r) :
  Calls Try.prog 57 #[.agg #[.slice A0_0 l0_0.length c0_0, .slice A0_1 l0_1.length c0_1], .agg #[.int .i64 a1_0, .slice A1_1 l1_1.length c1_1]] w fun e w' => e = .returned (.bool r) ∧ Below w.heap.size w w' := by
 have hu27 := Try.underlying27
 have hu35 := Try.underlying35
 obtain ⟨W, hW⟩ : ∃ W, (w.alloc (.cells #[.slice A0_0 l0_0.length c0_0, .slice A0_1 l0_1.length c0_1] 27)).alloc (.cells #[.int .i64 a1_0, .slice A1_1 l1_1.length c1_1] 35) = W := ⟨_, rfl⟩
 have q0 := qa (w := W) (p := ⟨w.heap.size, 0, none⟩) (v := .slice A0_0 l0_0.length c0_0) (by subst hW; go_simp)
 have q1 := qa (w := W) (p := ⟨w.heap.size, 1, none⟩) (v := .slice A0_1 l0_1.length c0_1) (by subst hW; go_simp)
 have q2 := qa (w := W) (p := ⟨w.heap.size + 1, 0, none⟩) (v := .int .i64 a1_0) (by subst hW; go_simp)
 have q3 := qa (w := W) (p := ⟨w.heap.size + 1, 1, none⟩) (v := .slice A1_1 l1_1.length c1_1) (by subst hW; go_simp)
 have HB : Below w.heap.size w W := by subst hW; exact zB
 have HW := Below.refl W.heap.size W
 have hb := aM HB
 unfold spec_ContainsFact.f at h
 replace h := bs h; obtain ⟨t346, B0, h⟩ := h
 replace h := ib h; rcases h with ⟨rfl, h⟩ | ⟨rfl, h⟩
 replace h := bs h; obtain ⟨t347, B2, h⟩ := h
 obtain rfl := si h
 rotate_left
 obtain rfl := si h
 rotate_left
 all_goals (go_enter Try.func57, Try.ntmps57; go_wp2_with (first | (go_at_call 10; refine (spec_IsValidDatabase.calls ?_ _ _ _ _ _ _ ?_ _ ?_ ?_ ?_ ?_ ?h).mono ?_; (case h => exact zA); (iterate 4 (first | exact zC | exact zA)); rintro e w1 ⟨rfl, hb⟩; replace hb := aM hb; have HW : Below W.heap.size W w1 := zB; have HB : Below w.heap.size w w1 := zB) | (go_at_call 60; refine (spec_FactIndex.calls ?_ _ _ _ _ _ _ _ _ _ _ ?_ _ ?_ ?_ ?_ ?_ ?_ ?_ ?h).mono ?_; (case h => exact zA); (iterate 6 (first | exact zC | exact zA)); rintro e w1 ⟨rfl, hb⟩; replace hb := aM hb; have HW : Below W.heap.size W w1 := zB; have HB : Below w.heap.size w w1 := zB)); go_ret; exact zE zB)

end Go.Proofs.Ytbdeimhlohhhiaa.PFnRepairEnumeration
