import Derived.Test.YteddnlklfjpgoaaPFnInsertDeletex0
import Derived.Test.YteddnlklfjpgoaaPFnInsertDeletex3
namespace Go.Proofs.Yteddnlklfjpgoaa.PFnInsertDelete
open Go.RowKit Go.Proofs.YteddnlklfjpgoaaW.PrintWords Go.Proofs.YteddnlklfjpgoaaW.PrintLast Go.Proofs.YteddnlklfjpgoaaW.PrintMore
attribute [local go_sem] max2_int min2_int max_two min_two max_three min_three max_four min_four
set_option linter.unusedVariables false
set_option linter.unusedSimpArgs false

/-! ### spec_l4Copy: function 46 -/
def spec_l4Copy.l0 : Nat → Int → List (S74) → List (S45) → List (S74) → List (S45) → Option ((List (S74)) × (List (S45)))
 | 0, _, _, _, _, _ => none
 | k + 1, x4, x128000, x128001, x136000, x136001 => if x4 < (x128001.length : Int) then (if 0 ≤ x4 then ((some (([] : List Int) : List Int)).bind fun y137 => (if y137.length + ((rd_T45 x128001 x4).f1).length < 17592186044416 then (if x136001.length < 4398046511104 then (spec_l4Copy.l0 k (wrap64 (x4 + 1)) x128000 x128001 x136000 (x136001 ++ [(⟨(rd_T45 x128001 x4).f0, (y137 ++ ((rd_T45 x128001 x4).f1))⟩ : S45)])) else (none)) else (none))) else (none)) else (some (x136000, x136001))
def spec_l4Copy.f (k : Nat) (l0_0 : List (S74)) (l0_1 : List (S45)) : Option ((List (S74)) × (List (S45))) := (some (([] : List (S74)) : List (S74))).bind fun y129 => (if y129.length + l0_0.length < 4398046511104 then (spec_l4Copy.l0 k 0 l0_0 l0_1 (y129 ++ l0_0) ([] : List (S45))) else (none))
def spec_l4Copy.T5 : Bool × List (List Nat × List Nat) := (true, [([], []), ([0], [0]), ([], []), ([2], [2]), ([], []), ([3, 4], [3, 4]), ([5], [5]), ([6], [6]), ([], []), ([], []), ([9], [9]), ([], []), ([10, 11], [10, 11]), ([12], [12]), ([13], [13]), ([8, 14], [8, 14]), ([7, 15], [7, 15]), ([16], [16]), ([1, 17, 15], [1, 17]), ([0, 1, 2, 3, 4, 5, 6, 7, 8, 9, 10, 11, 12, 13, 14, 15, 16, 17, 18], []), ([19, 18, 18, 0, 1, 2, 3, 4, 5, 6, 7, 8, 9, 10, 11, 12, 13, 14, 15, 16, 17, 18], [18, 19])])
def spec_l4Copy.B5 : List Nat := [0, 1, 0, 4, 0, 28, 60, 124, 0, 0, 512, 0, 3584, 7680, 15872, 32512, 65532, 131068, 262143, 524287, 1048575]
theorem spec_l4Copy.tab5 : rtab .any (opsOf Try.f46 5) = spec_l4Copy.T5 := by kernel_rfl
theorem spec_l4Copy.bits5 : waitsOk spec_l4Copy.T5.2 spec_l4Copy.B5 = true := by kernel_rfl
set_option maxHeartbeats 8000000 in
set_option maxRecDepth 100000 in
theorem spec_l4Copy.calls (k : Nat) (A0_0 : Option Addr) (c0_0 : Nat) (l0_0 : List (S74)) (A0_1 : Option Addr) (c0_1 : Nat) (l0_1 : List (S45)) (r1 : List (S74)) (r2 : List (S45)) (w : World) (hr0_0 : Kd.C k74 w A0_0 l0_0.length l0_0) (hc0_0 : l0_0.length ≤ c0_0) (hr0_1 : Kd.C k45 w A0_1 l0_1.length l0_1) (hc0_1 : l0_1.length ≤ c0_1) (h : spec_l4Copy.f k l0_0 l0_1 = some (r1, r2)) :
  Calls Try.prog 46 #[.agg #[.slice A0_0 l0_0.length c0_0, .slice A0_1 l0_1.length c0_1]] w fun e w' => ∃ v0_ v1_ : Value, e = .returned (.agg #[v0_, v1_]) ∧ Kd.R k74 74 w' w.heap.size (fun _ => True) v0_ r1 ∧ Kd.S k45 45 w' w.heap.size (fun _ => True) v1_ r2 ∧ Below w.heap.size w w' := by
 have hu31 := Try.underlying31
 have hu45 := Try.underlying45
 have HR0_0 := aM hr0_0
 have HC0_0 := aM hc0_0
 clear hr0_0 hc0_0
 have HR0_1 := aM hr0_1
 have HC0_1 := aM hc0_1
 clear hr0_1 hc0_1
 have HB := aM (Below.refl w.heap.size w)
 have H : ((some (([] : List (S74)) : List (S74))).bind fun y129 => (if y129.length + l0_0.length < 4398046511104 then (spec_l4Copy.l0 k 0 l0_0 l0_1 (y129 ++ l0_0) ([] : List (S45))) else (none))) = some (r1, r2) := h
 clear h
 obtain ⟨y129, hy129⟩ : ∃ y_ : List (S74), y_ = (([] : List (S74))) := ⟨_, rfl⟩
 first | replace H := bY hy129 H | rw [← hy129] at H
 have Ny129 := aM hy129
 clear hy129
 by_cases c2 : y129.length + l0_0.length < 4398046511104
 ·rw [if_pos c2] at H
  have LMc2 := aM c2
  clear c2
  obtain ⟨y132, hy132⟩ : ∃ y_ : List (S74), y_ = (y129 ++ l0_0) := ⟨_, rfl⟩
  first | replace H := bY hy132 H | rw [← hy132] at H
  have Ny132 := aM hy132
  clear hy132
  have H' := aM H
  clear H
  go_enter Try.func46, Try.ntmps46
  go_wp2_with (first | ((with_reducible refine gate_dst (N := 1) rfl ?_); refine bE 1 (cs := #[.slice A0_0 l0_0.length c0_0, .slice A0_1 l0_1.length c0_1]) (t := 31) ?_; intro gb127 hg w3 hbox hb; have BK127 := aM (hbox); have GW127 := aM ((by rw [hg]; exact (below_size aB) : w.heap.size ≤ gb127)); have GE127 := aM ((by rw [hg]; exact (below_size aB) : w.heap.size ≤ gb127)); replace HB := aM (below_step aB hb); clear hb hbox hg) | ((with_reducible refine gate_dst (N := 2) rfl ?_); refine bE 2 (cs := #[.slice none 0 0, .slice none 0 0]) (t := 31) ?_; intro gb128 hg w4 hbox hb; have BK128 := aM (hbox); have GW128 := aM ((by rw [hg]; exact (below_size aG) : w.heap.size ≤ gb128)); have GE128 := aM ((by rw [hg]; exact (below_size aG) : w.heap.size ≤ gb128)); have NB127_128 := aM ((by rw [hg]; exact Nat.ne_of_lt (blk_lt (g := gb127) aK) : gb127 ≠ gb128)); have NB128_127 := aM ((by rw [hg]; exact Nat.ne_of_gt (blk_lt (g := gb127) aK) : gb128 ≠ gb127)); replace BK127 := aM (kB gb127 #[.slice A0_0 l0_0.length c0_0, .slice A0_1 l0_1.length c0_1] 31 hb); replace HB := aM (below_step aG hb); clear hb hbox hg) | ((with_reducible refine gate_dst (N := 5) rfl ?_); refine Kd.R_lit k74 _ 74 ?hg (N := 5) ?hd (xs := ([] : List (S74))) (inner := []) (ok := fun _ => True) (okp := fun _ => True) ?hr ?hp (fun _ hk => hk) trivial (Below.refl _ _) (Nat.le_refl _) (by simp) ?_; (case hd => rfl); (case hg => rfl); (case hr => first | (go_simp; done) | (go_simp; rfl)); (case hp => exact (Reps.none _ _)); intro v130 w5 ho6 hb hg_ hnew_; clear hg_ hnew_; (first | rw [← Ny129.out] at ho6 | (simp only [Int.reduceToNat] at ho6; rw [← Ny129.out] at ho6)); have n0_ := aM (Kd.R_lower ho6 (below_size aG)); have n1_ := aM (kB gb127 #[.slice A0_0 l0_0.length c0_0, .slice A0_1 l0_1.length c0_1] 31 hb); have n2_ := aM (kB gb128 #[.slice none 0 0, .slice none 0 0] 31 hb); have n3_ := aM (below_step aG hb); clear BK127; clear BK128; clear HB; have HO131 := n0_; have BK127 := n1_; have BK128 := n2_; have HB := n3_; clear n0_ n1_ n2_ n3_; clear hb ho6; have hnb7 := NB127_128.out; have hnc7 := NB128_127.out; have hcz8_0 : w5.cell? ⟨gb127, 0, none⟩ = some (.slice A0_0 l0_0.length c0_0) := (blk_cell BK127.out 0).trans rfl; have hcz8_1 : w5.cell? ⟨gb127, 1, none⟩ = some (.slice A0_1 l0_1.length c0_1) := (blk_cell BK127.out 1).trans rfl; have hfz8_0 := blk_frozen BK127.out 0; have hfz8_1 := blk_frozen BK127.out 1) | ((with_reducible refine gate_builtin (b := .append) (xs := #[.tmp 5, .tmp 7]) rfl ?_); at_builtin; refine Kd.R_append_rows k74 (w0 := w) w.heap.size rfl (.tmp 5) (.tmp 7) 28 74 (.agg #[(.string ⟨#[]⟩), (.int .i64 0), (.int .i64 0)]) 32 rfl Try.underlying28 info74 rfl (by decide) (by omega) v130 y129 l0_0 _ _ _ (fun _ => True) (fun _ => False) rfl rfl ?aO ?aR (fun _ _ h => h) (fun _ h => h.elim) ?aF ?aB ?aS ?aL ?_; (case aR => exact aC); (case aB => exact aG); (case aF => exact (fun _ _ => trivial)); (case aO => exact (aR HO131)); (case aS => exact (below_size aG)); (case aL => have := LMc2.out; omega); intro v133 w9 ho hb hg hat; rw [← Ny132.out] at ho; have n0_ := aM (blk_grown (g := gb127) aK hg (Kd.R_ne HO131.out BK127.out (by decide))); have n1_ := aM (blk_grown (g := gb128) aK hg (Kd.R_ne HO131.out BK128.out (by decide))); have n2_ := aM (hb); have n3_ := aM (ho); clear BK127; clear BK128; clear HB; clear HO131; have BK127 := n0_; have BK128 := n1_; have HB := n2_; have HO134 := n3_; clear n0_ n1_ n2_ n3_; clear ho hb hg hat; obtain ⟨Ao10, co10, eo10⟩ := Kd.R_slice HO134.out; subst eo10) | ((with_reducible refine gate_dst (N := 3) rfl ?_); refine bE 3 (cs := #[.slice none 0 0, .slice none 0 0]) (t := 31) ?_; intro gb135 hg w11 hbox hb; have n0_ := aM (Kd.R_below (aR HO134) hb); have n1_ := aM (kB gb127 #[.slice A0_0 l0_0.length c0_0, .slice A0_1 l0_1.length c0_1] 31 hb); have n2_ := aM (kB gb128 #[.slice none 0 0, .slice none 0 0] 31 hb); have n3_ := aM (below_step aG hb); have n4_ := aM (hbox); have n5_ := aM ((by rw [hg]; exact (below_size aG) : w.heap.size ≤ gb135)); have n6_ := aM ((by rw [hg]; exact (below_size aG) : w.heap.size ≤ gb135)); have n7_ := aM ((by rw [hg]; exact Nat.ne_of_lt (blk_lt (g := gb127) aK) : gb127 ≠ gb135)); have n8_ := aM ((by rw [hg]; exact Nat.ne_of_gt (blk_lt (g := gb127) aK) : gb135 ≠ gb127)); have n9_ := aM ((by rw [hg]; exact Nat.ne_of_lt (blk_lt (g := gb128) aK) : gb128 ≠ gb135)); have n10_ := aM ((by rw [hg]; exact Nat.ne_of_gt (blk_lt (g := gb128) aK) : gb135 ≠ gb128)); clear HO134; clear BK127; clear BK128; clear HB; have HO134 := n0_; have BK127 := n1_; have BK128 := n2_; have HB := n3_; have BK135 := n4_; have GW135 := n5_; have GE135 := n6_; have NB127_135 := n7_; have NB135_127 := n8_; have NB128_135 := n9_; have NB135_128 := n10_; clear n0_ n1_ n2_ n3_ n4_ n5_ n6_ n7_ n8_ n9_ n10_; clear hb hbox hg; have hnb12 := NB135_127.out; have hnc12 := NB127_135.out; have hnb13 := NB135_128.out; have hnc13 := NB128_135.out; have hcz14_0 : w11.cell? ⟨gb135, 0, none⟩ = some (.slice none 0 0) := (blk_cell BK135.out 0).trans rfl; have hcz14_1 : w11.cell? ⟨gb135, 1, none⟩ = some (.slice none 0 0) := (blk_cell BK135.out 1).trans rfl; have hfz14_0 := blk_frozen BK135.out 0; have hfz14_1 := blk_frozen BK135.out 1))
  go_loopg [4] k (fun kq v4 w' => ∃ (x4_1 : Int) (x136001_1 : List (S45)) (u136001 : Value), v4 = .int .i64 x4_1 ∧ Aside0 (spec_l4Copy.l0 kq x4_1 l0_0 l0_1 y132 x136001_1 = some (r1, r2)) ∧ Aside0 (kq ≤ k) ∧ Aside0 (Kd.R k74 74 w' w.heap.size (fun _ => True) (.slice Ao10 y132.length co10) y132) ∧ Aside0 (Kd.S k45 45 w' w.heap.size (fun _ => True) u136001 x136001_1) ∧ Aside0 (w'.heap[gb127]? = some (.cells #[(.slice A0_0 l0_0.length c0_0), (.slice A0_1 l0_1.length c0_1)] 31 (0, 0))) ∧ Aside0 (w'.heap[gb128]? = some (.cells #[(.slice none 0 0), (.slice none 0 0)] 31 (0, 0))) ∧ Aside0 (w'.heap[gb135]? = some (.cells #[(.slice Ao10 y132.length co10), u136001] 31 (0, 0))) ∧ Aside0 (Below w.heap.size w w'))
  case atStart => exact ⟨(0), (([] : List (S45))), (.slice none 0 0), aX, H', ⟨Nat.le_refl _⟩, ⟨by (with_reducible repeat apply pR); exact Kd.R_mono (Kd.R_far (p := ⟨gb135, 1, none⟩) (Kd.R_far (p := ⟨gb135, 0, none⟩) (Kd.R_types HO134.out BK135.out (by decide)) (fun _ hk => hk.2) (.slice Ao10 y132.length co10)) (fun _ hk => hk.2) (.slice none 0 0)) (fun _ hk => trivial)⟩, ⟨by first | exact Kd.S_nil _ _ _ _ _ | exact Kd.N_nil _ _ _ _ _ | exact Kd.V_nil _ _ _ _ _ | exact Kd.Q_nil _ _ _ _ _ | exact Kd.R_nil _ _ _ _ _⟩, ⟨by (with_reducible repeat refine pB ?_); refine blk_far ?_ NB127_135.out _; (with_reducible repeat refine pB ?_); refine blk_far ?_ NB127_135.out _; (with_reducible repeat refine pB ?_); exact BK127.out⟩, ⟨by (with_reducible repeat refine pB ?_); refine blk_far ?_ NB128_135.out _; (with_reducible repeat refine pB ?_); refine blk_far ?_ NB128_135.out _; (with_reducible repeat refine pB ?_); exact BK128.out⟩, ⟨by (with_reducible repeat refine pB ?_); refine blk_put (cs := #[.slice Ao10 y132.length co10, .slice none 0 0]) ?_ 1 _ rfl; (with_reducible repeat refine pB ?_); refine blk_put (cs := #[.slice none 0 0, .slice none 0 0]) ?_ 0 _ rfl; (with_reducible repeat refine pB ?_); exact BK135.out⟩, ⟨aG⟩⟩
  case round =>
   clear H'
   try clear c1
   try clear c2
   try clear p2
   try clear c4
   try clear c7
   try clear c12
   try clear c13
   try clear hcz14_0
   try clear hcz14_1
   try clear hcz8_0
   try clear hcz8_1
   try clear hfz14_0
   try clear hfz14_1
   try clear hfz8_0
   try clear hfz8_1
   obtain ⟨x4_1, x136001_1, u136001, rfl, HA, HK1, HO_136000, HO_136001, BK127, BK128, BK135, HB⟩ := hrel
   cases gk with
   | zero => exact absurd HA.out (by simp [spec_l4Copy.l0])
   | succ k1 =>
    have H := HA.out
    clear HA
    simp only [spec_l4Copy.l0] at H
    by_cases c15 : x4_1 < (l0_1.length : Int)
    ·rw [if_pos c15] at H
     have c15b0 : decide (x4_1 < (l0_1.length : Int)) = true := decide_eq_true c15
     clear c15
     by_cases c16 : 0 ≤ x4_1
     ·rw [if_pos c16] at H
      have c16b0 : decide (0 ≤ x4_1) = true := decide_eq_true c16
      clear c16
      obtain ⟨y137, hy137⟩ : ∃ y_ : List Int, y_ = (([] : List Int)) := ⟨_, rfl⟩
      first | replace H := bY hy137 H | rw [← hy137] at H
      have Ny137 := aM hy137
      clear hy137
      by_cases c17 : y137.length + ((rd_T45 l0_1 x4_1).f1).length < 17592186044416
      ·rw [if_pos c17] at H
       have LMc17 := aM c17
       clear c17
       obtain ⟨y141, hy141⟩ : ∃ y_ : List Int, y_ = (y137 ++ ((rd_T45 l0_1 x4_1).f1)) := ⟨_, rfl⟩
       first | replace H := bY hy141 H | rw [← hy141] at H
       have Ny141 := aM hy141
       clear hy141
       by_cases c18 : x136001_1.length < 4398046511104
       ·rw [if_pos c18] at H
        have LMc18 := aM c18
        clear c18
        obtain ⟨y144, hy144⟩ : ∃ y_ : List (S45), y_ = (x136001_1 ++ [(⟨(rd_T45 l0_1 x4_1).f0, y141⟩ : S45)]) := ⟨_, rfl⟩
        first | replace H := bY hy144 H | rw [← hy144] at H
        have Ny144 := aM hy144
        clear hy144
        have H' := aM H
        clear H
        have hnb19 := NB127_128.out
        have hnc19 := NB128_127.out
        have hnb20 := NB127_135.out
        have hnc20 := NB135_127.out
        have hcz21_0 : wr.cell? ⟨gb127, 0, none⟩ = some (.slice A0_0 l0_0.length c0_0) := (blk_cell BK127.out 0).trans rfl
        have hcz21_1 : wr.cell? ⟨gb127, 1, none⟩ = some (.slice A0_1 l0_1.length c0_1) := (blk_cell BK127.out 1).trans rfl
        have hfz21_0 := blk_frozen BK127.out 0
        have hfz21_1 := blk_frozen BK127.out 1
        try go_wp2
        replace HO_136000 := aM (Kd.R_drew HO_136000.out)
        replace HO_136001 := aM (Kd.S_drew HO_136001.out)
        replace BK127 := aM (blk_drew BK127.out)
        replace BK128 := aM (blk_drew BK128.out)
        replace BK135 := aM (blk_drew BK135.out)
        replace HB := aM (below_drew1 HB.out)
        have p136 : 0 ≤ (x4_1 : Int) := aD
        have q136 : x4_1 < (l0_1.length : Int) := aD
        obtain ⟨ad136, A136_1, c136_1, e136, hx136_0, hx136_1, hl136_1, hi136_1⟩ := at_T45 HR0_1.out x4_1 p136 q136
        have hw136_1 := hx136_1
        have hw136_0 := hx136_0
        cases e136
        replace hx136_0 := (HB.out.cell (World.block_lt_of_cell? w _ hx136_0)).trans hx136_0
        replace hx136_1 := (HB.out.cell (World.block_lt_of_cell? w _ hx136_1)).trans hx136_1
        have HR136_1 := aM hi136_1
        have HC136_1 := aM hl136_1
        clear hi136_1 hl136_1
        replace p136 := eq_true p136
        replace q136 := eq_true q136
        have p140 : 0 ≤ (x4_1 : Int) := aD
        have q140 : x4_1 < (l0_1.length : Int) := aD
        obtain ⟨ad140, A140_1, c140_1, e140, hx140_0, hx140_1, hl140_1, hi140_1⟩ := at_T45 HR0_1.out x4_1 p140 q140
        have hw140_1 := hx140_1
        have hw140_0 := hx140_0
        obtain rfl : ad136 = ad140 := (by injection e140)
        replace hx140_0 := (HB.out.cell (World.block_lt_of_cell? w _ hx140_0)).trans hx140_0
        replace hx140_1 := (HB.out.cell (World.block_lt_of_cell? w _ hx140_1)).trans hx140_1
        have HR140_1 := aM hi140_1
        have HC140_1 := aM hl140_1
        clear hi140_1 hl140_1
        replace p140 := eq_true p140
        replace q140 := eq_true q140
        have ea_ := Option.some.inj (hx136_1.symm.trans hx140_1)
        injection ea_ with ea_ en_ ec_
        subst ea_
        subst ec_
        clear en_
        refine start_ (n := 21) (S := fun w' => w'.cell? ⟨gb135, 0, none⟩ = some (.slice Ao10 y132.length co10) ∧ w'.cell? ⟨gb135, 1, none⟩ = some (u136001) ∧ w'.cell? ⟨gb127, 0, none⟩ = some (.slice A0_0 l0_0.length c0_0) ∧ w'.cell? ⟨gb127, 1, none⟩ = some (.slice (some ad136) l0_1.length c0_1) ∧ w'.cell? (ad136.add ((x4_1).toNat * 2)) = some (.int .i64 ((rd_T45 l0_1 x4_1).f0)) ∧ w'.cell? ⟨(ad136.add ((x4_1).toNat * 2)).block, (ad136.add ((x4_1).toNat * 2)).off + 1, none⟩ = some (.slice A136_1 ((rd_T45 l0_1 x4_1).f1).length c136_1) ∧ w'.cell? (ad136.add ((x4_1).toNat * 2)) = some (.int .i64 ((rd_T45 l0_1 x4_1).f0)) ∧ w'.cell? ⟨(ad136.add ((x4_1).toNat * 2)).block, (ad136.add ((x4_1).toNat * 2)).off + 1, none⟩ = some (.slice A136_1 ((rd_T45 l0_1 x4_1).f1).length c136_1)) (ds := [20]) #[false, false, false, false, false, false, false, false, false, false, false, false, false, false, false, false, false, false, false, false, false] (by kernel_rfl) rfl rfl ⟨(blk_cell BK135.out 0).trans rfl, (blk_cell BK135.out 1).trans rfl, (blk_cell BK127.out 0).trans rfl, (blk_cell BK127.out 1).trans rfl, (pw_cell_below HB.out hw136_0), (pw_cell_below HB.out hw136_1), (pw_cell_below HB.out hw140_0), (pw_cell_below HB.out hw140_1)⟩ (fun hHeld => ?_); refine with_tabW spec_l4Copy.tab5 spec_l4Copy.bits5 (fun HT_ HW_ => ?_)
        generalize wr.drew = w22 at HO_136000 HO_136001 BK127 BK128 BK135 HB HR136_1 HR140_1 hx136_0 hx136_1 hx140_0 hx140_1 hHeld ⊢
        refine pU 0 17 ?_
        refine pU 2 19 ?_
        refine pU 4 21 ?_
        refine pU 9 26 ?_
        refine pU 11 28 ?_
        refine tU8 1 18 hHeld ?_
        refine tU8 3 20 hHeld ?_
        refine pU 5 22 ?_
        refine pU 6 23 ?_
        refine tU8 7 24 hHeld ?_
        refine tU8 10 27 hHeld ?_
        refine pU 12 29 ?_
        refine pU 13 30 ?_
        refine tU8 14 31 hHeld ?_
        refine oU 8 25 (fun K hK => ?_)
        refine Kd.R_lit_step (Kd.int .i64) _ 3 ?hg (N := 25) ?hd (xs := ([] : List Int)) (inner := []) (ok := fun _ => True) (okp := fun _ => True) ?hr ?hp (fun _ hk => hk) trivial (Below.refl _ _) (Nat.le_refl _) (by simp) ?_; (case hd => rfl); (case hg => rfl); (case hr => first | (go_simp; done) | (go_simp; rfl)); (case hp => exact (Reps.none _ _))
        intro v138 w23 ho24 hb hg_ hnew_
        clear hg_ hnew_
        (first | rw [← Ny137.out] at ho24 | (simp only [Int.reduceToNat] at ho24; rw [← Ny137.out] at ho24))
        have n0_ := aM (Kd.R_below (aR HO_136000) hb)
        have n1_ := aM (Kd.S_elder' (aS HO_136001) (Kd.R_base ho24) hb)
        have n2_ := aM (Kd.R_lower ho24 (below_size aG))
        have n3_ := aM (kB gb127 #[.slice A0_0 l0_0.length c0_0, .slice (some ad136) l0_1.length c0_1] 31 hb)
        have n4_ := aM (kB gb128 #[.slice none 0 0, .slice none 0 0] 31 hb)
        have n5_ := aM (kB gb135 #[.slice Ao10 y132.length co10, u136001] 31 hb)
        have n6_ := aM (below_step aG hb)
        clear HO_136000
        clear HO_136001
        clear BK127
        clear BK128
        clear BK135
        clear HB
        have HO_136000 := n0_
        have HO_136001 := n1_
        have HO139 := n2_
        have BK127 := n3_
        have BK128 := n4_
        have BK135 := n5_
        have HB := n6_
        clear n0_ n1_ n2_ n3_ n4_ n5_ n6_
        clear hb ho24
        refine hK.out _ _ ⟨(blk_cell BK135.out 0).trans rfl, (blk_cell BK135.out 1).trans rfl, (blk_cell BK127.out 0).trans rfl, (blk_cell BK127.out 1).trans rfl, (pw_cell_below HB.out hw136_0), (pw_cell_below HB.out hw136_1), (pw_cell_below HB.out hw140_0), (pw_cell_below HB.out hw140_1)⟩ (fun hHeld => ?_)
        clear hK K
        refine nU 25 ?_
        refine oU 15 32 (fun K hK => ?_)
        refine Kd.R_append_rows_step (Kd.int .i64) (w0 := w) w.heap.size (by rfl) (.tmp 25) (.tmp 31) 26 3 (.int .i64 0) 8 rfl Try.underlying26 info3 rfl (by decide) (by omega) v138 y137 ((rd_T45 l0_1 x4_1).f1) _ _ _ (fun _ => True) (fun _ => False) rfl rfl ?aO ?aR (fun _ _ h => h) (fun _ h => h.elim) ?aF ?aB ?aS ?aL ?_
        (case aR => exact aC)
        (case aB => exact aG)
        (case aF => exact (fun _ _ => trivial))
        (case aO => exact (aR HO139))
        (case aS => exact (below_size aG))
        (case aL => have := LMc17.out; omega)
        intro v142 w25 ho hb hg hat
        rw [← Ny141.out] at ho
        have n0_ := aM (Kd.R_over' (aR HO_136000) (Kd.R_typed (aR HO139)) (by decide) hg)
        have n1_ := aM (Kd.S_after (ok := (fun _ => True)) (aS HO_136001) hg hat)
        have n2_ := aM (blk_grown (g := gb127) aK hg (Kd.R_ne HO139.out BK127.out (by decide)))
        have n3_ := aM (blk_grown (g := gb128) aK hg (Kd.R_ne HO139.out BK128.out (by decide)))
        have n4_ := aM (blk_grown (g := gb135) aK hg (Kd.R_ne HO139.out BK135.out (by decide)))
        have n5_ := aM (hb)
        have n6_ := aM (ho)
        clear HO_136000
        clear HO_136001
        clear BK127
        clear BK128
        clear BK135
        clear HB
        clear HO139
        have HO_136000 := n0_
        have HO_136001 := n1_
        have BK127 := n2_
        have BK128 := n3_
        have BK135 := n4_
        have HB := n5_
        have HO143 := n6_
        clear n0_ n1_ n2_ n3_ n4_ n5_ n6_
        clear ho hb hg hat
        obtain ⟨Ao26, co26, eo26⟩ := Kd.R_slice HO143.out
        (first | subst eo26 | (injection eo26 with f1_ f2_ f3_; have f4_ := f1_.symm; have f5_ := f3_.symm; clear f1_ f2_ f3_; subst f4_; subst f5_))
        refine hK.out _ _ ⟨(blk_cell BK135.out 0).trans rfl, (blk_cell BK135.out 1).trans rfl, (blk_cell BK127.out 0).trans rfl, (blk_cell BK127.out 1).trans rfl, (pw_cell_below HB.out hw136_0), (pw_cell_below HB.out hw136_1), (pw_cell_below HB.out hw140_0), (pw_cell_below HB.out hw140_1)⟩ (fun hHeld => ?_)
        clear hK K
        refine nU 32 ?_
        refine pU 16 33 ?_
        refine oU 17 34 (fun K hK => ?_)
        refine value_ (w1 := ?_) (v := ?_) (by rfl) rfl ?_ ?_
        rotate_left 2
        ·go_simp
         constructor
         ·rfl
         ·rfl
        refine hK.out _ _ ⟨(blk_cell (blk_alloc BK135.out _) 0).trans rfl, (blk_cell (blk_alloc BK135.out _) 1).trans rfl, (blk_cell (blk_alloc BK127.out _) 0).trans rfl, (blk_cell (blk_alloc BK127.out _) 1).trans rfl, (World.cell?_alloc_lt _ _ _ (World.block_lt_of_cell? _ _ ((pw_cell_below HB.out hw136_0)))).trans ((pw_cell_below HB.out hw136_0)), (World.cell?_alloc_lt _ _ _ (World.block_lt_of_cell? _ _ ((pw_cell_below HB.out hw136_1)))).trans ((pw_cell_below HB.out hw136_1)), (World.cell?_alloc_lt _ _ _ (World.block_lt_of_cell? _ _ ((pw_cell_below HB.out hw140_0)))).trans ((pw_cell_below HB.out hw140_0)), (World.cell?_alloc_lt _ _ _ (World.block_lt_of_cell? _ _ ((pw_cell_below HB.out hw140_1)))).trans ((pw_cell_below HB.out hw140_1))⟩ (fun hHeld => ?_)
        clear hK K
        refine nU 34 ?_
        refine oU 18 35 (fun K hK => ?_)
        refine Kd.S_append_step k45 (w0 := w) w.heap.size (by rfl) (.tmp 18) (.tmp 34) 29 45 (.agg #[(.int .i64 0), (.slice none 0 0)]) 32 rfl Try.underlying29 info45 rfl (by decide) (by omega) u136001 x136001_1 (⟨(rd_T45 l0_1 x4_1).f0, y141⟩ : S45) [.int .i64 ((rd_T45 l0_1 x4_1).f0), .slice Ao26 y141.length co26] (fun _ => True) (fun k_ => some k_ = (.slice Ao26 y141.length co26 : Value).ownBlock) rfl rfl ?aP (fun k_ hk_ => ((Kd.R_mono (ok' := fun k_ => ((fun _ => True)) k_ ∧ some k_ ≠ (u136001 : Value).ownBlock) (Kd.R_apart' (HO143.out) (Kd.S_typed HO_136001.out) (by decide)) (fun k_ hk => ⟨trivial, hk.2⟩))).1 k_ hk_.symm) ?aF ?aO ?aB ?aS ?aL ?_
        (case aP => exact k45_mkM _ _ _ (⟨(rd_T45 l0_1 x4_1).f0, y141⟩ : S45) (Kd.R_mono (Kd.R_tight rfl (Kd.R_mono (ok' := fun k_ => ((fun _ => True)) k_ ∧ some k_ ≠ (u136001 : Value).ownBlock) (Kd.R_apart' (HO143.out) (Kd.S_typed HO_136001.out) (by decide)) (fun k_ hk => ⟨trivial, hk.2⟩))) (fun _ h_ => h_)))
        (case aB => exact aG)
        (case aF => exact (fun _ _ => trivial))
        (case aO => exact (by (with_reducible repeat apply pS); exact Kd.S_mono HO_136001.out (fun k_ hk => ⟨trivial, fun e_ => hk.2 e_⟩)))
        (case aS => exact (below_size aG))
        (case aL => have := LMc18.out; omega)
        intro v145 w27 ho hb hg hat
        rw [← Ny144.out] at ho
        have n0_ := aM (Kd.R_over' (aR HO_136000) (Kd.S_typed (aS HO_136001)) (by decide) hg)
        have n1_ := aM (blk_grown (g := gb127) aK hg (Kd.S_ne HO_136001.out BK127.out (by decide)))
        have n2_ := aM (blk_grown (g := gb128) aK hg (Kd.S_ne HO_136001.out BK128.out (by decide)))
        have n3_ := aM (blk_grown (g := gb135) aK hg (Kd.S_ne HO_136001.out BK135.out (by decide)))
        have n4_ := aM (hb)
        have n5_ := aM (ho)
        clear HO_136000
        clear BK127
        clear BK128
        clear BK135
        clear HB
        clear HO_136001
        clear HO143
        have HO_136000 := n0_
        have BK127 := n1_
        have BK128 := n2_
        have BK135 := n3_
        have HB := n4_
        have HO146 := n5_
        clear n0_ n1_ n2_ n3_ n4_ n5_
        clear ho hb hg hat
        obtain ⟨Ao28, co28, eo28⟩ := Kd.S_slice HO146.out
        (first | subst eo28 | (injection eo28 with f1_ f2_ f3_; have f4_ := f1_.symm; have f5_ := f3_.symm; clear f1_ f2_ f3_; subst f4_; subst f5_))
        refine hK.out _ _ ⟨(blk_cell BK135.out 0).trans rfl, (blk_cell BK135.out 1).trans rfl, (blk_cell BK127.out 0).trans rfl, (blk_cell BK127.out 1).trans rfl, (pw_cell_below HB.out hw136_0), (pw_cell_below HB.out hw136_1), (pw_cell_below HB.out hw140_0), (pw_cell_below HB.out hw140_1)⟩ (fun hHeld => ?_)
        clear hK K
        refine nU 35 ?_
        refine pU 19 36 ?_
        refine last_ (i := 20) (N := none) #[true, true, true, true, true, true, true, true, true, true, true, true, true, true, true, true, true, true, true, true, true] rfl rfl (one_of HT_.out (by kernel_rfl)) (by decide) (fun K hK => ?_)
        have hs29 : w27.cell? ⟨gb135, 1, none⟩ = some (u136001) := (blk_cell BK135.out 1).trans rfl
        have hfs29 := blk_frozen BK135.out 1
        have hns29_0 := NB127_135.out
        have hns29_1 := NB128_135.out
        have hms29_0 := NB135_127.out
        have hms29_1 := NB135_128.out
        refine skip_ (w1 := ?_) (by rfl) rfl ?_ ?_
        rotate_left
        ·go_simp
         rfl
        refine hK.out _ _ ?_
        clear hK K
        refine done_ (done_of HT_.out (by kernel_rfl)) ?_
        try go_wp2
        go_roundg k1
        case measure => have := HK1.out; omega
        case rel => exact ⟨(wrap64 (x4_1 + 1)), (y144), (.slice Ao28 y144.length co28), aX, H', ⟨by have := HK1.out; omega⟩, ⟨by (with_reducible repeat apply pR); exact Kd.R_mono (Kd.R_far (p := ⟨gb135, 1, none⟩) (Kd.R_types HO_136000.out BK135.out (by decide)) (fun _ hk => hk.2) (.slice Ao28 y144.length co28)) (fun _ hk => trivial)⟩, ⟨by (with_reducible repeat apply pS); exact Kd.S_mono (Kd.S_far (p := ⟨gb135, 1, none⟩) (Kd.S_types HO146.out BK135.out (by decide)) (fun _ hk => hk.2) (.slice Ao28 y144.length co28)) (fun _ hk => trivial)⟩, ⟨by (with_reducible repeat refine pB ?_); refine blk_far ?_ NB127_135.out _; (with_reducible repeat refine pB ?_); exact BK127.out⟩, ⟨by (with_reducible repeat refine pB ?_); refine blk_far ?_ NB128_135.out _; (with_reducible repeat refine pB ?_); exact BK128.out⟩, ⟨by (with_reducible repeat refine pB ?_); refine blk_put (cs := #[.slice Ao10 y132.length co10, u136001]) ?_ 1 _ rfl; (with_reducible repeat refine pB ?_); exact BK135.out⟩, ⟨aG⟩⟩
       ·rw [if_neg c18] at H
        exact absurd H (by simp)
      ·rw [if_neg c17] at H
       exact absurd H (by simp)
     ·rw [if_neg c16] at H
      exact absurd H (by simp)
    ·rw [if_neg c15] at H
     have c15b0 : decide (x4_1 < (l0_1.length : Int)) = false := decide_eq_false c15
     clear c15
     simp only [Option.some.injEq, Prod.mk.injEq] at H
     obtain ⟨rfl, rfl⟩ := H
     have hnb30 := NB127_128.out
     have hnc30 := NB128_127.out
     have hnb31 := NB127_135.out
     have hnc31 := NB135_127.out
     have hcz32_0 : wr.cell? ⟨gb127, 0, none⟩ = some (.slice A0_0 l0_0.length c0_0) := (blk_cell BK127.out 0).trans rfl
     have hcz32_1 : wr.cell? ⟨gb127, 1, none⟩ = some (.slice A0_1 l0_1.length c0_1) := (blk_cell BK127.out 1).trans rfl
     have hfz32_0 := blk_frozen BK127.out 0
     have hfz32_1 := blk_frozen BK127.out 1
     have hnb33 := NB135_128.out
     have hnc33 := NB128_135.out
     have hcz34_0 : wr.cell? ⟨gb135, 0, none⟩ = some (.slice Ao10 y132.length co10) := (blk_cell BK135.out 0).trans rfl
     have hcz34_1 : wr.cell? ⟨gb135, 1, none⟩ = some (u136001) := (blk_cell BK135.out 1).trans rfl
     have hfz34_0 := blk_frozen BK135.out 0
     have hfz34_1 := blk_frozen BK135.out 1
     have hcz35_0 : wr.cell? ⟨gb128, 0, none⟩ = some (.slice none 0 0) := (blk_cell BK128.out 0).trans rfl
     have hcz35_1 : wr.cell? ⟨gb128, 1, none⟩ = some (.slice none 0 0) := (blk_cell BK128.out 1).trans rfl
     have hfz35_0 := blk_frozen BK128.out 0
     have hfz35_1 := blk_frozen BK128.out 1
     obtain ⟨Ao36, co36, eo36⟩ := Kd.S_slice HO_136001.out
     subst eo36
     go_wp2
     refine bodyPost_ret (results_cell_row rfl _ _ gb128 31 #[.slice Ao10 y132.length co10, .slice Ao36 x136001_1.length co36] (0, 0) _ rfl (bP2 BK128.out) Try.underlying31 rfl (by kernel_rfl)) rfl ?_
     exact ⟨_, _, aE, by (with_reducible repeat apply pR); exact Kd.R_mono (Kd.R_far (p := ⟨gb128, 1, none⟩) (Kd.R_far (p := ⟨gb128, 0, none⟩) (Kd.R_types HO_136000.out BK128.out (by decide)) (fun _ hk => hk.2) (.slice Ao10 y132.length co10)) (fun _ hk => hk.2) (.slice Ao36 x136001_1.length co36)) (fun _ hk => trivial), by (with_reducible repeat apply pS); exact Kd.S_mono (Kd.S_far (p := ⟨gb128, 1, none⟩) (Kd.S_far (p := ⟨gb128, 0, none⟩) (Kd.S_types HO_136001.out BK128.out (by decide)) (fun _ hk => hk.2) (.slice Ao10 y132.length co10)) (fun _ hk => hk.2) (.slice Ao36 x136001_1.length co36)) (fun _ hk => trivial), aG⟩
 ·rw [if_neg c2] at H
  exact absurd H (by simp)

/-! ### spec_FactIndex: function 53 -/
def spec_FactIndex.l0 : Nat → Int → List (S74) → List (S45) → Int → List Int → Option (Int)
 | 0, _, _, _, _, _ => none
 | k + 1, x5, x148000, x148001, x149000, x149001 => if x5 < (x148001.length : Int) then (if 0 ≤ x5 then ((spec_CompareFacts.f k ((rd_T45 x148001 x5).f0) ((rd_T45 x148001 x5).f1) x149000 x149001).bind fun t150 => (if t150 = 0 then (some x5) else (spec_FactIndex.l0 k (wrap64 (x5 + 1)) x148000 x148001 x149000 x149001))) else (none)) else (some (-1))
def spec_FactIndex.f (k : Nat) (l0_0 : List (S74)) (l0_1 : List (S45)) (a1_0 : Int) (l1_1 : List Int) : Option (Int) := spec_FactIndex.l0 k 0 l0_0 l0_1 a1_0 l1_1
set_option maxHeartbeats 8000000 in
set_option maxRecDepth 100000 in
theorem spec_FactIndex.calls (k : Nat) (A0_0 : Option Addr) (c0_0 : Nat) (l0_0 : List (S74)) (A0_1 : Option Addr) (c0_1 : Nat) (l0_1 : List (S45)) (a1_0 : Int) (A1_1 : Option Addr) (c1_1 : Nat) (l1_1 : List Int) (r : Int) (w : World) (hr0_0 : Kd.C k74 w A0_0 l0_0.length l0_0) (hc0_0 : l0_0.length ≤ c0_0) (hr0_1 : Kd.C k45 w A0_1 l0_1.length l0_1) (hc0_1 : l0_1.length ≤ c0_1) (hr1_1 : Kd.C (Kd.int .i64) w A1_1 l1_1.length l1_1) (hc1_1 : l1_1.length ≤ c1_1) (h : spec_FactIndex.f k l0_0 l0_1 a1_0 l1_1 = some r) :
  Calls Try.prog 53 #[.agg #[.slice A0_0 l0_0.length c0_0, .slice A0_1 l0_1.length c0_1], .agg #[.int .i64 a1_0, .slice A1_1 l1_1.length c1_1]] w fun e w' => e = .returned (.int .i64 r) ∧ Below w.heap.size w w' := by
 have hu31 := Try.underlying31
 have hu45 := Try.underlying45
 obtain ⟨W, hW⟩ : ∃ W, (w.alloc (.cells #[.slice A0_0 l0_0.length c0_0, .slice A0_1 l0_1.length c0_1] 31)).alloc (.cells #[.int .i64 a1_0, .slice A1_1 l1_1.length c1_1] 45) = W := ⟨_, rfl⟩
 have q0 := qa (w := W) (p := ⟨w.heap.size, 0, none⟩) (v := .slice A0_0 l0_0.length c0_0) (by subst hW; go_simp)
 have q1 := qa (w := W) (p := ⟨w.heap.size, 1, none⟩) (v := .slice A0_1 l0_1.length c0_1) (by subst hW; go_simp)
 have q2 := qa (w := W) (p := ⟨w.heap.size + 1, 0, none⟩) (v := .int .i64 a1_0) (by subst hW; go_simp)
 have q3 := qa (w := W) (p := ⟨w.heap.size + 1, 1, none⟩) (v := .slice A1_1 l1_1.length c1_1) (by subst hW; go_simp)
 have HB : Below w.heap.size w W := by subst hW; exact zB
 have HW := Below.refl W.heap.size W
 have hb := aM HB
 have rg_ := @bcl w
 have rd_ := @bdr w
 have rG_ := @bcl W
 have rD_ := @bdr W
 unfold spec_FactIndex.f at h
 ·go_enter Try.func53, Try.ntmps53
  go_wp2
  (repeat ((refine nw (w0 := w) zB ?_; intro W1 HB hb hd; have HW : Below W.heap.size W W1 := zB; (first | (refine Txt.rg (id := 4) [0, 1, 2, 3, 4, 5, 6, 7] (by kernel_rfl) (by kernel_rfl) ?_; simp only [List.map_cons, List.map_nil, List.getD_cons_zero, List.getD_cons_succ])); (repeat (first | (refine Txt.off rfl ?_; simp only [Act.put, List.setIfInBounds_toArray, List.set_cons_zero, List.set_cons_succ]) | (refine Txt.take rfl rfl ?_; intro K hK; go_big_quiet_op; go_big_quiet_on) | (refine Txt.call rfl rfl Try.func49 (by kernel_rfl) rfl (spec_CompareFacts.calls ?_ _ _ _ _ _ _ _ _ ?_ _ ?_ ?_ ?_ ?_ ?h) rfl ?_; (case h => exact zA); (iterate 4 (first | exact zC | exact zA)); rintro e w1 ⟨rfl, hb⟩; replace hb := aM hb; have HW : Below W.heap.size W w1 := zB; have HB : Below w.heap.size w w1 := zB; refine ⟨_, rfl, zS, ?_⟩; simp only [Act.put, List.setIfInBounds_toArray, List.set_cons_zero, List.set_cons_succ]))); refine Txt.nil ?_); (try go_wp2)))
  go_loopg [5] k (fun kq v5 w' => ∃ (x5_0 : Int), v5 = .int .i64 x5_0 ∧ spec_FactIndex.l0 kq x5_0 l0_0 l0_1 a1_0 l1_1 = some r ∧ Below W.heap.size W w')
  case atStart => exact ⟨_, zR, zA, zB⟩
  case round =>
   clear h
   obtain ⟨x5_0, rfl, h, hb⟩ := hrel
   replace hb := aM hb
   have HW : Below W.heap.size W wr := zB
   have HB : Below w.heap.size w wr := zB
   rcases gk with _ | kk0
   exact absurd h (by simp [spec_FactIndex.l0])
   simp only [spec_FactIndex.l0] at h
   replace h := il h; rcases h with ⟨c1, c1a, h⟩ | ⟨c1, c1a, h⟩
   replace h := ie h; rcases h with ⟨c2, c2a, h⟩ | ⟨c2, c2a, h⟩
   replace h := bs h; obtain ⟨t150, B3, h⟩ := h
   replace h := iq h; rcases h with ⟨c4, ⟨c4a, c4b⟩, h⟩ | ⟨c4, ⟨c4a, c4b⟩, h⟩
   obtain rfl := si h
   obtain ⟨ad149, A149_1, c149_1, e149, hx149_0, hx149_1, hl149_1, hi149_1⟩ := at_T45 hr0_1 (x5_0 : Int) aD aD
   have p149 := eq_true (aD : 0 ≤ (x5_0 : Int))
   have q149 := eq_true (aD : x5_0 < (l0_1.length : Int))
   cases e149
   replace hx149_0 := qa hx149_0
   replace hx149_1 := qa hx149_1
   rotate_left
   obtain ⟨kf, hkf⟩ : ∃ kf, kf = kk0 := ⟨_, rfl⟩; rw [← hkf] at h
   obtain ⟨ad149, A149_1, c149_1, e149, hx149_0, hx149_1, hl149_1, hi149_1⟩ := at_T45 hr0_1 (x5_0 : Int) aD aD
   have p149 := eq_true (aD : 0 ≤ (x5_0 : Int))
   have q149 := eq_true (aD : x5_0 < (l0_1.length : Int))
   cases e149
   replace hx149_0 := qa hx149_0
   replace hx149_1 := qa hx149_1
   rotate_left
   exact absurd h (by simp)
   obtain rfl := si h
   rotate_left
   all_goals (go_wp2; (repeat ((refine nw (w0 := w) zB ?_; intro W1 HB hb hd; have HW : Below W.heap.size W W1 := zB; (first | (refine Txt.rg (id := 4) [0, 1, 2, 3, 4, 5, 6, 7] (by kernel_rfl) (by kernel_rfl) ?_; simp only [List.map_cons, List.map_nil, List.getD_cons_zero, List.getD_cons_succ])); (repeat (first | (refine Txt.off rfl ?_; simp only [Act.put, List.setIfInBounds_toArray, List.set_cons_zero, List.set_cons_succ]) | (refine Txt.take rfl rfl ?_; intro K hK; go_big_quiet_op; go_big_quiet_on) | (refine Txt.call rfl rfl Try.func49 (by kernel_rfl) rfl (spec_CompareFacts.calls ?_ _ _ _ _ _ _ _ _ ?_ _ ?_ ?_ ?_ ?_ ?h) rfl ?_; (case h => exact zA); (iterate 4 (first | exact zC | exact zA)); rintro e w1 ⟨rfl, hb⟩; replace hb := aM hb; have HW : Below W.heap.size W w1 := zB; have HB : Below w.heap.size w w1 := zB; refine ⟨_, rfl, zS, ?_⟩; simp only [Act.put, List.setIfInBounds_toArray, List.set_cons_zero, List.set_cons_succ]))); refine Txt.nil ?_); (try go_wp2))); first | (go_ret; exact zE zB) | (go_roundg kf; (case measure => omega); (case rel => exact ⟨_, zR, zA, zB⟩)))

/-! ### spec_ContainsFact: function 48 -/
def spec_ContainsFact.f (k : Nat) (l0_0 : List (S74)) (l0_1 : List (S45)) (a1_0 : Int) (l1_1 : List Int) : Option (Bool) := (spec_IsValidDatabase.f k l0_0 l0_1).bind fun t153 => (if t153 = true then ((spec_FactIndex.f k l0_0 l0_1 a1_0 l1_1).bind fun t154 => (some (decide (t154 ≥ 0)))) else (some false))
set_option maxHeartbeats 8000000 in
set_option maxRecDepth 100000 in
theorem spec_ContainsFact.calls (k : Nat) (A0_0 : Option Addr) (c0_0 : Nat) (l0_0 : List (S74)) (A0_1 : Option Addr) (c0_1 : Nat) (l0_1 : List (S45)) (a1_0 : Int) (A1_1 : Option Addr) (c1_1 : Nat) (l1_1 : List Int) (r : Bool) (w : World) (hr0_0 : Kd.C k74 w A0_0 l0_0.length l0_0) (hc0_0 : l0_0.length ≤ c0_0) (hr0_1 : Kd.C k45 w A0_1 l0_1.length l0_1) (hc0_1 : l0_1.length ≤ c0_1) (hr1_1 : Kd.C (Kd.int .i64) w A1_1 l1_1.length l1_1) (hc1_1 : l1_1.length ≤ c1_1) (h : spec_ContainsFact.f k l0_0 l0_1 a1_0 l1_1 = some r) :
  Calls Try.prog 48 #[.agg #[.slice A0_0 l0_0.length c0_0, .slice A0_1 l0_1.length c0_1], .agg #[.int .i64 a1_0, .slice A1_1 l1_1.length c1_1]] w fun e w' => e = .returned (.bool r) ∧ Below w.heap.size w w' := by
 have hu31 := Try.underlying31
 have hu45 := Try.underlying45
 obtain ⟨W, hW⟩ : ∃ W, (w.alloc (.cells #[.slice A0_0 l0_0.length c0_0, .slice A0_1 l0_1.length c0_1] 31)).alloc (.cells #[.int .i64 a1_0, .slice A1_1 l1_1.length c1_1] 45) = W := ⟨_, rfl⟩
 have q0 := qa (w := W) (p := ⟨w.heap.size, 0, none⟩) (v := .slice A0_0 l0_0.length c0_0) (by subst hW; go_simp)
 have q1 := qa (w := W) (p := ⟨w.heap.size, 1, none⟩) (v := .slice A0_1 l0_1.length c0_1) (by subst hW; go_simp)
 have q2 := qa (w := W) (p := ⟨w.heap.size + 1, 0, none⟩) (v := .int .i64 a1_0) (by subst hW; go_simp)
 have q3 := qa (w := W) (p := ⟨w.heap.size + 1, 1, none⟩) (v := .slice A1_1 l1_1.length c1_1) (by subst hW; go_simp)
 have HB : Below w.heap.size w W := by subst hW; exact zB
 have HW := Below.refl W.heap.size W
 have hb := aM HB
 unfold spec_ContainsFact.f at h
 replace h := bs h; obtain ⟨t153, B0, h⟩ := h
 replace h := ib h; rcases h with ⟨rfl, h⟩ | ⟨rfl, h⟩
 replace h := bs h; obtain ⟨t154, B2, h⟩ := h
 obtain rfl := si h
 rotate_left
 obtain rfl := si h
 rotate_left
 all_goals (go_enter Try.func48, Try.ntmps48; go_wp2_with (first | (go_at_call 28; refine (spec_IsValidDatabase.calls ?_ _ _ _ _ _ _ ?_ _ ?_ ?_ ?_ ?_ ?h).mono ?_; (case h => exact zA); (iterate 4 (first | exact zC | exact zA)); rintro e w1 ⟨rfl, hb⟩; replace hb := aM hb; have HW : Below W.heap.size W w1 := zB; have HB : Below w.heap.size w w1 := zB) | (go_at_call 53; refine (spec_FactIndex.calls ?_ _ _ _ _ _ _ _ _ _ _ ?_ _ ?_ ?_ ?_ ?_ ?_ ?_ ?h).mono ?_; (case h => exact zA); (iterate 6 (first | exact zC | exact zA)); rintro e w1 ⟨rfl, hb⟩; replace hb := aM hb; have HW : Below W.heap.size W w1 := zB; have HB : Below w.heap.size w w1 := zB)); go_ret; exact zE zB)

end Go.Proofs.Yteddnlklfjpgoaa.PFnInsertDelete
