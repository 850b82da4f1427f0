import Derived.Test.YteddnlklfjpgoaaPFnInsertDeletex0
namespace Go.Proofs.Yteddnlklfjpgoaa.PFnInsertDelete
open Go.RowKit Go.Proofs.YteddnlklfjpgoaaW.PrintWords Go.Proofs.YteddnlklfjpgoaaW.PrintLast Go.Proofs.YteddnlklfjpgoaaW.PrintMore
attribute [local go_sem] max2_int min2_int max_two min_two max_three min_three max_four min_four
set_option linter.unusedVariables false
set_option linter.unusedSimpArgs false

/-! ### impl_copyDatabase: function 38 -/
def impl_copyDatabase.l0 : Nat → List (S45) → Int → Int → List (S74) → List (S45) → Option ((List (S74)) × (List (S45)))
 | 0, _, _, _, _, _ => none
 | k + 1, x13, x14, x15, x257000, x257001 => if x15 < x14 then (if 0 ≤ x15 then (if x15 < (x13.length : Int) then ((some (([] : List Int) : List Int)).bind fun y259 => (if y259.length + ((rd_T45 x13 x15).f1).length < 17592186044416 then (if x257001.length < 4398046511104 then (impl_copyDatabase.l0 k x13 x14 (wrap64 (x15 + 1)) x257000 (x257001 ++ [(⟨(rd_T45 x13 x15).f0, (y259 ++ ((rd_T45 x13 x15).f1))⟩ : S45)])) else (none)) else (none))) else (none)) else (none)) else (some (x257000, x257001))
def impl_copyDatabase.f (k : Nat) (l0_0 : List (S74)) (l0_1 : List (S45)) : Option ((List (S74)) × (List (S45))) := (some (([] : List (S74)) : List (S74))).bind fun y247 => (if y247.length + l0_0.length < 4398046511104 then (impl_copyDatabase.l0 k l0_1 (l0_1.length : Int) 0 (y247 ++ l0_0) (([] : List (S45)))) else (none))
def impl_copyDatabase.T5 : Bool × List (List Nat × List Nat) := (true, [([], []), ([0], [0]), ([], []), ([2], [2]), ([], []), ([], []), ([5], [5]), ([4, 6], [4, 6]), ([3, 7], [3, 7]), ([8], [8]), ([1, 9, 7], [1, 9]), ([0, 1, 2, 3, 4, 5, 6, 7, 8, 9, 10], []), ([11, 10, 10, 0, 1, 2, 3, 4, 5, 6, 7, 8, 9, 10], [10, 11])])
def impl_copyDatabase.B5 : List Nat := [0, 1, 0, 4, 0, 0, 32, 112, 252, 508, 1023, 2047, 4095]
theorem impl_copyDatabase.tab5 : rtab .any (opsOf Try.f38 5) = impl_copyDatabase.T5 := by kernel_rfl
theorem impl_copyDatabase.bits5 : waitsOk impl_copyDatabase.T5.2 impl_copyDatabase.B5 = true := by kernel_rfl
set_option maxHeartbeats 8000000 in
set_option maxRecDepth 100000 in
theorem impl_copyDatabase.calls (k : Nat) (A0_0 : Option Addr) (c0_0 : Nat) (l0_0 : List (S74)) (A0_1 : Option Addr) (c0_1 : Nat) (l0_1 : List (S45)) (r1 : List (S74)) (r2 : List (S45)) (w : World) (hr0_0 : Kd.C k74 w A0_0 l0_0.length l0_0) (hc0_0 : l0_0.length ≤ c0_0) (hr0_1 : Kd.C k45 w A0_1 l0_1.length l0_1) (hc0_1 : l0_1.length ≤ c0_1) (h : impl_copyDatabase.f k l0_0 l0_1 = some (r1, r2)) :
  Calls Try.prog 38 #[.agg #[.slice A0_0 l0_0.length c0_0, .slice A0_1 l0_1.length c0_1]] w fun e w' => ∃ v0_ v1_ : Value, e = .returned (.agg #[v0_, v1_]) ∧ Kd.R k74 74 w' w.heap.size (fun _ => True) v0_ r1 ∧ Kd.S k45 45 w' w.heap.size (fun _ => True) v1_ r2 ∧ Below w.heap.size w w' := by
 have hu31 := Try.underlying31
 have hu45 := Try.underlying45
 have HR0_0 := aM hr0_0
 have HC0_0 := aM hc0_0
 clear hr0_0 hc0_0
 have HR0_1 := aM hr0_1
 have HC0_1 := aM hc0_1
 clear hr0_1 hc0_1
 have HB := aM (Below.refl w.heap.size w)
 have H : ((some (([] : List (S74)) : List (S74))).bind fun y247 => (if y247.length + l0_0.length < 4398046511104 then (impl_copyDatabase.l0 k l0_1 (l0_1.length : Int) 0 (y247 ++ l0_0) (([] : List (S45)))) else (none))) = some (r1, r2) := h
 clear h
 obtain ⟨y247, hy247⟩ : ∃ y_ : List (S74), y_ = (([] : List (S74))) := ⟨_, rfl⟩
 first | replace H := bY hy247 H | rw [← hy247] at H
 have Ny247 := aM hy247
 clear hy247
 by_cases c2 : y247.length + l0_0.length < 4398046511104
 ·rw [if_pos c2] at H
  have LMc2 := aM c2
  clear c2
  obtain ⟨y250, hy250⟩ : ∃ y_ : List (S74), y_ = (y247 ++ l0_0) := ⟨_, rfl⟩
  first | replace H := bY hy250 H | rw [← hy250] at H
  have Ny250 := aM hy250
  clear hy250
  obtain ⟨y253, hy253⟩ : ∃ y_ : List (S45), y_ = (([] : List (S45))) := ⟨_, rfl⟩
  first | replace H := bY hy253 H | rw [← hy253] at H
  have Ny253 := aM hy253
  clear hy253
  have H' := aM H
  clear H
  go_enter Try.func38, Try.ntmps38
  go_wp2_with (first | ((with_reducible refine gate_dst (N := 1) rfl ?_); refine bE 1 (cs := #[.slice A0_0 l0_0.length c0_0, .slice A0_1 l0_1.length c0_1]) (t := 31) ?_; intro gb245 hg w3 hbox hb; have BK245 := aM (hbox); have GW245 := aM ((by rw [hg]; exact (below_size aB) : w.heap.size ≤ gb245)); have GE245 := aM ((by rw [hg]; exact (below_size aB) : w.heap.size ≤ gb245)); replace HB := aM (below_step aB hb); clear hb hbox hg) | ((with_reducible refine gate_dst (N := 2) rfl ?_); refine bE 2 (cs := #[.slice none 0 0, .slice none 0 0]) (t := 31) ?_; intro gb246 hg w4 hbox hb; have BK246 := aM (hbox); have GW246 := aM ((by rw [hg]; exact (below_size aG) : w.heap.size ≤ gb246)); have GE246 := aM ((by rw [hg]; exact (below_size aG) : w.heap.size ≤ gb246)); have NB245_246 := aM ((by rw [hg]; exact Nat.ne_of_lt (blk_lt (g := gb245) aK) : gb245 ≠ gb246)); have NB246_245 := aM ((by rw [hg]; exact Nat.ne_of_gt (blk_lt (g := gb245) aK) : gb246 ≠ gb245)); replace BK245 := aM (kB gb245 #[.slice A0_0 l0_0.length c0_0, .slice A0_1 l0_1.length c0_1] 31 hb); replace HB := aM (below_step aG hb); clear hb hbox hg) | ((with_reducible refine gate_dst (N := 6) rfl ?_); refine Kd.R_lit k74 _ 74 ?hg (N := 6) ?hd (xs := ([] : List (S74))) (inner := []) (ok := fun _ => True) (okp := fun _ => True) ?hr ?hp (fun _ hk => hk) trivial (Below.refl _ _) (Nat.le_refl _) (by simp) ?_; (case hd => rfl); (case hg => rfl); (case hr => first | (go_simp; done) | (go_simp; rfl)); (case hp => exact (Reps.none _ _)); intro v248 w5 ho6 hb hg_ hnew_; clear hg_ hnew_; (first | rw [← Ny247.out] at ho6 | (simp only [Int.reduceToNat] at ho6; rw [← Ny247.out] at ho6)); have n0_ := aM (Kd.R_lower ho6 (below_size aG)); have n1_ := aM (kB gb245 #[.slice A0_0 l0_0.length c0_0, .slice A0_1 l0_1.length c0_1] 31 hb); have n2_ := aM (kB gb246 #[.slice none 0 0, .slice none 0 0] 31 hb); have n3_ := aM (below_step aG hb); clear BK245; clear BK246; clear HB; have HO249 := n0_; have BK245 := n1_; have BK246 := n2_; have HB := n3_; clear n0_ n1_ n2_ n3_; clear hb ho6; have hnb7 := NB245_246.out; have hnc7 := NB246_245.out; have hcz8_0 : w5.cell? ⟨gb245, 0, none⟩ = some (.slice A0_0 l0_0.length c0_0) := (blk_cell BK245.out 0).trans rfl; have hcz8_1 : w5.cell? ⟨gb245, 1, none⟩ = some (.slice A0_1 l0_1.length c0_1) := (blk_cell BK245.out 1).trans rfl; have hfz8_0 := blk_frozen BK245.out 0; have hfz8_1 := blk_frozen BK245.out 1) | ((with_reducible refine gate_builtin (b := .append) (xs := #[.tmp 6, .tmp 8]) rfl ?_); at_builtin; refine Kd.R_append_rows k74 (w0 := w) w.heap.size rfl (.tmp 6) (.tmp 8) 28 74 (.agg #[(.string ⟨#[]⟩), (.int .i64 0), (.int .i64 0)]) 32 rfl Try.underlying28 info74 rfl (by decide) (by omega) v248 y247 l0_0 _ _ _ (fun _ => True) (fun _ => False) rfl rfl ?aO ?aR (fun _ _ h => h) (fun _ h => h.elim) ?aF ?aB ?aS ?aL ?_; (case aR => exact aC); (case aB => exact aG); (case aF => exact (fun _ _ => trivial)); (case aO => exact (aR HO249)); (case aS => exact (below_size aG)); (case aL => have := LMc2.out; omega); intro v251 w9 ho hb hg hat; rw [← Ny250.out] at ho; have n0_ := aM (blk_grown (g := gb245) aK hg (Kd.R_ne HO249.out BK245.out (by decide))); have n1_ := aM (blk_grown (g := gb246) aK hg (Kd.R_ne HO249.out BK246.out (by decide))); have n2_ := aM (hb); have n3_ := aM (ho); clear BK245; clear BK246; clear HB; clear HO249; have BK245 := n0_; have BK246 := n1_; have HB := n2_; have HO252 := n3_; clear n0_ n1_ n2_ n3_; clear ho hb hg hat) | ((with_reducible refine gate_dst (N := 10) rfl ?_); refine Kd.S_lit k45 _ 45 ?hg (N := 10) ?hd (xs := ([] : List (S45))) (inner := []) (ok := fun _ => True) (okp := fun _ => True) ?hr ?hp (fun _ hk => hk) trivial (Below.refl _ _) (Nat.le_refl _) (by simp) ?_; (case hd => rfl); (case hg => rfl); (case hr => first | (go_simp; done) | (go_simp; rfl)); (case hp => exact (Reps.none _ _)); intro v254 w10 ho11 hb hg_ hnew_; clear hg_ hnew_; (first | rw [← Ny253.out] at ho11 | (simp only [Int.reduceToNat] at ho11; rw [← Ny253.out] at ho11)); have n0_ := aM (Kd.R_below (aR HO252) hb); have n1_ := aM (Kd.S_lower ho11 (below_size aG)); have n2_ := aM (kB gb245 #[.slice A0_0 l0_0.length c0_0, .slice A0_1 l0_1.length c0_1] 31 hb); have n3_ := aM (kB gb246 #[.slice none 0 0, .slice none 0 0] 31 hb); have n4_ := aM (below_step aG hb); clear HO252; clear BK245; clear BK246; clear HB; have HO252 := n0_; have HO255 := n1_; have BK245 := n2_; have BK246 := n3_; have HB := n4_; clear n0_ n1_ n2_ n3_ n4_; clear hb ho11; obtain ⟨Ao12, co12, eo12⟩ := Kd.S_slice HO255.out; subst eo12; obtain ⟨Ao13, co13, eo13⟩ := Kd.R_slice HO252.out; subst eo13) | ((with_reducible refine gate_dst (N := 3) rfl ?_); refine bE 3 (cs := #[.slice none 0 0, .slice none 0 0]) (t := 31) ?_; intro gb256 hg w14 hbox hb; have n0_ := aM (Kd.R_below (aR HO252) hb); have n1_ := aM (Kd.S_below (aS HO255) hb); have n2_ := aM (kB gb245 #[.slice A0_0 l0_0.length c0_0, .slice A0_1 l0_1.length c0_1] 31 hb); have n3_ := aM (kB gb246 #[.slice none 0 0, .slice none 0 0] 31 hb); have n4_ := aM (below_step aG hb); have n5_ := aM (hbox); have n6_ := aM ((by rw [hg]; exact (below_size aG) : w.heap.size ≤ gb256)); have n7_ := aM ((by rw [hg]; exact (below_size aG) : w.heap.size ≤ gb256)); have n8_ := aM ((by rw [hg]; exact Nat.ne_of_lt (blk_lt (g := gb245) aK) : gb245 ≠ gb256)); have n9_ := aM ((by rw [hg]; exact Nat.ne_of_gt (blk_lt (g := gb245) aK) : gb256 ≠ gb245)); have n10_ := aM ((by rw [hg]; exact Nat.ne_of_lt (blk_lt (g := gb246) aK) : gb246 ≠ gb256)); have n11_ := aM ((by rw [hg]; exact Nat.ne_of_gt (blk_lt (g := gb246) aK) : gb256 ≠ gb246)); clear HO252; clear HO255; clear BK245; clear BK246; clear HB; have HO252 := n0_; have HO255 := n1_; have BK245 := n2_; have BK246 := n3_; have HB := n4_; have BK256 := n5_; have GW256 := n6_; have GE256 := n7_; have NB245_256 := n8_; have NB256_245 := n9_; have NB246_256 := n10_; have NB256_246 := n11_; clear n0_ n1_ n2_ n3_ n4_ n5_ n6_ n7_ n8_ n9_ n10_ n11_; clear hb hbox hg; have hnb15 := NB256_245.out; have hnc15 := NB245_256.out; have hnb16 := NB256_246.out; have hnc16 := NB246_256.out; have hcz17_0 : w14.cell? ⟨gb256, 0, none⟩ = some (.slice none 0 0) := (blk_cell BK256.out 0).trans rfl; have hcz17_1 : w14.cell? ⟨gb256, 1, none⟩ = some (.slice none 0 0) := (blk_cell BK256.out 1).trans rfl; have hfz17_0 := blk_frozen BK256.out 0; have hfz17_1 := blk_frozen BK256.out 1; have hcz18_0 : w14.cell? ⟨gb245, 0, none⟩ = some (.slice A0_0 l0_0.length c0_0) := (blk_cell BK245.out 0).trans rfl; have hcz18_1 : w14.cell? ⟨gb245, 1, none⟩ = some (.slice A0_1 l0_1.length c0_1) := (blk_cell BK245.out 1).trans rfl; have hfz18_0 := blk_frozen BK245.out 0; have hfz18_1 := blk_frozen BK245.out 1))
  go_loopg [15] k (fun kq v15 w' => ∃ (x15_1 : Int) (x257001_1 : List (S45)) (u257001 : Value), v15 = .int .i64 x15_1 ∧ Aside0 (impl_copyDatabase.l0 kq l0_1 (l0_1.length : Int) x15_1 y250 x257001_1 = some (r1, r2)) ∧ Aside0 (kq ≤ k) ∧ Aside0 (Kd.R k74 74 w' w.heap.size (fun _ => True) (.slice Ao13 y250.length co13) y250) ∧ Aside0 (Kd.S k45 45 w' w.heap.size (fun _ => True) u257001 x257001_1) ∧ Aside0 (w'.heap[gb245]? = some (.cells #[(.slice A0_0 l0_0.length c0_0), (.slice A0_1 l0_1.length c0_1)] 31 (0, 0))) ∧ Aside0 (w'.heap[gb246]? = some (.cells #[(.slice none 0 0), (.slice none 0 0)] 31 (0, 0))) ∧ Aside0 (w'.heap[gb256]? = some (.cells #[(.slice Ao13 y250.length co13), u257001] 31 (0, 0))) ∧ Aside0 (Below w.heap.size w w'))
  case atStart => exact ⟨(0), (y253), (.slice Ao12 y253.length co12), aX, H', ⟨Nat.le_refl _⟩, ⟨by (with_reducible repeat apply pR); exact Kd.R_mono (Kd.R_far (p := ⟨gb256, 1, none⟩) (Kd.R_far (p := ⟨gb256, 0, none⟩) (Kd.R_types HO252.out BK256.out (by decide)) (fun _ hk => hk.2) (.slice Ao13 y250.length co13)) (fun _ hk => hk.2) (.slice Ao12 y253.length co12)) (fun _ hk => trivial)⟩, ⟨by (with_reducible repeat apply pS); exact Kd.S_mono (Kd.S_far (p := ⟨gb256, 1, none⟩) (Kd.S_far (p := ⟨gb256, 0, none⟩) (Kd.S_types HO255.out BK256.out (by decide)) (fun _ hk => hk.2) (.slice Ao13 y250.length co13)) (fun _ hk => hk.2) (.slice Ao12 y253.length co12)) (fun _ hk => trivial)⟩, ⟨by (with_reducible repeat refine pB ?_); refine blk_far ?_ NB245_256.out _; (with_reducible repeat refine pB ?_); refine blk_far ?_ NB245_256.out _; (with_reducible repeat refine pB ?_); exact BK245.out⟩, ⟨by (with_reducible repeat refine pB ?_); refine blk_far ?_ NB246_256.out _; (with_reducible repeat refine pB ?_); refine blk_far ?_ NB246_256.out _; (with_reducible repeat refine pB ?_); exact BK246.out⟩, ⟨by (with_reducible repeat refine pB ?_); refine blk_put (cs := #[.slice Ao13 y250.length co13, .slice none 0 0]) ?_ 1 _ rfl; (with_reducible repeat refine pB ?_); refine blk_put (cs := #[.slice none 0 0, .slice none 0 0]) ?_ 0 _ rfl; (with_reducible repeat refine pB ?_); exact BK256.out⟩, ⟨aG⟩⟩
  case round =>
   clear H'
   try clear c1
   try clear c2
   try clear p2
   try clear c3
   try clear c7
   try clear c15
   try clear c16
   try clear hcz17_0
   try clear hcz17_1
   try clear hcz18_0
   try clear hcz18_1
   try clear hcz8_0
   try clear hcz8_1
   try clear hfz17_0
   try clear hfz17_1
   try clear hfz18_0
   try clear hfz18_1
   try clear hfz8_0
   try clear hfz8_1
   obtain ⟨x15_1, x257001_1, u257001, rfl, HA, HK1, HO_257000, HO_257001, BK245, BK246, BK256, HB⟩ := hrel
   cases gk with
   | zero => exact absurd HA.out (by simp [impl_copyDatabase.l0])
   | succ k1 =>
    have H := HA.out
    clear HA
    simp only [impl_copyDatabase.l0] at H
    by_cases c19 : x15_1 < (l0_1.length : Int)
    ·rw [if_pos c19] at H
     have c19b0 : decide (x15_1 < (l0_1.length : Int)) = true := decide_eq_true c19
     clear c19
     by_cases c20 : 0 ≤ x15_1
     ·rw [if_pos c20] at H
      have c20b0 : decide (0 ≤ x15_1) = true := decide_eq_true c20
      clear c20
      by_cases c21 : x15_1 < (l0_1.length : Int)
      ·rw [if_pos c21] at H
       have c21b0 : decide (x15_1 < (l0_1.length : Int)) = true := decide_eq_true c21
       clear c21
       obtain ⟨y259, hy259⟩ : ∃ y_ : List Int, y_ = (([] : List Int)) := ⟨_, rfl⟩
       first | replace H := bY hy259 H | rw [← hy259] at H
       have Ny259 := aM hy259
       clear hy259
       by_cases c22 : y259.length + ((rd_T45 l0_1 x15_1).f1).length < 17592186044416
       ·rw [if_pos c22] at H
        have LMc22 := aM c22
        clear c22
        obtain ⟨y262, hy262⟩ : ∃ y_ : List Int, y_ = (y259 ++ ((rd_T45 l0_1 x15_1).f1)) := ⟨_, rfl⟩
        first | replace H := bY hy262 H | rw [← hy262] at H
        have Ny262 := aM hy262
        clear hy262
        by_cases c23 : x257001_1.length < 4398046511104
        ·rw [if_pos c23] at H
         have LMc23 := aM c23
         clear c23
         obtain ⟨y265, hy265⟩ : ∃ y_ : List (S45), y_ = (x257001_1 ++ [(⟨(rd_T45 l0_1 x15_1).f0, y262⟩ : S45)]) := ⟨_, rfl⟩
         first | replace H := bY hy265 H | rw [← hy265] at H
         have Ny265 := aM hy265
         clear hy265
         have H' := aM H
         clear H
         have p257 : 0 ≤ (x15_1 : Int) := aD
         have q257 : x15_1 < (l0_1.length : Int) := aD
         obtain ⟨ad257, A257_1, c257_1, e257, hx257_0, hx257_1, hl257_1, hi257_1⟩ := at_T45 HR0_1.out x15_1 p257 q257
         cases e257
         replace hx257_0 := (HB.out.cell (World.block_lt_of_cell? w _ hx257_0)).trans hx257_0
         replace hx257_1 := (HB.out.cell (World.block_lt_of_cell? w _ hx257_1)).trans hx257_1
         have HR257_1 := aM hi257_1
         have HC257_1 := aM hl257_1
         clear hi257_1 hl257_1
         replace p257 := eq_true p257
         replace q257 := eq_true q257
         try go_wp2_with (first | ((with_reducible refine gate_dst (N := 5) rfl ?_); refine bE 5 (cs := #[.int .i64 0, .slice none 0 0]) (t := 45) ?_; intro gb258 hg w24 hbox hb; have n0_ := aM (Kd.R_below (aR HO_257000) hb); have n1_ := aM (Kd.S_below (Kd.S_elderB (aS HO_257001) gb258 (Nat.le_of_eq hg.symm)) hb); have n2_ := aM (kB gb245 #[.slice A0_0 l0_0.length c0_0, .slice (some ad257) l0_1.length c0_1] 31 hb); have n3_ := aM (kB gb246 #[.slice none 0 0, .slice none 0 0] 31 hb); have n4_ := aM (kB gb256 #[.slice Ao13 y250.length co13, u257001] 31 hb); have n5_ := aM (below_step aG hb); have n6_ := aM (hbox); have n7_ := aM ((by rw [hg]; exact (below_size aG) : w.heap.size ≤ gb258)); have n8_ := aM ((by rw [hg]; exact (below_size aG) : w.heap.size ≤ gb258)); have n9_ := aM ((by rw [hg]; exact Nat.ne_of_lt (blk_lt (g := gb245) aK) : gb245 ≠ gb258)); have n10_ := aM ((by rw [hg]; exact Nat.ne_of_gt (blk_lt (g := gb245) aK) : gb258 ≠ gb245)); have n11_ := aM ((by rw [hg]; exact Nat.ne_of_lt (blk_lt (g := gb246) aK) : gb246 ≠ gb258)); have n12_ := aM ((by rw [hg]; exact Nat.ne_of_gt (blk_lt (g := gb246) aK) : gb258 ≠ gb246)); have n13_ := aM ((by rw [hg]; exact Nat.ne_of_lt (blk_lt (g := gb256) aK) : gb256 ≠ gb258)); have n14_ := aM ((by rw [hg]; exact Nat.ne_of_gt (blk_lt (g := gb256) aK) : gb258 ≠ gb256)); clear HO_257000; clear HO_257001; clear BK245; clear BK246; clear BK256; clear HB; have HO_257000 := n0_; have HO_257001 := n1_; have BK245 := n2_; have BK246 := n3_; have BK256 := n4_; have HB := n5_; have BK258 := n6_; have GW258 := n7_; have GE258 := n8_; have NB245_258 := n9_; have NB258_245 := n10_; have NB246_258 := n11_; have NB258_246 := n12_; have NB256_258 := n13_; have NB258_256 := n14_; clear n0_ n1_ n2_ n3_ n4_ n5_ n6_ n7_ n8_ n9_ n10_ n11_ n12_ n13_ n14_; clear hb hbox hg; have hnb25 := NB258_245.out; have hnc25 := NB245_258.out; have hnb26 := NB258_246.out; have hnc26 := NB246_258.out; have hnb27 := NB258_256.out; have hnc27 := NB256_258.out; have hcz28_0 : w24.cell? ⟨gb258, 0, none⟩ = some (.int .i64 0) := (blk_cell BK258.out 0).trans rfl; have hcz28_1 : w24.cell? ⟨gb258, 1, none⟩ = some (.slice none 0 0) := (blk_cell BK258.out 1).trans rfl; have hfz28_0 := blk_frozen BK258.out 0; have hfz28_1 := blk_frozen BK258.out 1))
         have n0_ : Aside0 (Kd.R k74 74 ((w24.setCell ⟨gb258, 0, none⟩ (.int .i64 ((rd_T45 l0_1 x15_1).f0))).setCell ⟨gb258, 1, none⟩ (.slice A257_1 ((rd_T45 l0_1 x15_1).f1).length c257_1)) w.heap.size (fun _ => True) (.slice Ao13 y250.length co13) y250) := ⟨by (with_reducible repeat apply pR); exact Kd.R_mono (Kd.R_far (p := ⟨gb258, 1, none⟩) (Kd.R_far (p := ⟨gb258, 0, none⟩) (Kd.R_types HO_257000.out BK258.out (by decide)) (fun _ hk => hk.2) (.int .i64 ((rd_T45 l0_1 x15_1).f0))) (fun _ hk => hk.2) (.slice A257_1 ((rd_T45 l0_1 x15_1).f1).length c257_1)) (fun _ hk => trivial)⟩
         have n1_ : Aside0 (Kd.S k45 45 ((w24.setCell ⟨gb258, 0, none⟩ (.int .i64 ((rd_T45 l0_1 x15_1).f0))).setCell ⟨gb258, 1, none⟩ (.slice A257_1 ((rd_T45 l0_1 x15_1).f1).length c257_1)) w.heap.size (fun k_ => k_ ≠ gb258) u257001 x257001_1) := ⟨by (with_reducible repeat apply pS); exact Kd.S_mono (Kd.S_far (p := ⟨gb258, 1, none⟩) (Kd.S_far (p := ⟨gb258, 0, none⟩) (Kd.S_mono HO_257001.out (fun k_ hk => (⟨hk, hk.2⟩ : _ ∧ k_ ≠ gb258))) (fun _ hk => hk.2) (.int .i64 ((rd_T45 l0_1 x15_1).f0))) (fun _ hk => hk.2) (.slice A257_1 ((rd_T45 l0_1 x15_1).f1).length c257_1)) (fun _ hk => hk.1.2)⟩
         have n2_ : Aside0 (((w24.setCell ⟨gb258, 0, none⟩ (.int .i64 ((rd_T45 l0_1 x15_1).f0))).setCell ⟨gb258, 1, none⟩ (.slice A257_1 ((rd_T45 l0_1 x15_1).f1).length c257_1)).heap[gb245]? = some (.cells #[.slice A0_0 l0_0.length c0_0, .slice (some ad257) l0_1.length c0_1] 31 (0, 0))) := ⟨by (with_reducible repeat refine pB ?_); refine blk_far ?_ NB245_258.out _; (with_reducible repeat refine pB ?_); refine blk_far ?_ NB245_258.out _; (with_reducible repeat refine pB ?_); exact BK245.out⟩
         have n3_ : Aside0 (((w24.setCell ⟨gb258, 0, none⟩ (.int .i64 ((rd_T45 l0_1 x15_1).f0))).setCell ⟨gb258, 1, none⟩ (.slice A257_1 ((rd_T45 l0_1 x15_1).f1).length c257_1)).heap[gb246]? = some (.cells #[.slice none 0 0, .slice none 0 0] 31 (0, 0))) := ⟨by (with_reducible repeat refine pB ?_); refine blk_far ?_ NB246_258.out _; (with_reducible repeat refine pB ?_); refine blk_far ?_ NB246_258.out _; (with_reducible repeat refine pB ?_); exact BK246.out⟩
         have n4_ : Aside0 (((w24.setCell ⟨gb258, 0, none⟩ (.int .i64 ((rd_T45 l0_1 x15_1).f0))).setCell ⟨gb258, 1, none⟩ (.slice A257_1 ((rd_T45 l0_1 x15_1).f1).length c257_1)).heap[gb256]? = some (.cells #[.slice Ao13 y250.length co13, u257001] 31 (0, 0))) := ⟨by (with_reducible repeat refine pB ?_); refine blk_far ?_ NB256_258.out _; (with_reducible repeat refine pB ?_); refine blk_far ?_ NB256_258.out _; (with_reducible repeat refine pB ?_); exact BK256.out⟩
         have n5_ : Aside0 (((w24.setCell ⟨gb258, 0, none⟩ (.int .i64 ((rd_T45 l0_1 x15_1).f0))).setCell ⟨gb258, 1, none⟩ (.slice A257_1 ((rd_T45 l0_1 x15_1).f1).length c257_1)).heap[gb258]? = some (.cells #[.int .i64 ((rd_T45 l0_1 x15_1).f0), .slice A257_1 ((rd_T45 l0_1 x15_1).f1).length c257_1] 45 (0, 0))) := ⟨by (with_reducible repeat refine pB ?_); refine blk_put (cs := #[.int .i64 ((rd_T45 l0_1 x15_1).f0), .slice none 0 0]) ?_ 1 _ rfl; (with_reducible repeat refine pB ?_); refine blk_put (cs := #[.int .i64 0, .slice none 0 0]) ?_ 0 _ rfl; (with_reducible repeat refine pB ?_); exact BK258.out⟩
         have n6_ : Aside0 (Below w.heap.size w ((w24.setCell ⟨gb258, 0, none⟩ (.int .i64 ((rd_T45 l0_1 x15_1).f0))).setCell ⟨gb258, 1, none⟩ (.slice A257_1 ((rd_T45 l0_1 x15_1).f1).length c257_1))) := ⟨aG⟩
         (try clear HO_257000)
         (try clear HO_257001)
         (try clear BK245)
         (try clear BK246)
         (try clear BK256)
         (try clear BK258)
         (try clear HB)
         generalize ((w24.setCell ⟨gb258, 0, none⟩ (.int .i64 ((rd_T45 l0_1 x15_1).f0))).setCell ⟨gb258, 1, none⟩ (.slice A257_1 ((rd_T45 l0_1 x15_1).f1).length c257_1)) = w29 at n0_ n1_ n2_ n3_ n4_ n5_ n6_ ⊢
         have HO_257000 := n0_
         have HO_257001 := n1_
         have BK245 := n2_
         have BK246 := n3_
         have BK256 := n4_
         have BK258 := n5_
         have HB := n6_
         clear n0_ n1_ n2_ n3_ n4_ n5_ n6_
         replace HO_257000 := aM (Kd.R_drew HO_257000.out)
         replace HO_257001 := aM (Kd.S_drew HO_257001.out)
         replace BK245 := aM (blk_drew BK245.out)
         replace BK246 := aM (blk_drew BK246.out)
         replace BK256 := aM (blk_drew BK256.out)
         replace BK258 := aM (blk_drew BK258.out)
         replace HB := aM (below_drew1 HB.out)
         refine start_ (n := 13) (S := fun w' => w'.cell? ⟨gb256, 0, none⟩ = some (.slice Ao13 y250.length co13) ∧ w'.cell? ⟨gb256, 1, none⟩ = some (u257001) ∧ w'.cell? ⟨gb258, 0, none⟩ = some (.int .i64 ((rd_T45 l0_1 x15_1).f0)) ∧ w'.cell? ⟨gb258, 1, none⟩ = some (.slice A257_1 ((rd_T45 l0_1 x15_1).f1).length c257_1)) (ds := [12]) #[false, false, false, false, false, false, false, false, false, false, false, false, false] (by kernel_rfl) rfl rfl ⟨(blk_cell BK256.out 0).trans rfl, (blk_cell BK256.out 1).trans rfl, (blk_cell BK258.out 0).trans rfl, (blk_cell BK258.out 1).trans rfl⟩ (fun hHeld => ?_); refine with_tabW impl_copyDatabase.tab5 impl_copyDatabase.bits5 (fun HT_ HW_ => ?_)
         generalize w29.drew = w30 at HO_257000 HO_257001 BK245 BK246 BK256 BK258 HB hHeld ⊢
         refine pU 0 19 ?_
         refine pU 2 21 ?_
         refine pU 5 24 ?_
         refine tU4 1 20 hHeld ?_
         refine tU4 3 22 hHeld ?_
         refine tU4 6 25 hHeld ?_
         refine oU 4 23 (fun K hK => ?_)
         refine Kd.R_lit_step (Kd.int .i64) _ 3 ?hg (N := 23) ?hd (xs := ([] : List Int)) (inner := []) (ok := fun _ => True) (okp := fun _ => True) ?hr ?hp (fun _ hk => hk) trivial (Below.refl _ _) (Nat.le_refl _) (by simp) ?_; (case hd => rfl); (case hg => rfl); (case hr => first | (go_simp; done) | (go_simp; rfl)); (case hp => exact (Reps.none _ _))
         intro v260 w31 ho32 hb hg_ hnew_
         clear hg_ hnew_
         (first | rw [← Ny259.out] at ho32 | (simp only [Int.reduceToNat] at ho32; rw [← Ny259.out] at ho32))
         have n0_ := aM (Kd.R_below (aR HO_257000) hb)
         have n1_ := aM (Kd.S_elder' (aS HO_257001) (Kd.R_base ho32) hb)
         have n2_ := aM (Kd.R_lower ho32 (below_size aG))
         have n3_ := aM (kB gb245 #[.slice A0_0 l0_0.length c0_0, .slice (some ad257) l0_1.length c0_1] 31 hb)
         have n4_ := aM (kB gb246 #[.slice none 0 0, .slice none 0 0] 31 hb)
         have n5_ := aM (kB gb256 #[.slice Ao13 y250.length co13, u257001] 31 hb)
         have n6_ := aM (kB gb258 #[.int .i64 ((rd_T45 l0_1 x15_1).f0), .slice A257_1 ((rd_T45 l0_1 x15_1).f1).length c257_1] 45 hb)
         have n7_ := aM (below_step aG hb)
         clear HO_257000
         clear HO_257001
         clear BK245
         clear BK246
         clear BK256
         clear BK258
         clear HB
         have HO_257000 := n0_
         have HO_257001 := n1_
         have HO261 := n2_
         have BK245 := n3_
         have BK246 := n4_
         have BK256 := n5_
         have BK258 := n6_
         have HB := n7_
         clear n0_ n1_ n2_ n3_ n4_ n5_ n6_ n7_
         clear hb ho32
         refine hK.out _ _ ⟨(blk_cell BK256.out 0).trans rfl, (blk_cell BK256.out 1).trans rfl, (blk_cell BK258.out 0).trans rfl, (blk_cell BK258.out 1).trans rfl⟩ (fun hHeld => ?_)
         clear hK K
         refine nU 23 ?_
         refine oU 7 26 (fun K hK => ?_)
         refine Kd.R_append_rows_step (Kd.int .i64) (w0 := w) w.heap.size (by rfl) (.tmp 23) (.tmp 25) 26 3 (.int .i64 0) 8 rfl Try.underlying26 info3 rfl (by decide) (by omega) v260 y259 ((rd_T45 l0_1 x15_1).f1) _ _ _ (fun _ => True) (fun _ => False) rfl rfl ?aO ?aR (fun _ _ h => h) (fun _ h => h.elim) ?aF ?aB ?aS ?aL ?_
         (case aR => exact aC)
         (case aB => exact aG)
         (case aF => exact (fun _ _ => trivial))
         (case aO => exact (aR HO261))
         (case aS => exact (below_size aG))
         (case aL => have := LMc22.out; omega)
         intro v263 w33 ho hb hg hat
         rw [← Ny262.out] at ho
         have n0_ := aM (Kd.R_over' (aR HO_257000) (Kd.R_typed (aR HO261)) (by decide) hg)
         have n1_ := aM (Kd.S_after (ok := (fun k_ => k_ ≠ gb258)) (aS HO_257001) hg hat)
         have n2_ := aM (blk_grown (g := gb245) aK hg (Kd.R_ne HO261.out BK245.out (by decide)))
         have n3_ := aM (blk_grown (g := gb246) aK hg (Kd.R_ne HO261.out BK246.out (by decide)))
         have n4_ := aM (blk_grown (g := gb256) aK hg (Kd.R_ne HO261.out BK256.out (by decide)))
         have n5_ := aM (blk_grown (g := gb258) aK hg (Kd.R_ne HO261.out BK258.out (by decide)))
         have n6_ := aM (hb)
         have n7_ := aM (ho)
         clear HO_257000
         clear HO_257001
         clear BK245
         clear BK246
         clear BK256
         clear BK258
         clear HB
         clear HO261
         have HO_257000 := n0_
         have HO_257001 := n1_
         have BK245 := n2_
         have BK246 := n3_
         have BK256 := n4_
         have BK258 := n5_
         have HB := n6_
         have HO264 := n7_
         clear n0_ n1_ n2_ n3_ n4_ n5_ n6_ n7_
         clear ho hb hg hat
         obtain ⟨Ao34, co34, eo34⟩ := Kd.R_slice HO264.out
         (first | subst eo34 | (injection eo34 with f1_ f2_ f3_; have f4_ := f1_.symm; have f5_ := f3_.symm; clear f1_ f2_ f3_; subst f4_; subst f5_))
         refine hK.out _ _ ⟨(blk_cell BK256.out 0).trans rfl, (blk_cell BK256.out 1).trans rfl, (blk_cell BK258.out 0).trans rfl, (blk_cell BK258.out 1).trans rfl⟩ (fun hHeld => ?_)
         clear hK K
         refine nU 26 ?_
         refine pU 8 27 ?_
         refine oU 9 28 (fun K hK => ?_)
         refine value_ (w1 := ?_) (v := ?_) (by rfl) rfl ?_ ?_
         rotate_left 2
         ·go_simp
          constructor
          ·rfl
          ·rfl
         refine hK.out _ _ ⟨(blk_cell (blk_alloc BK256.out _) 0).trans rfl, (blk_cell (blk_alloc BK256.out _) 1).trans rfl, (blk_cell (blk_alloc BK258.out _) 0).trans rfl, (blk_cell (blk_alloc BK258.out _) 1).trans rfl⟩ (fun hHeld => ?_)
         clear hK K
         refine nU 28 ?_
         refine oU 10 29 (fun K hK => ?_)
         refine Kd.S_append_step k45 (w0 := w) w.heap.size (by rfl) (.tmp 20) (.tmp 28) 29 45 (.agg #[(.int .i64 0), (.slice none 0 0)]) 32 rfl Try.underlying29 info45 rfl (by decide) (by omega) u257001 x257001_1 (⟨(rd_T45 l0_1 x15_1).f0, y262⟩ : S45) [.int .i64 ((rd_T45 l0_1 x15_1).f0), .slice Ao34 y262.length co34] (fun k_ => k_ ≠ gb258) (fun k_ => some k_ = (.slice Ao34 y262.length co34 : Value).ownBlock) rfl rfl ?aP (fun k_ hk_ => ((Kd.R_mono (ok' := fun k_ => ((fun k_ => k_ ≠ gb258)) k_ ∧ some k_ ≠ (u257001 : Value).ownBlock) (Kd.R_types (Kd.R_apart' (HO264.out) (Kd.S_typed HO_257001.out) (by decide)) BK258.out (by decide)) (fun k_ hk => ⟨hk.2, hk.1.2⟩))).1 k_ hk_.symm) ?aF ?aO ?aB ?aS ?aL ?_
         (case aP => exact k45_mkM _ _ _ (⟨(rd_T45 l0_1 x15_1).f0, y262⟩ : S45) (Kd.R_mono (Kd.R_tight rfl (Kd.R_mono (ok' := fun k_ => ((fun k_ => k_ ≠ gb258)) k_ ∧ some k_ ≠ (u257001 : Value).ownBlock) (Kd.R_types (Kd.R_apart' (HO264.out) (Kd.S_typed HO_257001.out) (by decide)) BK258.out (by decide)) (fun k_ hk => ⟨hk.2, hk.1.2⟩))) (fun _ h_ => h_)))
         (case aB => exact aG)
         (case aF => exact (fun k_ hk => Kd.freshB (g := gb258) aK k_ hk))
         (case aO => exact (by (with_reducible repeat apply pS); exact Kd.S_mono HO_257001.out (fun k_ hk => ⟨hk.1, fun e_ => hk.2 e_⟩)))
         (case aS => exact (below_size aG))
         (case aL => have := LMc23.out; omega)
         intro v266 w35 ho hb hg hat
         rw [← Ny265.out] at ho
         have n0_ := aM (Kd.R_over' (aR HO_257000) (Kd.S_typed (aS HO_257001)) (by decide) hg)
         have n1_ := aM (blk_grown (g := gb245) aK hg (Kd.S_ne HO_257001.out BK245.out (by decide)))
         have n2_ := aM (blk_grown (g := gb246) aK hg (Kd.S_ne HO_257001.out BK246.out (by decide)))
         have n3_ := aM (blk_grown (g := gb256) aK hg (Kd.S_ne HO_257001.out BK256.out (by decide)))
         have n4_ := aM (blk_grown (g := gb258) aK hg (Kd.S_away HO_257001.out (fun _ hk => hk.1)))
         have n5_ := aM (hb)
         have n6_ := aM (ho)
         clear HO_257000
         clear BK245
         clear BK246
         clear BK256
         clear BK258
         clear HB
         clear HO_257001
         clear HO264
         have HO_257000 := n0_
         have BK245 := n1_
         have BK246 := n2_
         have BK256 := n3_
         have BK258 := n4_
         have HB := n5_
         have HO267 := n6_
         clear n0_ n1_ n2_ n3_ n4_ n5_ n6_
         clear ho hb hg hat
         obtain ⟨Ao36, co36, eo36⟩ := Kd.S_slice HO267.out
         (first | subst eo36 | (injection eo36 with f1_ f2_ f3_; have f4_ := f1_.symm; have f5_ := f3_.symm; clear f1_ f2_ f3_; subst f4_; subst f5_))
         refine hK.out _ _ ⟨(blk_cell BK256.out 0).trans rfl, (blk_cell BK256.out 1).trans rfl, (blk_cell BK258.out 0).trans rfl, (blk_cell BK258.out 1).trans rfl⟩ (fun hHeld => ?_)
         clear hK K
         refine nU 29 ?_
         refine pU 11 30 ?_
         refine last_ (i := 12) (N := none) #[true, true, true, true, true, true, true, true, true, true, true, true, true] rfl rfl (one_of HT_.out (by kernel_rfl)) (by decide) (fun K hK => ?_)
         have hs37 : w35.cell? ⟨gb256, 1, none⟩ = some (u257001) := (blk_cell BK256.out 1).trans rfl
         have hfs37 := blk_frozen BK256.out 1
         have hns37_0 := NB245_256.out
         have hns37_1 := NB246_256.out
         have hns37_3 := NB258_256.out
         have hms37_0 := NB256_245.out
         have hms37_1 := NB256_246.out
         have hms37_3 := NB256_258.out
         refine skip_ (w1 := ?_) (by rfl) rfl ?_ ?_
         rotate_left
         ·go_simp
          rfl
         refine hK.out _ _ ?_
         clear hK K
         refine done_ (done_of HT_.out (by kernel_rfl)) ?_
         try go_wp2
         go_roundg k1
         case measure => have := HK1.out; omega
         case rel => exact ⟨(wrap64 (x15_1 + 1)), (y265), (.slice Ao36 y265.length co36), aX, H', ⟨by have := HK1.out; omega⟩, ⟨by (with_reducible repeat apply pR); exact Kd.R_mono (Kd.R_far (p := ⟨gb256, 1, none⟩) (Kd.R_types HO_257000.out BK256.out (by decide)) (fun _ hk => hk.2) (.slice Ao36 y265.length co36)) (fun _ hk => trivial)⟩, ⟨by (with_reducible repeat apply pS); exact Kd.S_mono (Kd.S_far (p := ⟨gb256, 1, none⟩) (Kd.S_types HO267.out BK256.out (by decide)) (fun _ hk => hk.2) (.slice Ao36 y265.length co36)) (fun _ hk => trivial)⟩, ⟨by (with_reducible repeat refine pB ?_); refine blk_far ?_ NB245_256.out _; (with_reducible repeat refine pB ?_); exact BK245.out⟩, ⟨by (with_reducible repeat refine pB ?_); refine blk_far ?_ NB246_256.out _; (with_reducible repeat refine pB ?_); exact BK246.out⟩, ⟨by (with_reducible repeat refine pB ?_); refine blk_put (cs := #[.slice Ao13 y250.length co13, u257001]) ?_ 1 _ rfl; (with_reducible repeat refine pB ?_); exact BK256.out⟩, ⟨aG⟩⟩
        ·rw [if_neg c23] at H
         exact absurd H (by simp)
       ·rw [if_neg c22] at H
        exact absurd H (by simp)
      ·rw [if_neg c21] at H
       exact absurd H (by simp)
     ·rw [if_neg c20] at H
      exact absurd H (by simp)
    ·rw [if_neg c19] at H
     have c19b0 : decide (x15_1 < (l0_1.length : Int)) = false := decide_eq_false c19
     clear c19
     simp only [Option.some.injEq, Prod.mk.injEq] at H
     obtain ⟨rfl, rfl⟩ := H
     have hnb38 := NB256_245.out
     have hnc38 := NB245_256.out
     have hnb39 := NB256_246.out
     have hnc39 := NB246_256.out
     have hcz40_0 : wr.cell? ⟨gb256, 0, none⟩ = some (.slice Ao13 y250.length co13) := (blk_cell BK256.out 0).trans rfl
     have hcz40_1 : wr.cell? ⟨gb256, 1, none⟩ = some (u257001) := (blk_cell BK256.out 1).trans rfl
     have hfz40_0 := blk_frozen BK256.out 0
     have hfz40_1 := blk_frozen BK256.out 1
     have hnb41 := NB246_245.out
     have hnc41 := NB245_246.out
     have hcz42_0 : wr.cell? ⟨gb246, 0, none⟩ = some (.slice none 0 0) := (blk_cell BK246.out 0).trans rfl
     have hcz42_1 : wr.cell? ⟨gb246, 1, none⟩ = some (.slice none 0 0) := (blk_cell BK246.out 1).trans rfl
     have hfz42_0 := blk_frozen BK246.out 0
     have hfz42_1 := blk_frozen BK246.out 1
     obtain ⟨Ao43, co43, eo43⟩ := Kd.S_slice HO_257001.out
     subst eo43
     go_wp2
     refine bodyPost_ret (results_cell_row rfl _ _ gb246 31 #[.slice Ao13 y250.length co13, .slice Ao43 x257001_1.length co43] (0, 0) _ rfl (bP2 BK246.out) Try.underlying31 rfl (by kernel_rfl)) rfl ?_
     exact ⟨_, _, aE, by (with_reducible repeat apply pR); exact Kd.R_mono (Kd.R_far (p := ⟨gb246, 1, none⟩) (Kd.R_far (p := ⟨gb246, 0, none⟩) (Kd.R_types HO_257000.out BK246.out (by decide)) (fun _ hk => hk.2) (.slice Ao13 y250.length co13)) (fun _ hk => hk.2) (.slice Ao43 x257001_1.length co43)) (fun _ hk => trivial), by (with_reducible repeat apply pS); exact Kd.S_mono (Kd.S_far (p := ⟨gb246, 1, none⟩) (Kd.S_far (p := ⟨gb246, 0, none⟩) (Kd.S_types HO_257001.out BK246.out (by decide)) (fun _ hk => hk.2) (.slice Ao13 y250.length co13)) (fun _ hk => hk.2) (.slice Ao43 x257001_1.length co43)) (fun _ hk => trivial), aG⟩
 ·rw [if_neg c2] at H
  exact absurd H (by simp)

-- NOT PRINTED: function 71 (impl_Fact_71)

-- NOT PRINTED: function 89 (impl_Fact_89)

-- NOT PRINTED: function 81 (impl_Fact_81)

-- NOT PRINTED: function 72 (impl_Fact_72)

end Go.Proofs.Yteddnlklfjpgoaa.PFnInsertDelete
