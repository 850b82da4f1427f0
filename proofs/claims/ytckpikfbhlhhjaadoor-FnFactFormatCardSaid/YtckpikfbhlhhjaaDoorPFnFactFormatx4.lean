import Derived.Test.YtckpikfbhlhhjaaDoorPFnFactFormatx0
import Derived.Test.YtckpikfbhlhhjaaDoorPFnFactFormatx3
namespace Go.Proofs.YtckpikfbhlhhjaaDoor.PFnFactFormat
open Go.RowKit Go.Proofs.YtckpikfbhlhhjaaDoorW.PrintWords Go.Proofs.YtckpikfbhlhhjaaDoorW.PrintLast Go.Proofs.YtckpikfbhlhhjaaDoorW.PrintMore
attribute [local go_sem] max2_int min2_int max_two min_two max_three min_three max_four min_four
set_option linter.unusedVariables false
set_option linter.unusedSimpArgs false

/-! ### impl_FormatFact: function 15 -/
def impl_FormatFact.l0 : Nat → List (S68) → List ByteArray → List Int → Int → Int → Int → List Int → Option (ByteArray)
 | 0, _, _, _, _, _, _, _ => none
 | k + 1, x0, x5, x15, x16, x17, x225000, x225001 => if x17 < x16 then (if 0 ≤ x17 then (if x17 < (x15.length : Int) then ((impl_FormatInt.f (rd x15 x17)).bind fun t230 => (if x5.length < 8796093022208 then (impl_FormatFact.l0 k x0 (x5 ++ [t230]) x15 x16 (wrap64 (x17 + 1)) x225000 x225001) else (none))) else (none)) else (none)) else (if 0 ≤ x225000 then (if x225000 < (x0.length : Int) then ((impl_barred.f x5 ((rd_T68 x0 x225000).f2)).bind fun t236 => (if ((rd_T68 x0 x225000).f0).size + t236.size ≤ 9223372036854775807 then (some (((rd_T68 x0 x225000).f0) ++ t236)) else (none))) else (none)) else (none))
def impl_FormatFact.f (k : Nat) (l0 : List (S68)) (a1_0 : Int) (l1_1 : List Int) : Option (ByteArray) := (impl_IsValidFact.f l0 a1_0 l1_1).bind fun t225 => (if t225 = true then (impl_FormatFact.l0 k l0 (([] : List ByteArray)) l1_1 (l1_1.length : Int) 0 a1_0 l1_1) else (some (⟨#[]⟩ : ByteArray)))
def impl_FormatFact.T10 : Bool × List (List Nat × List Nat) := (true, [([], []), ([0], [0]), ([], []), ([], []), ([3], [3]), ([2, 4], [2, 4]), ([1, 5], [1, 5]), ([6, 5, 0, 1, 2, 3, 4, 5, 6], [6])])
def impl_FormatFact.B10 : List Nat := [0, 1, 0, 0, 8, 28, 63, 127]
theorem impl_FormatFact.tab10 : rtab .any (opsOf Tryd.f15 10) = impl_FormatFact.T10 := by kernel_rfl
theorem impl_FormatFact.bits10 : waitsOk impl_FormatFact.T10.2 impl_FormatFact.B10 = true := by kernel_rfl
set_option maxHeartbeats 8000000 in
set_option maxRecDepth 100000 in
theorem impl_FormatFact.calls (k : Nat) (A0 : Option Addr) (c0 : Nat) (l0 : List (S68)) (a1_0 : Int) (A1_1 : Option Addr) (c1_1 : Nat) (l1_1 : List Int) (r : ByteArray) (w : World) (hr0 : Kd.C k68 w A0 l0.length l0) (hc0 : l0.length ≤ c0) (hr1_1 : Kd.C (Kd.int .i64) w A1_1 l1_1.length l1_1) (hc1_1 : l1_1.length ≤ c1_1) (h : impl_FormatFact.f k l0 a1_0 l1_1 = some r) (hp_ : Go.Proofs.YtckpikfbhlhhjaaDoor.Shelf.Pow w) :
  Calls Tryd.prog 15 #[.slice A0 l0.length c0, .agg #[.int .i64 a1_0, .slice A1_1 l1_1.length c1_1]] w fun e w' => e = .returned (.string r) ∧ Below w.heap.size w w' := by
 have hu39 := Tryd.underlying39
 have hu68 := Tryd.underlying68
 have HR0 := aM hr0
 have HC0 := aM hc0
 clear hr0 hc0
 have HR1_1 := aM hr1_1
 have HC1_1 := aM hc1_1
 clear hr1_1 hc1_1
 have HB := aM (Below.refl w.heap.size w)
 have H : ((impl_IsValidFact.f l0 a1_0 l1_1).bind fun t225 => (if t225 = true then (impl_FormatFact.l0 k l0 (([] : List ByteArray)) l1_1 (l1_1.length : Int) 0 a1_0 l1_1) else (some (⟨#[]⟩ : ByteArray)))) = some r := h
 clear h
 replace H := bM H
 obtain ⟨t225, A30, H⟩ := H
 have A3 := aM A30
 clear A30
 by_cases c4 : t225 = true
 ·subst c4
  replace H := iT H
  obtain ⟨y226, hy226⟩ : ∃ y_ : List ByteArray, y_ = (([] : List ByteArray)) := ⟨_, rfl⟩
  first | replace H := bY hy226 H | rw [← hy226] at H
  have Ny226 := aM hy226
  clear hy226
  have H' := aM H
  clear H
  go_enter Tryd.func15, Tryd.ntmps15
  go_wp2_with (first | ((with_reducible refine gate_dst (N := 3) rfl ?_); refine bE 3 (cs := #[.int .i64 a1_0, .slice A1_1 l1_1.length c1_1]) (t := 39) ?_; intro gb224 hg w5 hbox hb; have BK224 := aM (hbox); have GW224 := aM ((by rw [hg]; exact (below_size aB) : w.heap.size ≤ gb224)); have GE224 := aM ((by rw [hg]; exact (below_size aB) : w.heap.size ≤ gb224)); replace HB := aM (below_step aB hb); clear hb hbox hg; have hcz6_0 : w5.cell? ⟨gb224, 0, none⟩ = some (.int .i64 a1_0) := (blk_cell BK224.out 0).trans rfl; have hcz6_1 : w5.cell? ⟨gb224, 1, none⟩ = some (.slice A1_1 l1_1.length c1_1) := (blk_cell BK224.out 1).trans rfl; have hfz6_0 := blk_frozen BK224.out 0; have hfz6_1 := blk_frozen BK224.out 1) | ((with_reducible refine gate_callee (f := 50) rfl ?_); refine goesL_ (some 11) rfl rfl Tryd.func50 (by kernel_rfl) rfl #[.slice A0 l0.length c0, .agg #[.int .i64 a1_0, .slice A1_1 l1_1.length c1_1]] rfl aA ?_; (with_reducible refine (impl_IsValidFact.calls _ _ l0 a1_0 _ _ l1_1 true _ ?side1 ?side2 ?side3 ?side4 A3.out).mono ?_); (case side1 => exact aC); (case side2 => exact HC0.out); (case side3 => exact aC); (case side4 => exact HC1_1.out); rintro e w7 ⟨rfl, hb⟩; refine ⟨_, rfl, ?_⟩; replace BK224 := aM (kB gb224 #[.int .i64 a1_0, .slice A1_1 l1_1.length c1_1] 39 hb); replace HB := aM (below_step aG hb); (try clear hb); (try clear hb2); (try clear hk); (try clear hi)) | ((with_reducible refine gate_dst (N := 13) rfl ?_); refine Kd.R_lit Kd.string _ 9 ?hg (N := 13) ?hd (xs := ([] : List ByteArray)) (inner := []) (ok := fun _ => True) (okp := fun _ => True) ?hr ?hp (fun _ hk => hk) trivial (Below.refl _ _) (Nat.le_refl _) (by simp) ?_; (case hd => rfl); (case hg => rfl); (case hr => first | (go_simp; done) | (go_simp; rfl)); (case hp => exact (Reps.none _ _)); intro v227 w8 ho9 hb hg_ hnew_; clear hg_ hnew_; (first | rw [← Ny226.out] at ho9 | (simp only [Int.reduceToNat] at ho9; rw [← Ny226.out] at ho9)); have HO228 := aM (Kd.R_lower ho9 (below_size aG)); replace BK224 := aM (kB gb224 #[.int .i64 a1_0, .slice A1_1 l1_1.length c1_1] 39 hb); replace HB := aM (below_step aG hb); clear hb ho9; have hcz10_0 : w8.cell? ⟨gb224, 0, none⟩ = some (.int .i64 a1_0) := (blk_cell BK224.out 0).trans rfl; have hcz10_1 : w8.cell? ⟨gb224, 1, none⟩ = some (.slice A1_1 l1_1.length c1_1) := (blk_cell BK224.out 1).trans rfl; have hfz10_0 := blk_frozen BK224.out 0; have hfz10_1 := blk_frozen BK224.out 1))
  go_loopg [5, 17] k (fun kq v5 v17 w' => ∃ (x5_1 : List ByteArray) (x17_1 : Int), v17 = .int .i64 x17_1 ∧ Aside0 (impl_FormatFact.l0 kq l0 x5_1 l1_1 (l1_1.length : Int) x17_1 a1_0 l1_1 = some r) ∧ Aside0 (kq ≤ k) ∧ Aside0 (Kd.R Kd.string 9 w' w.heap.size (fun _ => True) v5 x5_1) ∧ Aside0 (w'.heap[gb224]? = some (.cells #[.int .i64 a1_0, (.slice A1_1 l1_1.length c1_1)] 39 (0, 0))) ∧ Aside0 (Below w.heap.size w w'))
  case atStart => exact ⟨(y226), (0), aX, H', ⟨Nat.le_refl _⟩, ⟨aR HO228⟩, ⟨aK⟩, ⟨aG⟩⟩
  case round =>
   clear H'
   try clear c1
   try clear p2
   try clear c4
   try clear c5
   try clear hcz10_0
   try clear hcz10_1
   try clear hcz6_0
   try clear hcz6_1
   try clear hfz10_0
   try clear hfz10_1
   try clear hfz6_0
   try clear hfz6_1
   obtain ⟨x5_1, x17_1, rfl, HA, HK1, HO_5, BK224, HB⟩ := hrel
   cases gk with
   | zero => exact absurd HA.out (by simp [impl_FormatFact.l0])
   | succ k1 =>
    have H := HA.out
    clear HA
    simp only [impl_FormatFact.l0] at H
    by_cases c11 : x17_1 < (l1_1.length : Int)
    ·rw [if_pos c11] at H
     have c11b0 : decide (x17_1 < (l1_1.length : Int)) = true := decide_eq_true c11
     clear c11
     by_cases c12 : 0 ≤ x17_1
     ·rw [if_pos c12] at H
      have c12b0 : decide (0 ≤ x17_1) = true := decide_eq_true c12
      clear c12
      by_cases c13 : x17_1 < (l1_1.length : Int)
      ·rw [if_pos c13] at H
       have c13b0 : decide (x17_1 < (l1_1.length : Int)) = true := decide_eq_true c13
       clear c13
       replace H := bM H
       obtain ⟨t230, A140, H⟩ := H
       have A14 := aM A140
       clear A140
       by_cases c15 : x5_1.length < 8796093022208
       ·rw [if_pos c15] at H
        have LMc15 := aM c15
        clear c15
        obtain ⟨y231, hy231⟩ : ∃ y_ : List ByteArray, y_ = (x5_1 ++ [t230]) := ⟨_, rfl⟩
        first | replace H := bY hy231 H | rw [← hy231] at H
        have Ny231 := aM hy231
        clear hy231
        have H' := aM H
        clear H
        have p229 : 0 ≤ (x17_1 : Int) := aD
        have q229 : x17_1 < (l1_1.length : Int) := aD
        obtain ⟨ad229, e229, hx229_0⟩ := Kd.at_int HR1_1.out x17_1 p229 q229
        cases e229
        replace hx229_0 := (HB.out.cell (World.block_lt_of_cell? w _ hx229_0)).trans hx229_0
        replace p229 := eq_true p229
        replace q229 := eq_true q229
        go_wp2_with (first | ((with_reducible refine gate_callee (f := 51) rfl ?_); refine goesL_ (some 23) rfl rfl Tryd.func51 (by kernel_rfl) rfl #[.int .i64 (rd l1_1 x17_1)] rfl aA ?_; (with_reducible refine (impl_FormatInt.calls (rd l1_1 x17_1) t230 _ A14.out (hp_.on aG)).mono ?_); rintro e w16 ⟨rfl, hb⟩; refine ⟨_, rfl, ?_⟩; replace HO_5 := aM (Kd.R_below (aR HO_5) hb); replace BK224 := aM (kB gb224 #[.int .i64 a1_0, .slice (some ad229) l1_1.length c1_1] 39 hb); replace HB := aM (below_step aG hb); (try clear hb); (try clear hb2); (try clear hk); (try clear hi)) | ((with_reducible refine gate_builtin (b := .append) (xs := #[.tmp 21, .tmp 24]) rfl ?_); at_builtin; refine Kd.R_append Kd.string (w0 := w) w.heap.size rfl (.tmp 21) (.tmp 24) 72 9 (.string ⟨#[]⟩) 16 rfl Tryd.underlying72 info9 rfl (by decide) (by omega) u5 x5_1 t230 [.string t230] (fun _ => True) (fun _ => False) rfl rfl ?aP (fun _ hk => hk.elim) ?aF ?aO ?aB ?aS ?aL ?_; (case aP => exact rfl); (case aB => exact aG); (case aF => exact (fun _ _ => trivial)); (case aO => exact (aR HO_5)); (case aS => exact (below_size aG)); (case aL => have := LMc15.out; omega); intro v232 w17 ho hb hg hat; rw [← Ny231.out] at ho; have HO233 := aM (ho); replace BK224 := aM (blk_grown (g := gb224) (o := .cells #[.int .i64 a1_0, .slice (some ad229) l1_1.length c1_1] 39 (0, 0)) aK hg (Kd.R_ne HO_5.out BK224.out (by decide))); replace HB := aM (hb); clear HO_5; clear ho hb hg hat))
        go_roundg k1
        case measure => have := HK1.out; omega
        case rel => exact ⟨(y231), (wrap64 (x17_1 + 1)), aX, H', ⟨by have := HK1.out; omega⟩, ⟨aR HO233⟩, ⟨aK⟩, ⟨aG⟩⟩
       ·rw [if_neg c15] at H
        exact absurd H (by simp)
      ·rw [if_neg c13] at H
       exact absurd H (by simp)
     ·rw [if_neg c12] at H
      exact absurd H (by simp)
    ·rw [if_neg c11] at H
     have c11b0 : decide (x17_1 < (l1_1.length : Int)) = false := decide_eq_false c11
     clear c11
     by_cases c18 : 0 ≤ a1_0
     ·rw [if_pos c18] at H
      have c18b0 : decide (0 ≤ a1_0) = true := decide_eq_true c18
      clear c18
      by_cases c19 : a1_0 < (l0.length : Int)
      ·rw [if_pos c19] at H
       have c19b0 : decide (a1_0 < (l0.length : Int)) = true := decide_eq_true c19
       clear c19
       replace H := bM H
       obtain ⟨t236, A200, H⟩ := H
       have A20 := aM A200
       clear A200
       by_cases c21 : ((rd_T68 l0 a1_0).f0).size + t236.size ≤ 9223372036854775807
       ·rw [if_pos c21] at H
        have c21b0 := eq_true c21
        have c21b1 : decide (((rd_T68 l0 a1_0).f0).size + t236.size ≤ 9223372036854775807) = true := decide_eq_true c21
        try have c21b2 : (9223372036854775807 < ((rd_T68 l0 a1_0).f0).size + t236.size) = False := eq_false (Nat.not_lt.2 c21)
        obtain rfl := Option.some.inj H
        have hcz22_0 : wr.cell? ⟨gb224, 0, none⟩ = some (.int .i64 a1_0) := (blk_cell BK224.out 0).trans rfl
        have hcz22_1 : wr.cell? ⟨gb224, 1, none⟩ = some (.slice A1_1 l1_1.length c1_1) := (blk_cell BK224.out 1).trans rfl
        have hfz22_0 := blk_frozen BK224.out 0
        have hfz22_1 := blk_frozen BK224.out 1
        have p234 : 0 ≤ (a1_0 : Int) := aD
        have q234 : a1_0 < (l0.length : Int) := aD
        obtain ⟨ad234, e234, hx234_0, hx234_1, hx234_2⟩ := at_T68 HR0.out a1_0 p234 q234
        cases e234
        replace hx234_0 := (HB.out.cell (World.block_lt_of_cell? w _ hx234_0)).trans hx234_0
        replace hx234_1 := (HB.out.cell (World.block_lt_of_cell? w _ hx234_1)).trans hx234_1
        replace hx234_2 := (HB.out.cell (World.block_lt_of_cell? w _ hx234_2)).trans hx234_2
        replace p234 := eq_true p234
        replace q234 := eq_true q234
        try go_wp2_with (first | ((with_reducible refine gate_dst (N := 8) rfl ?_); refine bE 8 (cs := #[.string (⟨#[]⟩ : ByteArray), .int .i64 0, .int .i64 0]) (t := 68) ?_; intro gb235 hg w23 hbox hb; have BK235 := aM (hbox); have GW235 := aM ((by rw [hg]; exact (below_size aG) : w.heap.size ≤ gb235)); have GE235 := aM ((by rw [hg]; exact (below_size aG) : w.heap.size ≤ gb235)); have NB224_235 := aM ((by rw [hg]; exact Nat.ne_of_lt (blk_lt (g := gb224) (o := .cells #[.int .i64 a1_0, .slice A1_1 l1_1.length c1_1] 39 (0, 0)) aK) : gb224 ≠ gb235)); have NB235_224 := aM ((by rw [hg]; exact Nat.ne_of_gt (blk_lt (g := gb224) (o := .cells #[.int .i64 a1_0, .slice A1_1 l1_1.length c1_1] 39 (0, 0)) aK) : gb235 ≠ gb224)); replace HO_5 := aM (Kd.R_below (aR HO_5) hb); replace BK224 := aM (kB gb224 #[.int .i64 a1_0, .slice A1_1 l1_1.length c1_1] 39 hb); replace HB := aM (below_step aG hb); clear hb hbox hg; have hnb24 := NB235_224.out; have hnc24 := NB224_235.out; have hcz25_0 : w23.cell? ⟨gb235, 0, none⟩ = some (.string (⟨#[]⟩ : ByteArray)) := (blk_cell BK235.out 0).trans rfl; have hcz25_1 : w23.cell? ⟨gb235, 1, none⟩ = some (.int .i64 0) := (blk_cell BK235.out 1).trans rfl; have hcz25_2 : w23.cell? ⟨gb235, 2, none⟩ = some (.int .i64 0) := (blk_cell BK235.out 2).trans rfl; have hfz25_0 := blk_frozen BK235.out 0; have hfz25_1 := blk_frozen BK235.out 1; have hfz25_2 := blk_frozen BK235.out 2))
        have n0_ : Aside0 (Kd.R Kd.string 9 (((w23.setCell ⟨gb235, 0, none⟩ (.string ((rd_T68 l0 a1_0).f0))).setCell ⟨gb235, 1, none⟩ (.int .i64 ((rd_T68 l0 a1_0).f1))).setCell ⟨gb235, 2, none⟩ (.int .i64 ((rd_T68 l0 a1_0).f2))) w.heap.size (fun _ => True) u5 x5_1) := ⟨by (with_reducible repeat apply pR); exact Kd.R_mono (Kd.R_far (p := ⟨gb235, 2, none⟩) (Kd.R_far (p := ⟨gb235, 1, none⟩) (Kd.R_far (p := ⟨gb235, 0, none⟩) (Kd.R_types HO_5.out BK235.out (by decide)) (fun _ hk => hk.2) (.string ((rd_T68 l0 a1_0).f0))) (fun _ hk => hk.2) (.int .i64 ((rd_T68 l0 a1_0).f1))) (fun _ hk => hk.2) (.int .i64 ((rd_T68 l0 a1_0).f2))) (fun _ hk => trivial)⟩
        have n1_ : Aside0 ((((w23.setCell ⟨gb235, 0, none⟩ (.string ((rd_T68 l0 a1_0).f0))).setCell ⟨gb235, 1, none⟩ (.int .i64 ((rd_T68 l0 a1_0).f1))).setCell ⟨gb235, 2, none⟩ (.int .i64 ((rd_T68 l0 a1_0).f2))).heap[gb224]? = some (.cells #[.int .i64 a1_0, .slice A1_1 l1_1.length c1_1] 39 (0, 0))) := ⟨by (with_reducible repeat refine pB ?_); refine blk_far ?_ NB224_235.out _; (with_reducible repeat refine pB ?_); refine blk_far ?_ NB224_235.out _; (with_reducible repeat refine pB ?_); refine blk_far ?_ NB224_235.out _; (with_reducible repeat refine pB ?_); exact BK224.out⟩
        have n2_ : Aside0 ((((w23.setCell ⟨gb235, 0, none⟩ (.string ((rd_T68 l0 a1_0).f0))).setCell ⟨gb235, 1, none⟩ (.int .i64 ((rd_T68 l0 a1_0).f1))).setCell ⟨gb235, 2, none⟩ (.int .i64 ((rd_T68 l0 a1_0).f2))).heap[gb235]? = some (.cells #[.string ((rd_T68 l0 a1_0).f0), .int .i64 ((rd_T68 l0 a1_0).f1), .int .i64 ((rd_T68 l0 a1_0).f2)] 68 (0, 0))) := ⟨by (with_reducible repeat refine pB ?_); refine blk_put (cs := #[.string ((rd_T68 l0 a1_0).f0), .int .i64 ((rd_T68 l0 a1_0).f1), .int .i64 0]) ?_ 2 _ rfl; (with_reducible repeat refine pB ?_); refine blk_put (cs := #[.string ((rd_T68 l0 a1_0).f0), .int .i64 0, .int .i64 0]) ?_ 1 _ rfl; (with_reducible repeat refine pB ?_); refine blk_put (cs := #[.string (⟨#[]⟩ : ByteArray), .int .i64 0, .int .i64 0]) ?_ 0 _ rfl; (with_reducible repeat refine pB ?_); exact BK235.out⟩
        have n3_ : Aside0 (Below w.heap.size w (((w23.setCell ⟨gb235, 0, none⟩ (.string ((rd_T68 l0 a1_0).f0))).setCell ⟨gb235, 1, none⟩ (.int .i64 ((rd_T68 l0 a1_0).f1))).setCell ⟨gb235, 2, none⟩ (.int .i64 ((rd_T68 l0 a1_0).f2)))) := ⟨aG⟩
        (try clear HO_5)
        (try clear BK224)
        (try clear BK235)
        (try clear HB)
        generalize (((w23.setCell ⟨gb235, 0, none⟩ (.string ((rd_T68 l0 a1_0).f0))).setCell ⟨gb235, 1, none⟩ (.int .i64 ((rd_T68 l0 a1_0).f1))).setCell ⟨gb235, 2, none⟩ (.int .i64 ((rd_T68 l0 a1_0).f2))) = w26 at n0_ n1_ n2_ n3_ ⊢
        have HO_5 := n0_
        have BK224 := n1_
        have BK235 := n2_
        have HB := n3_
        clear n0_ n1_ n2_ n3_
        replace HO_5 := aM (Kd.R_drew HO_5.out)
        replace BK224 := aM (blk_drew BK224.out)
        replace BK235 := aM (blk_drew BK235.out)
        replace HB := aM (below_drew1 HB.out)
        obtain ⟨Ao28, co28, eo28⟩ := Kd.R_slice HO_5.out
        (first | subst eo28 | (injection eo28 with f1_ f2_ f3_; have f4_ := f1_.symm; have f5_ := f3_.symm; clear f1_ f2_ f3_; subst f4_; subst f5_))
        refine start_ (n := 8) (S := fun w' => w'.cell? ⟨gb235, 0, none⟩ = some (.string ((rd_T68 l0 a1_0).f0)) ∧ w'.cell? ⟨gb235, 1, none⟩ = some (.int .i64 ((rd_T68 l0 a1_0).f1)) ∧ w'.cell? ⟨gb235, 2, none⟩ = some (.int .i64 ((rd_T68 l0 a1_0).f2))) (ds := []) #[false, false, false, false, false, false, false, false] (by kernel_rfl) rfl rfl ⟨(blk_cell BK235.out 0).trans rfl, (blk_cell BK235.out 1).trans rfl, (blk_cell BK235.out 2).trans rfl⟩ (fun hHeld => ?_); refine with_tabW impl_FormatFact.tab10 impl_FormatFact.bits10 (fun HT_ HW_ => ?_)
        generalize w26.drew = w27 at HO_5 BK224 BK235 HB hHeld ⊢
        refine pU 0 32 ?_
        refine pU 2 34 ?_
        refine pU 3 35 ?_
        refine tU3 1 33 hHeld ?_
        refine tU3 4 36 hHeld ?_
        refine oU 5 37 (fun K hK => ?_)
        refine goes_ Tryd.func52 (by kernel_rfl) rfl #[.slice Ao28 x5_1.length co28, .int .i64 ((rd_T68 l0 a1_0).f2)] (by rfl) rfl rfl aA ?_
        with_reducible refine (impl_barred.calls _ _ x5_1 ((rd_T68 l0 a1_0).f2) t236 _ ?side1 ?side2 A20.out).mono ?_
        (case side1 => repeat (first | exact (Kd.R_reads' HO_5.out).2.2 | (with_reducible refine pC ?_)))
        (case side2 => exact (Kd.R_reads' HO_5.out).2.1)
        rintro e w29 ⟨rfl, hb⟩
        refine ⟨_, rfl, ?_⟩
        have n0_ := aM (Kd.R_below (aR HO_5) hb)
        have n1_ := aM (kB gb224 #[.int .i64 a1_0, .slice A1_1 l1_1.length c1_1] 39 hb)
        have n2_ := aM (kB gb235 #[.string ((rd_T68 l0 a1_0).f0), .int .i64 ((rd_T68 l0 a1_0).f1), .int .i64 ((rd_T68 l0 a1_0).f2)] 68 hb)
        have n3_ := aM (below_step aG hb)
        clear HO_5
        clear BK224
        clear BK235
        clear HB
        have HO_5 := n0_
        have BK224 := n1_
        have BK235 := n2_
        have HB := n3_
        clear n0_ n1_ n2_ n3_
        (try clear hb)
        (try clear hb2)
        (try clear hk)
        (try clear hi)
        refine hK.out _ _ ⟨(blk_cell BK235.out 0).trans rfl, (blk_cell BK235.out 1).trans rfl, (blk_cell BK235.out 2).trans rfl⟩ (fun hHeld => ?_)
        clear hK K
        refine nU 37 ?_
        refine pU 6 38 ?_
        refine pU 7 4 ?_
        refine done_ (done_of HT_.out (by kernel_rfl)) ?_
        try go_wp2
        go_ret
        exact ⟨aE, aG⟩
       ·rw [if_neg c21] at H
        exact absurd H (by simp)
      ·rw [if_neg c19] at H
       exact absurd H (by simp)
     ·rw [if_neg c18] at H
      exact absurd H (by simp)
 ·replace c4 := Bool.eq_false_iff.mpr c4
  subst c4
  have H1 : (some (⟨#[]⟩ : ByteArray)) = some r := by rw [if_neg (show ¬ (false = true) by decide)] at H; exact H
  clear H
  have H := H1
  clear H1
  obtain rfl := Option.some.inj H
  go_enter Tryd.func15, Tryd.ntmps15
  go_wp2_with (first | ((with_reducible refine gate_dst (N := 3) rfl ?_); refine bE 3 (cs := #[.int .i64 a1_0, .slice A1_1 l1_1.length c1_1]) (t := 39) ?_; intro gb224 hg w30 hbox hb; have BK224 := aM (hbox); have GW224 := aM ((by rw [hg]; exact (below_size aB) : w.heap.size ≤ gb224)); have GE224 := aM ((by rw [hg]; exact (below_size aB) : w.heap.size ≤ gb224)); replace HB := aM (below_step aB hb); clear hb hbox hg; have hcz31_0 : w30.cell? ⟨gb224, 0, none⟩ = some (.int .i64 a1_0) := (blk_cell BK224.out 0).trans rfl; have hcz31_1 : w30.cell? ⟨gb224, 1, none⟩ = some (.slice A1_1 l1_1.length c1_1) := (blk_cell BK224.out 1).trans rfl; have hfz31_0 := blk_frozen BK224.out 0; have hfz31_1 := blk_frozen BK224.out 1) | ((with_reducible refine gate_callee (f := 50) rfl ?_); refine goesL_ (some 11) rfl rfl Tryd.func50 (by kernel_rfl) rfl #[.slice A0 l0.length c0, .agg #[.int .i64 a1_0, .slice A1_1 l1_1.length c1_1]] rfl aA ?_; (with_reducible refine (impl_IsValidFact.calls _ _ l0 a1_0 _ _ l1_1 false _ ?side1 ?side2 ?side3 ?side4 A3.out).mono ?_); (case side1 => exact aC); (case side2 => exact HC0.out); (case side3 => exact aC); (case side4 => exact HC1_1.out); rintro e w32 ⟨rfl, hb⟩; refine ⟨_, rfl, ?_⟩; replace BK224 := aM (kB gb224 #[.int .i64 a1_0, .slice A1_1 l1_1.length c1_1] 39 hb); replace HB := aM (below_step aG hb); (try clear hb); (try clear hb2); (try clear hk); (try clear hi)))
  go_ret
  exact ⟨aE, aG⟩

-- NOT PRINTED: function 90 (impl_Relation)

/-! ### impl_RelationIndex: function 49 -/
section
open Base
def nameIs (nm : ByteArray) (x : S68) : Bool := x.f0.toList == nm.toList
set_option maxHeartbeats 8000000 in
theorem nameIs_calls (nm : ByteArray) (b : Nat) (x : S68) (w : World) (hb : w.cell? ⟨b, 0, none⟩ = some (.string nm)) :
  Calls Tryd.prog 91 #[.agg #[.string x.f0, .int .i64 x.f1, .int .i64 x.f2], .pointer (some ⟨b, 0, none⟩)] w fun e w' => e = .returned (.bool (nameIs nm x)) ∧ Below w.heap.size w w' := by
 have hlt := World.block_lt_of_cell? w _ hb
 have hb1 : ∀ o, (w.alloc o).cell? ⟨b, 0, none⟩ = some (.string nm) := fun o => (World.cell?_alloc_lt _ _ _ hlt).trans hb
 go_enter Tryd.func91, Tryd.ntmps91
 go_wp2
 go_ret
 exact ⟨rfl, (Below.refl _ _).alloc (Nat.le_refl _) _⟩
set_option maxHeartbeats 8000000 in
set_option maxRecDepth 100000 in
theorem nameIdx_calls (nm : ByteArray) (b : Nat) (A0 : Option Addr) (c0 : Nat) (l : List S68) (w : World) (hr : Kd.C k68 w A0 l.length l) (hb : w.cell? ⟨b, 0, none⟩ = some (.string nm)) :
  Calls Tryd.prog 90 #[.slice A0 l.length c0, .func (.func 91) #[] #[.pointer (some ⟨b, 0, none⟩)]] w fun e w' => e = .returned (.int .i64 (idxW (nameIs nm) l 0)) ∧ Below w.heap.size w w' := by
 have hl : l.length ≤ 9223372036854775807 := hr.2.1
 have hlt := World.block_lt_of_cell? w _ hb
 have HR := aM hr
 have HN := aM hb
 clear hr hb
 go_enter Tryd.func90, Tryd.ntmps90
 go_wp2
 go_loopg [5, 8] l.length (fun gg _ s8 wr => ∃ kk : Nat, kk ≤ l.length ∧ l.length - kk ≤ gg ∧ s8 = .int .i64 kk ∧ Aside0 (Below w.heap.size w wr) ∧ Aside0 (∀ j, j < kk → nameIs nm (l.getD j z68) = false))
 case atStart => exact ⟨0, Nat.zero_le _, by omega, rfl, ⟨Below.refl _ _⟩, ⟨fun j hj => absurd hj (Nat.not_lt_zero _)⟩⟩
 case round =>
  obtain ⟨kk, hkk, hg, rfl, BW, HA⟩ := hrel
  by_cases hltk : kk < l.length
  ·have hltz : (kk : Int) < (l.length : Int) := by omega
   obtain ⟨ad, e, h0, h1, h2⟩ := at_T68 (Kd.C_below HR.out BW.out) (kk : Int) (by omega) hltz
   rw [Int.toNat_natCast] at h0 h1 h2
   cases e
   have hcell : wr.cell? ⟨b, 0, none⟩ = some (.string nm) := pw_cell_below BW.out HN.out
   have hcall := nameIs_calls nm b (rd_T68 l (kk : Int)) wr hcell
   have HC := aM hcell
   clear hcell
   have hrd : rd_T68 l (kk : Int) = l.getD kk z68 := by unfold rd_T68; rw [Int.toNat_natCast]
   cases hq : nameIs nm (rd_T68 l (kk : Int)) with
   | true =>
    rw [hq] at hcall
    have HQ := aM hq
    have HRD := aM hrd
    clear hq hrd
    go_wp2_with (go_at_call 91; refine hcall.mono ?_; rintro e w' ⟨rfl, hb'⟩)
    go_ret
    refine ⟨?_, below_then BW.out BW.out.size hb'⟩
    rw [idxW_hit (nameIs nm) z68 l kk 0 hltk HA.out (by rw [← HRD.out]; exact HQ.out)]
    simp
   | false =>
    rw [hq] at hcall
    have HQ := aM hq
    have HRD := aM hrd
    clear hq hrd
    go_wp2_with (go_at_call 91; refine hcall.mono ?_; rintro e w' ⟨rfl, hb'⟩)
    go_roundg (l.length - (kk + 1))
    case measure => omega
    case rel =>
     refine ⟨kk + 1, by omega, by omega, by go_num, ⟨below_then BW.out BW.out.size hb'⟩, ⟨fun j hj => ?_⟩⟩
     by_cases e : j = kk
     ·subst e
      rw [← HRD.out]; exact HQ.out
     ·exact HA.out j (by omega)
  ·have hltz : ¬ (kk : Int) < (l.length : Int) := by omega
   have hd : decide (kk < l.length) = false := decide_eq_false hltk
   have HK := aM (show l.length ≤ kk by omega)
   clear hltk hltz
   go_wp2
   go_ret
   refine ⟨?_, BW.out⟩
   have HA := fun j (hj : j < l.length) => HA.out j (Nat.lt_of_lt_of_le hj HK.out)
   rw [idxW_miss (nameIs nm) z68 l 0 HA]
   rfl
def impl_RelationIndex.f (l0 : List S68) (a1 : ByteArray) : Option Int := some (idxW (nameIs a1) l0 0)
set_option maxHeartbeats 8000000 in
set_option maxRecDepth 100000 in
theorem impl_RelationIndex.calls (A0 : Option Addr) (c0 : Nat) (l0 : List S68) (a1 : ByteArray) (r : Int) (w : World) (hr0 : Kd.C k68 w A0 l0.length l0) (hc0 : l0.length ≤ c0) (h : impl_RelationIndex.f l0 a1 = some r) :
  Calls Tryd.prog 49 #[.slice A0 l0.length c0, .string a1] w fun e w' => e = .returned (.int .i64 r) ∧ Below w.heap.size w w' := by
 obtain rfl := Option.some.inj h
 have hb : (w.alloc (.cells #[.string a1] 9)).cell? ⟨w.heap.size, 0, none⟩ = some (.string a1) := (blk_cell (heap_alloc_new w _) 0).trans rfl
 have hcall := fun c => nameIdx_calls a1 w.heap.size A0 c l0 _ (Kd.C_below hr0 ((Below.refl _ _).alloc (Nat.le_refl _) (.cells #[.string a1] 9))) hb
 have HC := aM hcall
 clear hcall hb hr0 h
 go_enter Tryd.func49, Tryd.ntmps49
 go_wp2_with (go_at_call 90; refine (HC.out _).mono ?_; rintro e w' ⟨rfl, hb'⟩)
 go_ret
 exact ⟨rfl, below_then ((Below.refl _ _).alloc (Nat.le_refl _) _) (by simp) hb'⟩
end


/-! ### impl_ParseFact: function 14 -/
def impl_ParseFact.l0 : Nat → List (S68) → ByteArray → Int → Int → List Int → Option (Int × List Int × Bool)
 | 0, _, _, _, _, _ => none
 | k + 1, x0, x1, x7, x240000, x240001 => if x7 < (x1.size : Int) then (if 0 ≤ x7 then (if (bt x1 x7) = 124 then (impl_ParseFact.l0 k x0 x1 (wrap64 (x7 + 1)) x240000 x240001) else (if x240001.length < 17592186044416 then (impl_ParseFact.l0 k x0 x1 (wrap64 (x7 + 1)) x240000 (x240001 ++ [wrap64 ((wrap64 (bt x1 x7)) - 48)])) else (none))) else (none)) else ((impl_FormatFact.f k x0 x240000 x240001).bind fun t243 => (if t243.toList = x1.toList then (some (x240000, x240001, true)) else (some (0, ([] : List Int), false))))
def impl_ParseFact.f (k : Nat) (l0 : List (S68)) (a1 : ByteArray) : Option (Int × List Int × Bool) := if a1.toList = ([] : List UInt8) then (some (0, ([] : List Int), false)) else (if 0 ≤ 1 then (if 1 ≤ (a1.size : Int) then ((impl_RelationIndex.f l0 (a1.extract 0 1)).bind fun t238 => (impl_ParseFact.l0 k l0 a1 1 t238 ([] : List Int))) else (none)) else (none))
def impl_ParseFact.T8 : Bool × List (List Nat × List Nat) := (true, [([], []), ([0], [0]), ([], []), ([], []), ([2, 3], [2, 3]), ([4], [4]), ([5], [5]), ([6], [6]), ([1, 7], [1, 7]), ([0, 1, 2, 3, 4, 5, 6, 7, 8], []), ([9, 8, 8, 0, 1, 2, 3, 4, 5, 6, 7, 8], [8, 9])])
def impl_ParseFact.B8 : List Nat := [0, 1, 0, 0, 12, 28, 60, 124, 255, 511, 1023]
theorem impl_ParseFact.tab8 : rtab .any (opsOf Tryd.f14 8) = impl_ParseFact.T8 := by kernel_rfl
theorem impl_ParseFact.bits8 : waitsOk impl_ParseFact.T8.2 impl_ParseFact.B8 = true := by kernel_rfl
set_option maxHeartbeats 8000000 in
set_option maxRecDepth 100000 in
theorem impl_ParseFact.calls (k : Nat) (A0 : Option Addr) (c0 : Nat) (l0 : List (S68)) (a1 : ByteArray) (r1 : Int) (r2 : List Int) (r3 : Bool) (w : World) (hr0 : Kd.C k68 w A0 l0.length l0) (hc0 : l0.length ≤ c0) (h : impl_ParseFact.f k l0 a1 = some (r1, r2, r3)) (hp_ : Go.Proofs.YtckpikfbhlhhjaaDoor.Shelf.Pow w) :
  Calls Tryd.prog 14 #[.slice A0 l0.length c0, .string a1] w fun e w' => ∃ v1_ : Value, e = .returned (.tuple #[.agg #[.int .i64 r1, v1_], .bool r3]) ∧ Kd.R (Kd.int .i64) 3 w' w.heap.size (fun _ => True) v1_ r2 ∧ Below w.heap.size w w' := by
 have hu39 := Tryd.underlying39
 have HR0 := aM hr0
 have HC0 := aM hc0
 clear hr0 hc0
 have HB := aM (Below.refl w.heap.size w)
 have H : (if a1.toList = ([] : List UInt8) then (some (0, ([] : List Int), false)) else (if 0 ≤ 1 then (if 1 ≤ (a1.size : Int) then ((impl_RelationIndex.f l0 (a1.extract 0 1)).bind fun t238 => (impl_ParseFact.l0 k l0 a1 1 t238 ([] : List Int))) else (none)) else (none))) = some (r1, r2, r3) := h
 clear h
 by_cases c3 : a1.toList = ([] : List UInt8)
 ·rw [if_pos c3] at H
  have c3b0 : (a1.toList == ([] : List UInt8)) = true := beq_iff_eq.mpr c3
  have c3b1 : (a1.toList != ([] : List UInt8)) = false := bne_eq_false_iff_eq.mpr c3
  clear c3
  simp only [Option.some.injEq, Prod.mk.injEq] at H
  obtain ⟨rfl, rfl, rfl⟩ := H
  go_enter Tryd.func14, Tryd.ntmps14
  go_wp2_with (first | ((with_reducible refine gate_dst (N := 4) rfl ?_); refine bE 4 (cs := #[.int .i64 0, .slice none 0 0]) (t := 39) ?_; intro gb237 hg w4 hbox hb; have BK237 := aM (hbox); have GW237 := aM ((by rw [hg]; exact (below_size aB) : w.heap.size ≤ gb237)); have GE237 := aM ((by rw [hg]; exact (below_size aB) : w.heap.size ≤ gb237)); replace HB := aM (below_step aB hb); clear hb hbox hg; have hcz5_0 : w4.cell? ⟨gb237, 0, none⟩ = some (.int .i64 0) := (blk_cell BK237.out 0).trans rfl; have hcz5_1 : w4.cell? ⟨gb237, 1, none⟩ = some (.slice none 0 0) := (blk_cell BK237.out 1).trans rfl; have hfz5_0 := blk_frozen BK237.out 0; have hfz5_1 := blk_frozen BK237.out 1))
  refine bodyPost_ret (results_ct rfl _ _ gb237 39 #[.int .i64 0, .slice none 0 0] (0, 0) _ rfl (by (with_reducible repeat refine pB ?_); refine blk_put (cs := #[.int .i64 0, .slice none 0 0]) ?_ 1 _ rfl; (with_reducible repeat refine pB ?_); refine blk_put (cs := #[.int .i64 0, .slice none 0 0]) ?_ 0 _ rfl; (with_reducible repeat refine pB ?_); exact BK237.out) Tryd.underlying39 rfl (by kernel_rfl)) rfl ?_
  exact ⟨_, aE, by first | exact Kd.R_nil _ _ _ _ _ | exact Kd.N_nil _ _ _ _ _ | exact Kd.V_nil _ _ _ _ _ | exact Kd.Q_nil _ _ _ _ _ | exact Kd.S_nil _ _ _ _ _, aG⟩
 ·rw [if_neg c3] at H
  have c3b0 : (a1.toList == ([] : List UInt8)) = false := beq_eq_false_iff_ne.mpr c3
  have c3b1 : (a1.toList != ([] : List UInt8)) = true := bne_iff_ne.mpr c3
  by_cases c6 : 0 ≤ 1
  ·rw [if_pos c6] at H
   have c6b0 := eq_true c6
   have c6b1 : decide (0 ≤ 1) = true := decide_eq_true c6
   clear c6
   by_cases c7 : 1 ≤ (a1.size : Int)
   ·rw [if_pos c7] at H
    have c7b0 := eq_true c7
    have c7b1 : decide (1 ≤ (a1.size : Int)) = true := decide_eq_true c7
    clear c7
    replace H := bM H
    obtain ⟨t238, A80, H⟩ := H
    have A8 := aM A80
    clear A80
    have H' := aM H
    clear H
    go_enter Tryd.func14, Tryd.ntmps14
    go_wp2_with (first | ((with_reducible refine gate_dst (N := 4) rfl ?_); refine bE 4 (cs := #[.int .i64 0, .slice none 0 0]) (t := 39) ?_; intro gb237 hg w9 hbox hb; have BK237 := aM (hbox); have GW237 := aM ((by rw [hg]; exact (below_size aB) : w.heap.size ≤ gb237)); have GE237 := aM ((by rw [hg]; exact (below_size aB) : w.heap.size ≤ gb237)); replace HB := aM (below_step aB hb); clear hb hbox hg) | ((with_reducible refine gate_callee (f := 49) rfl ?_); refine goesL_ (some 14) rfl rfl Tryd.func49 (by kernel_rfl) rfl #[.slice A0 l0.length c0, .string (a1.extract 0 1)] rfl aA ?_; (with_reducible refine (impl_RelationIndex.calls _ _ l0 (a1.extract 0 1) t238 _ ?side1 ?side2 A8.out).mono ?_); (case side1 => exact aC); (case side2 => exact HC0.out); rintro e w10 ⟨rfl, hb⟩; refine ⟨_, rfl, ?_⟩; replace BK237 := aM (kB gb237 #[.int .i64 0, .slice none 0 0] 39 hb); replace HB := aM (below_step aG hb); (try clear hb); (try clear hb2); (try clear hk); (try clear hi)) | ((with_reducible refine gate_dst (N := 6) rfl ?_); refine bE 6 (cs := #[.int .i64 0, .slice none 0 0]) (t := 39) ?_; intro gb239 hg w11 hbox hb; have BK239 := aM (hbox); have GW239 := aM ((by rw [hg]; exact (below_size aG) : w.heap.size ≤ gb239)); have GE239 := aM ((by rw [hg]; exact (below_size aG) : w.heap.size ≤ gb239)); have NB237_239 := aM ((by rw [hg]; exact Nat.ne_of_lt (blk_lt (g := gb237) (o := .cells #[.int .i64 0, .slice none 0 0] 39 (0, 0)) aK) : gb237 ≠ gb239)); have NB239_237 := aM ((by rw [hg]; exact Nat.ne_of_gt (blk_lt (g := gb237) (o := .cells #[.int .i64 0, .slice none 0 0] 39 (0, 0)) aK) : gb239 ≠ gb237)); replace BK237 := aM (kB gb237 #[.int .i64 0, .slice none 0 0] 39 hb); replace HB := aM (below_step aG hb); clear hb hbox hg; have hnb12 := NB239_237.out; have hnc12 := NB237_239.out; have hcz13_0 : w11.cell? ⟨gb239, 0, none⟩ = some (.int .i64 0) := (blk_cell BK239.out 0).trans rfl; have hcz13_1 : w11.cell? ⟨gb239, 1, none⟩ = some (.slice none 0 0) := (blk_cell BK239.out 1).trans rfl; have hfz13_0 := blk_frozen BK239.out 0; have hfz13_1 := blk_frozen BK239.out 1))
    go_loopg [7] k (fun kq v7 w' => ∃ (x7_1 : Int) (x240001_1 : List Int) (u240001 : Value), v7 = .int .i64 x7_1 ∧ Aside0 (impl_ParseFact.l0 kq l0 a1 x7_1 t238 x240001_1 = some (r1, r2, r3)) ∧ Aside0 (kq ≤ k) ∧ Aside0 (Kd.R (Kd.int .i64) 3 w' w.heap.size (fun _ => True) u240001 x240001_1) ∧ Aside0 (w'.heap[gb237]? = some (.cells #[.int .i64 0, (.slice none 0 0)] 39 (0, 0))) ∧ Aside0 (w'.heap[gb239]? = some (.cells #[.int .i64 t238, u240001] 39 (0, 0))) ∧ Aside0 (Below w.heap.size w w'))
    case atStart => exact ⟨(1), (([] : List Int)), (.slice none 0 0), aX, H', ⟨Nat.le_refl _⟩, ⟨by first | exact Kd.R_nil _ _ _ _ _ | exact Kd.N_nil _ _ _ _ _ | exact Kd.V_nil _ _ _ _ _ | exact Kd.Q_nil _ _ _ _ _ | exact Kd.S_nil _ _ _ _ _⟩, ⟨by (with_reducible repeat refine pB ?_); refine blk_far ?_ NB237_239.out _; (with_reducible repeat refine pB ?_); refine blk_far ?_ NB237_239.out _; (with_reducible repeat refine pB ?_); exact BK237.out⟩, ⟨by (with_reducible repeat refine pB ?_); refine blk_put (cs := #[.int .i64 t238, .slice none 0 0]) ?_ 1 _ rfl; (with_reducible repeat refine pB ?_); refine blk_put (cs := #[.int .i64 0, .slice none 0 0]) ?_ 0 _ rfl; (with_reducible repeat refine pB ?_); exact BK239.out⟩, ⟨aG⟩⟩
    case round =>
     clear H'
     try clear c1
     try clear p2
     try clear c3
     try clear c3b0
     try clear c3b1
     try clear c4
     try clear c6
     try clear c6b0
     try clear c6b1
     try clear c7
     try clear c7b0
     try clear c7b1
     try clear c12
     try clear hcz13_0
     try clear hcz13_1
     try clear hcz5_0
     try clear hcz5_1
     try clear hfz13_0
     try clear hfz13_1
     try clear hfz5_0
     try clear hfz5_1
     obtain ⟨x7_1, x240001_1, u240001, rfl, HA, HK1, HO_240001, BK237, BK239, HB⟩ := hrel
     cases gk with
     | zero => exact absurd HA.out (by simp [impl_ParseFact.l0])
     | succ k1 =>
      have H := HA.out
      clear HA
      simp only [impl_ParseFact.l0] at H
      by_cases c14 : x7_1 < (a1.size : Int)
      ·rw [if_pos c14] at H
       have c14b0 : decide (x7_1 < (a1.size : Int)) = true := decide_eq_true c14
       clear c14
       by_cases c15 : 0 ≤ x7_1
       ·rw [if_pos c15] at H
        have c15b0 : decide (0 ≤ x7_1) = true := decide_eq_true c15
        clear c15
        by_cases c17 : (bt a1 x7_1) = 124
        ·rw [if_pos c17] at H
         have c17b0 : ((bt a1 x7_1) == 124) = true := beq_iff_eq.mpr c17
         have c17b1 : ((bt a1 x7_1) != 124) = false := bne_eq_false_iff_eq.mpr c17
         clear c17
         have H' := aM H
         clear H
         have p16 : 0 ≤ (x7_1 : Int) := aD
         have q16 : x7_1 < (a1.size : Int) := aD
         have hx16 := bt_at a1 x7_1
         replace p16 := eq_true p16
         replace q16 := eq_true q16
         go_wp2
         go_roundg k1
         case measure => have := HK1.out; omega
         case rel => exact ⟨(wrap64 (x7_1 + 1)), (x240001_1), (u240001), aX, H', ⟨by have := HK1.out; omega⟩, ⟨aR HO_240001⟩, ⟨aK⟩, ⟨aK⟩, ⟨aG⟩⟩
        ·rw [if_neg c17] at H
         have c17b0 : ((bt a1 x7_1) == 124) = false := beq_eq_false_iff_ne.mpr c17
         have c17b1 : ((bt a1 x7_1) != 124) = true := bne_iff_ne.mpr c17
         by_cases c19 : x240001_1.length < 17592186044416
         ·rw [if_pos c19] at H
          have LMc19 := aM c19
          clear c19
          obtain ⟨y240, hy240⟩ : ∃ y_ : List Int, y_ = (x240001_1 ++ [wrap64 ((wrap64 (bt a1 x7_1)) - 48)]) := ⟨_, rfl⟩
          first | replace H := bY hy240 H | rw [← hy240] at H
          have Ny240 := aM hy240
          clear hy240
          have H' := aM H
          clear H
          have p16 : 0 ≤ (x7_1 : Int) := aD
          have q16 : x7_1 < (a1.size : Int) := aD
          have hx16 := bt_at a1 x7_1
          replace p16 := eq_true p16
          replace q16 := eq_true q16
          try go_wp2
          replace HO_240001 := aM (Kd.R_drew HO_240001.out)
          replace BK237 := aM (blk_drew BK237.out)
          replace BK239 := aM (blk_drew BK239.out)
          replace HB := aM (below_drew1 HB.out)
          have p18 : 0 ≤ (x7_1 : Int) := aD
          have q18 : x7_1 < (a1.size : Int) := aD
          have hx18 := bt_at a1 x7_1
          replace p18 := eq_true p18
          replace q18 := eq_true q18
          refine start_ (n := 11) (S := fun w' => w'.cell? ⟨gb239, 0, none⟩ = some (.int .i64 t238) ∧ w'.cell? ⟨gb239, 1, none⟩ = some (u240001)) (ds := [10]) #[false, false, false, false, false, false, false, false, false, false, false] (by kernel_rfl) rfl rfl ⟨(blk_cell BK239.out 0).trans rfl, (blk_cell BK239.out 1).trans rfl⟩ (fun hHeld => ?_); refine with_tabW impl_ParseFact.tab8 impl_ParseFact.bits8 (fun HT_ HW_ => ?_)
          generalize wr.drew = w20 at HO_240001 BK237 BK239 HB hHeld ⊢
          refine pU 0 26 ?_
          refine pU 2 28 ?_
          refine pU 3 29 ?_
          refine tU2 1 27 hHeld ?_
          refine tU2 4 30 hHeld ?_
          refine pU 5 31 ?_
          refine pU 6 32 ?_
          refine oU 7 33 (fun K hK => ?_)
          refine value_ (w1 := ?_) (v := ?_) (by rfl) rfl ?_ ?_
          rotate_left 2
          ·go_simp
           constructor
           ·rfl
           ·rfl
          refine hK.out _ _ ⟨(blk_cell (blk_alloc BK239.out _) 0).trans rfl, (blk_cell (blk_alloc BK239.out _) 1).trans rfl⟩ (fun hHeld => ?_)
          clear hK K
          refine nU 33 ?_
          refine oU 8 34 (fun K hK => ?_)
          refine Kd.R_append_step (Kd.int .i64) (w0 := w) w.heap.size (by rfl) (.tmp 27) (.tmp 33) 37 3 (.int .i64 0) 8 rfl Tryd.underlying37 info3 rfl (by decide) (by omega) u240001 x240001_1 (wrap64 ((wrap64 (bt a1 x7_1)) - 48)) [.int .i64 (wrap64 ((wrap64 (bt a1 x7_1)) - 48))] (fun _ => True) (fun _ => False) rfl rfl ?aP (fun _ hk => hk.elim) ?aF ?aO ?aB ?aS ?aL ?_
          (case aP => exact rfl)
          (case aB => exact aG)
          (case aF => exact (fun _ _ => trivial))
          (case aO => exact (aR HO_240001))
          (case aS => exact (below_size aG))
          (case aL => have := LMc19.out; omega)
          intro v241 w21 ho hb hg hat
          rw [← Ny240.out] at ho
          have n0_ := aM (blk_grown (g := gb237) (o := .cells #[.int .i64 0, .slice none 0 0] 39 (0, 0)) aK hg (Kd.R_ne HO_240001.out BK237.out (by decide)))
          have n1_ := aM (blk_grown (g := gb239) (o := .cells #[.int .i64 t238, u240001] 39 (0, 0)) aK hg (Kd.R_ne HO_240001.out BK239.out (by decide)))
          have n2_ := aM (hb)
          have n3_ := aM (ho)
          clear BK237
          clear BK239
          clear HB
          clear HO_240001
          have BK237 := n0_
          have BK239 := n1_
          have HB := n2_
          have HO242 := n3_
          clear n0_ n1_ n2_ n3_
          clear ho hb hg hat
          obtain ⟨Ao22, co22, eo22⟩ := Kd.R_slice HO242.out
          (first | subst eo22 | (injection eo22 with f1_ f2_ f3_; have f4_ := f1_.symm; have f5_ := f3_.symm; clear f1_ f2_ f3_; subst f4_; subst f5_))
          refine hK.out _ _ ⟨(blk_cell BK239.out 0).trans rfl, (blk_cell BK239.out 1).trans rfl⟩ (fun hHeld => ?_)
          clear hK K
          refine nU 34 ?_
          refine pU 9 35 ?_
          refine last_ (i := 10) (N := none) #[true, true, true, true, true, true, true, true, true, true, true] rfl rfl (one_of HT_.out (by kernel_rfl)) (by decide) (fun K hK => ?_)
          have hs23 : w21.cell? ⟨gb239, 1, none⟩ = some (u240001) := (blk_cell BK239.out 1).trans rfl
          have hfs23 := blk_frozen BK239.out 1
          have hns23_0 := NB237_239.out
          have hms23_0 := NB239_237.out
          refine skip_ (w1 := ?_) (by rfl) rfl ?_ ?_
          rotate_left
          ·go_simp
           rfl
          refine hK.out _ _ ?_
          clear hK K
          refine done_ (done_of HT_.out (by kernel_rfl)) ?_
          try go_wp2
          go_roundg k1
          case measure => have := HK1.out; omega
          case rel => exact ⟨(wrap64 (x7_1 + 1)), (y240), (.slice Ao22 y240.length co22), aX, H', ⟨by have := HK1.out; omega⟩, ⟨by (with_reducible repeat apply pR); exact Kd.R_mono (Kd.R_far (p := ⟨gb239, 1, none⟩) (Kd.R_types HO242.out BK239.out (by decide)) (fun _ hk => hk.2) (.slice Ao22 y240.length co22)) (fun _ hk => trivial)⟩, ⟨by (with_reducible repeat refine pB ?_); refine blk_far ?_ NB237_239.out _; (with_reducible repeat refine pB ?_); exact BK237.out⟩, ⟨by (with_reducible repeat refine pB ?_); refine blk_put (cs := #[.int .i64 t238, u240001]) ?_ 1 _ rfl; (with_reducible repeat refine pB ?_); exact BK239.out⟩, ⟨aG⟩⟩
         ·rw [if_neg c19] at H
          exact absurd H (by simp)
       ·rw [if_neg c15] at H
        exact absurd H (by simp)
      ·rw [if_neg c14] at H
       have c14b0 : decide (x7_1 < (a1.size : Int)) = false := decide_eq_false c14
       clear c14
       replace H := bM H
       obtain ⟨t243, A240, H⟩ := H
       have A24 := aM A240
       clear A240
       by_cases c25 : t243.toList = a1.toList
       ·rw [if_pos c25] at H
        have c25b0 : (t243.toList == a1.toList) = true := beq_iff_eq.mpr c25
        have c25b1 : (t243.toList != a1.toList) = false := bne_eq_false_iff_eq.mpr c25
        clear c25
        simp only [Option.some.injEq, Prod.mk.injEq] at H
        obtain ⟨rfl, rfl, rfl⟩ := H
        have hnb26 := NB239_237.out
        have hnc26 := NB237_239.out
        have hcz27_0 : wr.cell? ⟨gb239, 0, none⟩ = some (.int .i64 t238) := (blk_cell BK239.out 0).trans rfl
        have hcz27_1 : wr.cell? ⟨gb239, 1, none⟩ = some (u240001) := (blk_cell BK239.out 1).trans rfl
        have hfz27_0 := blk_frozen BK239.out 0
        have hfz27_1 := blk_frozen BK239.out 1
        obtain ⟨Ao28, co28, eo28⟩ := Kd.R_slice HO_240001.out
        subst eo28
        go_wp2_with (first | ((with_reducible refine gate_callee (f := 15) rfl ?_); refine goesL_ (some 38) rfl rfl Tryd.func15 (by kernel_rfl) rfl #[.slice A0 l0.length c0, .agg #[.int .i64 t238, .slice Ao28 x240001_1.length co28]] rfl aA ?_; (with_reducible refine (impl_FormatFact.calls k1 _ _ l0 t238 _ _ x240001_1 t243 _ ?side1 ?side2 ?side3 ?side4 A24.out (hp_.on aG)).mono ?_); (case side1 => exact aC); (case side2 => exact HC0.out); (case side3 => repeat (first | exact (Kd.R_reads' HO_240001.out).2.2 | (with_reducible refine pC ?_))); (case side4 => exact (Kd.R_reads' HO_240001.out).2.1); rintro e w29 ⟨rfl, hb⟩; refine ⟨_, rfl, ?_⟩; have n0_ := aM (Kd.R_below (aR HO_240001) hb); have n1_ := aM (kB gb237 #[.int .i64 0, .slice none 0 0] 39 hb); have n2_ := aM (kB gb239 #[.int .i64 t238, .slice Ao28 x240001_1.length co28] 39 hb); have n3_ := aM (below_step aG hb); clear HO_240001; clear BK237; clear BK239; clear HB; have HO_240001 := n0_; have BK237 := n1_; have BK239 := n2_; have HB := n3_; clear n0_ n1_ n2_ n3_; (try clear hb); (try clear hb2); (try clear hk); (try clear hi); have hcz30_0 : w29.cell? ⟨gb239, 0, none⟩ = some (.int .i64 t238) := (blk_cell BK239.out 0).trans rfl; have hcz30_1 : w29.cell? ⟨gb239, 1, none⟩ = some (.slice Ao28 x240001_1.length co28) := (blk_cell BK239.out 1).trans rfl; have hfz30_0 := blk_frozen BK239.out 0; have hfz30_1 := blk_frozen BK239.out 1; have hcz31_0 : w29.cell? ⟨gb237, 0, none⟩ = some (.int .i64 0) := (blk_cell BK237.out 0).trans rfl; have hcz31_1 : w29.cell? ⟨gb237, 1, none⟩ = some (.slice none 0 0) := (blk_cell BK237.out 1).trans rfl; have hfz31_0 := blk_frozen BK237.out 0; have hfz31_1 := blk_frozen BK237.out 1))
        refine bodyPost_ret (results_ct rfl _ _ gb237 39 #[.int .i64 t238, .slice Ao28 x240001_1.length co28] (0, 0) _ rfl (by (with_reducible repeat refine pB ?_); refine blk_put (cs := #[.int .i64 t238, .slice none 0 0]) ?_ 1 _ rfl; (with_reducible repeat refine pB ?_); refine blk_put (cs := #[.int .i64 0, .slice none 0 0]) ?_ 0 _ rfl; (with_reducible repeat refine pB ?_); exact BK237.out) Tryd.underlying39 rfl (by kernel_rfl)) rfl ?_
        exact ⟨_, aE, by (with_reducible repeat apply pR); exact Kd.R_mono (Kd.R_far (p := ⟨gb237, 1, none⟩) (Kd.R_far (p := ⟨gb237, 0, none⟩) (Kd.R_types HO_240001.out BK237.out (by decide)) (fun _ hk => hk.2) (.int .i64 t238)) (fun _ hk => hk.2) (.slice Ao28 x240001_1.length co28)) (fun _ hk => trivial), aG⟩
       ·rw [if_neg c25] at H
        have c25b0 : (t243.toList == a1.toList) = false := beq_eq_false_iff_ne.mpr c25
        have c25b1 : (t243.toList != a1.toList) = true := bne_iff_ne.mpr c25
        simp only [Option.some.injEq, Prod.mk.injEq] at H
        obtain ⟨rfl, rfl, rfl⟩ := H
        have hnb32 := NB239_237.out
        have hnc32 := NB237_239.out
        have hcz33_0 : wr.cell? ⟨gb239, 0, none⟩ = some (.int .i64 t238) := (blk_cell BK239.out 0).trans rfl
        have hcz33_1 : wr.cell? ⟨gb239, 1, none⟩ = some (u240001) := (blk_cell BK239.out 1).trans rfl
        have hfz33_0 := blk_frozen BK239.out 0
        have hfz33_1 := blk_frozen BK239.out 1
        obtain ⟨Ao34, co34, eo34⟩ := Kd.R_slice HO_240001.out
        subst eo34
        go_wp2_with (first | ((with_reducible refine gate_callee (f := 15) rfl ?_); refine goesL_ (some 38) rfl rfl Tryd.func15 (by kernel_rfl) rfl #[.slice A0 l0.length c0, .agg #[.int .i64 t238, .slice Ao34 x240001_1.length co34]] rfl aA ?_; (with_reducible refine (impl_FormatFact.calls k1 _ _ l0 t238 _ _ x240001_1 t243 _ ?side1 ?side2 ?side3 ?side4 A24.out (hp_.on aG)).mono ?_); (case side1 => exact aC); (case side2 => exact HC0.out); (case side3 => repeat (first | exact (Kd.R_reads' HO_240001.out).2.2 | (with_reducible refine pC ?_))); (case side4 => exact (Kd.R_reads' HO_240001.out).2.1); rintro e w35 ⟨rfl, hb⟩; refine ⟨_, rfl, ?_⟩; have n0_ := aM (Kd.R_below (aR HO_240001) hb); have n1_ := aM (kB gb237 #[.int .i64 0, .slice none 0 0] 39 hb); have n2_ := aM (kB gb239 #[.int .i64 t238, .slice Ao34 x240001_1.length co34] 39 hb); have n3_ := aM (below_step aG hb); clear HO_240001; clear BK237; clear BK239; clear HB; have HO_240001 := n0_; have BK237 := n1_; have BK239 := n2_; have HB := n3_; clear n0_ n1_ n2_ n3_; (try clear hb); (try clear hb2); (try clear hk); (try clear hi); have hcz36_0 : w35.cell? ⟨gb237, 0, none⟩ = some (.int .i64 0) := (blk_cell BK237.out 0).trans rfl; have hcz36_1 : w35.cell? ⟨gb237, 1, none⟩ = some (.slice none 0 0) := (blk_cell BK237.out 1).trans rfl; have hfz36_0 := blk_frozen BK237.out 0; have hfz36_1 := blk_frozen BK237.out 1))
        refine bodyPost_ret (results_ct rfl _ _ gb237 39 #[.int .i64 0, .slice none 0 0] (0, 0) _ rfl (by (with_reducible repeat refine pB ?_); refine blk_put (cs := #[.int .i64 0, .slice none 0 0]) ?_ 1 _ rfl; (with_reducible repeat refine pB ?_); refine blk_put (cs := #[.int .i64 0, .slice none 0 0]) ?_ 0 _ rfl; (with_reducible repeat refine pB ?_); exact BK237.out) Tryd.underlying39 rfl (by kernel_rfl)) rfl ?_
        exact ⟨_, aE, by first | exact Kd.R_nil _ _ _ _ _ | exact Kd.N_nil _ _ _ _ _ | exact Kd.V_nil _ _ _ _ _ | exact Kd.Q_nil _ _ _ _ _ | exact Kd.S_nil _ _ _ _ _, aG⟩
   ·rw [if_neg c7] at H
    exact absurd H (by simp)
  ·rw [if_neg c6] at H
   exact absurd H (by simp)

/-! ### spec_l1In: function 64 -/
def spec_l1In.f (a0 : Int) (a1 : Int) (a2 : Int) : Option (Bool) := if a0 ≥ a1 then (some (decide (a0 ≤ a2))) else (some false)
set_option maxHeartbeats 8000000 in
set_option maxRecDepth 100000 in
theorem spec_l1In.calls (a0 : Int) (a1 : Int) (a2 : Int) (r : Bool) (w : World) (h : spec_l1In.f a0 a1 a2 = some r) :
  Calls Tryd.prog 64 #[.int .i64 a0, .int .i64 a1, .int .i64 a2] w fun e w' => e = .returned (.bool r) ∧ Drawn0 w w' := by
 unfold spec_l1In.f at h
 replace h := ih h; rcases h with ⟨c0, c0a, h⟩ | ⟨c0, c0a, h⟩
 obtain rfl := si h
 rotate_left
 obtain rfl := si h
 rotate_left
 all_goals (go_enter Tryd.func64, Tryd.ntmps64; go_wp2; go_ret; exact zE zD)

/-! ### spec_IsValidRelation: function 80 -/
def spec_IsValidRelation.f (a0_0 : ByteArray) (a0_1 : Int) (a0_2 : Int) : Option (Bool) := if (a0_0.size : Int) = 1 then (if 0 < (a0_0.size : Int) then (if (bt a0_0 0) ≥ 97 then (if (bt a0_0 0) ≤ 122 then ((spec_l1In.f a0_1 1 3).bind fun t245 => (if t245 = true then ((spec_l1In.f a0_2 0 a0_1).bind fun t246 => (some t246)) else (some false))) else (some false)) else (some false)) else (none)) else (some false)
set_option maxHeartbeats 8000000 in
set_option maxRecDepth 100000 in
theorem spec_IsValidRelation.calls (a0_0 : ByteArray) (a0_1 : Int) (a0_2 : Int) (r : Bool) (w : World) (h : spec_IsValidRelation.f a0_0 a0_1 a0_2 = some r) :
  Calls Tryd.prog 80 #[.agg #[.string a0_0, .int .i64 a0_1, .int .i64 a0_2]] w fun e w' => e = .returned (.bool r) ∧ Below w.heap.size w w' := by
 have hu68 := Tryd.underlying68
 obtain ⟨W, hW⟩ : ∃ W, w.alloc (.cells #[.string a0_0, .int .i64 a0_1, .int .i64 a0_2] 68) = W := ⟨_, rfl⟩
 have q0 := qa (w := W) (p := ⟨w.heap.size, 0, none⟩) (v := .string a0_0) (by subst hW; go_simp)
 have q1 := qa (w := W) (p := ⟨w.heap.size, 1, none⟩) (v := .int .i64 a0_1) (by subst hW; go_simp)
 have q2 := qa (w := W) (p := ⟨w.heap.size, 2, none⟩) (v := .int .i64 a0_2) (by subst hW; go_simp)
 have HB : Below w.heap.size w W := by subst hW; exact zB
 have HW := Below.refl W.heap.size W
 have hb := aM HB
 unfold spec_IsValidRelation.f at h
 replace h := iq h; rcases h with ⟨c0, ⟨c0a, c0b⟩, h⟩ | ⟨c0, ⟨c0a, c0b⟩, h⟩
 replace h := il h; rcases h with ⟨c1, c1a, h⟩ | ⟨c1, c1a, h⟩
 have cz := c1.out
 have c1x1 : decide (0 < a0_0.size) = true := decide_eq_true (by omega)
 clear cz
 replace h := ih h; rcases h with ⟨c2, c2a, h⟩ | ⟨c2, c2a, h⟩
 replace h := ie h; rcases h with ⟨c3, c3a, h⟩ | ⟨c3, c3a, h⟩
 replace h := bs h; obtain ⟨t245, B4, h⟩ := h
 replace h := ib h; rcases h with ⟨rfl, h⟩ | ⟨rfl, h⟩
 replace h := bs h; obtain ⟨t246, B6, h⟩ := h
 obtain rfl := si h
 have hxb1 : ∀ h : 0 < a0_0.size, ((a0_0[0]'h).toNat : Int) = bt a0_0 0 := bt_at a0_0 0
 have qib1 := eq_true (aD : 0 < (a0_0.size : Int))
 have qb1 : (0 < a0_0.size) = True := eq_true (by have : (0 : Int) < (a0_0.size : Int) := aD; omega)
 have hxb2 : ∀ h : 0 < a0_0.size, ((a0_0[0]'h).toNat : Int) = bt a0_0 0 := bt_at a0_0 0
 have qib2 := eq_true (aD : 0 < (a0_0.size : Int))
 have qb2 : (0 < a0_0.size) = True := eq_true (by have : (0 : Int) < (a0_0.size : Int) := aD; omega)
 rotate_left
 obtain rfl := si h
 have hxb3 : ∀ h : 0 < a0_0.size, ((a0_0[0]'h).toNat : Int) = bt a0_0 0 := bt_at a0_0 0
 have qib3 := eq_true (aD : 0 < (a0_0.size : Int))
 have qb3 : (0 < a0_0.size) = True := eq_true (by have : (0 : Int) < (a0_0.size : Int) := aD; omega)
 have hxb4 : ∀ h : 0 < a0_0.size, ((a0_0[0]'h).toNat : Int) = bt a0_0 0 := bt_at a0_0 0
 have qib4 := eq_true (aD : 0 < (a0_0.size : Int))
 have qb4 : (0 < a0_0.size) = True := eq_true (by have : (0 : Int) < (a0_0.size : Int) := aD; omega)
 rotate_left
 obtain rfl := si h
 have hxb5 : ∀ h : 0 < a0_0.size, ((a0_0[0]'h).toNat : Int) = bt a0_0 0 := bt_at a0_0 0
 have qib5 := eq_true (aD : 0 < (a0_0.size : Int))
 have qb5 : (0 < a0_0.size) = True := eq_true (by have : (0 : Int) < (a0_0.size : Int) := aD; omega)
 have hxb6 : ∀ h : 0 < a0_0.size, ((a0_0[0]'h).toNat : Int) = bt a0_0 0 := bt_at a0_0 0
 have qib6 := eq_true (aD : 0 < (a0_0.size : Int))
 have qb6 : (0 < a0_0.size) = True := eq_true (by have : (0 : Int) < (a0_0.size : Int) := aD; omega)
 rotate_left
 obtain rfl := si h
 have hxb7 : ∀ h : 0 < a0_0.size, ((a0_0[0]'h).toNat : Int) = bt a0_0 0 := bt_at a0_0 0
 have qib7 := eq_true (aD : 0 < (a0_0.size : Int))
 have qb7 : (0 < a0_0.size) = True := eq_true (by have : (0 : Int) < (a0_0.size : Int) := aD; omega)
 rotate_left
 exact absurd h (by simp)
 obtain rfl := si h
 rotate_left
 all_goals (go_enter Tryd.func80, Tryd.ntmps80; go_wp2_with (first | (go_at_call 64; refine (spec_l1In.calls _ _ _ ?_ _ ?h).mono ?_; (case h => exact zA); rintro e w1 ⟨rfl, hb⟩; replace hb := hb.below; replace hb := aM hb; have HW : Below W.heap.size W w1 := zB; have HB : Below w.heap.size w w1 := zB)); go_ret; exact zE zB)

end Go.Proofs.YtckpikfbhlhhjaaDoor.PFnFactFormat
