import Derived.Test.YteddnlklfjpgoaaPFnInsertDeletex0
import Derived.Test.YteddnlklfjpgoaaPFnInsertDeletex12
import Derived.Test.YteddnlklfjpgoaaPFnInsertDeletex15
import Derived.Test.YteddnlklfjpgoaaPFnInsertDeletex16
namespace Go.Proofs.Yteddnlklfjpgoaa.PFnInsertDelete
open Go.RowKit Go.Proofs.YteddnlklfjpgoaaW.PrintWords Go.Proofs.YteddnlklfjpgoaaW.PrintLast Go.Proofs.YteddnlklfjpgoaaW.PrintMore
attribute [local go_sem] max2_int min2_int max_two min_two max_three min_three max_four min_four
set_option linter.unusedVariables false
set_option linter.unusedSimpArgs false

/-! ### spec_l1Once: function 86 -/
def spec_l1Once.f (s0_0 : List Int) (s0_1 : Int) (s0_2 : Int) (a1 : Int) : Option (Bool × Int × Int) := (spec_l1Below.f s0_0 s0_1 s0_2 a1).bind fun bt463 => (some ((bt463.1 == 0), bt463.2.1, bt463.2.2))
set_option maxHeartbeats 8000000 in
set_option maxRecDepth 100000 in
theorem spec_l1Once.calls (g : Nat) (s0_0 : List Int) (s0_1 : Int) (s0_2 : Int) (a1 : Int) (r1 : Bool) (r2 : Int) (r3 : Int) (w0 w : World) (hI : IsS95 w0 w g s0_0 s0_1 s0_2) (hB : Below w0.heap.size w0 w) (h : spec_l1Once.f s0_0 s0_1 s0_2 a1 = some (r1, r2, r3)) :
  Calls Try.prog 86 #[.pointer (some ⟨g, 0, none⟩), .int .i64 a1] w fun e w' => e = .returned (.bool r1) ∧ IsS95 w0 w' g s0_0 r2 r3 ∧ Below w0.heap.size w0 w' ∧ KeepBut w w' g none := by
 have HI0 := aM hI
 have HK := aM (KeepBut.refl w g none)
 have HL := aM hB.size
 clear hI
 have HW0 := aM hB.size
 have HB := aM hB
 clear hB
 have H : ((spec_l1Below.f s0_0 s0_1 s0_2 a1).bind fun bt463 => (some ((bt463.1 == 0), bt463.2.1, bt463.2.2))) = some (r1, r2, r3) := h
 clear h
 replace H := bM H
 obtain ⟨⟨t463, t464, t465⟩, A30, H⟩ := H
 dsimp only at H
 have A3 := aM A30
 clear A30
 simp only [Option.some.injEq, Prod.mk.injEq] at H
 obtain ⟨rfl, rfl, rfl⟩ := H
 go_enter Try.func86, Try.ntmps86
 go_wp2_with (first | ((with_reducible refine gate_callee (f := 83) rfl ?_); refine goesL_ (some 7) rfl rfl Try.func83 (by kernel_rfl) rfl #[.pointer (some ⟨g, 0, none⟩), .int .i64 a1] rfl aA ?_; (with_reducible refine (spec_l1Below.calls g s0_0 s0_1 s0_2 a1 t463 t464 t465 w0 _ ?side1 ?side2 A3.out).mono ?_); (case side1 => exact aZ); (case side2 => exact aY); rintro e w4 ⟨rfl, hi, hb, hk⟩; refine ⟨_, rfl, ?_⟩; replace HK := aM (KeepBut.trans aQ hk (.inl rfl)); replace HB := aM (hb); replace HI0 := aM (hi); (try clear hb); (try clear hb2); (try clear hk); (try clear hi)))
 go_ret
 exact ⟨aE, aZ, aY, aQ⟩

theorem v_in {W : World} {base : Nat} {ok : Nat → Prop} {ad : Addr} {n c : Nat} {xs : List S45} (h : Kd.V k45 45 W base ok (.slice (some ad) n c) xs) (hn : 0 < n) : ok ad.block := Kd.F_in (Kd.V_F h) rfl hn (by decide)

/-! ### spec_l4Fact: function 75 -/
def spec_l4Fact.j0 : Nat → Bool → List Int → Int → Int → List (S74) → List (S45) → Option (Int × List Int × Int × Int)
 | 0, _, _, _, _, _, _ => none
 | k + 1, x12, x1000, x1001, x1002, x467000, x467001 => if x12 = true then ((spec_l1Below.f x1000 x1001 x1002 (x467001.length : Int)).bind fun bt471 => (if 0 ≤ bt471.1 then (if bt471.1 < (x467001.length : Int) then (some ((rd_T45 x467001 bt471.1).f0, (rd_T45 x467001 bt471.1).f1, bt471.2.1, bt471.2.2)) else (none)) else (none))) else ((spec_l3Any.f k x1000 x1001 x1002 (([(⟨(⟨#[114]⟩ : ByteArray), 2, 0⟩ : S74), (⟨(⟨#[115]⟩ : ByteArray), 2, 0⟩ : S74), (⟨(⟨#[116]⟩ : ByteArray), 2, 0⟩ : S74), (⟨(⟨#[117]⟩ : ByteArray), 3, 0⟩ : S74)] : List (S74)))).bind fun bt478 => (some (bt478.1, bt478.2.1, bt478.2.2.1, bt478.2.2.2)))
def spec_l4Fact.f (k : Nat) (s0_0 : List Int) (s0_1 : Int) (s0_2 : Int) (l1_0 : List (S74)) (l1_1 : List (S45)) : Option (Int × List Int × Int × Int) := if (l1_1.length : Int) > 0 then ((spec_l1Once.f s0_0 s0_1 s0_2 2).bind fun bt468 => (spec_l4Fact.j0 k bt468.1 s0_0 bt468.2.1 bt468.2.2 l1_0 l1_1)) else (spec_l4Fact.j0 k false s0_0 s0_1 s0_2 l1_0 l1_1)
def spec_l4Fact.T2 : Bool × List (List Nat × List Nat) := (true, [([], []), ([0], [0]), ([], []), ([], []), ([3], [3]), ([4], [4]), ([2, 5], [2, 5]), ([1, 6], [1, 6]), ([7], [7]), ([8, 6, 0, 1, 2, 3, 4, 5, 6, 7, 8], [8])])
def spec_l4Fact.B2 : List Nat := [0, 1, 0, 0, 8, 24, 60, 127, 255, 511]
theorem spec_l4Fact.tab2 : rtab .any (opsOf Try.f75 2) = spec_l4Fact.T2 := by kernel_rfl
theorem spec_l4Fact.bits2 : waitsOk spec_l4Fact.T2.2 spec_l4Fact.B2 = true := by kernel_rfl
set_option maxHeartbeats 8000000 in
set_option maxRecDepth 100000 in
theorem spec_l4Fact.calls (k : Nat) (g : Nat) (s0_0 : List Int) (s0_1 : Int) (s0_2 : Int) (A1_0 : Option Addr) (c1_0 : Nat) (l1_0 : List (S74)) (P1_1_ : Nat → Prop) (A1_1 : Option Addr) (c1_1 : Nat) (l1_1 : List (S45)) (r1 : Int) (r2 : List Int) (r3 : Int) (r4 : Int) (w0 w : World) (hI : IsS95 w0 w g s0_0 s0_1 s0_2) (hB : Below w0.heap.size w0 w) (hr1_0 : ∀ W_, KeepBut w W_ g none → Kd.C k74 W_ A1_0 l1_0.length l1_0) (hc1_0 : l1_0.length ≤ c1_0) (hs1_1 : Kd.V k45 45 w w.heap.size (fun k_ => P1_1_ k_ ∧ k_ ≠ g) (.slice A1_1 l1_1.length c1_1) l1_1) (h : spec_l4Fact.f k s0_0 s0_1 s0_2 l1_0 l1_1 = some (r1, r2, r3, r4)) :
  Calls Try.prog 75 #[.pointer (some ⟨g, 0, none⟩), .agg #[.slice A1_0 l1_0.length c1_0, .slice A1_1 l1_1.length c1_1]] w fun e w' => ∃ v1_ : Value, e = .returned (.agg #[.int .i64 r1, v1_]) ∧ Kd.V (Kd.int .i64) 3 w' w.heap.size (fun k_ => (P1_1_ k_ ∨ w.heap.size ≤ k_)) v1_ r2 ∧ IsS95 w0 w' g s0_0 r3 r4 ∧ Below w0.heap.size w0 w' ∧ KeepBut w w' g none := by
 have hu31 := Try.underlying31
 have hu45 := Try.underlying45
 have hu74 := Try.underlying74
 have HR1_0 := aM hr1_0
 have HC1_0 := aM hc1_0
 clear hr1_0 hc1_0
 have HO1_1 := aM (show Kd.V k45 45 w w.heap.size (fun k_ => (P1_1_ k_ ∨ w.heap.size ≤ k_) ∧ k_ ≠ g) (.slice A1_1 l1_1.length c1_1) l1_1 from Kd.V_mono hs1_1 (fun k_ hk => ⟨.inl hk.1, hk.2⟩))
 have HI0 := aM hI
 have HK := aM (KeepBut.refl w g none)
 have HL := aM hB.size
 clear hI
 have HW0 := aM hB.size
 have HB := aM hB
 clear hB
 have H : (if (l1_1.length : Int) > 0 then ((spec_l1Once.f s0_0 s0_1 s0_2 2).bind fun bt468 => (spec_l4Fact.j0 k bt468.1 s0_0 bt468.2.1 bt468.2.2 l1_0 l1_1)) else (spec_l4Fact.j0 k false s0_0 s0_1 s0_2 l1_0 l1_1)) = some (r1, r2, r3, r4) := h
 clear h
 have HC3 := aM H
 clear H
 go_enter Try.func75, Try.ntmps75
 go_upto_region 1 with (first | ((with_reducible refine gate_dst (N := 3) rfl ?_); refine bE 3 (cs := #[.slice A1_0 l1_0.length c1_0, .slice A1_1 l1_1.length c1_1]) (t := 31) ?_; intro gb466 hg w4 hbox hb; have BK466 := aM (hbox); have GW466 := aM ((by rw [hg]; exact (kS (w := w) (g := g)) : w.heap.size ≤ gb466)); have GE466 := aM ((Nat.le_trans HW0.out (by rw [hg]; exact (kS (w := w) (g := g)) : w.heap.size ≤ gb466) : w0.heap.size ≤ gb466)); have NB0_466 := aM ((by rw [hg]; exact Nat.ne_of_lt (IsS95.lt (show IsS95 w0 _ g s0_0 s0_1 s0_2 from aZ)) : g ≠ gb466)); have NB466_0 := aM ((by rw [hg]; exact Nat.ne_of_gt (IsS95.lt (show IsS95 w0 _ g s0_0 s0_1 s0_2 from aZ)) : gb466 ≠ g)); replace HO1_1 := aM (Kd.V_below (Kd.V_elderB (aV HO1_1) gb466 (Nat.le_of_eq hg.symm)) hb); replace HK := aM (KeepBut.trans aQ (KeepBut.of_below hb g none) (.inl rfl)); replace HB := aM (below_step aY hb); replace HI0 := aM (IsS95.below aZ hb); clear hb hbox hg) | ((with_reducible refine gate_dst (N := 4) rfl ?_); refine bE 4 (cs := #[.int .i64 0, .slice none 0 0]) (t := 45) ?_; intro gb467 hg w5 hbox hb; have BK467 := aM (hbox); have GW467 := aM ((by rw [hg]; exact (kS (w := w) (g := g)) : w.heap.size ≤ gb467)); have GE467 := aM ((Nat.le_trans HW0.out (by rw [hg]; exact (kS (w := w) (g := g)) : w.heap.size ≤ gb467) : w0.heap.size ≤ gb467)); have NB466_467 := aM ((by rw [hg]; exact Nat.ne_of_lt (blk_lt (g := gb466) aK) : gb466 ≠ gb467)); have NB467_466 := aM ((by rw [hg]; exact Nat.ne_of_gt (blk_lt (g := gb466) aK) : gb467 ≠ gb466)); have NB0_467 := aM ((by rw [hg]; exact Nat.ne_of_lt (IsS95.lt (show IsS95 w0 _ g s0_0 s0_1 s0_2 from aZ)) : g ≠ gb467)); have NB467_0 := aM ((by rw [hg]; exact Nat.ne_of_gt (IsS95.lt (show IsS95 w0 _ g s0_0 s0_1 s0_2 from aZ)) : gb467 ≠ g)); replace HO1_1 := aM (Kd.V_below (Kd.V_elderB (aV HO1_1) gb467 (Nat.le_of_eq hg.symm)) hb); replace BK466 := aM (kB gb466 #[.slice A1_0 l1_0.length c1_0, .slice A1_1 l1_1.length c1_1] 31 hb); replace HK := aM (KeepBut.trans aQ (KeepBut.of_below hb g none) (.inl rfl)); replace HB := aM (below_step aY hb); replace HI0 := aM (IsS95.below aZ hb); clear hb hbox hg))
 (try simp only [Act.put, List.setIfInBounds_toArray, List.set_cons_zero, List.set_cons_succ])
 go_cut [12] (fun v12 wc => ∃ (kq : Nat) (x12_2 : Bool) (x1001_2 : Int) (x1002_2 : Int), v12 = .bool x12_2 ∧ Aside0 (spec_l4Fact.j0 kq x12_2 s0_0 x1001_2 x1002_2 l1_0 l1_1 = some (r1, r2, r3, r4)) ∧ Aside0 (kq ≤ k) ∧ Aside0 (Kd.V k45 45 wc w.heap.size (fun k_ => (P1_1_ k_ ∨ w.heap.size ≤ k_) ∧ k_ ≠ gb466 ∧ k_ ≠ gb467 ∧ k_ ≠ g) (.slice A1_1 l1_1.length c1_1) l1_1) ∧ Aside0 (wc.heap[gb466]? = some (.cells #[(.slice A1_0 l1_0.length c1_0), (.slice A1_1 l1_1.length c1_1)] 31 (0, 0))) ∧ Aside0 (wc.heap[gb467]? = some (.cells #[.int .i64 0, (.slice none 0 0)] 45 (0, 0))) ∧ Aside0 (IsS95 w0 wc g s0_0 x1001_2 x1002_2) ∧ Aside0 (KeepBut w wc g none) ∧ Aside0 (Below w0.heap.size w0 wc))
 case first =>
  have H := HC3.out
  clear HC3
  by_cases c6 : (l1_1.length : Int) > 0
  ·rw [if_pos c6] at H
   have c6b0 : decide (0 < (l1_1.length : Int)) = true := decide_eq_true c6
   have c6b1 : decide (0 < l1_1.length) = true := decide_eq_true (by omega)
   clear c6
   (first | rw [c6b0] | (simp only [i64_w, i32_w]; rw [c6b0]) | skip)
   replace H := bM H
   obtain ⟨⟨t468, t469, t470⟩, A70, H⟩ := H
   dsimp only at H
   have A7 := aM A70
   clear A70
   have H' := aM H
   clear H
   have hnb8 := NB466_467.out
   have hnc8 := NB467_466.out
   have hnb9 := NB466_0.out
   have hnc9 := NB0_466.out
   have hcz10_0 : w5.cell? ⟨gb466, 0, none⟩ = some (.slice A1_0 l1_0.length c1_0) := (blk_cell BK466.out 0).trans rfl
   have hcz10_1 : w5.cell? ⟨gb466, 1, none⟩ = some (.slice A1_1 l1_1.length c1_1) := (blk_cell BK466.out 1).trans rfl
   have hfz10_0 := blk_frozen BK466.out 0
   have hfz10_1 := blk_frozen BK466.out 1
   go_wp2_with (first | (go_at_call 86; (with_reducible refine (spec_l1Once.calls g s0_0 s0_1 s0_2 2 t468 t469 t470 w0 _ ?side1 ?side2 A7.out).mono ?_); (case side1 => exact aZ); (case side2 => exact aY); rintro e w11 ⟨rfl, hi, hb, hk⟩; have n0_ := aM (Kd.V_mono (Kd.V_keep (Kd.V_mono (ok := fun k_ => (((((P1_1_ k_ ∨ w.heap.size ≤ k_)) ∧ k_ ≠ g) ∧ k_ ≠ gb466) ∧ k_ ≠ gb467)) (aV HO1_1) (fun k_ hk_ => (⟨hk_, hk_.1.1.2⟩ : _ ∧ k_ ≠ g))) hk (fun _ h => h.2)) (fun _ h => h.1)); have n1_ := aM (KeepBut.blk hk (g' := gb466) aK NB466_0.out (by simp)); have n2_ := aM (KeepBut.blk hk (g' := gb467) aK NB467_0.out (by simp)); have n3_ := aM (KeepBut.trans aQ hk (.inl rfl)); have n4_ := aM (hb); have n5_ := aM (hi); clear HO1_1; clear BK466; clear BK467; clear HK; clear HB; clear HI0; have HO1_1 := n0_; have BK466 := n1_; have BK467 := n2_; have HK := n3_; have HB := n4_; have HI0 := n5_; clear n0_ n1_ n2_ n3_ n4_ n5_; (try clear hb); (try clear hb2); (try clear hk); (try clear hi)))
   go_meet
   case rel => exact ⟨_, (t468), (t469), (t470), aX, H', ⟨by first | omega | exact Nat.le_refl _⟩, ⟨by (with_reducible repeat apply pV); exact Kd.V_mono HO1_1.out (fun _ hk => ⟨hk.1.1.1, ⟨hk.1.2, ⟨hk.2, hk.1.1.2⟩⟩⟩)⟩, ⟨aK⟩, ⟨aK⟩, ⟨aZ⟩, ⟨aQ⟩, ⟨aY⟩⟩
  ·rw [if_neg c6] at H
   have c6b0 : decide (0 < (l1_1.length : Int)) = false := decide_eq_false c6
   have c6b1 : decide (0 < l1_1.length) = false := decide_eq_false (by omega)
   clear c6
   (first | rw [c6b0] | (simp only [i64_w, i32_w]; rw [c6b0]) | skip)
   have H' := aM H
   clear H
   have hnb12 := NB466_467.out
   have hnc12 := NB467_466.out
   have hnb13 := NB466_0.out
   have hnc13 := NB0_466.out
   have hcz14_0 : w5.cell? ⟨gb466, 0, none⟩ = some (.slice A1_0 l1_0.length c1_0) := (blk_cell BK466.out 0).trans rfl
   have hcz14_1 : w5.cell? ⟨gb466, 1, none⟩ = some (.slice A1_1 l1_1.length c1_1) := (blk_cell BK466.out 1).trans rfl
   have hfz14_0 := blk_frozen BK466.out 0
   have hfz14_1 := blk_frozen BK466.out 1
   go_wp2
   go_meet
   case rel => exact ⟨_, (false), (s0_1), (s0_2), aX, H', ⟨by first | omega | exact Nat.le_refl _⟩, ⟨by (with_reducible repeat apply pV); exact Kd.V_mono HO1_1.out (fun _ hk => ⟨hk.1.1.1, ⟨hk.1.2, ⟨hk.2, hk.1.1.2⟩⟩⟩)⟩, ⟨aK⟩, ⟨aK⟩, ⟨aZ⟩, ⟨aQ⟩, ⟨aY⟩⟩
 case rest =>
  clear HC3
  try clear c1
  try clear p2
  try clear c6
  try clear c6b0
  try clear c6b1
  try clear c7
  try clear c8
  try clear c9
  try clear c12
  try clear c13
  try clear hcz10_0
  try clear hcz10_1
  try clear hcz14_0
  try clear hcz14_1
  try clear hfz10_0
  try clear hfz10_1
  try clear hfz14_0
  try clear hfz14_1
  obtain ⟨kq, x12_2, x1001_2, x1002_2, rfl, HA, HJ2, HO_467001, BK466, BK467, HI0, HK, HB⟩ := hcut
  cases kq with
  | zero => exact absurd HA.out (by simp [spec_l4Fact.j0])
  | succ kj2 =>
   have H := HA.out
   clear HA
   simp only [spec_l4Fact.j0] at H
   by_cases c15 : x12_2 = true
   ·subst c15
    replace H := iT H
    replace H := bM H
    obtain ⟨⟨t471, t472, t473⟩, A160, H⟩ := H
    dsimp only at H
    have A16 := aM A160
    clear A160
    by_cases c17 : 0 ≤ t471
    ·rw [if_pos c17] at H
     have c17b0 : decide (0 ≤ t471) = true := decide_eq_true c17
     clear c17
     by_cases c18 : t471 < (l1_1.length : Int)
     ·rw [if_pos c18] at H
      have c18b0 : decide (t471 < (l1_1.length : Int)) = true := decide_eq_true c18
      clear c18
      simp only [Option.some.injEq, Prod.mk.injEq] at H
      obtain ⟨rfl, rfl, rfl, rfl⟩ := H
      try go_wp2
      replace HO_467001 := aM (Kd.V_drew HO_467001.out)
      replace BK466 := aM (blk_drew BK466.out)
      replace BK467 := aM (blk_drew BK467.out)
      replace HI0 := aM (IsS95.drew HI0.out)
      replace HK := aM (keep_drew HK.out)
      replace HB := aM (below_drew1 HB.out)
      have p474 : 0 ≤ (t471 : Int) := aD
      have q474 : t471 < (l1_1.length : Int) := aD
      obtain ⟨ad474, A474_1, c474_1, e474, hx474_0, hx474_1, hl474_1, hi474_1⟩ := at_T45 (Kd.V_reads' HO_467001.out).2.2 t471 p474 q474
      cases e474
      obtain ⟨ce474, hce474, hMe474, hcc474⟩ := Kd.V_get HO_467001.out z45 t471 p474 (by first | exact q474 | exact aD | (have e_ := (Kd.V_reads' HO_467001.out).1; omega))
      obtain ⟨ua474_1, uc474_1, rfl, ul474_1, ge474_1⟩ := k45_openF hMe474
      have hv474_1 := hcc474 1 _ rfl
      rw [add_field _ _ 1 (by omega)] at hv474_1
      replace hv474_1 := Option.some.inj (hv474_1.symm.trans hx474_1)
      injection hv474_1 with hva_ hvn_ hvc_
      rw [hva_] at ge474_1
      rw [hvc_] at ul474_1
      have HL474_1 := aM (show Kd.V (Kd.int .i64) 3 _ w.heap.size _ _ ((rd_T45 l1_1 t471).f1) from Kd.V_mk ul474_1 ge474_1)
      clear hva_ hvn_ hvc_ ge474_1 ul474_1
      clear hcc474 hce474
      have HR474_1 := aM hi474_1
      have HC474_1 := aM hl474_1
      clear hi474_1 hl474_1
      replace p474 := eq_true p474
      replace q474 := eq_true q474
      have hin_ : 0 < l1_1.length := by have a_ := of_eq_true p474; have b_ := of_eq_true q474; omega
      refine start_ (n := 10) (S := fun w' => w'.cell? ⟨gb466, 0, none⟩ = some (.slice A1_0 l1_0.length c1_0) ∧ w'.cell? ⟨gb466, 1, none⟩ = some (.slice (some ad474) l1_1.length c1_1) ∧ w'.cell? (ad474.add ((t471).toNat * 2)) = some (.int .i64 ((rd_T45 l1_1 t471).f0)) ∧ w'.cell? ⟨(ad474.add ((t471).toNat * 2)).block, (ad474.add ((t471).toNat * 2)).off + 1, none⟩ = some (.slice A474_1 ((rd_T45 l1_1 t471).f1).length c474_1)) (ds := []) #[false, false, false, false, false, false, false, false, false, false] (by kernel_rfl) rfl rfl ⟨(blk_cell BK466.out 0).trans rfl, (blk_cell BK466.out 1).trans rfl, hx474_0, hx474_1⟩ (fun hHeld => ?_); refine with_tabW spec_l4Fact.tab2 spec_l4Fact.bits2 (fun HT_ HW_ => ?_)
      generalize wc.drew = w19 at HO_467001 BK466 BK467 HI0 HK HB HL474_1 HR474_1 hx474_0 hx474_1 hHeld ⊢
      refine pU 0 13 ?_
      refine pU 2 15 ?_
      refine pU 3 16 ?_
      refine tU4 1 14 hHeld ?_
      refine tU4 4 17 hHeld ?_
      refine pU 5 18 ?_
      refine oU 6 19 (fun K hK => ?_)
      refine goes_ Try.func83 (by kernel_rfl) rfl #[.pointer (some ⟨g, 0, none⟩), .int .i64 (l1_1.length : Int)] (by rfl) rfl rfl aA ?_
      with_reducible refine (spec_l1Below.calls g s0_0 x1001_2 x1002_2 (l1_1.length : Int) t471 t472 t473 w0 _ ?side1 ?side2 A16.out).mono ?_
      (case side1 => exact aZ)
      (case side2 => exact aY)
      rintro e w20 ⟨rfl, hi, hb, hk⟩
      have HS2_ := keep_cell hk (hHeld.2.2.1) (by first | (rw [add_block]; exact (v_in HO_467001.out hin_).2.2.2) | (show (Addr.add _ _).block ≠ _; rw [add_block]; exact (v_in HO_467001.out hin_).2.2.2) | exact (v_in HO_467001.out hin_).2.2.2)
      have HS3_ := keep_cell hk (hHeld.2.2.2) (by first | (rw [add_block]; exact (v_in HO_467001.out hin_).2.2.2) | (show (Addr.add _ _).block ≠ _; rw [add_block]; exact (v_in HO_467001.out hin_).2.2.2) | exact (v_in HO_467001.out hin_).2.2.2)
      refine ⟨_, rfl, ?_⟩
      have n0_ := aM (Kd.V_mono (Kd.V_keep (Kd.V_mono (ok := fun k_ => (((P1_1_ k_ ∨ w.heap.size ≤ k_)) ∧ (k_ ≠ gb466 ∧ (k_ ≠ gb467 ∧ k_ ≠ g)))) (aV HO_467001) (fun k_ hk_ => (⟨hk_, hk_.2.2.2⟩ : _ ∧ k_ ≠ g))) hk (fun _ h => h.2)) (fun _ h => h.1))
      have hl_ := aM (Kd.V_mono (Kd.V_keep (Kd.V_mono (ok := fun k_ => (((P1_1_ k_ ∨ w.heap.size ≤ k_)) ∧ (k_ ≠ gb466 ∧ (k_ ≠ gb467 ∧ k_ ≠ g)))) (aV HL474_1) (fun k_ hk_ => (⟨hk_, hk_.2.2.2⟩ : _ ∧ k_ ≠ g))) hk (fun _ h => h.2)) (fun _ h => h.1))
      clear HL474_1
      have HL474_1 := hl_
      clear hl_
      have n1_ := aM (KeepBut.blk hk (g' := gb466) aK NB466_0.out (by simp))
      have n2_ := aM (KeepBut.blk hk (g' := gb467) aK NB467_0.out (by simp))
      have n3_ := aM (KeepBut.trans aQ hk (.inl rfl))
      have n4_ := aM (hb)
      have n5_ := aM (hi)
      clear HO_467001
      clear BK466
      clear BK467
      clear HK
      clear HB
      clear HI0
      have HO_467001 := n0_
      have BK466 := n1_
      have BK467 := n2_
      have HK := n3_
      have HB := n4_
      have HI0 := n5_
      clear n0_ n1_ n2_ n3_ n4_ n5_
      (try clear hb)
      (try clear hb2)
      (try clear hk)
      (try clear hi)
      refine hK.out _ _ ⟨(blk_cell BK466.out 0).trans rfl, (blk_cell BK466.out 1).trans rfl, HS2_, HS3_⟩ (fun hHeld => ?_)
      clear hK K
      refine nU 19 ?_
      refine pU 7 20 ?_
      refine tU4 8 21 hHeld ?_
      refine one_ (i := 9) (N := none) #[true, true, true, true, true, true, true, true, true, true] rfl rfl (one_of HT_.out (by kernel_rfl)) (by decide) (fun K hK => ?_)
      have hs21 : w20.cell? ⟨gb467, 0, none⟩ = some (.int .i64 0) := (blk_cell BK467.out 0).trans rfl
      have hfs21 := blk_frozen BK467.out 0
      have hns21_0 := NB466_467.out
      have hms21_0 := NB467_466.out
      have hs22 : w20.cell? ⟨gb467, 1, none⟩ = some (.slice none 0 0) := (blk_cell BK467.out 1).trans rfl
      have hfs22 := blk_frozen BK467.out 1
      have hns22_0 := NB466_467.out
      have hms22_0 := NB467_466.out
      refine skip_ (w1 := ?_) (by rfl) rfl ?_ ?_
      rotate_left
      ·go_simp
       rfl
      refine hK.out _ _ ⟨((cell_far (p := ⟨gb467, _, none⟩) NB466_467.out _).trans (((cell_far (p := ⟨gb467, _, none⟩) NB466_467.out _).trans (hHeld.1)))), ((cell_far (p := ⟨gb467, _, none⟩) NB466_467.out _).trans (((cell_far (p := ⟨gb467, _, none⟩) NB466_467.out _).trans (hHeld.2.1)))), ((cell_far (p := ⟨gb467, _, none⟩) (by first | exact (v_in HO_467001.out hin_).2.2.1 | (rw [add_block]; exact (v_in HO_467001.out hin_).2.2.1) | (show (Addr.add _ _).block ≠ _; rw [add_block]; exact (v_in HO_467001.out hin_).2.2.1) | (dsimp only; exact (v_in HO_467001.out hin_).2.2.1)) _).trans (((cell_far (p := ⟨gb467, _, none⟩) (by first | exact (v_in HO_467001.out hin_).2.2.1 | (rw [add_block]; exact (v_in HO_467001.out hin_).2.2.1) | (show (Addr.add _ _).block ≠ _; rw [add_block]; exact (v_in HO_467001.out hin_).2.2.1) | (dsimp only; exact (v_in HO_467001.out hin_).2.2.1)) _).trans (hHeld.2.2.1)))), ((cell_far (p := ⟨gb467, _, none⟩) (by first | exact (v_in HO_467001.out hin_).2.2.1 | (rw [add_block]; exact (v_in HO_467001.out hin_).2.2.1) | (show (Addr.add _ _).block ≠ _; rw [add_block]; exact (v_in HO_467001.out hin_).2.2.1) | (dsimp only; exact (v_in HO_467001.out hin_).2.2.1)) _).trans (((cell_far (p := ⟨gb467, _, none⟩) (by first | exact (v_in HO_467001.out hin_).2.2.1 | (rw [add_block]; exact (v_in HO_467001.out hin_).2.2.1) | (show (Addr.add _ _).block ≠ _; rw [add_block]; exact (v_in HO_467001.out hin_).2.2.1) | (dsimp only; exact (v_in HO_467001.out hin_).2.2.1)) _).trans (hHeld.2.2.2))))⟩ (fun hHeld => ?_)
      clear hK K
      refine done_ (done_of HT_.out (by kernel_rfl)) ?_
      try go_wp2
      refine bodyPost_ret (results_cell_row rfl _ _ gb467 45 #[.int .i64 ((rd_T45 l1_1 t471).f0), .slice A474_1 ((rd_T45 l1_1 t471).f1).length c474_1] (0, 0) _ rfl (bP2 BK467.out) Try.underlying45 rfl (by kernel_rfl)) rfl ?_
      exact ⟨_, aE, by (with_reducible repeat apply pV); exact Kd.V_mono (Kd.V_far (p := ⟨gb467, 1, none⟩) (Kd.V_far (p := ⟨gb467, 0, none⟩) (Kd.V_mono HL474_1.out (fun k_ hk => (⟨hk, hk.2.2.1⟩ : _ ∧ k_ ≠ gb467))) (fun _ hk => hk.2) (.int .i64 ((rd_T45 l1_1 t471).f0))) (fun _ hk => hk.2) (.slice A474_1 ((rd_T45 l1_1 t471).f1).length c474_1)) (fun _ hk => hk.1.1), aZ, aY, aQ⟩
     ·rw [if_neg c18] at H
      exact absurd H (by simp)
    ·rw [if_neg c17] at H
     exact absurd H (by simp)
   ·replace c15 := Bool.eq_false_iff.mpr c15
    subst c15
    have H1 : ((spec_l3Any.f kj2 s0_0 x1001_2 x1002_2 (([(⟨(⟨#[114]⟩ : ByteArray), 2, 0⟩ : S74), (⟨(⟨#[115]⟩ : ByteArray), 2, 0⟩ : S74), (⟨(⟨#[116]⟩ : ByteArray), 2, 0⟩ : S74), (⟨(⟨#[117]⟩ : ByteArray), 3, 0⟩ : S74)] : List (S74)))).bind fun bt478 => (some (bt478.1, bt478.2.1, bt478.2.2.1, bt478.2.2.2))) = some (r1, r2, r3, r4) := by rw [if_neg (show ¬ (false = true) by decide)] at H; exact H
    clear H
    have H := H1
    clear H1
    obtain ⟨y475, hy475⟩ : ∃ y_ : List (S74), y_ = (([(⟨(⟨#[114]⟩ : ByteArray), 2, 0⟩ : S74), (⟨(⟨#[115]⟩ : ByteArray), 2, 0⟩ : S74), (⟨(⟨#[116]⟩ : ByteArray), 2, 0⟩ : S74), (⟨(⟨#[117]⟩ : ByteArray), 3, 0⟩ : S74)] : List (S74))) := ⟨_, rfl⟩
    first | replace H := bY hy475 H | rw [← hy475] at H
    have Ny475 := aM hy475
    clear hy475
    replace H := bM H
    obtain ⟨⟨t478, t479, t482, t483⟩, A230, H⟩ := H
    dsimp only at H
    have A23 := aM A230
    clear A230
    simp only [Option.some.injEq, Prod.mk.injEq] at H
    obtain ⟨rfl, rfl, rfl, rfl⟩ := H
    go_wp2_with (first | ((with_reducible refine gate_dst (N := 27) rfl ?_); refine Kd.R_lit k74 _ 74 ?hg (N := 27) ?hd (xs := ([(⟨(⟨#[114]⟩ : ByteArray), 2, 0⟩ : S74), (⟨(⟨#[115]⟩ : ByteArray), 2, 0⟩ : S74), (⟨(⟨#[116]⟩ : ByteArray), 2, 0⟩ : S74), (⟨(⟨#[117]⟩ : ByteArray), 3, 0⟩ : S74)] : List (S74))) (inner := [.string (⟨#[114]⟩ : ByteArray), .int .i64 2, .int .i64 0, .string (⟨#[115]⟩ : ByteArray), .int .i64 2, .int .i64 0, .string (⟨#[116]⟩ : ByteArray), .int .i64 2, .int .i64 0, .string (⟨#[117]⟩ : ByteArray), .int .i64 3, .int .i64 0]) (ok := fun _ => True) (okp := fun _ => True) ?hr ?hp (fun _ hk => hk) trivial (Below.refl _ _) (Nat.le_refl _) (by simp) ?_; (case hd => rfl); (case hg => rfl); (case hr => first | (go_simp; done) | (go_simp; rfl)); (case hp => exact (Reps.c3 (show Kd.M k74 _ _ _ (⟨(⟨#[114]⟩ : ByteArray), 2, 0⟩ : S74) [.string (⟨#[114]⟩ : ByteArray), .int .i64 2, .int .i64 0] from (k74_mkM _ _ _ (⟨(⟨#[114]⟩ : ByteArray), 2, 0⟩ : S74) )) (Reps.c3 (show Kd.M k74 _ _ _ (⟨(⟨#[115]⟩ : ByteArray), 2, 0⟩ : S74) [.string (⟨#[115]⟩ : ByteArray), .int .i64 2, .int .i64 0] from (k74_mkM _ _ _ (⟨(⟨#[115]⟩ : ByteArray), 2, 0⟩ : S74) )) (Reps.c3 (show Kd.M k74 _ _ _ (⟨(⟨#[116]⟩ : ByteArray), 2, 0⟩ : S74) [.string (⟨#[116]⟩ : ByteArray), .int .i64 2, .int .i64 0] from (k74_mkM _ _ _ (⟨(⟨#[116]⟩ : ByteArray), 2, 0⟩ : S74) )) (Reps.c3 (show Kd.M k74 _ _ _ (⟨(⟨#[117]⟩ : ByteArray), 3, 0⟩ : S74) [.string (⟨#[117]⟩ : ByteArray), .int .i64 3, .int .i64 0] from (k74_mkM _ _ _ (⟨(⟨#[117]⟩ : ByteArray), 3, 0⟩ : S74) )) (Reps.none _ _)))))); intro v476 w24 ho25 hb hg_ hnew_; clear hg_ hnew_; (first | rw [← Ny475.out] at ho25 | (simp only [Int.reduceToNat] at ho25; rw [← Ny475.out] at ho25)); have n0_ := aM (Kd.V_elder' (aV HO_467001) (Kd.R_base ho25) hb); have n1_ := aM (Kd.R_lower (Kd.R_newM (M := fun k_ => (w.heap.size ≤ k_)) ho25 (kS (w := w) (g := g)) (fun k_ h_ => h_)) (kS (w := w) (g := g))); have n2_ := aM (kB gb466 #[.slice A1_0 l1_0.length c1_0, .slice A1_1 l1_1.length c1_1] 31 hb); have n3_ := aM (kB gb467 #[.int .i64 0, .slice none 0 0] 45 hb); have n4_ := aM (IsS95.below aZ hb); have n5_ := aM (KeepBut.trans aQ (KeepBut.of_below hb g none) (.inl rfl)); have n6_ := aM (below_step aY hb); clear HO_467001; clear BK466; clear BK467; clear HI0; clear HK; clear HB; have HO_467001 := n0_; have HO477 := n1_; have BK466 := n2_; have BK467 := n3_; have HI0 := n4_; have HK := n5_; have HB := n6_; clear n0_ n1_ n2_ n3_ n4_ n5_ n6_; clear hb ho25; obtain ⟨Ao26, co26, eo26⟩ := Kd.R_slice HO477.out; subst eo26) | ((with_reducible refine gate_callee (f := 84) rfl ?_); refine goesL_ (some 28) rfl rfl Try.func84 (by kernel_rfl) rfl #[.pointer (some ⟨g, 0, none⟩), .slice Ao26 y475.length co26] rfl aA ?_; (with_reducible refine (spec_l3Any.calls kj2 g s0_0 x1001_2 x1002_2 _ _ y475 t478 t479 t482 t483 w0 _ ?side1 ?side2 ?side3 ?side4 A23.out).mono ?_); (case side1 => exact aZ); (case side2 => exact aY); (case side3 => exact Kd.C_foot_own (IsS95.apart (show IsS95 w0 _ g s0_0 x1001_2 x1002_2 from aZ) (aR HO477) (by decide)) (fun _ h_ => h_.2)); (case side4 => exact (Kd.R_reads' HO477.out).2.1); rintro e w27 ⟨v480, rfl, ho0, hi, hb, hk⟩; refine ⟨_, rfl, ?_⟩; have n0_ := aM (Kd.V_mono (Kd.V_told (Kd.V_oldK (Kd.V_mono (ok := fun k_ => ((((P1_1_ k_ ∨ w.heap.size ≤ k_)) ∧ (k_ ≠ gb466 ∧ (k_ ≠ gb467 ∧ k_ ≠ g))) ∧ some k_ ≠ (.slice Ao26 y475.length co26 : Value).ownBlock)) (aV HO_467001) (fun k_ hk_ => (⟨hk_, hk_.1.2.2.2⟩ : _ ∧ k_ ≠ g))) hk) (Kd.R_base ho0)) (fun _ h_ => h_.1)); have n1_ := aM (KeepBut.blk hk (g' := gb466) aK NB466_0.out (by simp)); have n2_ := aM (KeepBut.blk hk (g' := gb467) aK NB467_0.out (by simp)); have n3_ := aM (Kd.R_mono (Kd.R_keep (IsS95.apart (show IsS95 w0 _ g s0_0 x1001_2 x1002_2 from aZ) (aR HO477) (by decide)) hk (fun _ h => h.2)) (fun _ h => h.1)); have n4_ := aM (Kd.R_lower (Kd.R_newM (M := fun k_ => (w.heap.size ≤ k_)) ho0 (kS (w := w) (g := g)) (fun k_ h_ => h_)) (kS (w := w) (g := g))); have n5_ := aM (KeepBut.trans aQ hk (.inl rfl)); have n6_ := aM (hb); have n7_ := aM (hi); clear HO_467001; clear BK466; clear BK467; clear HO477; clear HK; clear HB; clear HI0; have HO_467001 := n0_; have BK466 := n1_; have BK467 := n2_; have HO477 := n3_; have HO481 := n4_; have HK := n5_; have HB := n6_; have HI0 := n7_; clear n0_ n1_ n2_ n3_ n4_ n5_ n6_ n7_; (try clear hb); (try clear hb2); (try clear hk); (try clear hi); (try clear ho0); have hnb28 := NB467_466.out; have hnc28 := NB466_467.out; have hnb29 := NB467_0.out; have hnc29 := NB0_467.out; have hcz30_0 : w27.cell? ⟨gb467, 0, none⟩ = some (.int .i64 0) := (blk_cell BK467.out 0).trans rfl; have hcz30_1 : w27.cell? ⟨gb467, 1, none⟩ = some (.slice none 0 0) := (blk_cell BK467.out 1).trans rfl; have hfz30_0 := blk_frozen BK467.out 0; have hfz30_1 := blk_frozen BK467.out 1; obtain ⟨Ao31, co31, eo31⟩ := Kd.R_slice HO481.out; subst eo31))
    refine bodyPost_ret (results_cell_row rfl _ _ gb467 45 #[.int .i64 t478, .slice Ao31 t479.length co31] (0, 0) _ rfl (bP2 BK467.out) Try.underlying45 rfl (by kernel_rfl)) rfl ?_
    exact ⟨_, aE, Kd.V_mono (Kd.R_V (by (with_reducible repeat apply pR); exact Kd.R_mono (Kd.R_far (p := ⟨gb467, 1, none⟩) (Kd.R_far (p := ⟨gb467, 0, none⟩) (Kd.R_types HO481.out BK467.out (by decide)) (fun _ hk => hk.2) (.int .i64 t478)) (fun _ hk => hk.2) (.slice Ao31 t479.length co31)) (fun _ hk => hk.1.1))) (fun k_ hk => by first | exact ⟨(.inr (hk.1)), hk.2⟩ | exact (.inr (hk))), aZ, aY, aQ⟩

/-! ### spec_DrawContainsFact: function 55 -/
def spec_DrawContainsFact.f (k : Nat) (l0 : List Int) : Option ((List (S74)) × (List (S45)) × Int × List Int) := (spec_l1New.f k l0).bind fun bt486 => ((spec_l4Any.f k bt486.1 bt486.2.1 bt486.2.2).bind fun bt490 => ((spec_l4Fact.f k bt486.1 bt490.2.2.1 bt490.2.2.2 bt490.1 bt490.2.1).bind fun bt499 => (some (bt490.1, bt490.2.1, bt499.1, bt499.2.1))))
set_option maxHeartbeats 8000000 in
set_option maxRecDepth 100000 in
theorem spec_DrawContainsFact.calls (k : Nat) (A0 : Option Addr) (c0 : Nat) (l0 : List Int) (r1 : List (S74)) (r2 : List (S45)) (r3 : Int) (r4 : List Int) (w : World) (hr0 : Kd.C (Kd.int .u8) w A0 l0.length l0) (hc0 : l0.length ≤ c0) (h : spec_DrawContainsFact.f k l0 = some (r1, r2, r3, r4)) :
  Calls Try.prog 55 #[.slice A0 l0.length c0] w fun e w' => ∃ v0_ v1_ v3_ : Value, e = .returned (.tuple #[.agg #[v0_, v1_], .agg #[.int .i64 r3, v3_]]) ∧ Kd.R k74 74 w' w.heap.size (fun k_ => (w.heap.size ≤ k_)) v0_ r1 ∧ Kd.N k45 45 w' w.heap.size (fun k_ => (w.heap.size ≤ k_) ∧ some k_ ≠ (v0_ : Value).ownBlock) v1_ r2 ∧ Kd.V (Kd.int .i64) 3 w' w.heap.size (fun k_ => (w.heap.size ≤ k_)) v3_ r4 ∧ Below w.heap.size w w' := by
 have hu31 := Try.underlying31
 have hu45 := Try.underlying45
 have HR0 := aM hr0
 have HC0 := aM hc0
 clear hr0 hc0
 have HB := aM (Below.refl w.heap.size w)
 have H : ((spec_l1New.f k l0).bind fun bt486 => ((spec_l4Any.f k bt486.1 bt486.2.1 bt486.2.2).bind fun bt490 => ((spec_l4Fact.f k bt486.1 bt490.2.2.1 bt490.2.2.2 bt490.1 bt490.2.1).bind fun bt499 => (some (bt490.1, bt490.2.1, bt499.1, bt499.2.1))))) = some (r1, r2, r3, r4) := h
 clear h
 replace H := bM H
 obtain ⟨⟨t486, t487, t488⟩, A20, H⟩ := H
 dsimp only at H
 have A2 := aM A20
 clear A20
 replace H := bM H
 obtain ⟨⟨t490, t493, t496, t497⟩, A30, H⟩ := H
 dsimp only at H
 have A3 := aM A30
 clear A30
 replace H := bM H
 obtain ⟨⟨t499, t500, t503, t504⟩, A40, H⟩ := H
 dsimp only at H
 have A4 := aM A40
 clear A40
 simp only [Option.some.injEq, Prod.mk.injEq] at H
 obtain ⟨rfl, rfl, rfl, rfl⟩ := H
 go_enter Try.func55, Try.ntmps55
 try go_wp2_with (first | ((with_reducible refine gate_dst (N := 2) rfl ?_); refine bE 2 (cs := #[.slice none 0 0, .slice none 0 0]) (t := 31) ?_; intro gb484 hg w5 hbox hb; have BK484 := aM (hbox); have GW484 := aM ((by rw [hg]; exact (below_size aB) : w.heap.size ≤ gb484)); have GE484 := aM ((by rw [hg]; exact (below_size aB) : w.heap.size ≤ gb484)); replace HB := aM (below_step aB hb); clear hb hbox hg) | ((with_reducible refine gate_dst (N := 3) rfl ?_); refine bE 3 (cs := #[.int .i64 0, .slice none 0 0]) (t := 45) ?_; intro gb485 hg w6 hbox hb; have BK485 := aM (hbox); have GW485 := aM ((by rw [hg]; exact (below_size aG) : w.heap.size ≤ gb485)); have GE485 := aM ((by rw [hg]; exact (below_size aG) : w.heap.size ≤ gb485)); have NB484_485 := aM ((by rw [hg]; exact Nat.ne_of_lt (blk_lt (g := gb484) aK) : gb484 ≠ gb485)); have NB485_484 := aM ((by rw [hg]; exact Nat.ne_of_gt (blk_lt (g := gb484) aK) : gb485 ≠ gb484)); replace BK484 := aM (kB gb484 #[.slice none 0 0, .slice none 0 0] 31 hb); replace HB := aM (below_step aG hb); clear hb hbox hg) | ((with_reducible refine gate_callee (f := 73) rfl ?_); refine goesL_ (some 7) rfl rfl Try.func73 (by kernel_rfl) rfl #[.slice A0 l0.length c0] rfl aA ?_; (with_reducible refine (spec_l1New.calls k _ _ l0 t486 t487 t488 w _ ?side1 ?side2 ?side3 A2.out).mono ?_); (case side1 => exact aG); (case side2 => exact HR0.out); (case side3 => exact HC0.out); rintro e w7 ⟨g489, rfl, hi, hb, hb2⟩; refine ⟨_, rfl, ?_⟩; have n0_ := aM (blk_below (g := gb484) aK hb2); have n1_ := aM (blk_below (g := gb485) aK hb2); have n2_ := aM (hb); have n3_ := aM (hi); have n4_ := aM (IsS95.ne_blk hi (blk_below (g := gb484) aK hb2) (by decide)); have n5_ := aM (Ne.symm (IsS95.ne_blk hi (blk_below (g := gb484) aK hb2) (by decide))); have n6_ := aM (IsS95.ne_blk hi (blk_below (g := gb485) aK hb2) (by decide)); have n7_ := aM (Ne.symm (IsS95.ne_blk hi (blk_below (g := gb485) aK hb2) (by decide))); clear BK484; clear BK485; clear HB; have BK484 := n0_; have BK485 := n1_; have HB := n2_; have HI489 := n3_; have NB489_484 := n4_; have NB484_489 := n5_; have NB489_485 := n6_; have NB485_489 := n7_; clear n0_ n1_ n2_ n3_ n4_ n5_ n6_ n7_; (try clear hb); (try clear hb2); (try clear hk); (try clear hi)) | ((with_reducible refine gate_callee (f := 74) rfl ?_); refine goesL_ (some 9) rfl rfl Try.func74 (by kernel_rfl) rfl #[.pointer (some ⟨g489, 0, none⟩)] rfl aA ?_; (with_reducible refine (spec_l4Any.calls k g489 t486 t487 t488 t490 t493 t496 t497 w _ ?side1 ?side2 A3.out).mono ?_); (case side1 => repeat (first | (with_reducible first | exact HI489.out | apply IsS95.alloc | apply IsS95.drewN | apply IsS95.drew | apply IsS95.set_1 | apply IsS95.set_2 | refine IsS95.far ?_ NB489_484.out _ | refine IsS95.far ?_ NB489_485.out _) | exact HI489.out)); (case side2 => repeat (first | (with_reducible first | exact HB.out | apply below_alloc | apply pw_below_drewN | apply below_drew1 | refine below_set ?_ (IsS95.ge HI489.out) | refine below_set ?_ GE484.out | refine below_set ?_ GE485.out) | exact HB.out)); rintro e w8 ⟨v491, v494, rfl, ho0, ho1, hi, hb, hk⟩; refine ⟨_, rfl, ?_⟩; have n0_ := aM (KeepBut.blk hk (g' := gb484) aK NB484_489.out (by simp)); have n1_ := aM (KeepBut.blk hk (g' := gb485) aK NB485_489.out (by simp)); have n2_ := aM (Kd.R_lower (Kd.R_newM (M := fun k_ => (w.heap.size ≤ k_)) (Kd.R_mono (ok' := fun k_ => True) ho0 (fun _ hk_ => trivial)) (below_size (by repeat (first | (with_reducible first | exact HB.out | apply below_alloc | apply pw_below_drewN | apply below_drew1 | refine below_set ?_ (IsS95.ge HI489.out) | refine below_set ?_ GE484.out | refine below_set ?_ GE485.out) | exact HB.out))) (fun k_ h_ => h_)) (below_size (by repeat (first | (with_reducible first | exact HB.out | apply below_alloc | apply pw_below_drewN | apply below_drew1 | refine below_set ?_ (IsS95.ge HI489.out) | refine below_set ?_ GE484.out | refine below_set ?_ GE485.out) | exact HB.out)))); have n3_ := aM (Kd.N_lower (Kd.N_mono (ok' := fun k_ => (w.heap.size ≤ k_) ∧ some k_ ≠ (v491 : Value).ownBlock ∧ k_ ≠ gb484 ∧ k_ ≠ gb485 ∧ k_ ≠ g489) ho1 (fun k_ hk_ => ⟨(Nat.le_trans (below_size (by repeat (first | (with_reducible first | exact HB.out | apply below_alloc | apply pw_below_drewN | apply below_drew1 | refine below_set ?_ (IsS95.ge HI489.out) | refine below_set ?_ GE484.out | refine below_set ?_ GE485.out) | exact HB.out))) hk_.1), hk_.2, (Kd.freshB (g := gb484) aK k_ hk_.1), (Kd.freshB (g := gb485) aK k_ hk_.1), (IsS95.fresh (by repeat (first | (with_reducible first | exact HI489.out | apply IsS95.alloc | apply IsS95.drewN | apply IsS95.drew | apply IsS95.set_1 | apply IsS95.set_2 | refine IsS95.far ?_ NB489_484.out _ | refine IsS95.far ?_ NB489_485.out _) | exact HI489.out)) k_ hk_.1)⟩)) (below_size (by repeat (first | (with_reducible first | exact HB.out | apply below_alloc | apply pw_below_drewN | apply below_drew1 | refine below_set ?_ (IsS95.ge HI489.out) | refine below_set ?_ GE484.out | refine below_set ?_ GE485.out) | exact HB.out)))); have n4_ := aM (hb); have n5_ := aM (hi); clear BK484; clear BK485; clear HB; clear HI489; have BK484 := n0_; have BK485 := n1_; have HO492 := n2_; have HO495 := n3_; have HB := n4_; have HI489 := n5_; clear n0_ n1_ n2_ n3_ n4_ n5_; (try clear hb); (try clear hb2); (try clear hk); (try clear hi); (try clear ho0); (try clear ho1)) | ((with_reducible refine gate_dst (N := 5) rfl ?_); refine bE 5 (cs := #[.slice none 0 0, .slice none 0 0]) (t := 31) ?_; intro gb498 hg w9 hbox hb; have n0_ := aM (Kd.R_below (aR HO492) hb); have n1_ := aM (Kd.N_below (Kd.N_elderB (aN HO495) gb498 (Nat.le_of_eq hg.symm)) hb); have n2_ := aM (kB gb484 #[.slice none 0 0, .slice none 0 0] 31 hb); have n3_ := aM (kB gb485 #[.int .i64 0, .slice none 0 0] 45 hb); have n4_ := aM (IsS95.below (by repeat (first | (with_reducible first | exact HI489.out | apply IsS95.alloc | apply IsS95.drewN | apply IsS95.drew | apply IsS95.set_1 | apply IsS95.set_2 | refine IsS95.far ?_ NB489_484.out _ | refine IsS95.far ?_ NB489_485.out _) | exact HI489.out)) hb); have n5_ := aM (below_step (by repeat (first | (with_reducible first | exact HB.out | apply below_alloc | apply pw_below_drewN | apply below_drew1 | refine below_set ?_ (IsS95.ge HI489.out) | refine below_set ?_ GE484.out | refine below_set ?_ GE485.out) | exact HB.out)) hb); have n6_ := aM (hbox); have n7_ := aM ((by rw [hg]; exact (below_size (by repeat (first | (with_reducible first | exact HB.out | apply below_alloc | apply pw_below_drewN | apply below_drew1 | refine below_set ?_ (IsS95.ge HI489.out) | refine below_set ?_ GE484.out | refine below_set ?_ GE485.out) | exact HB.out))) : w.heap.size ≤ gb498)); have n8_ := aM ((by rw [hg]; exact (below_size (by repeat (first | (with_reducible first | exact HB.out | apply below_alloc | apply pw_below_drewN | apply below_drew1 | refine below_set ?_ (IsS95.ge HI489.out) | refine below_set ?_ GE484.out | refine below_set ?_ GE485.out) | exact HB.out))) : w.heap.size ≤ gb498)); have n9_ := aM ((by rw [hg]; exact Nat.ne_of_lt (blk_lt (g := gb484) aK) : gb484 ≠ gb498)); have n10_ := aM ((by rw [hg]; exact Nat.ne_of_gt (blk_lt (g := gb484) aK) : gb498 ≠ gb484)); have n11_ := aM ((by rw [hg]; exact Nat.ne_of_lt (blk_lt (g := gb485) aK) : gb485 ≠ gb498)); have n12_ := aM ((by rw [hg]; exact Nat.ne_of_gt (blk_lt (g := gb485) aK) : gb498 ≠ gb485)); have n13_ := aM ((by rw [hg]; exact Nat.ne_of_lt (IsS95.lt (show IsS95 w _ g489 t486 t496 t497 from by repeat (first | (with_reducible first | exact HI489.out | apply IsS95.alloc | apply IsS95.drewN | apply IsS95.drew | apply IsS95.set_1 | apply IsS95.set_2 | refine IsS95.far ?_ NB489_484.out _ | refine IsS95.far ?_ NB489_485.out _) | exact HI489.out))) : g489 ≠ gb498)); have n14_ := aM ((by rw [hg]; exact Nat.ne_of_gt (IsS95.lt (show IsS95 w _ g489 t486 t496 t497 from by repeat (first | (with_reducible first | exact HI489.out | apply IsS95.alloc | apply IsS95.drewN | apply IsS95.drew | apply IsS95.set_1 | apply IsS95.set_2 | refine IsS95.far ?_ NB489_484.out _ | refine IsS95.far ?_ NB489_485.out _) | exact HI489.out))) : gb498 ≠ g489)); clear HO492; clear HO495; clear BK484; clear BK485; clear HI489; clear HB; have HO492 := n0_; have HO495 := n1_; have BK484 := n2_; have BK485 := n3_; have HI489 := n4_; have HB := n5_; have BK498 := n6_; have GW498 := n7_; have GE498 := n8_; have NB484_498 := n9_; have NB498_484 := n10_; have NB485_498 := n11_; have NB498_485 := n12_; have NB489_498 := n13_; have NB498_489 := n14_; clear n0_ n1_ n2_ n3_ n4_ n5_ n6_ n7_ n8_ n9_ n10_ n11_ n12_ n13_ n14_; clear hb hbox hg; obtain ⟨Ao10, co10, eo10⟩ := Kd.R_slice HO492.out; subst eo10; have hnb11 := NB498_484.out; have hnc11 := NB484_498.out; have hnb12 := NB498_485.out; have hnc12 := NB485_498.out; have hnb13 := NB498_489.out; have hnc13 := NB489_498.out; have hcz14_0 : w9.cell? ⟨gb498, 0, none⟩ = some (.slice none 0 0) := (blk_cell BK498.out 0).trans rfl; have hcz14_1 : w9.cell? ⟨gb498, 1, none⟩ = some (.slice none 0 0) := (blk_cell BK498.out 1).trans rfl; have hfz14_0 := blk_frozen BK498.out 0; have hfz14_1 := blk_frozen BK498.out 1; obtain ⟨Ao15, co15, eo15⟩ := Kd.N_slice HO495.out; subst eo15))
 have n0_ : Aside0 (Kd.R k74 74 ((w9.setCell ⟨gb498, 0, none⟩ (.slice Ao10 t490.length co10)).setCell ⟨gb498, 1, none⟩ (.slice Ao15 t493.length co15)) w.heap.size (fun k_ => (w.heap.size ≤ k_)) (.slice Ao10 t490.length co10) t490) := ⟨by (with_reducible repeat apply pR); exact Kd.R_mono (Kd.R_far (p := ⟨gb498, 1, none⟩) (Kd.R_far (p := ⟨gb498, 0, none⟩) (Kd.R_types HO492.out BK498.out (by decide)) (fun _ hk => hk.2) (.slice Ao10 t490.length co10)) (fun _ hk => hk.2) (.slice Ao15 t493.length co15)) (fun _ hk => hk.1.1)⟩
 have n1_ : Aside0 (Kd.N k45 45 ((w9.setCell ⟨gb498, 0, none⟩ (.slice Ao10 t490.length co10)).setCell ⟨gb498, 1, none⟩ (.slice Ao15 t493.length co15)) w.heap.size (fun k_ => (w.heap.size ≤ k_) ∧ some k_ ≠ (.slice Ao10 t490.length co10 : Value).ownBlock ∧ k_ ≠ gb484 ∧ k_ ≠ gb485 ∧ k_ ≠ g489 ∧ k_ ≠ gb498) (.slice Ao15 t493.length co15) t493) := ⟨by (with_reducible repeat apply pN); exact Kd.N_mono (Kd.N_far (p := ⟨gb498, 1, none⟩) (Kd.N_far (p := ⟨gb498, 0, none⟩) (Kd.N_mono HO495.out (fun k_ hk => (⟨hk, hk.2⟩ : _ ∧ k_ ≠ gb498))) (fun _ hk => hk.2) (.slice Ao10 t490.length co10)) (fun _ hk => hk.2) (.slice Ao15 t493.length co15)) (fun _ hk => ⟨hk.1.1.1, ⟨hk.1.1.2.1, ⟨hk.1.1.2.2.1, ⟨hk.1.1.2.2.2.1, ⟨hk.1.1.2.2.2.2, hk.1.2⟩⟩⟩⟩⟩)⟩
 have n2_ : Aside0 (((w9.setCell ⟨gb498, 0, none⟩ (.slice Ao10 t490.length co10)).setCell ⟨gb498, 1, none⟩ (.slice Ao15 t493.length co15)).heap[gb484]? = some (.cells #[.slice none 0 0, .slice none 0 0] 31 (0, 0))) := ⟨by (with_reducible repeat refine pB ?_); refine blk_far ?_ NB484_498.out _; (with_reducible repeat refine pB ?_); refine blk_far ?_ NB484_498.out _; (with_reducible repeat refine pB ?_); exact BK484.out⟩
 have n3_ : Aside0 (((w9.setCell ⟨gb498, 0, none⟩ (.slice Ao10 t490.length co10)).setCell ⟨gb498, 1, none⟩ (.slice Ao15 t493.length co15)).heap[gb485]? = some (.cells #[.int .i64 0, .slice none 0 0] 45 (0, 0))) := ⟨by (with_reducible repeat refine pB ?_); refine blk_far ?_ NB485_498.out _; (with_reducible repeat refine pB ?_); refine blk_far ?_ NB485_498.out _; (with_reducible repeat refine pB ?_); exact BK485.out⟩
 have n4_ : Aside0 (((w9.setCell ⟨gb498, 0, none⟩ (.slice Ao10 t490.length co10)).setCell ⟨gb498, 1, none⟩ (.slice Ao15 t493.length co15)).heap[gb498]? = some (.cells #[.slice Ao10 t490.length co10, .slice Ao15 t493.length co15] 31 (0, 0))) := ⟨by (with_reducible repeat refine pB ?_); refine blk_put (cs := #[.slice Ao10 t490.length co10, .slice none 0 0]) ?_ 1 _ rfl; (with_reducible repeat refine pB ?_); refine blk_put (cs := #[.slice none 0 0, .slice none 0 0]) ?_ 0 _ rfl; (with_reducible repeat refine pB ?_); exact BK498.out⟩
 have n5_ : Aside0 (IsS95 w ((w9.setCell ⟨gb498, 0, none⟩ (.slice Ao10 t490.length co10)).setCell ⟨gb498, 1, none⟩ (.slice Ao15 t493.length co15)) g489 t486 t496 t497) := ⟨by repeat (first | (with_reducible first | exact HI489.out | apply IsS95.alloc | apply IsS95.drewN | apply IsS95.drew | apply IsS95.set_1 | apply IsS95.set_2 | refine IsS95.far ?_ NB489_484.out _ | refine IsS95.far ?_ NB489_485.out _ | refine IsS95.far ?_ NB489_498.out _) | exact HI489.out)⟩
 have n6_ : Aside0 (Below w.heap.size w ((w9.setCell ⟨gb498, 0, none⟩ (.slice Ao10 t490.length co10)).setCell ⟨gb498, 1, none⟩ (.slice Ao15 t493.length co15))) := ⟨by repeat (first | (with_reducible first | exact HB.out | apply below_alloc | apply pw_below_drewN | apply below_drew1 | refine below_set ?_ (IsS95.ge HI489.out) | refine below_set ?_ GE484.out | refine below_set ?_ GE485.out | refine below_set ?_ GE498.out) | exact HB.out)⟩
 (try clear HO492)
 (try clear HO495)
 (try clear BK484)
 (try clear BK485)
 (try clear BK498)
 (try clear HI489)
 (try clear HB)
 generalize ((w9.setCell ⟨gb498, 0, none⟩ (.slice Ao10 t490.length co10)).setCell ⟨gb498, 1, none⟩ (.slice Ao15 t493.length co15)) = w16 at n0_ n1_ n2_ n3_ n4_ n5_ n6_ ⊢
 have HO492 := n0_
 have HO495 := n1_
 have BK484 := n2_
 have BK485 := n3_
 have BK498 := n4_
 have HI489 := n5_
 have HB := n6_
 clear n0_ n1_ n2_ n3_ n4_ n5_ n6_
 replace HO492 := aM (Kd.R_drew HO492.out)
 replace HO495 := aM (Kd.N_drew HO495.out)
 replace BK484 := aM (blk_drew BK484.out)
 replace BK485 := aM (blk_drew BK485.out)
 replace BK498 := aM (blk_drew BK498.out)
 replace HI489 := aM (IsS95.drew HI489.out)
 replace HB := aM (below_drew1 HB.out)
 refine start_ (n := 6) (S := fun w' => w'.cell? ⟨gb498, 0, none⟩ = some (.slice Ao10 t490.length co10) ∧ w'.cell? ⟨gb498, 1, none⟩ = some (.slice Ao15 t493.length co15)) (ds := []) #[false, false, false, false, false, false] (by kernel_rfl) rfl rfl ⟨(blk_cell BK498.out 0).trans rfl, (blk_cell BK498.out 1).trans rfl⟩ (fun hHeld => ?_)
 generalize w16.drew = w17 at HO492 HO495 BK484 BK485 BK498 HI489 HB hHeld ⊢
 refine pure_ (i := 1) (N := some 11) (v := ?_) (a' := ?_) #[false, true, false, false, false, false] rfl rfl (by kernel_rfl) (fun _ _ _ h => h) (Or.inl ⟨by rfl, ?_⟩) ?_ ?_
 rotate_left
 ·exact aI
 rotate_left
 ·exact aP
 refine take_ (i := 0) (N := some 10) (v := ?_) (a' := ?_) #[true, true, false, false, false, false] rfl rfl (by kernel_rfl) (fun _ _ _ h => h) (Or.inl ⟨by rfl, ?_⟩) hHeld ?_ ?_
 rotate_left
 ·rintro w' ⟨s0, s1⟩
  go_simp
  with_reducible rfl
 rotate_left
 ·exact aP
 refine take_ (i := 2) (N := some 12) (v := ?_) (a' := ?_) #[true, true, true, false, false, false] rfl rfl (by kernel_rfl) (fun _ _ _ h => h) (Or.inl ⟨by rfl, ?_⟩) hHeld ?_ ?_
 rotate_left
 ·rintro w' ⟨s0, s1⟩
  go_simp
  with_reducible rfl
 rotate_left
 ·exact aP
 refine one_ (i := 3) (N := some 13) #[true, true, true, true, false, false] rfl rfl (by kernel_rfl) (by decide) (fun K hK => ?_)
 refine goes_ Try.func75 (by kernel_rfl) rfl #[.pointer (some ⟨g489, 0, none⟩), .agg #[.slice Ao10 t490.length co10, .slice Ao15 t493.length co15]] (by rfl) rfl rfl aA ?_
 with_reducible refine (spec_l4Fact.calls k g489 t486 t496 t497 _ _ t490 (fun k_ => ((w.heap.size ≤ k_) ∧ (some k_ ≠ (.slice Ao10 t490.length co10 : Value).ownBlock ∧ (k_ ≠ gb484 ∧ (k_ ≠ gb485 ∧ (k_ ≠ g489 ∧ k_ ≠ gb498)))))) _ _ t493 t499 t500 t503 t504 w _ ?side1 ?side2 ?side3 ?side4 ?side5 A4.out).mono ?_
 (case side1 => repeat (first | (with_reducible first | exact HI489.out | apply IsS95.alloc | apply IsS95.drewN | apply IsS95.drew | apply IsS95.set_1 | apply IsS95.set_2 | refine IsS95.far ?_ NB489_484.out _ | refine IsS95.far ?_ NB489_485.out _ | refine IsS95.far ?_ NB489_498.out _) | exact HI489.out))
 (case side2 => repeat (first | (with_reducible first | exact HB.out | apply below_alloc | apply pw_below_drewN | apply below_drew1 | refine below_set ?_ (IsS95.ge HI489.out) | refine below_set ?_ GE484.out | refine below_set ?_ GE485.out | refine below_set ?_ GE498.out) | exact HB.out))
 (case side3 => exact Kd.C_foot_own (IsS95.apart (show IsS95 w _ g489 t486 t496 t497 from by repeat (first | (with_reducible first | exact HI489.out | apply IsS95.alloc | apply IsS95.drewN | apply IsS95.drew | apply IsS95.set_1 | apply IsS95.set_2 | refine IsS95.far ?_ NB489_484.out _ | refine IsS95.far ?_ NB489_485.out _ | refine IsS95.far ?_ NB489_498.out _) | exact HI489.out)) (aR HO492) (by decide)) (fun _ h_ => h_.2))
 (case side4 => exact (Kd.R_reads' HO492.out).2.1)
 (case side5 => exact Kd.V_mono (Kd.N_V (HO495.out)) (fun k_ hk_ => ⟨hk_, hk_.2.2.2.2.1⟩))
 rintro e w18 ⟨v501, rfl, ho0, hi, hb, hk⟩
 refine ⟨_, rfl, ?_⟩
 have n0_ := aM (KeepBut.blk hk (g' := gb484) aK NB484_489.out (by simp))
 have n1_ := aM (KeepBut.blk hk (g' := gb485) aK NB485_489.out (by simp))
 have n2_ := aM (Kd.R_mono (Kd.R_keep (IsS95.apart (show IsS95 w _ g489 t486 t496 t497 from by repeat (first | (with_reducible first | exact HI489.out | apply IsS95.alloc | apply IsS95.drewN | apply IsS95.drew | apply IsS95.set_1 | apply IsS95.set_2 | refine IsS95.far ?_ NB489_484.out _ | refine IsS95.far ?_ NB489_485.out _ | refine IsS95.far ?_ NB489_498.out _) | exact HI489.out)) (aR HO492) (by decide)) hk (fun _ h => h.2)) (fun _ h => h.1))
 have n3_ := aM (Kd.N_mono (Kd.N_keep (Kd.N_mono (ok := fun k_ => (((w.heap.size ≤ k_)) ∧ (some k_ ≠ (.slice Ao10 t490.length co10 : Value).ownBlock ∧ (k_ ≠ gb484 ∧ (k_ ≠ gb485 ∧ (k_ ≠ g489 ∧ k_ ≠ gb498)))))) (aN HO495) (fun k_ hk_ => (⟨hk_, hk_.2.2.2.2.1⟩ : _ ∧ k_ ≠ g489))) hk (fun _ h => h.2)) (fun _ h => h.1))
 have n4_ := aM (KeepBut.blk hk (g' := gb498) aK NB498_489.out (by simp))
 have n5_ := aM (Kd.V_lower (Kd.V_mono (ok' := fun k_ => (w.heap.size ≤ k_) ∧ some k_ ≠ (.slice Ao10 t490.length co10 : Value).ownBlock ∧ k_ ≠ gb484 ∧ k_ ≠ gb485 ∧ k_ ≠ gb498 ∧ k_ ≠ g489) ho0 (fun k_ hk_ => ⟨Or.elim hk_ (fun hs_ => hs_.1) (fun hn_ => (Nat.le_trans (below_size (by repeat (first | (with_reducible first | exact HB.out | apply below_alloc | apply pw_below_drewN | apply below_drew1 | refine below_set ?_ (IsS95.ge HI489.out) | refine below_set ?_ GE484.out | refine below_set ?_ GE485.out | refine below_set ?_ GE498.out) | exact HB.out))) hn_)), Or.elim hk_ (fun hs_ => hs_.2.1) (fun hn_ => (Kd.fresh' (Kd.R_lt (aR HO492)) k_ hn_)), Or.elim hk_ (fun hs_ => hs_.2.2.1) (fun hn_ => (Kd.freshB (g := gb484) aK k_ hn_)), Or.elim hk_ (fun hs_ => hs_.2.2.2.1) (fun hn_ => (Kd.freshB (g := gb485) aK k_ hn_)), Or.elim hk_ (fun hs_ => hs_.2.2.2.2.2) (fun hn_ => (Kd.freshB (g := gb498) aK k_ hn_)), Or.elim hk_ (fun hs_ => hs_.2.2.2.2.1) (fun hn_ => (IsS95.fresh (by repeat (first | (with_reducible first | exact HI489.out | apply IsS95.alloc | apply IsS95.drewN | apply IsS95.drew | apply IsS95.set_1 | apply IsS95.set_2 | refine IsS95.far ?_ NB489_484.out _ | refine IsS95.far ?_ NB489_485.out _ | refine IsS95.far ?_ NB489_498.out _) | exact HI489.out)) k_ hn_))⟩)) (below_size (by repeat (first | (with_reducible first | exact HB.out | apply below_alloc | apply pw_below_drewN | apply below_drew1 | refine below_set ?_ (IsS95.ge HI489.out) | refine below_set ?_ GE484.out | refine below_set ?_ GE485.out | refine below_set ?_ GE498.out) | exact HB.out))))
 have n6_ := aM (hb)
 have n7_ := aM (hi)
 clear BK484
 clear BK485
 clear HO492
 clear HO495
 clear BK498
 clear HB
 clear HI489
 have BK484 := n0_
 have BK485 := n1_
 have HO492 := n2_
 have HO495 := n3_
 have BK498 := n4_
 have HO502 := n5_
 have HB := n6_
 have HI489 := n7_
 clear n0_ n1_ n2_ n3_ n4_ n5_ n6_ n7_
 (try clear hb)
 (try clear hb2)
 (try clear hk)
 (try clear hi)
 (try clear ho0)
 obtain ⟨Ao22, co22, eo22⟩ := Kd.V_slice HO502.out
 (first | subst eo22 | (injection eo22 with f1_ f2_ f3_; have f4_ := f1_.symm; have f5_ := f3_.symm; clear f1_ f2_ f3_; subst f4_; subst f5_))
 refine hK.out _ _ ⟨(blk_cell BK498.out 0).trans rfl, (blk_cell BK498.out 1).trans rfl⟩ (fun hHeld => ?_)
 clear hK K
 refine nU 13 ?_
 refine one_ (i := 4) (N := none) #[true, true, true, true, true, false] rfl rfl (by kernel_rfl) (by decide) (fun K hK => ?_)
 have hs19 : w18.cell? ⟨gb484, 0, none⟩ = some (.slice none 0 0) := (blk_cell BK484.out 0).trans rfl
 have hfs19 := blk_frozen BK484.out 0
 have hns19_1 := NB485_484.out
 have hns19_2 := NB498_484.out
 have hms19_1 := NB484_485.out
 have hms19_2 := NB484_498.out
 have hs20 : w18.cell? ⟨gb484, 1, none⟩ = some (.slice none 0 0) := (blk_cell BK484.out 1).trans rfl
 have hfs20 := blk_frozen BK484.out 1
 have hns20_1 := NB485_484.out
 have hns20_2 := NB498_484.out
 have hms20_1 := NB484_485.out
 have hms20_2 := NB484_498.out
 refine skip_ (w1 := ?_) (by rfl) rfl ?_ ?_
 rotate_left
 ·go_simp
  rfl
 refine hK.out _ _ ⟨((cell_far (p := ⟨gb484, _, none⟩) NB498_484.out _).trans (((cell_far (p := ⟨gb484, _, none⟩) NB498_484.out _).trans (hHeld.1)))), ((cell_far (p := ⟨gb484, _, none⟩) NB498_484.out _).trans (((cell_far (p := ⟨gb484, _, none⟩) NB498_484.out _).trans (hHeld.2))))⟩ (fun hHeld => ?_)
 clear hK K
 refine one_ (i := 5) (N := none) #[true, true, true, true, true, true] rfl rfl (by kernel_rfl) (by decide) (fun K hK => ?_)
 have hs21 : w18.cell? ⟨gb485, 0, none⟩ = some (.int .i64 0) := (blk_cell BK485.out 0).trans rfl
 have hfs21 := blk_frozen BK485.out 0
 have hns21_0 := NB484_485.out
 have hns21_2 := NB498_485.out
 have hms21_0 := NB485_484.out
 have hms21_2 := NB485_498.out
 have hs23 : w18.cell? ⟨gb485, 1, none⟩ = some (.slice none 0 0) := (blk_cell BK485.out 1).trans rfl
 have hfs23 := blk_frozen BK485.out 1
 have hns23_0 := NB484_485.out
 have hns23_2 := NB498_485.out
 have hms23_0 := NB485_484.out
 have hms23_2 := NB485_498.out
 refine skip_ (w1 := ?_) (by rfl) rfl ?_ ?_
 rotate_left
 ·go_simp
  rfl
 refine hK.out _ _ ⟨((cell_far (p := ⟨gb485, _, none⟩) NB498_485.out _).trans (((cell_far (p := ⟨gb485, _, none⟩) NB498_485.out _).trans (hHeld.1)))), ((cell_far (p := ⟨gb485, _, none⟩) NB498_485.out _).trans (((cell_far (p := ⟨gb485, _, none⟩) NB498_485.out _).trans (hHeld.2))))⟩ (fun hHeld => ?_)
 clear hK K
 refine done_ (by kernel_rfl) ?_
 try go_wp2
 refine bodyPost_ret (results_cc rfl _ _ gb484 gb485 31 45 #[.slice Ao10 t490.length co10, .slice Ao15 t493.length co15] #[.int .i64 t499, .slice Ao22 t500.length co22] (0, 0) (0, 0) _ _ rfl (by (with_reducible repeat refine pB ?_); refine blk_far ?_ NB484_485.out _; (with_reducible repeat refine pB ?_); refine blk_far ?_ NB484_485.out _; (with_reducible repeat refine pB ?_); refine blk_put (cs := #[.slice Ao10 t490.length co10, .slice none 0 0]) ?_ 1 _ rfl; (with_reducible repeat refine pB ?_); refine blk_put (cs := #[.slice none 0 0, .slice none 0 0]) ?_ 0 _ rfl; (with_reducible repeat refine pB ?_); exact BK484.out) Try.underlying31 rfl (by kernel_rfl) rfl (by (with_reducible repeat refine pB ?_); refine blk_put (cs := #[.int .i64 t499, .slice none 0 0]) ?_ 1 _ rfl; (with_reducible repeat refine pB ?_); refine blk_put (cs := #[.int .i64 0, .slice none 0 0]) ?_ 0 _ rfl; (with_reducible repeat refine pB ?_); refine blk_far ?_ NB485_484.out _; (with_reducible repeat refine pB ?_); refine blk_far ?_ NB485_484.out _; (with_reducible repeat refine pB ?_); exact BK485.out) Try.underlying45 rfl (by kernel_rfl)) rfl ?_
 exact ⟨_, _, _, aE, by (with_reducible repeat apply pR); exact Kd.R_mono (Kd.R_far (p := ⟨gb485, 1, none⟩) (Kd.R_far (p := ⟨gb485, 0, none⟩) (Kd.R_far (p := ⟨gb484, 1, none⟩) (Kd.R_far (p := ⟨gb484, 0, none⟩) (Kd.R_types (Kd.R_types HO492.out BK484.out (by decide)) BK485.out (by decide)) (fun _ hk => hk.1.2) (.slice Ao10 t490.length co10)) (fun _ hk => hk.1.2) (.slice Ao15 t493.length co15)) (fun _ hk => hk.2) (.int .i64 t499)) (fun _ hk => hk.2) (.slice Ao22 t500.length co22)) (fun _ hk => hk.1.1), by (with_reducible repeat apply pN); exact Kd.N_mono (Kd.N_far (p := ⟨gb485, 1, none⟩) (Kd.N_far (p := ⟨gb485, 0, none⟩) (Kd.N_far (p := ⟨gb484, 1, none⟩) (Kd.N_far (p := ⟨gb484, 0, none⟩) (Kd.N_mono (Kd.N_mono HO495.out (fun k_ hk => (⟨hk, hk.2.2.1⟩ : _ ∧ k_ ≠ gb484))) (fun k_ hk => (⟨hk, hk.1.2.2.2.1⟩ : _ ∧ k_ ≠ gb485))) (fun _ hk => hk.1.2) (.slice Ao10 t490.length co10)) (fun _ hk => hk.1.2) (.slice Ao15 t493.length co15)) (fun _ hk => hk.2) (.int .i64 t499)) (fun _ hk => hk.2) (.slice Ao22 t500.length co22)) (fun _ hk => ⟨hk.1.1.1, hk.1.1.2.1⟩), by (with_reducible repeat apply pV); exact Kd.V_mono (Kd.V_far (p := ⟨gb485, 1, none⟩) (Kd.V_far (p := ⟨gb485, 0, none⟩) (Kd.V_far (p := ⟨gb484, 1, none⟩) (Kd.V_far (p := ⟨gb484, 0, none⟩) (Kd.V_mono (Kd.V_mono HO502.out (fun k_ hk => (⟨hk, hk.2.2.1⟩ : _ ∧ k_ ≠ gb484))) (fun k_ hk => (⟨hk, hk.1.2.2.2.1⟩ : _ ∧ k_ ≠ gb485))) (fun _ hk => hk.1.2) (.slice Ao10 t490.length co10)) (fun _ hk => hk.1.2) (.slice Ao15 t493.length co15)) (fun _ hk => hk.2) (.int .i64 t499)) (fun _ hk => hk.2) (.slice Ao22 t500.length co22)) (fun _ hk => hk.1.1.1), by repeat (first | (with_reducible first | exact HB.out | apply below_alloc | apply pw_below_drewN | apply below_drew1 | refine below_set ?_ (IsS95.ge HI489.out) | refine below_set ?_ GE484.out | refine below_set ?_ GE485.out | refine below_set ?_ GE498.out) | exact HB.out)⟩

/-! ### spec_DrawInsertFact: function 26 -/
def spec_DrawInsertFact.f (k : Nat) (l0 : List Int) : Option ((List (S74)) × (List (S45)) × Int × List Int) := (spec_DrawContainsFact.f k l0).bind fun bt507 => (some (bt507.1, bt507.2.1, bt507.2.2.1, bt507.2.2.2))
set_option maxHeartbeats 8000000 in
set_option maxRecDepth 100000 in
theorem spec_DrawInsertFact.calls (k : Nat) (A0 : Option Addr) (c0 : Nat) (l0 : List Int) (r1 : List (S74)) (r2 : List (S45)) (r3 : Int) (r4 : List Int) (w : World) (hr0 : Kd.C (Kd.int .u8) w A0 l0.length l0) (hc0 : l0.length ≤ c0) (h : spec_DrawInsertFact.f k l0 = some (r1, r2, r3, r4)) :
  Calls Try.prog 26 #[.slice A0 l0.length c0] w fun e w' => ∃ v0_ v1_ v3_ : Value, e = .returned (.tuple #[.agg #[v0_, v1_], .agg #[.int .i64 r3, v3_]]) ∧ Kd.R k74 74 w' w.heap.size (fun k_ => (w.heap.size ≤ k_)) v0_ r1 ∧ Kd.N k45 45 w' w.heap.size (fun k_ => (w.heap.size ≤ k_) ∧ some k_ ≠ (v0_ : Value).ownBlock) v1_ r2 ∧ Kd.V (Kd.int .i64) 3 w' w.heap.size (fun k_ => (w.heap.size ≤ k_)) v3_ r4 ∧ Below w.heap.size w w' := by
 have hu31 := Try.underlying31
 have hu45 := Try.underlying45
 have HR0 := aM hr0
 have HC0 := aM hc0
 clear hr0 hc0
 have HB := aM (Below.refl w.heap.size w)
 have H : ((spec_DrawContainsFact.f k l0).bind fun bt507 => (some (bt507.1, bt507.2.1, bt507.2.2.1, bt507.2.2.2))) = some (r1, r2, r3, r4) := h
 clear h
 replace H := bM H
 obtain ⟨⟨t507, t510, t513, t514⟩, A20, H⟩ := H
 dsimp only at H
 have A2 := aM A20
 clear A20
 simp only [Option.some.injEq, Prod.mk.injEq] at H
 obtain ⟨rfl, rfl, rfl, rfl⟩ := H
 go_enter Try.func26, Try.ntmps26
 go_wp2_with (first | ((with_reducible refine gate_dst (N := 2) rfl ?_); refine bE 2 (cs := #[.slice none 0 0, .slice none 0 0]) (t := 31) ?_; intro gb505 hg w3 hbox hb; have BK505 := aM (hbox); have GW505 := aM ((by rw [hg]; exact (below_size aB) : w.heap.size ≤ gb505)); have GE505 := aM ((by rw [hg]; exact (below_size aB) : w.heap.size ≤ gb505)); replace HB := aM (below_step aB hb); clear hb hbox hg) | ((with_reducible refine gate_dst (N := 3) rfl ?_); refine bE 3 (cs := #[.int .i64 0, .slice none 0 0]) (t := 45) ?_; intro gb506 hg w4 hbox hb; have BK506 := aM (hbox); have GW506 := aM ((by rw [hg]; exact (below_size aG) : w.heap.size ≤ gb506)); have GE506 := aM ((by rw [hg]; exact (below_size aG) : w.heap.size ≤ gb506)); have NB505_506 := aM ((by rw [hg]; exact Nat.ne_of_lt (blk_lt (g := gb505) aK) : gb505 ≠ gb506)); have NB506_505 := aM ((by rw [hg]; exact Nat.ne_of_gt (blk_lt (g := gb505) aK) : gb506 ≠ gb505)); replace BK505 := aM (kB gb505 #[.slice none 0 0, .slice none 0 0] 31 hb); replace HB := aM (below_step aG hb); clear hb hbox hg) | ((with_reducible refine gate_callee (f := 55) rfl ?_); refine goesL_ (some 5) rfl rfl Try.func55 (by kernel_rfl) rfl #[.slice A0 l0.length c0] rfl aA ?_; (with_reducible refine (spec_DrawContainsFact.calls k _ _ l0 t507 t510 t513 t514 _ ?side1 ?side2 A2.out).mono ?_); (case side1 => exact aC); (case side2 => exact HC0.out); rintro e w5 ⟨v508, v511, v515, rfl, ho0, ho1, ho2, hb⟩; refine ⟨_, rfl, ?_⟩; have n0_ := aM (Kd.R_lower (Kd.R_newM (M := fun k_ => (w.heap.size ≤ k_)) (Kd.R_mono (ok' := fun k_ => True) ho0 (fun _ hk_ => trivial)) (below_size aG) (fun k_ h_ => h_)) (below_size aG)); have n1_ := aM (Kd.N_lower (Kd.N_mono (ok' := fun k_ => (w.heap.size ≤ k_) ∧ some k_ ≠ (v508 : Value).ownBlock ∧ k_ ≠ gb505 ∧ k_ ≠ gb506) ho1 (fun k_ hk_ => ⟨(Nat.le_trans (below_size aG) hk_.1), hk_.2, (Kd.freshB (g := gb505) aK k_ hk_.1), (Kd.freshB (g := gb506) aK k_ hk_.1)⟩)) (below_size aG)); have n2_ := aM (Kd.V_lower (Kd.V_mono (ok' := fun k_ => (w.heap.size ≤ k_) ∧ k_ ≠ gb505 ∧ k_ ≠ gb506) ho2 (fun k_ hk_ => ⟨(Nat.le_trans (below_size aG) hk_), (Kd.freshB (g := gb505) aK k_ hk_), (Kd.freshB (g := gb506) aK k_ hk_)⟩)) (below_size aG)); have n3_ := aM (kB gb505 #[.slice none 0 0, .slice none 0 0] 31 hb); have n4_ := aM (kB gb506 #[.int .i64 0, .slice none 0 0] 45 hb); have n5_ := aM (below_step aG hb); clear BK505; clear BK506; clear HB; have HO509 := n0_; have HO512 := n1_; have HO516 := n2_; have BK505 := n3_; have BK506 := n4_; have HB := n5_; clear n0_ n1_ n2_ n3_ n4_ n5_; (try clear hb); (try clear hb2); (try clear hk); (try clear hi); (try clear ho0); (try clear ho1); (try clear ho2); obtain ⟨Ao6, co6, eo6⟩ := Kd.R_slice HO509.out; subst eo6; have hnb7 := NB505_506.out; have hnc7 := NB506_505.out; have hcz8_0 : w5.cell? ⟨gb505, 0, none⟩ = some (.slice none 0 0) := (blk_cell BK505.out 0).trans rfl; have hcz8_1 : w5.cell? ⟨gb505, 1, none⟩ = some (.slice none 0 0) := (blk_cell BK505.out 1).trans rfl; have hfz8_0 := blk_frozen BK505.out 0; have hfz8_1 := blk_frozen BK505.out 1; obtain ⟨Ao9, co9, eo9⟩ := Kd.N_slice HO512.out; subst eo9; have hcz10_0 : w5.cell? ⟨gb506, 0, none⟩ = some (.int .i64 0) := (blk_cell BK506.out 0).trans rfl; have hcz10_1 : w5.cell? ⟨gb506, 1, none⟩ = some (.slice none 0 0) := (blk_cell BK506.out 1).trans rfl; have hfz10_0 := blk_frozen BK506.out 0; have hfz10_1 := blk_frozen BK506.out 1; obtain ⟨Ao11, co11, eo11⟩ := Kd.V_slice HO516.out; subst eo11))
 refine bodyPost_ret (results_cc rfl _ _ gb505 gb506 31 45 #[.slice Ao6 t507.length co6, .slice Ao9 t510.length co9] #[.int .i64 t513, .slice Ao11 t514.length co11] (0, 0) (0, 0) _ _ rfl (by (with_reducible repeat refine pB ?_); refine blk_far ?_ NB505_506.out _; (with_reducible repeat refine pB ?_); refine blk_far ?_ NB505_506.out _; (with_reducible repeat refine pB ?_); refine blk_put (cs := #[.slice Ao6 t507.length co6, .slice none 0 0]) ?_ 1 _ rfl; (with_reducible repeat refine pB ?_); refine blk_put (cs := #[.slice none 0 0, .slice none 0 0]) ?_ 0 _ rfl; (with_reducible repeat refine pB ?_); exact BK505.out) Try.underlying31 rfl (by kernel_rfl) rfl (by (with_reducible repeat refine pB ?_); refine blk_put (cs := #[.int .i64 t513, .slice none 0 0]) ?_ 1 _ rfl; (with_reducible repeat refine pB ?_); refine blk_put (cs := #[.int .i64 0, .slice none 0 0]) ?_ 0 _ rfl; (with_reducible repeat refine pB ?_); refine blk_far ?_ NB506_505.out _; (with_reducible repeat refine pB ?_); refine blk_far ?_ NB506_505.out _; (with_reducible repeat refine pB ?_); exact BK506.out) Try.underlying45 rfl (by kernel_rfl)) rfl ?_
 exact ⟨_, _, _, aE, by (with_reducible repeat apply pR); exact Kd.R_mono (Kd.R_far (p := ⟨gb506, 1, none⟩) (Kd.R_far (p := ⟨gb506, 0, none⟩) (Kd.R_far (p := ⟨gb505, 1, none⟩) (Kd.R_far (p := ⟨gb505, 0, none⟩) (Kd.R_types (Kd.R_types HO509.out BK505.out (by decide)) BK506.out (by decide)) (fun _ hk => hk.1.2) (.slice Ao6 t507.length co6)) (fun _ hk => hk.1.2) (.slice Ao9 t510.length co9)) (fun _ hk => hk.2) (.int .i64 t513)) (fun _ hk => hk.2) (.slice Ao11 t514.length co11)) (fun _ hk => hk.1.1.1), by (with_reducible repeat apply pN); exact Kd.N_mono (Kd.N_far (p := ⟨gb506, 1, none⟩) (Kd.N_far (p := ⟨gb506, 0, none⟩) (Kd.N_far (p := ⟨gb505, 1, none⟩) (Kd.N_far (p := ⟨gb505, 0, none⟩) (Kd.N_mono (Kd.N_mono HO512.out (fun k_ hk => (⟨hk, hk.2.2.1⟩ : _ ∧ k_ ≠ gb505))) (fun k_ hk => (⟨hk, hk.1.2.2.2⟩ : _ ∧ k_ ≠ gb506))) (fun _ hk => hk.1.2) (.slice Ao6 t507.length co6)) (fun _ hk => hk.1.2) (.slice Ao9 t510.length co9)) (fun _ hk => hk.2) (.int .i64 t513)) (fun _ hk => hk.2) (.slice Ao11 t514.length co11)) (fun _ hk => ⟨hk.1.1.1, hk.1.1.2.1⟩), by (with_reducible repeat apply pV); exact Kd.V_mono (Kd.V_far (p := ⟨gb506, 1, none⟩) (Kd.V_far (p := ⟨gb506, 0, none⟩) (Kd.V_far (p := ⟨gb505, 1, none⟩) (Kd.V_far (p := ⟨gb505, 0, none⟩) (Kd.V_mono (Kd.V_mono HO516.out (fun k_ hk => (⟨hk, hk.2.1⟩ : _ ∧ k_ ≠ gb505))) (fun k_ hk => (⟨hk, hk.1.2.2⟩ : _ ∧ k_ ≠ gb506))) (fun _ hk => hk.1.2) (.slice Ao6 t507.length co6)) (fun _ hk => hk.1.2) (.slice Ao9 t510.length co9)) (fun _ hk => hk.2) (.int .i64 t513)) (fun _ hk => hk.2) (.slice Ao11 t514.length co11)) (fun _ hk => hk.1.1.1), aG⟩

end Go.Proofs.Yteddnlklfjpgoaa.PFnInsertDelete
