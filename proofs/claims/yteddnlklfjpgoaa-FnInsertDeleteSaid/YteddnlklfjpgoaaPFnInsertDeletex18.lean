import Derived.Test.YteddnlklfjpgoaaPFnInsertDeletex0
import Derived.Test.YteddnlklfjpgoaaPFnInsertDeletex1
import Derived.Test.YteddnlklfjpgoaaPFnInsertDeletex3
namespace Go.Proofs.Yteddnlklfjpgoaa.PFnInsertDelete
open Go.RowKit Go.Proofs.YteddnlklfjpgoaaW.PrintWords Go.Proofs.YteddnlklfjpgoaaW.PrintLast Go.Proofs.YteddnlklfjpgoaaW.PrintMore
attribute [local go_sem] max2_int min2_int max_two min_two max_three min_three max_four min_four
set_option linter.unusedVariables false
set_option linter.unusedSimpArgs false

attribute [local go_sem high] eqA74
/-! ### spec_EqualDatabases: function 29 -/
mutual
def spec_EqualDatabases.j0 : Nat → Bool → List (S74) → List (S45) → List (S74) → List (S45) → Option (Bool)
 | 0, _, _, _, _, _ => none
 | k + 1, x22, x518000, x518001, x519000, x519001 => if x22 = true then (some false) else (spec_EqualDatabases.l0 k 0 x518000 x518001 x519000 x519001)
def spec_EqualDatabases.l0 : Nat → Int → List (S74) → List (S45) → List (S74) → List (S45) → Option (Bool)
 | 0, _, _, _, _, _ => none
 | k + 1, x5, x518000, x518001, x519000, x519001 => if x5 < (x518000.length : Int) then (if 0 ≤ x5 then (if x5 < (x519000.length : Int) then (if (!((((rd_T74 x518000 x5).f0).toList) == (((rd_T74 x519000 x5).f0).toList)) || (!(((rd_T74 x518000 x5).f1) == ((rd_T74 x519000 x5).f1)) || (!(((rd_T74 x518000 x5).f2) == ((rd_T74 x519000 x5).f2))))) = true then (some false) else (spec_EqualDatabases.l0 k (wrap64 (x5 + 1)) x518000 x518001 x519000 x519001)) else (none)) else (none)) else (spec_EqualDatabases.l1 k 0 x518000 x518001 x519000 x519001)
def spec_EqualDatabases.l1 : Nat → Int → List (S74) → List (S45) → List (S74) → List (S45) → Option (Bool)
 | 0, _, _, _, _, _ => none
 | k + 1, x6, x518000, x518001, x519000, x519001 => if x6 < (x518001.length : Int) then (if 0 ≤ x6 then (if x6 < (x519001.length : Int) then ((spec_CompareFacts.f k ((rd_T45 x518001 x6).f0) ((rd_T45 x518001 x6).f1) ((rd_T45 x519001 x6).f0) ((rd_T45 x519001 x6).f1)).bind fun t523 => (if t523 = 0 then (spec_EqualDatabases.l1 k (wrap64 (x6 + 1)) x518000 x518001 x519000 x519001) else (some false))) else (none)) else (none)) else (some true)
end
def spec_EqualDatabases.f (k : Nat) (l0_0 : List (S74)) (l0_1 : List (S45)) (l1_0 : List (S74)) (l1_1 : List (S45)) : Option (Bool) := if (l0_0.length : Int) = (l1_0.length : Int) then (spec_EqualDatabases.j0 k ((l0_1.length : Int) != (l1_1.length : Int)) l0_0 l0_1 l1_0 l1_1) else (spec_EqualDatabases.j0 k true l0_0 l0_1 l1_0 l1_1)
def spec_EqualDatabases.T6 : Bool × List (List Nat × List Nat) := (true, [([], []), ([0], [0]), ([], []), ([1, 2], [1, 2]), ([3], [3]), ([], []), ([5], [5]), ([], []), ([6, 7], [6, 7]), ([8], [8]), ([4, 9], [4, 9])])
def spec_EqualDatabases.B6 : List Nat := [0, 1, 0, 7, 15, 0, 32, 0, 224, 480, 1023]
theorem spec_EqualDatabases.tab6 : rtab .any (opsOf Try.f29 6) = spec_EqualDatabases.T6 := by kernel_rfl
theorem spec_EqualDatabases.bits6 : waitsOk spec_EqualDatabases.T6.2 spec_EqualDatabases.B6 = true := by kernel_rfl
set_option maxHeartbeats 8000000 in
set_option maxRecDepth 100000 in
theorem spec_EqualDatabases.calls (k : Nat) (A0_0 : Option Addr) (c0_0 : Nat) (l0_0 : List (S74)) (A0_1 : Option Addr) (c0_1 : Nat) (l0_1 : List (S45)) (A1_0 : Option Addr) (c1_0 : Nat) (l1_0 : List (S74)) (A1_1 : Option Addr) (c1_1 : Nat) (l1_1 : List (S45)) (r : Bool) (w : World) (hr0_0 : Kd.C k74 w A0_0 l0_0.length l0_0) (hc0_0 : l0_0.length ≤ c0_0) (hr0_1 : Kd.C k45 w A0_1 l0_1.length l0_1) (hc0_1 : l0_1.length ≤ c0_1) (hr1_0 : Kd.C k74 w A1_0 l1_0.length l1_0) (hc1_0 : l1_0.length ≤ c1_0) (hr1_1 : Kd.C k45 w A1_1 l1_1.length l1_1) (hc1_1 : l1_1.length ≤ c1_1) (h : spec_EqualDatabases.f k l0_0 l0_1 l1_0 l1_1 = some r) :
  Calls Try.prog 29 #[.agg #[.slice A0_0 l0_0.length c0_0, .slice A0_1 l0_1.length c0_1], .agg #[.slice A1_0 l1_0.length c1_0, .slice A1_1 l1_1.length c1_1]] w fun e w' => e = .returned (.bool r) ∧ Below w.heap.size w w' := by
 have hu31 := Try.underlying31
 have hu74 := Try.underlying74
 have hu45 := Try.underlying45
 have HR0_0 := aM hr0_0
 have HC0_0 := aM hc0_0
 clear hr0_0 hc0_0
 have HR0_1 := aM hr0_1
 have HC0_1 := aM hc0_1
 clear hr0_1 hc0_1
 have HR1_0 := aM hr1_0
 have HC1_0 := aM hc1_0
 clear hr1_0 hc1_0
 have HR1_1 := aM hr1_1
 have HC1_1 := aM hc1_1
 clear hr1_1 hc1_1
 have HB := aM (Below.refl w.heap.size w)
 have H : (if (l0_0.length : Int) = (l1_0.length : Int) then (spec_EqualDatabases.j0 k ((l0_1.length : Int) != (l1_1.length : Int)) l0_0 l0_1 l1_0 l1_1) else (spec_EqualDatabases.j0 k true l0_0 l0_1 l1_0 l1_1)) = some r := h
 clear h
 have HC3 := aM H
 clear H
 go_enter Try.func29, Try.ntmps29
 go_upto_region 1 with (first | ((with_reducible refine gate_dst (N := 2) rfl ?_); (try (refine gate_guard (by rfl) ?_; dsimp only)); refine bE 2 (cs := #[.slice A0_0 l0_0.length c0_0, .slice A0_1 l0_1.length c0_1]) (t := 31) ?_; intro gb517 hg w4 hbox hb; have BK517 := aM (hbox); have GW517 := aM ((by rw [hg]; exact (below_size aB) : w.heap.size ≤ gb517)); have GE517 := aM ((by rw [hg]; exact (below_size aB) : w.heap.size ≤ gb517)); replace HB := aM (below_step aB hb); clear hb hbox hg) | ((with_reducible refine gate_dst (N := 3) rfl ?_); (try (refine gate_guard (by rfl) ?_; dsimp only)); refine bE 3 (cs := #[.slice A1_0 l1_0.length c1_0, .slice A1_1 l1_1.length c1_1]) (t := 31) ?_; intro gb518 hg w5 hbox hb; have BK518 := aM (hbox); have GW518 := aM ((by rw [hg]; exact (below_size aG) : w.heap.size ≤ gb518)); have GE518 := aM ((by rw [hg]; exact (below_size aG) : w.heap.size ≤ gb518)); have NB517_518 := aM ((by rw [hg]; exact Nat.ne_of_lt (blk_lt (g := gb517) aK) : gb517 ≠ gb518)); have NB518_517 := aM ((by rw [hg]; exact Nat.ne_of_gt (blk_lt (g := gb517) aK) : gb518 ≠ gb517)); replace BK517 := aM (kB gb517 #[.slice A0_0 l0_0.length c0_0, .slice A0_1 l0_1.length c0_1] 31 hb); replace HB := aM (below_step aG hb); clear hb hbox hg))
 (try simp only [Act.put, List.setIfInBounds_toArray, List.set_cons_zero, List.set_cons_succ])
 go_cut [22] (fun v22 wc => ∃ (kq : Nat) (x22_2 : Bool), v22 = .bool x22_2 ∧ Aside0 (spec_EqualDatabases.j0 kq x22_2 l0_0 l0_1 l1_0 l1_1 = some r) ∧ Aside0 (kq ≤ k) ∧ Aside0 (wc.heap[gb517]? = some (.cells #[(.slice A0_0 l0_0.length c0_0), (.slice A0_1 l0_1.length c0_1)] 31 (0, 0))) ∧ Aside0 (wc.heap[gb518]? = some (.cells #[(.slice A1_0 l1_0.length c1_0), (.slice A1_1 l1_1.length c1_1)] 31 (0, 0))) ∧ Aside0 (Below w.heap.size w wc))
 case first =>
  have H := HC3.out
  clear HC3
  by_cases c6 : (l0_0.length : Int) = (l1_0.length : Int)
  ·rw [if_pos c6] at H
   have c6b0 : ((l0_0.length : Int) == (l1_0.length : Int)) = true := beq_iff_eq.mpr c6
   have c6b1 : ((l0_0.length : Int) != (l1_0.length : Int)) = false := bne_eq_false_iff_eq.mpr c6
   have c6b2 : (l0_0.length == l1_0.length) = true := by first | simpa using c6 | (simp at c6 ⊢; omega)
   clear c6
   (first | rw [c6b0] | (simp only [i64_w, i32_w]; rw [c6b0]) | skip)
   have H' := aM H
   clear H
   have hnb7 := NB517_518.out
   have hnc7 := NB518_517.out
   have hcz8_0 : w5.cell? ⟨gb517, 0, none⟩ = some (.slice A0_0 l0_0.length c0_0) := (blk_cell BK517.out 0).trans rfl
   have hcz8_1 : w5.cell? ⟨gb517, 1, none⟩ = some (.slice A0_1 l0_1.length c0_1) := (blk_cell BK517.out 1).trans rfl
   have hfz8_0 := blk_frozen BK517.out 0
   have hfz8_1 := blk_frozen BK517.out 1
   have hcz9_0 : w5.cell? ⟨gb518, 0, none⟩ = some (.slice A1_0 l1_0.length c1_0) := (blk_cell BK518.out 0).trans rfl
   have hcz9_1 : w5.cell? ⟨gb518, 1, none⟩ = some (.slice A1_1 l1_1.length c1_1) := (blk_cell BK518.out 1).trans rfl
   have hfz9_0 := blk_frozen BK518.out 0
   have hfz9_1 := blk_frozen BK518.out 1
   go_wp2
   go_meet
   case rel => exact ⟨_, (((l0_1.length : Int) != (l1_1.length : Int))), aX, H', ⟨by first | omega | exact Nat.le_refl _⟩, ⟨aK⟩, ⟨aK⟩, ⟨aG⟩⟩
  ·rw [if_neg c6] at H
   have c6b0 : ((l0_0.length : Int) == (l1_0.length : Int)) = false := beq_eq_false_iff_ne.mpr c6
   have c6b1 : ((l0_0.length : Int) != (l1_0.length : Int)) = true := bne_iff_ne.mpr c6
   have c6b2 : (l0_0.length == l1_0.length) = false := by first | simpa using c6 | (simp at c6 ⊢; omega)
   (first | rw [c6b0] | (simp only [i64_w, i32_w]; rw [c6b0]) | skip)
   have H' := aM H
   clear H
   have hnb10 := NB517_518.out
   have hnc10 := NB518_517.out
   have hcz11_0 : w5.cell? ⟨gb517, 0, none⟩ = some (.slice A0_0 l0_0.length c0_0) := (blk_cell BK517.out 0).trans rfl
   have hcz11_1 : w5.cell? ⟨gb517, 1, none⟩ = some (.slice A0_1 l0_1.length c0_1) := (blk_cell BK517.out 1).trans rfl
   have hfz11_0 := blk_frozen BK517.out 0
   have hfz11_1 := blk_frozen BK517.out 1
   have hcz12_0 : w5.cell? ⟨gb518, 0, none⟩ = some (.slice A1_0 l1_0.length c1_0) := (blk_cell BK518.out 0).trans rfl
   have hcz12_1 : w5.cell? ⟨gb518, 1, none⟩ = some (.slice A1_1 l1_1.length c1_1) := (blk_cell BK518.out 1).trans rfl
   have hfz12_0 := blk_frozen BK518.out 0
   have hfz12_1 := blk_frozen BK518.out 1
   go_wp2
   go_meet
   case rel => exact ⟨_, (true), aX, H', ⟨by first | omega | exact Nat.le_refl _⟩, ⟨aK⟩, ⟨aK⟩, ⟨aG⟩⟩
 case rest =>
  clear HC3
  try clear c1
  try clear c2
  try clear p2
  try clear c6
  try clear c6b0
  try clear c6b1
  try clear c6b2
  try clear c7
  try clear c10
  try clear hcz11_0
  try clear hcz11_1
  try clear hcz12_0
  try clear hcz12_1
  try clear hcz8_0
  try clear hcz8_1
  try clear hcz9_0
  try clear hcz9_1
  try clear hfz11_0
  try clear hfz11_1
  try clear hfz12_0
  try clear hfz12_1
  try clear hfz8_0
  try clear hfz8_1
  try clear hfz9_0
  try clear hfz9_1
  obtain ⟨kq, x22_2, rfl, HA, HJ2, BK517, BK518, HB⟩ := hcut
  cases kq with
  | zero => exact absurd HA.out (by simp [spec_EqualDatabases.j0])
  | succ kj2 =>
   have H := HA.out
   clear HA
   simp only [spec_EqualDatabases.j0] at H
   by_cases c13 : x22_2 = true
   ·subst c13
    replace H := iT H
    obtain rfl := Option.some.inj H
    go_wp2
    go_ret
    exact ⟨aE, aG⟩
   ·replace c13 := Bool.eq_false_iff.mpr c13
    subst c13
    have H1 : (spec_EqualDatabases.l0 kj2 0 l0_0 l0_1 l1_0 l1_1) = some r := by rw [if_neg (show ¬ (false = true) by decide)] at H; exact H
    clear H
    have H := H1
    clear H1
    have H' := aM H
    clear H
    go_wp2
    go_loopg [5] kj2 (fun kq v5 w' => ∃ (x5_2 : Int), v5 = .int .i64 x5_2 ∧ Aside0 (spec_EqualDatabases.l0 kq x5_2 l0_0 l0_1 l1_0 l1_1 = some r) ∧ Aside0 (kq ≤ kj2) ∧ Aside0 (w'.heap[gb517]? = some (.cells #[(.slice A0_0 l0_0.length c0_0), (.slice A0_1 l0_1.length c0_1)] 31 (0, 0))) ∧ Aside0 (w'.heap[gb518]? = some (.cells #[(.slice A1_0 l1_0.length c1_0), (.slice A1_1 l1_1.length c1_1)] 31 (0, 0))) ∧ Aside0 (Below w.heap.size w w'))
    case atStart => exact ⟨(0), aX, H', ⟨Nat.le_refl _⟩, ⟨aK⟩, ⟨aK⟩, ⟨aG⟩⟩
    case round =>
     clear H'
     try clear c1
     try clear c2
     try clear p2
     try clear c6
     try clear c6b0
     try clear c6b1
     try clear c6b2
     try clear c7
     try clear c10
     try clear c13
     try clear hcz11_0
     try clear hcz11_1
     try clear hcz12_0
     try clear hcz12_1
     try clear hcz8_0
     try clear hcz8_1
     try clear hcz9_0
     try clear hcz9_1
     try clear hfz11_0
     try clear hfz11_1
     try clear hfz12_0
     try clear hfz12_1
     try clear hfz8_0
     try clear hfz8_1
     try clear hfz9_0
     try clear hfz9_1
     try clear p2
     obtain ⟨x5_2, rfl, HA, HK2, BK517, BK518, HB⟩ := hrel
     cases gk with
     | zero => exact absurd HA.out (by simp [spec_EqualDatabases.l0])
     | succ k2 =>
      have H := HA.out
      clear HA
      simp only [spec_EqualDatabases.l0] at H
      by_cases c14 : x5_2 < (l0_0.length : Int)
      ·rw [if_pos c14] at H
       have c14b0 : decide (x5_2 < (l0_0.length : Int)) = true := decide_eq_true c14
       clear c14
       by_cases c15 : 0 ≤ x5_2
       ·rw [if_pos c15] at H
        have c15b0 : decide (0 ≤ x5_2) = true := decide_eq_true c15
        clear c15
        by_cases c16 : x5_2 < (l1_0.length : Int)
        ·rw [if_pos c16] at H
         have c16b0 : decide (x5_2 < (l1_0.length : Int)) = true := decide_eq_true c16
         clear c16
         by_cases c17 : (!((((rd_T74 l0_0 x5_2).f0).toList) == (((rd_T74 l1_0 x5_2).f0).toList)) || (!(((rd_T74 l0_0 x5_2).f1) == ((rd_T74 l1_0 x5_2).f1)) || (!(((rd_T74 l0_0 x5_2).f2) == ((rd_T74 l1_0 x5_2).f2))))) = true
         ·rw [if_pos c17] at H
          have c17b0 : (!((((rd_T74 l0_0 x5_2).f0).toList) == (((rd_T74 l1_0 x5_2).f0).toList)) || (!(((rd_T74 l0_0 x5_2).f1) == ((rd_T74 l1_0 x5_2).f1)) || (!(((rd_T74 l0_0 x5_2).f2) == ((rd_T74 l1_0 x5_2).f2))))) = true := c17
          clear c17
          obtain rfl := Option.some.inj H
          have hnb18 := NB517_518.out
          have hnc18 := NB518_517.out
          have hcz19_0 : wr.cell? ⟨gb517, 0, none⟩ = some (.slice A0_0 l0_0.length c0_0) := (blk_cell BK517.out 0).trans rfl
          have hcz19_1 : wr.cell? ⟨gb517, 1, none⟩ = some (.slice A0_1 l0_1.length c0_1) := (blk_cell BK517.out 1).trans rfl
          have hfz19_0 := blk_frozen BK517.out 0
          have hfz19_1 := blk_frozen BK517.out 1
          try go_wp2
          replace BK517 := aM (blk_drew BK517.out)
          replace BK518 := aM (blk_drew BK518.out)
          replace HB := aM (below_drew1 HB.out)
          have p519 : 0 ≤ (x5_2 : Int) := aD
          have q519 : x5_2 < (l0_0.length : Int) := aD
          obtain ⟨ad519, e519, hx519_0, hx519_1, hx519_2⟩ := at_T74 HR0_0.out x5_2 p519 q519
          have hw519_2 := hx519_2
          have hw519_1 := hx519_1
          have hw519_0 := hx519_0
          cases e519
          replace hx519_0 := (HB.out.cell (World.block_lt_of_cell? w _ hx519_0)).trans hx519_0
          replace hx519_1 := (HB.out.cell (World.block_lt_of_cell? w _ hx519_1)).trans hx519_1
          replace hx519_2 := (HB.out.cell (World.block_lt_of_cell? w _ hx519_2)).trans hx519_2
          replace p519 := eq_true p519
          replace q519 := eq_true q519
          have p520 : 0 ≤ (x5_2 : Int) := aD
          have q520 : x5_2 < (l1_0.length : Int) := aD
          obtain ⟨ad520, e520, hx520_0, hx520_1, hx520_2⟩ := at_T74 HR1_0.out x5_2 p520 q520
          have hw520_2 := hx520_2
          have hw520_1 := hx520_1
          have hw520_0 := hx520_0
          cases e520
          replace hx520_0 := (HB.out.cell (World.block_lt_of_cell? w _ hx520_0)).trans hx520_0
          replace hx520_1 := (HB.out.cell (World.block_lt_of_cell? w _ hx520_1)).trans hx520_1
          replace hx520_2 := (HB.out.cell (World.block_lt_of_cell? w _ hx520_2)).trans hx520_2
          replace p520 := eq_true p520
          replace q520 := eq_true q520
          refine start_ (n := 11) (S := fun w' => w'.cell? ⟨gb517, 0, none⟩ = some (.slice (some ad519) l0_0.length c0_0) ∧ w'.cell? ⟨gb517, 1, none⟩ = some (.slice A0_1 l0_1.length c0_1) ∧ w'.cell? ⟨gb518, 0, none⟩ = some (.slice (some ad520) l1_0.length c1_0) ∧ w'.cell? ⟨gb518, 1, none⟩ = some (.slice A1_1 l1_1.length c1_1) ∧ w'.cell? (ad519.add ((x5_2).toNat * 3)) = some (.string ((rd_T74 l0_0 x5_2).f0)) ∧ w'.cell? ⟨(ad519.add ((x5_2).toNat * 3)).block, (ad519.add ((x5_2).toNat * 3)).off + 1, none⟩ = some (.int .i64 ((rd_T74 l0_0 x5_2).f1)) ∧ w'.cell? ⟨(ad519.add ((x5_2).toNat * 3)).block, (ad519.add ((x5_2).toNat * 3)).off + 2, none⟩ = some (.int .i64 ((rd_T74 l0_0 x5_2).f2)) ∧ w'.cell? (ad520.add ((x5_2).toNat * 3)) = some (.string ((rd_T74 l1_0 x5_2).f0)) ∧ w'.cell? ⟨(ad520.add ((x5_2).toNat * 3)).block, (ad520.add ((x5_2).toNat * 3)).off + 1, none⟩ = some (.int .i64 ((rd_T74 l1_0 x5_2).f1)) ∧ w'.cell? ⟨(ad520.add ((x5_2).toNat * 3)).block, (ad520.add ((x5_2).toNat * 3)).off + 2, none⟩ = some (.int .i64 ((rd_T74 l1_0 x5_2).f2))) (ds := []) #[false, false, false, false, false, false, false, false, false, false, false] (by kernel_rfl) rfl rfl ⟨(blk_cell BK517.out 0).trans rfl, (blk_cell BK517.out 1).trans rfl, (blk_cell BK518.out 0).trans rfl, (blk_cell BK518.out 1).trans rfl, (pw_cell_below HB.out hw519_0), (pw_cell_below HB.out hw519_1), (pw_cell_below HB.out hw519_2), (pw_cell_below HB.out hw520_0), (pw_cell_below HB.out hw520_1), (pw_cell_below HB.out hw520_2)⟩ (fun hHeld => ?_); refine with_tabW spec_EqualDatabases.tab6 spec_EqualDatabases.bits6 (fun HT_ HW_ => ?_)
          generalize wr.drew = w20 at BK517 BK518 HB hx519_0 hx519_1 hx519_2 hx520_0 hx520_1 hx520_2 hHeld ⊢
          refine pU 0 30 ?_
          refine pU 2 32 ?_
          refine pU 5 35 ?_
          refine pU 7 37 ?_
          refine take_ (i := 1) (N := some 31) (v := ?_) (a' := ?_) #[true, true, true, false, false, true, false, true, false, false, false] rfl rfl (take_ofW HT_.out HW_.out (by kernel_rfl)) (fun _ _ _ h => h) (Or.inl ⟨by rfl, ?_⟩) hHeld ?_ ?_
          rotate_left
          ·rintro w' ⟨s0, s1, s2, s3, s4, s5, s6, s7, s8, s9⟩
           go_simp
           with_reducible rfl
          rotate_left
          ·exact aP
          refine pU 3 33 ?_
          refine take_ (i := 4) (N := some 34) (v := ?_) (a' := ?_) #[true, true, true, true, true, true, false, true, false, false, false] rfl rfl (take_ofW HT_.out HW_.out (by kernel_rfl)) (fun _ _ _ h => h) (Or.inl ⟨by rfl, ?_⟩) hHeld ?_ ?_
          rotate_left
          ·rintro w' ⟨s0, s1, s2, s3, s4, s5, s6, s7, s8, s9⟩
           go_simp
           with_reducible rfl
          rotate_left
          ·exact aP
          refine take_ (i := 6) (N := some 36) (v := ?_) (a' := ?_) #[true, true, true, true, true, true, true, true, false, false, false] rfl rfl (take_ofW HT_.out HW_.out (by kernel_rfl)) (fun _ _ _ h => h) (Or.inl ⟨by rfl, ?_⟩) hHeld ?_ ?_
          rotate_left
          ·rintro w' ⟨s0, s1, s2, s3, s4, s5, s6, s7, s8, s9⟩
           go_simp
           with_reducible rfl
          rotate_left
          ·exact aP
          refine pU 8 38 ?_
          refine take_ (i := 9) (N := some 39) (v := ?_) (a' := ?_) #[true, true, true, true, true, true, true, true, true, true, false] rfl rfl (take_ofW HT_.out HW_.out (by kernel_rfl)) (fun _ _ _ h => h) (Or.inl ⟨by rfl, ?_⟩) hHeld ?_ ?_
          rotate_left
          ·rintro w' ⟨s0, s1, s2, s3, s4, s5, s6, s7, s8, s9⟩
           go_simp
           with_reducible rfl
          rotate_left
          ·exact aP
          refine pU 10 40 ?_
          refine done_ (done_of HT_.out (by kernel_rfl)) ?_
          try go_wp2
          go_ret
          exact ⟨aE, aG⟩
         ·rw [if_neg c17] at H
          have c17b0 : (!((((rd_T74 l0_0 x5_2).f0).toList) == (((rd_T74 l1_0 x5_2).f0).toList)) || (!(((rd_T74 l0_0 x5_2).f1) == ((rd_T74 l1_0 x5_2).f1)) || (!(((rd_T74 l0_0 x5_2).f2) == ((rd_T74 l1_0 x5_2).f2))))) = false := by simpa using c17
          clear c17
          have H' := aM H
          clear H
          have hnb21 := NB517_518.out
          have hnc21 := NB518_517.out
          have hcz22_0 : wr.cell? ⟨gb517, 0, none⟩ = some (.slice A0_0 l0_0.length c0_0) := (blk_cell BK517.out 0).trans rfl
          have hcz22_1 : wr.cell? ⟨gb517, 1, none⟩ = some (.slice A0_1 l0_1.length c0_1) := (blk_cell BK517.out 1).trans rfl
          have hfz22_0 := blk_frozen BK517.out 0
          have hfz22_1 := blk_frozen BK517.out 1
          try go_wp2
          replace BK517 := aM (blk_drew BK517.out)
          replace BK518 := aM (blk_drew BK518.out)
          replace HB := aM (below_drew1 HB.out)
          have p519 : 0 ≤ (x5_2 : Int) := aD
          have q519 : x5_2 < (l0_0.length : Int) := aD
          obtain ⟨ad519, e519, hx519_0, hx519_1, hx519_2⟩ := at_T74 HR0_0.out x5_2 p519 q519
          have hw519_2 := hx519_2
          have hw519_1 := hx519_1
          have hw519_0 := hx519_0
          cases e519
          replace hx519_0 := (HB.out.cell (World.block_lt_of_cell? w _ hx519_0)).trans hx519_0
          replace hx519_1 := (HB.out.cell (World.block_lt_of_cell? w _ hx519_1)).trans hx519_1
          replace hx519_2 := (HB.out.cell (World.block_lt_of_cell? w _ hx519_2)).trans hx519_2
          replace p519 := eq_true p519
          replace q519 := eq_true q519
          have p520 : 0 ≤ (x5_2 : Int) := aD
          have q520 : x5_2 < (l1_0.length : Int) := aD
          obtain ⟨ad520, e520, hx520_0, hx520_1, hx520_2⟩ := at_T74 HR1_0.out x5_2 p520 q520
          have hw520_2 := hx520_2
          have hw520_1 := hx520_1
          have hw520_0 := hx520_0
          cases e520
          replace hx520_0 := (HB.out.cell (World.block_lt_of_cell? w _ hx520_0)).trans hx520_0
          replace hx520_1 := (HB.out.cell (World.block_lt_of_cell? w _ hx520_1)).trans hx520_1
          replace hx520_2 := (HB.out.cell (World.block_lt_of_cell? w _ hx520_2)).trans hx520_2
          replace p520 := eq_true p520
          replace q520 := eq_true q520
          refine start_ (n := 11) (S := fun w' => w'.cell? ⟨gb517, 0, none⟩ = some (.slice (some ad519) l0_0.length c0_0) ∧ w'.cell? ⟨gb517, 1, none⟩ = some (.slice A0_1 l0_1.length c0_1) ∧ w'.cell? ⟨gb518, 0, none⟩ = some (.slice (some ad520) l1_0.length c1_0) ∧ w'.cell? ⟨gb518, 1, none⟩ = some (.slice A1_1 l1_1.length c1_1) ∧ w'.cell? (ad519.add ((x5_2).toNat * 3)) = some (.string ((rd_T74 l0_0 x5_2).f0)) ∧ w'.cell? ⟨(ad519.add ((x5_2).toNat * 3)).block, (ad519.add ((x5_2).toNat * 3)).off + 1, none⟩ = some (.int .i64 ((rd_T74 l0_0 x5_2).f1)) ∧ w'.cell? ⟨(ad519.add ((x5_2).toNat * 3)).block, (ad519.add ((x5_2).toNat * 3)).off + 2, none⟩ = some (.int .i64 ((rd_T74 l0_0 x5_2).f2)) ∧ w'.cell? (ad520.add ((x5_2).toNat * 3)) = some (.string ((rd_T74 l1_0 x5_2).f0)) ∧ w'.cell? ⟨(ad520.add ((x5_2).toNat * 3)).block, (ad520.add ((x5_2).toNat * 3)).off + 1, none⟩ = some (.int .i64 ((rd_T74 l1_0 x5_2).f1)) ∧ w'.cell? ⟨(ad520.add ((x5_2).toNat * 3)).block, (ad520.add ((x5_2).toNat * 3)).off + 2, none⟩ = some (.int .i64 ((rd_T74 l1_0 x5_2).f2))) (ds := []) #[false, false, false, false, false, false, false, false, false, false, false] (by kernel_rfl) rfl rfl ⟨(blk_cell BK517.out 0).trans rfl, (blk_cell BK517.out 1).trans rfl, (blk_cell BK518.out 0).trans rfl, (blk_cell BK518.out 1).trans rfl, (pw_cell_below HB.out hw519_0), (pw_cell_below HB.out hw519_1), (pw_cell_below HB.out hw519_2), (pw_cell_below HB.out hw520_0), (pw_cell_below HB.out hw520_1), (pw_cell_below HB.out hw520_2)⟩ (fun hHeld => ?_); refine with_tabW spec_EqualDatabases.tab6 spec_EqualDatabases.bits6 (fun HT_ HW_ => ?_)
          generalize wr.drew = w23 at BK517 BK518 HB hx519_0 hx519_1 hx519_2 hx520_0 hx520_1 hx520_2 hHeld ⊢
          refine pU 0 30 ?_
          refine pU 2 32 ?_
          refine pU 5 35 ?_
          refine pU 7 37 ?_
          refine take_ (i := 1) (N := some 31) (v := ?_) (a' := ?_) #[true, true, true, false, false, true, false, true, false, false, false] rfl rfl (take_ofW HT_.out HW_.out (by kernel_rfl)) (fun _ _ _ h => h) (Or.inl ⟨by rfl, ?_⟩) hHeld ?_ ?_
          rotate_left
          ·rintro w' ⟨s0, s1, s2, s3, s4, s5, s6, s7, s8, s9⟩
           go_simp
           with_reducible rfl
          rotate_left
          ·exact aP
          refine pU 3 33 ?_
          refine take_ (i := 4) (N := some 34) (v := ?_) (a' := ?_) #[true, true, true, true, true, true, false, true, false, false, false] rfl rfl (take_ofW HT_.out HW_.out (by kernel_rfl)) (fun _ _ _ h => h) (Or.inl ⟨by rfl, ?_⟩) hHeld ?_ ?_
          rotate_left
          ·rintro w' ⟨s0, s1, s2, s3, s4, s5, s6, s7, s8, s9⟩
           go_simp
           with_reducible rfl
          rotate_left
          ·exact aP
          refine take_ (i := 6) (N := some 36) (v := ?_) (a' := ?_) #[true, true, true, true, true, true, true, true, false, false, false] rfl rfl (take_ofW HT_.out HW_.out (by kernel_rfl)) (fun _ _ _ h => h) (Or.inl ⟨by rfl, ?_⟩) hHeld ?_ ?_
          rotate_left
          ·rintro w' ⟨s0, s1, s2, s3, s4, s5, s6, s7, s8, s9⟩
           go_simp
           with_reducible rfl
          rotate_left
          ·exact aP
          refine pU 8 38 ?_
          refine take_ (i := 9) (N := some 39) (v := ?_) (a' := ?_) #[true, true, true, true, true, true, true, true, true, true, false] rfl rfl (take_ofW HT_.out HW_.out (by kernel_rfl)) (fun _ _ _ h => h) (Or.inl ⟨by rfl, ?_⟩) hHeld ?_ ?_
          rotate_left
          ·rintro w' ⟨s0, s1, s2, s3, s4, s5, s6, s7, s8, s9⟩
           go_simp
           with_reducible rfl
          rotate_left
          ·exact aP
          refine pU 10 40 ?_
          refine done_ (done_of HT_.out (by kernel_rfl)) ?_
          try go_wp2
          go_roundg k2
          case measure => have := HJ2.out; have := HK2.out; omega
          case rel => exact ⟨(wrap64 (x5_2 + 1)), aX, H', ⟨by have := HJ2.out; have := HK2.out; omega⟩, ⟨aK⟩, ⟨aK⟩, ⟨aG⟩⟩
        ·rw [if_neg c16] at H
         exact absurd H (by simp)
       ·rw [if_neg c15] at H
        exact absurd H (by simp)
      ·rw [if_neg c14] at H
       have c14b0 : decide (x5_2 < (l0_0.length : Int)) = false := decide_eq_false c14
       clear c14
       have H' := aM H
       clear H
       have hnb24 := NB517_518.out
       have hnc24 := NB518_517.out
       have hcz25_0 : wr.cell? ⟨gb517, 0, none⟩ = some (.slice A0_0 l0_0.length c0_0) := (blk_cell BK517.out 0).trans rfl
       have hcz25_1 : wr.cell? ⟨gb517, 1, none⟩ = some (.slice A0_1 l0_1.length c0_1) := (blk_cell BK517.out 1).trans rfl
       have hfz25_0 := blk_frozen BK517.out 0
       have hfz25_1 := blk_frozen BK517.out 1
       go_wp2
       go_loopg [6] k2 (fun kq v6 w' => ∃ (x6_3 : Int), v6 = .int .i64 x6_3 ∧ Aside0 (spec_EqualDatabases.l1 kq x6_3 l0_0 l0_1 l1_0 l1_1 = some r) ∧ Aside0 (kq ≤ k2) ∧ Aside0 (w'.heap[gb517]? = some (.cells #[(.slice A0_0 l0_0.length c0_0), (.slice A0_1 l0_1.length c0_1)] 31 (0, 0))) ∧ Aside0 (w'.heap[gb518]? = some (.cells #[(.slice A1_0 l1_0.length c1_0), (.slice A1_1 l1_1.length c1_1)] 31 (0, 0))) ∧ Aside0 (Below w.heap.size w w'))
       case atStart => exact ⟨(0), aX, H', ⟨Nat.le_refl _⟩, ⟨aK⟩, ⟨aK⟩, ⟨aG⟩⟩
       case round =>
        clear H'
        try clear c1
        try clear c2
        try clear p2
        try clear p5
        try clear q5
        try clear hx5
        try clear c6
        try clear c6b0
        try clear c6b1
        try clear c6b2
        try clear p6
        try clear c7
        try clear c10
        try clear c13
        try clear c14
        try clear c14b0
        try clear c15
        try clear c15b0
        try clear c16
        try clear c16b0
        try clear c17
        try clear c17b0
        try clear c18
        try clear c21
        try clear c24
        try clear hcz11_0
        try clear hcz11_1
        try clear hcz12_0
        try clear hcz12_1
        try clear hcz19_0
        try clear hcz19_1
        try clear hcz22_0
        try clear hcz22_1
        try clear hcz25_0
        try clear hcz25_1
        try clear hcz8_0
        try clear hcz8_1
        try clear hcz9_0
        try clear hcz9_1
        try clear hfz11_0
        try clear hfz11_1
        try clear hfz12_0
        try clear hfz12_1
        try clear hfz19_0
        try clear hfz19_1
        try clear hfz22_0
        try clear hfz22_1
        try clear hfz25_0
        try clear hfz25_1
        try clear hfz8_0
        try clear hfz8_1
        try clear hfz9_0
        try clear hfz9_1
        try clear hx519_0
        try clear hx519_1
        try clear hx519_2
        try clear hx520_0
        try clear hx520_1
        try clear hx520_2
        try clear p2
        try clear p519
        try clear p520
        try clear q519
        try clear q520
        obtain ⟨x6_3, rfl, HA, HK3, BK517, BK518, HB⟩ := hrel
        cases gk with
        | zero => exact absurd HA.out (by simp [spec_EqualDatabases.l1])
        | succ k3 =>
         have H := HA.out
         clear HA
         simp only [spec_EqualDatabases.l1] at H
         by_cases c26 : x6_3 < (l0_1.length : Int)
         ·rw [if_pos c26] at H
          have c26b0 : decide (x6_3 < (l0_1.length : Int)) = true := decide_eq_true c26
          clear c26
          by_cases c27 : 0 ≤ x6_3
          ·rw [if_pos c27] at H
           have c27b0 : decide (0 ≤ x6_3) = true := decide_eq_true c27
           clear c27
           by_cases c28 : x6_3 < (l1_1.length : Int)
           ·rw [if_pos c28] at H
            have c28b0 : decide (x6_3 < (l1_1.length : Int)) = true := decide_eq_true c28
            clear c28
            replace H := bM H
            obtain ⟨t523, A290, H⟩ := H
            have A29 := aM A290
            clear A290
            by_cases c30 : t523 = 0
            ·rw [if_pos c30] at H
             have c30b0 : (t523 == 0) = true := beq_iff_eq.mpr c30
             have c30b1 : (t523 != 0) = false := bne_eq_false_iff_eq.mpr c30
             clear c30
             have H' := aM H
             clear H
             have hnb31 := NB517_518.out
             have hnc31 := NB518_517.out
             have hcz32_0 : wr.cell? ⟨gb517, 0, none⟩ = some (.slice A0_0 l0_0.length c0_0) := (blk_cell BK517.out 0).trans rfl
             have hcz32_1 : wr.cell? ⟨gb517, 1, none⟩ = some (.slice A0_1 l0_1.length c0_1) := (blk_cell BK517.out 1).trans rfl
             have hfz32_0 := blk_frozen BK517.out 0
             have hfz32_1 := blk_frozen BK517.out 1
             try go_wp2
             replace BK517 := aM (blk_drew BK517.out)
             replace BK518 := aM (blk_drew BK518.out)
             replace HB := aM (below_drew1 HB.out)
             have p521 : 0 ≤ (x6_3 : Int) := aD
             have q521 : x6_3 < (l0_1.length : Int) := aD
             obtain ⟨ad521, A521_1, c521_1, e521, hx521_0, hx521_1, hl521_1, hi521_1⟩ := at_T45 HR0_1.out x6_3 p521 q521
             have hw521_1 := hx521_1
             have hw521_0 := hx521_0
             cases e521
             replace hx521_0 := (HB.out.cell (World.block_lt_of_cell? w _ hx521_0)).trans hx521_0
             replace hx521_1 := (HB.out.cell (World.block_lt_of_cell? w _ hx521_1)).trans hx521_1
             have HR521_1 := aM hi521_1
             have HC521_1 := aM hl521_1
             clear hi521_1 hl521_1
             replace p521 := eq_true p521
             replace q521 := eq_true q521
             have p522 : 0 ≤ (x6_3 : Int) := aD
             have q522 : x6_3 < (l1_1.length : Int) := aD
             obtain ⟨ad522, A522_1, c522_1, e522, hx522_0, hx522_1, hl522_1, hi522_1⟩ := at_T45 HR1_1.out x6_3 p522 q522
             have hw522_1 := hx522_1
             have hw522_0 := hx522_0
             cases e522
             replace hx522_0 := (HB.out.cell (World.block_lt_of_cell? w _ hx522_0)).trans hx522_0
             replace hx522_1 := (HB.out.cell (World.block_lt_of_cell? w _ hx522_1)).trans hx522_1
             have HR522_1 := aM hi522_1
             have HC522_1 := aM hl522_1
             clear hi522_1 hl522_1
             replace p522 := eq_true p522
             replace q522 := eq_true q522
             have qf0_ : ∀ (d_ : Nat) (os_ : Array Obj), (Go.Sort.grow (redrawn wr d_) os_).cell? ⟨gb517, 0, none⟩ = some (.slice A0_0 l0_0.length c0_0) := cell_regrown_drew ((blk_cell BK517.out 0).trans rfl)
             have qf1_ : ∀ (d_ : Nat) (os_ : Array Obj), (Go.Sort.grow (redrawn wr d_) os_).cell? ⟨gb517, 1, none⟩ = some (.slice (some ad521) l0_1.length c0_1) := cell_regrown_drew ((blk_cell BK517.out 1).trans rfl)
             have qf2_ : ∀ (d_ : Nat) (os_ : Array Obj), (Go.Sort.grow (redrawn wr d_) os_).cell? ⟨gb518, 0, none⟩ = some (.slice A1_0 l1_0.length c1_0) := cell_regrown_drew ((blk_cell BK518.out 0).trans rfl)
             have qf3_ : ∀ (d_ : Nat) (os_ : Array Obj), (Go.Sort.grow (redrawn wr d_) os_).cell? ⟨gb518, 1, none⟩ = some (.slice (some ad522) l1_1.length c1_1) := cell_regrown_drew ((blk_cell BK518.out 1).trans rfl)
             have qf4_ : ∀ (d_ : Nat) (os_ : Array Obj), (Go.Sort.grow (redrawn wr d_) os_).cell? (ad521.add ((x6_3).toNat * 2)) = some (.int .i64 ((rd_T45 l0_1 x6_3).f0)) := cell_regrown_drew ((pw_cell_below HB.out hw521_0))
             have qf5_ : ∀ (d_ : Nat) (os_ : Array Obj), (Go.Sort.grow (redrawn wr d_) os_).cell? ⟨(ad521.add ((x6_3).toNat * 2)).block, (ad521.add ((x6_3).toNat * 2)).off + 1, none⟩ = some (.slice A521_1 ((rd_T45 l0_1 x6_3).f1).length c521_1) := cell_regrown_drew ((pw_cell_below HB.out hw521_1))
             have qf6_ : ∀ (d_ : Nat) (os_ : Array Obj), (Go.Sort.grow (redrawn wr d_) os_).cell? (ad522.add ((x6_3).toNat * 2)) = some (.int .i64 ((rd_T45 l1_1 x6_3).f0)) := cell_regrown_drew ((pw_cell_below HB.out hw522_0))
             have qf7_ : ∀ (d_ : Nat) (os_ : Array Obj), (Go.Sort.grow (redrawn wr d_) os_).cell? ⟨(ad522.add ((x6_3).toNat * 2)).block, (ad522.add ((x6_3).toNat * 2)).off + 1, none⟩ = some (.slice A522_1 ((rd_T45 l1_1 x6_3).f1).length c522_1) := cell_regrown_drew ((pw_cell_below HB.out hw522_1))
             have HBQ_ := aM (below_class HB.out)
             have HBS_ := HB
             clear HB
             refine wp_region_quiet_below (by kernel_rfl) (by kernel_rfl) ?_
             repeat (go_big_quiet_step ((refine with_class HBQ_.out ?_; intro hbz_; have HB := aM hbz_; clear hbz_; first | (go_at_call 49; apply Calls.regrown_of; with_reducible refine spec_CompareFacts.calls k3 ((rd_T45 l0_1 x6_3).f0) _ _ ((rd_T45 l0_1 x6_3).f1) ((rd_T45 l1_1 x6_3).f0) _ _ ((rd_T45 l1_1 x6_3).f1) t523 _ ?side1 ?side2 ?side3 ?side4 A29.out; (case side1 => repeat (first | exact (Kd.C_below HR521_1.out HB.out) | exact (Kd.C_below HR522_1.out HB.out) | (with_reducible refine pC ?_))); (case side2 => first | exact HC521_1.out | exact HC522_1.out); (case side3 => repeat (first | exact (Kd.C_below HR522_1.out HB.out) | exact (Kd.C_below HR521_1.out HB.out) | (with_reducible refine pC ?_))); (case side4 => first | exact HC522_1.out | exact HC521_1.out)))))
             refine wpQuiet_nil ?_
             intro _ hw_
             obtain ⟨⟨dq_, osq_⟩, hw2_⟩ := hw_
             subst hw2_
             have hb := below_regrown_drew wr dq_ osq_
             have HB := HBS_
             clear HBS_
             clear qf0_ qf1_ qf2_ qf3_ qf4_ qf5_ qf6_ qf7_
             clear HBQ_
             generalize Go.Sort.grow (redrawn wr dq_) osq_ = w34 at hb ⊢
             generalize wr.drew = wd_ at BK517 BK518 HB hb
             have n0_ := aM (kB gb517 #[.slice A0_0 l0_0.length c0_0, .slice (some ad521) l0_1.length c0_1] 31 hb)
             have n1_ := aM (kB gb518 #[.slice A1_0 l1_0.length c1_0, .slice (some ad522) l1_1.length c1_1] 31 hb)
             have n2_ := aM (below_step aG hb)
             clear BK517
             clear BK518
             clear HB
             have BK517 := n0_
             have BK518 := n1_
             have HB := n2_
             clear n0_ n1_ n2_
             (try clear hb)
             (try clear hb2)
             (try clear hk)
             (try clear hi)
             try go_wp2
             go_roundg k3
             case measure => have := HJ2.out; have := HK2.out; have := HK3.out; omega
             case rel => exact ⟨(wrap64 (x6_3 + 1)), aX, H', ⟨by have := HJ2.out; have := HK2.out; have := HK3.out; omega⟩, ⟨aK⟩, ⟨aK⟩, ⟨aG⟩⟩
            ·rw [if_neg c30] at H
             have c30b0 : (t523 == 0) = false := beq_eq_false_iff_ne.mpr c30
             have c30b1 : (t523 != 0) = true := bne_iff_ne.mpr c30
             obtain rfl := Option.some.inj H
             have hnb35 := NB517_518.out
             have hnc35 := NB518_517.out
             have hcz36_0 : wr.cell? ⟨gb517, 0, none⟩ = some (.slice A0_0 l0_0.length c0_0) := (blk_cell BK517.out 0).trans rfl
             have hcz36_1 : wr.cell? ⟨gb517, 1, none⟩ = some (.slice A0_1 l0_1.length c0_1) := (blk_cell BK517.out 1).trans rfl
             have hfz36_0 := blk_frozen BK517.out 0
             have hfz36_1 := blk_frozen BK517.out 1
             try go_wp2
             replace BK517 := aM (blk_drew BK517.out)
             replace BK518 := aM (blk_drew BK518.out)
             replace HB := aM (below_drew1 HB.out)
             have p521 : 0 ≤ (x6_3 : Int) := aD
             have q521 : x6_3 < (l0_1.length : Int) := aD
             obtain ⟨ad521, A521_1, c521_1, e521, hx521_0, hx521_1, hl521_1, hi521_1⟩ := at_T45 HR0_1.out x6_3 p521 q521
             have hw521_1 := hx521_1
             have hw521_0 := hx521_0
             cases e521
             replace hx521_0 := (HB.out.cell (World.block_lt_of_cell? w _ hx521_0)).trans hx521_0
             replace hx521_1 := (HB.out.cell (World.block_lt_of_cell? w _ hx521_1)).trans hx521_1
             have HR521_1 := aM hi521_1
             have HC521_1 := aM hl521_1
             clear hi521_1 hl521_1
             replace p521 := eq_true p521
             replace q521 := eq_true q521
             have p522 : 0 ≤ (x6_3 : Int) := aD
             have q522 : x6_3 < (l1_1.length : Int) := aD
             obtain ⟨ad522, A522_1, c522_1, e522, hx522_0, hx522_1, hl522_1, hi522_1⟩ := at_T45 HR1_1.out x6_3 p522 q522
             have hw522_1 := hx522_1
             have hw522_0 := hx522_0
             cases e522
             replace hx522_0 := (HB.out.cell (World.block_lt_of_cell? w _ hx522_0)).trans hx522_0
             replace hx522_1 := (HB.out.cell (World.block_lt_of_cell? w _ hx522_1)).trans hx522_1
             have HR522_1 := aM hi522_1
             have HC522_1 := aM hl522_1
             clear hi522_1 hl522_1
             replace p522 := eq_true p522
             replace q522 := eq_true q522
             have qf0_ : ∀ (d_ : Nat) (os_ : Array Obj), (Go.Sort.grow (redrawn wr d_) os_).cell? ⟨gb517, 0, none⟩ = some (.slice A0_0 l0_0.length c0_0) := cell_regrown_drew ((blk_cell BK517.out 0).trans rfl)
             have qf1_ : ∀ (d_ : Nat) (os_ : Array Obj), (Go.Sort.grow (redrawn wr d_) os_).cell? ⟨gb517, 1, none⟩ = some (.slice (some ad521) l0_1.length c0_1) := cell_regrown_drew ((blk_cell BK517.out 1).trans rfl)
             have qf2_ : ∀ (d_ : Nat) (os_ : Array Obj), (Go.Sort.grow (redrawn wr d_) os_).cell? ⟨gb518, 0, none⟩ = some (.slice A1_0 l1_0.length c1_0) := cell_regrown_drew ((blk_cell BK518.out 0).trans rfl)
             have qf3_ : ∀ (d_ : Nat) (os_ : Array Obj), (Go.Sort.grow (redrawn wr d_) os_).cell? ⟨gb518, 1, none⟩ = some (.slice (some ad522) l1_1.length c1_1) := cell_regrown_drew ((blk_cell BK518.out 1).trans rfl)
             have qf4_ : ∀ (d_ : Nat) (os_ : Array Obj), (Go.Sort.grow (redrawn wr d_) os_).cell? (ad521.add ((x6_3).toNat * 2)) = some (.int .i64 ((rd_T45 l0_1 x6_3).f0)) := cell_regrown_drew ((pw_cell_below HB.out hw521_0))
             have qf5_ : ∀ (d_ : Nat) (os_ : Array Obj), (Go.Sort.grow (redrawn wr d_) os_).cell? ⟨(ad521.add ((x6_3).toNat * 2)).block, (ad521.add ((x6_3).toNat * 2)).off + 1, none⟩ = some (.slice A521_1 ((rd_T45 l0_1 x6_3).f1).length c521_1) := cell_regrown_drew ((pw_cell_below HB.out hw521_1))
             have qf6_ : ∀ (d_ : Nat) (os_ : Array Obj), (Go.Sort.grow (redrawn wr d_) os_).cell? (ad522.add ((x6_3).toNat * 2)) = some (.int .i64 ((rd_T45 l1_1 x6_3).f0)) := cell_regrown_drew ((pw_cell_below HB.out hw522_0))
             have qf7_ : ∀ (d_ : Nat) (os_ : Array Obj), (Go.Sort.grow (redrawn wr d_) os_).cell? ⟨(ad522.add ((x6_3).toNat * 2)).block, (ad522.add ((x6_3).toNat * 2)).off + 1, none⟩ = some (.slice A522_1 ((rd_T45 l1_1 x6_3).f1).length c522_1) := cell_regrown_drew ((pw_cell_below HB.out hw522_1))
             have HBQ_ := aM (below_class HB.out)
             have HBS_ := HB
             clear HB
             refine wp_region_quiet_below (by kernel_rfl) (by kernel_rfl) ?_
             repeat (go_big_quiet_step ((refine with_class HBQ_.out ?_; intro hbz_; have HB := aM hbz_; clear hbz_; first | (go_at_call 49; apply Calls.regrown_of; with_reducible refine spec_CompareFacts.calls k3 ((rd_T45 l0_1 x6_3).f0) _ _ ((rd_T45 l0_1 x6_3).f1) ((rd_T45 l1_1 x6_3).f0) _ _ ((rd_T45 l1_1 x6_3).f1) t523 _ ?side1 ?side2 ?side3 ?side4 A29.out; (case side1 => repeat (first | exact (Kd.C_below HR521_1.out HB.out) | exact (Kd.C_below HR522_1.out HB.out) | (with_reducible refine pC ?_))); (case side2 => first | exact HC521_1.out | exact HC522_1.out); (case side3 => repeat (first | exact (Kd.C_below HR522_1.out HB.out) | exact (Kd.C_below HR521_1.out HB.out) | (with_reducible refine pC ?_))); (case side4 => first | exact HC522_1.out | exact HC521_1.out)))))
             refine wpQuiet_nil ?_
             intro _ hw_
             obtain ⟨⟨dq_, osq_⟩, hw2_⟩ := hw_
             subst hw2_
             have hb := below_regrown_drew wr dq_ osq_
             have HB := HBS_
             clear HBS_
             clear qf0_ qf1_ qf2_ qf3_ qf4_ qf5_ qf6_ qf7_
             clear HBQ_
             generalize Go.Sort.grow (redrawn wr dq_) osq_ = w38 at hb ⊢
             generalize wr.drew = wd_ at BK517 BK518 HB hb
             have n0_ := aM (kB gb517 #[.slice A0_0 l0_0.length c0_0, .slice (some ad521) l0_1.length c0_1] 31 hb)
             have n1_ := aM (kB gb518 #[.slice A1_0 l1_0.length c1_0, .slice (some ad522) l1_1.length c1_1] 31 hb)
             have n2_ := aM (below_step aG hb)
             clear BK517
             clear BK518
             clear HB
             have BK517 := n0_
             have BK518 := n1_
             have HB := n2_
             clear n0_ n1_ n2_
             (try clear hb)
             (try clear hb2)
             (try clear hk)
             (try clear hi)
             try go_wp2
             go_ret
             exact ⟨aE, aG⟩
           ·rw [if_neg c28] at H
            exact absurd H (by simp)
          ·rw [if_neg c27] at H
           exact absurd H (by simp)
         ·rw [if_neg c26] at H
          have c26b0 : decide (x6_3 < (l0_1.length : Int)) = false := decide_eq_false c26
          clear c26
          obtain rfl := Option.some.inj H
          have hnb39 := NB517_518.out
          have hnc39 := NB518_517.out
          have hcz40_0 : wr.cell? ⟨gb517, 0, none⟩ = some (.slice A0_0 l0_0.length c0_0) := (blk_cell BK517.out 0).trans rfl
          have hcz40_1 : wr.cell? ⟨gb517, 1, none⟩ = some (.slice A0_1 l0_1.length c0_1) := (blk_cell BK517.out 1).trans rfl
          have hfz40_0 := blk_frozen BK517.out 0
          have hfz40_1 := blk_frozen BK517.out 1
          go_wp2
          go_ret
          exact ⟨aE, aG⟩

end Go.Proofs.Yteddnlklfjpgoaa.PFnInsertDelete
