import Derived.Test.YtckpikfbhlhhjaaDoorPFnSelectFactsx0
import Derived.Test.YtckpikfbhlhhjaaDoorPFnSelectFactsx1
import Derived.Test.YtckpikfbhlhhjaaDoorPFnSelectFactsx4
import Derived.Test.YtckpikfbhlhhjaaDoorPFnSelectFactsx8
namespace Go.Proofs.YtckpikfbhlhhjaaDoor.PFnSelectFacts
open Go.RowKit Go.Proofs.YtckpikfbhlhhjaaDoorW.PrintWords Go.Proofs.YtckpikfbhlhhjaaDoorW.PrintLast Go.Proofs.YtckpikfbhlhhjaaDoorW.PrintMore
attribute [local go_sem] max2_int min2_int max_two min_two max_three min_three max_four min_four
set_option linter.unusedVariables false
set_option linter.unusedSimpArgs false

attribute [local go_sem high] eqA68
/-! ### spec_EqualDatabases: function 30 -/
mutual
def spec_EqualDatabases.j0 : Nat → Bool → List (S68) → List (S39) → List (S68) → List (S39) → Option (Bool)
 | 0, _, _, _, _, _ => none
 | k + 1, x22, x513000, x513001, x514000, x514001 => if x22 = true then (some false) else (spec_EqualDatabases.l0 k 0 x513000 x513001 x514000 x514001)
def spec_EqualDatabases.l0 : Nat → Int → List (S68) → List (S39) → List (S68) → List (S39) → Option (Bool)
 | 0, _, _, _, _, _ => none
 | k + 1, x5, x513000, x513001, x514000, x514001 => if x5 < (x513000.length : Int) then (if 0 ≤ x5 then (if x5 < (x514000.length : Int) then (if (!((((rd_T68 x513000 x5).f0).toList) == (((rd_T68 x514000 x5).f0).toList)) || (!(((rd_T68 x513000 x5).f1) == ((rd_T68 x514000 x5).f1)) || (!(((rd_T68 x513000 x5).f2) == ((rd_T68 x514000 x5).f2))))) = true then (some false) else (spec_EqualDatabases.l0 k (wrap64 (x5 + 1)) x513000 x513001 x514000 x514001)) else (none)) else (none)) else (spec_EqualDatabases.l1 k 0 x513000 x513001 x514000 x514001)
def spec_EqualDatabases.l1 : Nat → Int → List (S68) → List (S39) → List (S68) → List (S39) → Option (Bool)
 | 0, _, _, _, _, _ => none
 | k + 1, x6, x513000, x513001, x514000, x514001 => if x6 < (x513001.length : Int) then (if 0 ≤ x6 then (if x6 < (x514001.length : Int) then ((spec_CompareFacts.f k ((rd_T39 x513001 x6).f0) ((rd_T39 x513001 x6).f1) ((rd_T39 x514001 x6).f0) ((rd_T39 x514001 x6).f1)).bind fun t518 => (if t518 = 0 then (spec_EqualDatabases.l1 k (wrap64 (x6 + 1)) x513000 x513001 x514000 x514001) else (some false))) else (none)) else (none)) else (some true)
end
def spec_EqualDatabases.f (k : Nat) (l0_0 : List (S68)) (l0_1 : List (S39)) (l1_0 : List (S68)) (l1_1 : List (S39)) : Option (Bool) := if (l0_0.length : Int) = (l1_0.length : Int) then (spec_EqualDatabases.j0 k ((l0_1.length : Int) != (l1_1.length : Int)) l0_0 l0_1 l1_0 l1_1) else (spec_EqualDatabases.j0 k true l0_0 l0_1 l1_0 l1_1)
def spec_EqualDatabases.T6 : Bool × List (List Nat × List Nat) := (true, [([], []), ([0], [0]), ([], []), ([1, 2], [1, 2]), ([3], [3]), ([], []), ([5], [5]), ([], []), ([6, 7], [6, 7]), ([8], [8]), ([4, 9], [4, 9])])
def spec_EqualDatabases.B6 : List Nat := [0, 1, 0, 7, 15, 0, 32, 0, 224, 480, 1023]
theorem spec_EqualDatabases.tab6 : rtab .any (opsOf Tryd.f30 6) = spec_EqualDatabases.T6 := by kernel_rfl
theorem spec_EqualDatabases.bits6 : waitsOk spec_EqualDatabases.T6.2 spec_EqualDatabases.B6 = true := by kernel_rfl
set_option maxHeartbeats 8000000 in
set_option maxRecDepth 100000 in
theorem spec_EqualDatabases.calls (k : Nat) (A0_0 : Option Addr) (c0_0 : Nat) (l0_0 : List (S68)) (A0_1 : Option Addr) (c0_1 : Nat) (l0_1 : List (S39)) (A1_0 : Option Addr) (c1_0 : Nat) (l1_0 : List (S68)) (A1_1 : Option Addr) (c1_1 : Nat) (l1_1 : List (S39)) (r : Bool) (w : World) (hr0_0 : Kd.C k68 w A0_0 l0_0.length l0_0) (hc0_0 : l0_0.length ≤ c0_0) (hr0_1 : Kd.C k39 w A0_1 l0_1.length l0_1) (hc0_1 : l0_1.length ≤ c0_1) (hr1_0 : Kd.C k68 w A1_0 l1_0.length l1_0) (hc1_0 : l1_0.length ≤ c1_0) (hr1_1 : Kd.C k39 w A1_1 l1_1.length l1_1) (hc1_1 : l1_1.length ≤ c1_1) (h : spec_EqualDatabases.f k l0_0 l0_1 l1_0 l1_1 = some r) :
  Calls Tryd.prog 30 #[.agg #[.slice A0_0 l0_0.length c0_0, .slice A0_1 l0_1.length c0_1], .agg #[.slice A1_0 l1_0.length c1_0, .slice A1_1 l1_1.length c1_1]] w fun e w' => e = .returned (.bool r) ∧ Below w.heap.size w w' := by
 have hu31 := Tryd.underlying31
 have hu68 := Tryd.underlying68
 have hu39 := Tryd.underlying39
 have HR0_0 := aM hr0_0
 have HC0_0 := aM hc0_0
 clear hr0_0 hc0_0
 have HR0_1 := aM hr0_1
 have HC0_1 := aM hc0_1
 clear hr0_1 hc0_1
 have HR1_0 := aM hr1_0
 have HC1_0 := aM hc1_0
 clear hr1_0 hc1_0
 have HR1_1 := aM hr1_1
 have HC1_1 := aM hc1_1
 clear hr1_1 hc1_1
 have HB := aM (Below.refl w.heap.size w)
 have H : (if (l0_0.length : Int) = (l1_0.length : Int) then (spec_EqualDatabases.j0 k ((l0_1.length : Int) != (l1_1.length : Int)) l0_0 l0_1 l1_0 l1_1) else (spec_EqualDatabases.j0 k true l0_0 l0_1 l1_0 l1_1)) = some r := h
 clear h
 have HC3 := aM H
 clear H
 go_enter Tryd.func30, Tryd.ntmps30
 go_upto_region 1 with (first | ((with_reducible refine gate_dst (N := 2) rfl ?_); (try (refine gate_guard (by rfl) ?_; dsimp only)); refine bE 2 (cs := #[.slice A0_0 l0_0.length c0_0, .slice A0_1 l0_1.length c0_1]) (t := 31) ?_; intro gb512 hg w4 hbox hb; have BK512 := aM (hbox); have GW512 := aM ((by rw [hg]; exact (below_size aB) : w.heap.size ≤ gb512)); have GE512 := aM ((by rw [hg]; exact (below_size aB) : w.heap.size ≤ gb512)); replace HB := aM (below_step aB hb); clear hb hbox hg) | ((with_reducible refine gate_dst (N := 3) rfl ?_); (try (refine gate_guard (by rfl) ?_; dsimp only)); refine bE 3 (cs := #[.slice A1_0 l1_0.length c1_0, .slice A1_1 l1_1.length c1_1]) (t := 31) ?_; intro gb513 hg w5 hbox hb; have BK513 := aM (hbox); have GW513 := aM ((by rw [hg]; exact (below_size aG) : w.heap.size ≤ gb513)); have GE513 := aM ((by rw [hg]; exact (below_size aG) : w.heap.size ≤ gb513)); have NB512_513 := aM ((by rw [hg]; exact Nat.ne_of_lt (blk_lt (g := gb512) (o := .cells #[.slice A0_0 l0_0.length c0_0, .slice A0_1 l0_1.length c0_1] 31 (0, 0)) aK) : gb512 ≠ gb513)); have NB513_512 := aM ((by rw [hg]; exact Nat.ne_of_gt (blk_lt (g := gb512) (o := .cells #[.slice A0_0 l0_0.length c0_0, .slice A0_1 l0_1.length c0_1] 31 (0, 0)) aK) : gb513 ≠ gb512)); replace BK512 := aM (kB gb512 #[.slice A0_0 l0_0.length c0_0, .slice A0_1 l0_1.length c0_1] 31 hb); replace HB := aM (below_step aG hb); clear hb hbox hg))
 (try simp only [Act.put, List.setIfInBounds_toArray, List.set_cons_zero, List.set_cons_succ])
 go_cut [22] (fun v22 wc => ∃ (kq : Nat) (x22_2 : Bool), v22 = .bool x22_2 ∧ Aside0 (spec_EqualDatabases.j0 kq x22_2 l0_0 l0_1 l1_0 l1_1 = some r) ∧ Aside0 (kq ≤ k) ∧ Aside0 (wc.heap[gb512]? = some (.cells #[(.slice A0_0 l0_0.length c0_0), (.slice A0_1 l0_1.length c0_1)] 31 (0, 0))) ∧ Aside0 (wc.heap[gb513]? = some (.cells #[(.slice A1_0 l1_0.length c1_0), (.slice A1_1 l1_1.length c1_1)] 31 (0, 0))) ∧ Aside0 (Below w.heap.size w wc))
 case first =>
  have H := HC3.out
  clear HC3
  by_cases c6 : (l0_0.length : Int) = (l1_0.length : Int)
  ·rw [if_pos c6] at H
   have c6b0 : ((l0_0.length : Int) == (l1_0.length : Int)) = true := beq_iff_eq.mpr c6
   have c6b1 : ((l0_0.length : Int) != (l1_0.length : Int)) = false := bne_eq_false_iff_eq.mpr c6
   have c6b2 : (l0_0.length == l1_0.length) = true := by first | simpa using c6 | (simp at c6 ⊢; omega)
   clear c6
   (first | rw [c6b0] | (simp only [i64_w, i32_w]; rw [c6b0]) | skip)
   have H' := aM H
   clear H
   have hnb7 := NB512_513.out
   have hnc7 := NB513_512.out
   have hcz8_0 : w5.cell? ⟨gb512, 0, none⟩ = some (.slice A0_0 l0_0.length c0_0) := (blk_cell BK512.out 0).trans rfl
   have hcz8_1 : w5.cell? ⟨gb512, 1, none⟩ = some (.slice A0_1 l0_1.length c0_1) := (blk_cell BK512.out 1).trans rfl
   have hfz8_0 := blk_frozen BK512.out 0
   have hfz8_1 := blk_frozen BK512.out 1
   have hcz9_0 : w5.cell? ⟨gb513, 0, none⟩ = some (.slice A1_0 l1_0.length c1_0) := (blk_cell BK513.out 0).trans rfl
   have hcz9_1 : w5.cell? ⟨gb513, 1, none⟩ = some (.slice A1_1 l1_1.length c1_1) := (blk_cell BK513.out 1).trans rfl
   have hfz9_0 := blk_frozen BK513.out 0
   have hfz9_1 := blk_frozen BK513.out 1
   go_wp2
   go_meet
   case rel => exact ⟨_, (((l0_1.length : Int) != (l1_1.length : Int))), aX, H', ⟨by first | omega | exact Nat.le_refl _⟩, ⟨aK⟩, ⟨aK⟩, ⟨aG⟩⟩
  ·rw [if_neg c6] at H
   have c6b0 : ((l0_0.length : Int) == (l1_0.length : Int)) = false := beq_eq_false_iff_ne.mpr c6
   have c6b1 : ((l0_0.length : Int) != (l1_0.length : Int)) = true := bne_iff_ne.mpr c6
   have c6b2 : (l0_0.length == l1_0.length) = false := by first | simpa using c6 | (simp at c6 ⊢; omega)
   (first | rw [c6b0] | (simp only [i64_w, i32_w]; rw [c6b0]) | skip)
   have H' := aM H
   clear H
   have hnb10 := NB512_513.out
   have hnc10 := NB513_512.out
   have hcz11_0 : w5.cell? ⟨gb512, 0, none⟩ = some (.slice A0_0 l0_0.length c0_0) := (blk_cell BK512.out 0).trans rfl
   have hcz11_1 : w5.cell? ⟨gb512, 1, none⟩ = some (.slice A0_1 l0_1.length c0_1) := (blk_cell BK512.out 1).trans rfl
   have hfz11_0 := blk_frozen BK512.out 0
   have hfz11_1 := blk_frozen BK512.out 1
   have hcz12_0 : w5.cell? ⟨gb513, 0, none⟩ = some (.slice A1_0 l1_0.length c1_0) := (blk_cell BK513.out 0).trans rfl
   have hcz12_1 : w5.cell? ⟨gb513, 1, none⟩ = some (.slice A1_1 l1_1.length c1_1) := (blk_cell BK513.out 1).trans rfl
   have hfz12_0 := blk_frozen BK513.out 0
   have hfz12_1 := blk_frozen BK513.out 1
   go_wp2
   go_meet
   case rel => exact ⟨_, (true), aX, H', ⟨by first | omega | exact Nat.le_refl _⟩, ⟨aK⟩, ⟨aK⟩, ⟨aG⟩⟩
 case rest =>
  clear HC3
  try clear c1
  try clear p2
  try clear c3
  try clear c6
  try clear c6b0
  try clear c6b1
  try clear c6b2
  try clear c7
  try clear c10
  try clear hcz11_0
  try clear hcz11_1
  try clear hcz12_0
  try clear hcz12_1
  try clear hcz8_0
  try clear hcz8_1
  try clear hcz9_0
  try clear hcz9_1
  try clear hfz11_0
  try clear hfz11_1
  try clear hfz12_0
  try clear hfz12_1
  try clear hfz8_0
  try clear hfz8_1
  try clear hfz9_0
  try clear hfz9_1
  obtain ⟨kq, x22_2, rfl, HA, HJ2, BK512, BK513, HB⟩ := hcut
  cases kq with
  | zero => exact absurd HA.out (by simp [spec_EqualDatabases.j0])
  | succ kj2 =>
   have H := HA.out
   clear HA
   simp only [spec_EqualDatabases.j0] at H
   by_cases c13 : x22_2 = true
   ·subst c13
    replace H := iT H
    obtain rfl := Option.some.inj H
    go_wp2
    go_ret
    exact ⟨aE, aG⟩
   ·replace c13 := Bool.eq_false_iff.mpr c13
    subst c13
    have H1 : (spec_EqualDatabases.l0 kj2 0 l0_0 l0_1 l1_0 l1_1) = some r := by rw [if_neg (show ¬ (false = true) by decide)] at H; exact H
    clear H
    have H := H1
    clear H1
    have H' := aM H
    clear H
    go_wp2
    go_loopg [5] kj2 (fun kq v5 w' => ∃ (x5_2 : Int), v5 = .int .i64 x5_2 ∧ Aside0 (spec_EqualDatabases.l0 kq x5_2 l0_0 l0_1 l1_0 l1_1 = some r) ∧ Aside0 (kq ≤ kj2) ∧ Aside0 (w'.heap[gb512]? = some (.cells #[(.slice A0_0 l0_0.length c0_0), (.slice A0_1 l0_1.length c0_1)] 31 (0, 0))) ∧ Aside0 (w'.heap[gb513]? = some (.cells #[(.slice A1_0 l1_0.length c1_0), (.slice A1_1 l1_1.length c1_1)] 31 (0, 0))) ∧ Aside0 (Below w.heap.size w w'))
    case atStart => exact ⟨(0), aX, H', ⟨Nat.le_refl _⟩, ⟨aK⟩, ⟨aK⟩, ⟨aG⟩⟩
    case round =>
     clear H'
     try clear c1
     try clear p2
     try clear c3
     try clear c6
     try clear c6b0
     try clear c6b1
     try clear c6b2
     try clear c7
     try clear c10
     try clear c13
     try clear hcz11_0
     try clear hcz11_1
     try clear hcz12_0
     try clear hcz12_1
     try clear hcz8_0
     try clear hcz8_1
     try clear hcz9_0
     try clear hcz9_1
     try clear hfz11_0
     try clear hfz11_1
     try clear hfz12_0
     try clear hfz12_1
     try clear hfz8_0
     try clear hfz8_1
     try clear hfz9_0
     try clear hfz9_1
     try clear p2
     obtain ⟨x5_2, rfl, HA, HK2, BK512, BK513, HB⟩ := hrel
     cases gk with
     | zero => exact absurd HA.out (by simp [spec_EqualDatabases.l0])
     | succ k2 =>
      have H := HA.out
      clear HA
      simp only [spec_EqualDatabases.l0] at H
      by_cases c14 : x5_2 < (l0_0.length : Int)
      ·rw [if_pos c14] at H
       have c14b0 : decide (x5_2 < (l0_0.length : Int)) = true := decide_eq_true c14
       clear c14
       by_cases c15 : 0 ≤ x5_2
       ·rw [if_pos c15] at H
        have c15b0 : decide (0 ≤ x5_2) = true := decide_eq_true c15
        clear c15
        by_cases c16 : x5_2 < (l1_0.length : Int)
        ·rw [if_pos c16] at H
         have c16b0 : decide (x5_2 < (l1_0.length : Int)) = true := decide_eq_true c16
         clear c16
         by_cases c17 : (!((((rd_T68 l0_0 x5_2).f0).toList) == (((rd_T68 l1_0 x5_2).f0).toList)) || (!(((rd_T68 l0_0 x5_2).f1) == ((rd_T68 l1_0 x5_2).f1)) || (!(((rd_T68 l0_0 x5_2).f2) == ((rd_T68 l1_0 x5_2).f2))))) = true
         ·rw [if_pos c17] at H
          have c17b0 : (!((((rd_T68 l0_0 x5_2).f0).toList) == (((rd_T68 l1_0 x5_2).f0).toList)) || (!(((rd_T68 l0_0 x5_2).f1) == ((rd_T68 l1_0 x5_2).f1)) || (!(((rd_T68 l0_0 x5_2).f2) == ((rd_T68 l1_0 x5_2).f2))))) = true := c17
          clear c17
          obtain rfl := Option.some.inj H
          have hnb18 := NB512_513.out
          have hnc18 := NB513_512.out
          have hcz19_0 : wr.cell? ⟨gb512, 0, none⟩ = some (.slice A0_0 l0_0.length c0_0) := (blk_cell BK512.out 0).trans rfl
          have hcz19_1 : wr.cell? ⟨gb512, 1, none⟩ = some (.slice A0_1 l0_1.length c0_1) := (blk_cell BK512.out 1).trans rfl
          have hfz19_0 := blk_frozen BK512.out 0
          have hfz19_1 := blk_frozen BK512.out 1
          try go_wp2
          replace BK512 := aM (blk_drew BK512.out)
          replace BK513 := aM (blk_drew BK513.out)
          replace HB := aM (below_drew1 HB.out)
          have p514 : 0 ≤ (x5_2 : Int) := aD
          have q514 : x5_2 < (l0_0.length : Int) := aD
          obtain ⟨ad514, e514, hx514_0, hx514_1, hx514_2⟩ := at_T68 HR0_0.out x5_2 p514 q514
          have hw514_2 := hx514_2
          have hw514_1 := hx514_1
          have hw514_0 := hx514_0
          cases e514
          replace hx514_0 := (HB.out.cell (World.block_lt_of_cell? w _ hx514_0)).trans hx514_0
          replace hx514_1 := (HB.out.cell (World.block_lt_of_cell? w _ hx514_1)).trans hx514_1
          replace hx514_2 := (HB.out.cell (World.block_lt_of_cell? w _ hx514_2)).trans hx514_2
          replace p514 := eq_true p514
          replace q514 := eq_true q514
          have p515 : 0 ≤ (x5_2 : Int) := aD
          have q515 : x5_2 < (l1_0.length : Int) := aD
          obtain ⟨ad515, e515, hx515_0, hx515_1, hx515_2⟩ := at_T68 HR1_0.out x5_2 p515 q515
          have hw515_2 := hx515_2
          have hw515_1 := hx515_1
          have hw515_0 := hx515_0
          cases e515
          replace hx515_0 := (HB.out.cell (World.block_lt_of_cell? w _ hx515_0)).trans hx515_0
          replace hx515_1 := (HB.out.cell (World.block_lt_of_cell? w _ hx515_1)).trans hx515_1
          replace hx515_2 := (HB.out.cell (World.block_lt_of_cell? w _ hx515_2)).trans hx515_2
          replace p515 := eq_true p515
          replace q515 := eq_true q515
          refine start_ (n := 11) (S := fun w' => w'.cell? ⟨gb512, 0, none⟩ = some (.slice (some ad514) l0_0.length c0_0) ∧ w'.cell? ⟨gb512, 1, none⟩ = some (.slice A0_1 l0_1.length c0_1) ∧ w'.cell? ⟨gb513, 0, none⟩ = some (.slice (some ad515) l1_0.length c1_0) ∧ w'.cell? ⟨gb513, 1, none⟩ = some (.slice A1_1 l1_1.length c1_1) ∧ w'.cell? (ad514.add ((x5_2).toNat * 3)) = some (.string ((rd_T68 l0_0 x5_2).f0)) ∧ w'.cell? ⟨(ad514.add ((x5_2).toNat * 3)).block, (ad514.add ((x5_2).toNat * 3)).off + 1, none⟩ = some (.int .i64 ((rd_T68 l0_0 x5_2).f1)) ∧ w'.cell? ⟨(ad514.add ((x5_2).toNat * 3)).block, (ad514.add ((x5_2).toNat * 3)).off + 2, none⟩ = some (.int .i64 ((rd_T68 l0_0 x5_2).f2)) ∧ w'.cell? (ad515.add ((x5_2).toNat * 3)) = some (.string ((rd_T68 l1_0 x5_2).f0)) ∧ w'.cell? ⟨(ad515.add ((x5_2).toNat * 3)).block, (ad515.add ((x5_2).toNat * 3)).off + 1, none⟩ = some (.int .i64 ((rd_T68 l1_0 x5_2).f1)) ∧ w'.cell? ⟨(ad515.add ((x5_2).toNat * 3)).block, (ad515.add ((x5_2).toNat * 3)).off + 2, none⟩ = some (.int .i64 ((rd_T68 l1_0 x5_2).f2))) (ds := []) #[false, false, false, false, false, false, false, false, false, false, false] (by kernel_rfl) rfl rfl ⟨(blk_cell BK512.out 0).trans rfl, (blk_cell BK512.out 1).trans rfl, (blk_cell BK513.out 0).trans rfl, (blk_cell BK513.out 1).trans rfl, (pw_cell_below HB.out hw514_0), (pw_cell_below HB.out hw514_1), (pw_cell_below HB.out hw514_2), (pw_cell_below HB.out hw515_0), (pw_cell_below HB.out hw515_1), (pw_cell_below HB.out hw515_2)⟩ (fun hHeld => ?_); refine with_tabW spec_EqualDatabases.tab6 spec_EqualDatabases.bits6 (fun HT_ HW_ => ?_)
          generalize wr.drew = w20 at BK512 BK513 HB hx514_0 hx514_1 hx514_2 hx515_0 hx515_1 hx515_2 hHeld ⊢
          refine pU 0 30 ?_
          refine pU 2 32 ?_
          refine pU 5 35 ?_
          refine pU 7 37 ?_
          refine take_ (i := 1) (N := some 31) (v := ?_) (a' := ?_) #[true, true, true, false, false, true, false, true, false, false, false] rfl rfl (take_ofW HT_.out HW_.out (by kernel_rfl)) (fun _ _ _ h => h) (Or.inl ⟨by rfl, ?_⟩) hHeld ?_ ?_
          rotate_left
          ·rintro w' ⟨s0, s1, s2, s3, s4, s5, s6, s7, s8, s9⟩
           go_simp
           with_reducible rfl
          rotate_left
          ·exact aP
          refine pU 3 33 ?_
          refine take_ (i := 4) (N := some 34) (v := ?_) (a' := ?_) #[true, true, true, true, true, true, false, true, false, false, false] rfl rfl (take_ofW HT_.out HW_.out (by kernel_rfl)) (fun _ _ _ h => h) (Or.inl ⟨by rfl, ?_⟩) hHeld ?_ ?_
          rotate_left
          ·rintro w' ⟨s0, s1, s2, s3, s4, s5, s6, s7, s8, s9⟩
           go_simp
           with_reducible rfl
          rotate_left
          ·exact aP
          refine take_ (i := 6) (N := some 36) (v := ?_) (a' := ?_) #[true, true, true, true, true, true, true, true, false, false, false] rfl rfl (take_ofW HT_.out HW_.out (by kernel_rfl)) (fun _ _ _ h => h) (Or.inl ⟨by rfl, ?_⟩) hHeld ?_ ?_
          rotate_left
          ·rintro w' ⟨s0, s1, s2, s3, s4, s5, s6, s7, s8, s9⟩
           go_simp
           with_reducible rfl
          rotate_left
          ·exact aP
          refine pU 8 38 ?_
          refine take_ (i := 9) (N := some 39) (v := ?_) (a' := ?_) #[true, true, true, true, true, true, true, true, true, true, false] rfl rfl (take_ofW HT_.out HW_.out (by kernel_rfl)) (fun _ _ _ h => h) (Or.inl ⟨by rfl, ?_⟩) hHeld ?_ ?_
          rotate_left
          ·rintro w' ⟨s0, s1, s2, s3, s4, s5, s6, s7, s8, s9⟩
           go_simp
           with_reducible rfl
          rotate_left
          ·exact aP
          refine pU 10 40 ?_
          refine done_ (done_of HT_.out (by kernel_rfl)) ?_
          try go_wp2
          go_ret
          exact ⟨aE, aG⟩
         ·rw [if_neg c17] at H
          have c17b0 : (!((((rd_T68 l0_0 x5_2).f0).toList) == (((rd_T68 l1_0 x5_2).f0).toList)) || (!(((rd_T68 l0_0 x5_2).f1) == ((rd_T68 l1_0 x5_2).f1)) || (!(((rd_T68 l0_0 x5_2).f2) == ((rd_T68 l1_0 x5_2).f2))))) = false := by simpa using c17
          clear c17
          have H' := aM H
          clear H
          have hnb21 := NB512_513.out
          have hnc21 := NB513_512.out
          have hcz22_0 : wr.cell? ⟨gb512, 0, none⟩ = some (.slice A0_0 l0_0.length c0_0) := (blk_cell BK512.out 0).trans rfl
          have hcz22_1 : wr.cell? ⟨gb512, 1, none⟩ = some (.slice A0_1 l0_1.length c0_1) := (blk_cell BK512.out 1).trans rfl
          have hfz22_0 := blk_frozen BK512.out 0
          have hfz22_1 := blk_frozen BK512.out 1
          try go_wp2
          replace BK512 := aM (blk_drew BK512.out)
          replace BK513 := aM (blk_drew BK513.out)
          replace HB := aM (below_drew1 HB.out)
          have p514 : 0 ≤ (x5_2 : Int) := aD
          have q514 : x5_2 < (l0_0.length : Int) := aD
          obtain ⟨ad514, e514, hx514_0, hx514_1, hx514_2⟩ := at_T68 HR0_0.out x5_2 p514 q514
          have hw514_2 := hx514_2
          have hw514_1 := hx514_1
          have hw514_0 := hx514_0
          cases e514
          replace hx514_0 := (HB.out.cell (World.block_lt_of_cell? w _ hx514_0)).trans hx514_0
          replace hx514_1 := (HB.out.cell (World.block_lt_of_cell? w _ hx514_1)).trans hx514_1
          replace hx514_2 := (HB.out.cell (World.block_lt_of_cell? w _ hx514_2)).trans hx514_2
          replace p514 := eq_true p514
          replace q514 := eq_true q514
          have p515 : 0 ≤ (x5_2 : Int) := aD
          have q515 : x5_2 < (l1_0.length : Int) := aD
          obtain ⟨ad515, e515, hx515_0, hx515_1, hx515_2⟩ := at_T68 HR1_0.out x5_2 p515 q515
          have hw515_2 := hx515_2
          have hw515_1 := hx515_1
          have hw515_0 := hx515_0
          cases e515
          replace hx515_0 := (HB.out.cell (World.block_lt_of_cell? w _ hx515_0)).trans hx515_0
          replace hx515_1 := (HB.out.cell (World.block_lt_of_cell? w _ hx515_1)).trans hx515_1
          replace hx515_2 := (HB.out.cell (World.block_lt_of_cell? w _ hx515_2)).trans hx515_2
          replace p515 := eq_true p515
          replace q515 := eq_true q515
          refine start_ (n := 11) (S := fun w' => w'.cell? ⟨gb512, 0, none⟩ = some (.slice (some ad514) l0_0.length c0_0) ∧ w'.cell? ⟨gb512, 1, none⟩ = some (.slice A0_1 l0_1.length c0_1) ∧ w'.cell? ⟨gb513, 0, none⟩ = some (.slice (some ad515) l1_0.length c1_0) ∧ w'.cell? ⟨gb513, 1, none⟩ = some (.slice A1_1 l1_1.length c1_1) ∧ w'.cell? (ad514.add ((x5_2).toNat * 3)) = some (.string ((rd_T68 l0_0 x5_2).f0)) ∧ w'.cell? ⟨(ad514.add ((x5_2).toNat * 3)).block, (ad514.add ((x5_2).toNat * 3)).off + 1, none⟩ = some (.int .i64 ((rd_T68 l0_0 x5_2).f1)) ∧ w'.cell? ⟨(ad514.add ((x5_2).toNat * 3)).block, (ad514.add ((x5_2).toNat * 3)).off + 2, none⟩ = some (.int .i64 ((rd_T68 l0_0 x5_2).f2)) ∧ w'.cell? (ad515.add ((x5_2).toNat * 3)) = some (.string ((rd_T68 l1_0 x5_2).f0)) ∧ w'.cell? ⟨(ad515.add ((x5_2).toNat * 3)).block, (ad515.add ((x5_2).toNat * 3)).off + 1, none⟩ = some (.int .i64 ((rd_T68 l1_0 x5_2).f1)) ∧ w'.cell? ⟨(ad515.add ((x5_2).toNat * 3)).block, (ad515.add ((x5_2).toNat * 3)).off + 2, none⟩ = some (.int .i64 ((rd_T68 l1_0 x5_2).f2))) (ds := []) #[false, false, false, false, false, false, false, false, false, false, false] (by kernel_rfl) rfl rfl ⟨(blk_cell BK512.out 0).trans rfl, (blk_cell BK512.out 1).trans rfl, (blk_cell BK513.out 0).trans rfl, (blk_cell BK513.out 1).trans rfl, (pw_cell_below HB.out hw514_0), (pw_cell_below HB.out hw514_1), (pw_cell_below HB.out hw514_2), (pw_cell_below HB.out hw515_0), (pw_cell_below HB.out hw515_1), (pw_cell_below HB.out hw515_2)⟩ (fun hHeld => ?_); refine with_tabW spec_EqualDatabases.tab6 spec_EqualDatabases.bits6 (fun HT_ HW_ => ?_)
          generalize wr.drew = w23 at BK512 BK513 HB hx514_0 hx514_1 hx514_2 hx515_0 hx515_1 hx515_2 hHeld ⊢
          refine pU 0 30 ?_
          refine pU 2 32 ?_
          refine pU 5 35 ?_
          refine pU 7 37 ?_
          refine take_ (i := 1) (N := some 31) (v := ?_) (a' := ?_) #[true, true, true, false, false, true, false, true, false, false, false] rfl rfl (take_ofW HT_.out HW_.out (by kernel_rfl)) (fun _ _ _ h => h) (Or.inl ⟨by rfl, ?_⟩) hHeld ?_ ?_
          rotate_left
          ·rintro w' ⟨s0, s1, s2, s3, s4, s5, s6, s7, s8, s9⟩
           go_simp
           with_reducible rfl
          rotate_left
          ·exact aP
          refine pU 3 33 ?_
          refine take_ (i := 4) (N := some 34) (v := ?_) (a' := ?_) #[true, true, true, true, true, true, false, true, false, false, false] rfl rfl (take_ofW HT_.out HW_.out (by kernel_rfl)) (fun _ _ _ h => h) (Or.inl ⟨by rfl, ?_⟩) hHeld ?_ ?_
          rotate_left
          ·rintro w' ⟨s0, s1, s2, s3, s4, s5, s6, s7, s8, s9⟩
           go_simp
           with_reducible rfl
          rotate_left
          ·exact aP
          refine take_ (i := 6) (N := some 36) (v := ?_) (a' := ?_) #[true, true, true, true, true, true, true, true, false, false, false] rfl rfl (take_ofW HT_.out HW_.out (by kernel_rfl)) (fun _ _ _ h => h) (Or.inl ⟨by rfl, ?_⟩) hHeld ?_ ?_
          rotate_left
          ·rintro w' ⟨s0, s1, s2, s3, s4, s5, s6, s7, s8, s9⟩
           go_simp
           with_reducible rfl
          rotate_left
          ·exact aP
          refine pU 8 38 ?_
          refine take_ (i := 9) (N := some 39) (v := ?_) (a' := ?_) #[true, true, true, true, true, true, true, true, true, true, false] rfl rfl (take_ofW HT_.out HW_.out (by kernel_rfl)) (fun _ _ _ h => h) (Or.inl ⟨by rfl, ?_⟩) hHeld ?_ ?_
          rotate_left
          ·rintro w' ⟨s0, s1, s2, s3, s4, s5, s6, s7, s8, s9⟩
           go_simp
           with_reducible rfl
          rotate_left
          ·exact aP
          refine pU 10 40 ?_
          refine done_ (done_of HT_.out (by kernel_rfl)) ?_
          try go_wp2
          go_roundg k2
          case measure => have := HJ2.out; have := HK2.out; omega
          case rel => exact ⟨(wrap64 (x5_2 + 1)), aX, H', ⟨by have := HJ2.out; have := HK2.out; omega⟩, ⟨aK⟩, ⟨aK⟩, ⟨aG⟩⟩
        ·rw [if_neg c16] at H
         exact absurd H (by simp)
       ·rw [if_neg c15] at H
        exact absurd H (by simp)
      ·rw [if_neg c14] at H
       have c14b0 : decide (x5_2 < (l0_0.length : Int)) = false := decide_eq_false c14
       clear c14
       have H' := aM H
       clear H
       have hnb24 := NB512_513.out
       have hnc24 := NB513_512.out
       have hcz25_0 : wr.cell? ⟨gb512, 0, none⟩ = some (.slice A0_0 l0_0.length c0_0) := (blk_cell BK512.out 0).trans rfl
       have hcz25_1 : wr.cell? ⟨gb512, 1, none⟩ = some (.slice A0_1 l0_1.length c0_1) := (blk_cell BK512.out 1).trans rfl
       have hfz25_0 := blk_frozen BK512.out 0
       have hfz25_1 := blk_frozen BK512.out 1
       go_wp2
       go_loopg [6] k2 (fun kq v6 w' => ∃ (x6_3 : Int), v6 = .int .i64 x6_3 ∧ Aside0 (spec_EqualDatabases.l1 kq x6_3 l0_0 l0_1 l1_0 l1_1 = some r) ∧ Aside0 (kq ≤ k2) ∧ Aside0 (w'.heap[gb512]? = some (.cells #[(.slice A0_0 l0_0.length c0_0), (.slice A0_1 l0_1.length c0_1)] 31 (0, 0))) ∧ Aside0 (w'.heap[gb513]? = some (.cells #[(.slice A1_0 l1_0.length c1_0), (.slice A1_1 l1_1.length c1_1)] 31 (0, 0))) ∧ Aside0 (Below w.heap.size w w'))
       case atStart => exact ⟨(0), aX, H', ⟨Nat.le_refl _⟩, ⟨aK⟩, ⟨aK⟩, ⟨aG⟩⟩
       case round =>
        clear H'
        try clear c1
        try clear c2
        try clear p2
        try clear c3
        try clear p5
        try clear q5
        try clear hx5
        try clear c6
        try clear c6b0
        try clear c6b1
        try clear c6b2
        try clear p6
        try clear c7
        try clear c10
        try clear c13
        try clear c14
        try clear c14b0
        try clear c15
        try clear c15b0
        try clear c16
        try clear c16b0
        try clear c17
        try clear c17b0
        try clear c18
        try clear c21
        try clear c24
        try clear hcz11_0
        try clear hcz11_1
        try clear hcz12_0
        try clear hcz12_1
        try clear hcz19_0
        try clear hcz19_1
        try clear hcz22_0
        try clear hcz22_1
        try clear hcz25_0
        try clear hcz25_1
        try clear hcz8_0
        try clear hcz8_1
        try clear hcz9_0
        try clear hcz9_1
        try clear hfz11_0
        try clear hfz11_1
        try clear hfz12_0
        try clear hfz12_1
        try clear hfz19_0
        try clear hfz19_1
        try clear hfz22_0
        try clear hfz22_1
        try clear hfz25_0
        try clear hfz25_1
        try clear hfz8_0
        try clear hfz8_1
        try clear hfz9_0
        try clear hfz9_1
        try clear hx514_0
        try clear hx514_1
        try clear hx514_2
        try clear hx515_0
        try clear hx515_1
        try clear hx515_2
        try clear p2
        try clear p514
        try clear p515
        try clear q514
        try clear q515
        obtain ⟨x6_3, rfl, HA, HK3, BK512, BK513, HB⟩ := hrel
        cases gk with
        | zero => exact absurd HA.out (by simp [spec_EqualDatabases.l1])
        | succ k3 =>
         have H := HA.out
         clear HA
         simp only [spec_EqualDatabases.l1] at H
         by_cases c26 : x6_3 < (l0_1.length : Int)
         ·rw [if_pos c26] at H
          have c26b0 : decide (x6_3 < (l0_1.length : Int)) = true := decide_eq_true c26
          clear c26
          by_cases c27 : 0 ≤ x6_3
          ·rw [if_pos c27] at H
           have c27b0 : decide (0 ≤ x6_3) = true := decide_eq_true c27
           clear c27
           by_cases c28 : x6_3 < (l1_1.length : Int)
           ·rw [if_pos c28] at H
            have c28b0 : decide (x6_3 < (l1_1.length : Int)) = true := decide_eq_true c28
            clear c28
            replace H := bM H
            obtain ⟨t518, A290, H⟩ := H
            have A29 := aM A290
            clear A290
            by_cases c30 : t518 = 0
            ·rw [if_pos c30] at H
             have c30b0 : (t518 == 0) = true := beq_iff_eq.mpr c30
             have c30b1 : (t518 != 0) = false := bne_eq_false_iff_eq.mpr c30
             clear c30
             have H' := aM H
             clear H
             have hnb31 := NB512_513.out
             have hnc31 := NB513_512.out
             have hcz32_0 : wr.cell? ⟨gb512, 0, none⟩ = some (.slice A0_0 l0_0.length c0_0) := (blk_cell BK512.out 0).trans rfl
             have hcz32_1 : wr.cell? ⟨gb512, 1, none⟩ = some (.slice A0_1 l0_1.length c0_1) := (blk_cell BK512.out 1).trans rfl
             have hfz32_0 := blk_frozen BK512.out 0
             have hfz32_1 := blk_frozen BK512.out 1
             try go_wp2
             replace BK512 := aM (blk_drew BK512.out)
             replace BK513 := aM (blk_drew BK513.out)
             replace HB := aM (below_drew1 HB.out)
             have p516 : 0 ≤ (x6_3 : Int) := aD
             have q516 : x6_3 < (l0_1.length : Int) := aD
             obtain ⟨ad516, A516_1, c516_1, e516, hx516_0, hx516_1, hl516_1, hi516_1⟩ := at_T39 HR0_1.out x6_3 p516 q516
             have hw516_1 := hx516_1
             have hw516_0 := hx516_0
             cases e516
             replace hx516_0 := (HB.out.cell (World.block_lt_of_cell? w _ hx516_0)).trans hx516_0
             replace hx516_1 := (HB.out.cell (World.block_lt_of_cell? w _ hx516_1)).trans hx516_1
             have HR516_1 := aM hi516_1
             have HC516_1 := aM hl516_1
             clear hi516_1 hl516_1
             replace p516 := eq_true p516
             replace q516 := eq_true q516
             have p517 : 0 ≤ (x6_3 : Int) := aD
             have q517 : x6_3 < (l1_1.length : Int) := aD
             obtain ⟨ad517, A517_1, c517_1, e517, hx517_0, hx517_1, hl517_1, hi517_1⟩ := at_T39 HR1_1.out x6_3 p517 q517
             have hw517_1 := hx517_1
             have hw517_0 := hx517_0
             cases e517
             replace hx517_0 := (HB.out.cell (World.block_lt_of_cell? w _ hx517_0)).trans hx517_0
             replace hx517_1 := (HB.out.cell (World.block_lt_of_cell? w _ hx517_1)).trans hx517_1
             have HR517_1 := aM hi517_1
             have HC517_1 := aM hl517_1
             clear hi517_1 hl517_1
             replace p517 := eq_true p517
             replace q517 := eq_true q517
             have qf0_ : ∀ (d_ : Nat) (os_ : Array Obj), (Go.Sort.grow (redrawn wr d_) os_).cell? ⟨gb512, 0, none⟩ = some (.slice A0_0 l0_0.length c0_0) := cell_regrown_drew ((blk_cell BK512.out 0).trans rfl)
             have qf1_ : ∀ (d_ : Nat) (os_ : Array Obj), (Go.Sort.grow (redrawn wr d_) os_).cell? ⟨gb512, 1, none⟩ = some (.slice (some ad516) l0_1.length c0_1) := cell_regrown_drew ((blk_cell BK512.out 1).trans rfl)
             have qf2_ : ∀ (d_ : Nat) (os_ : Array Obj), (Go.Sort.grow (redrawn wr d_) os_).cell? ⟨gb513, 0, none⟩ = some (.slice A1_0 l1_0.length c1_0) := cell_regrown_drew ((blk_cell BK513.out 0).trans rfl)
             have qf3_ : ∀ (d_ : Nat) (os_ : Array Obj), (Go.Sort.grow (redrawn wr d_) os_).cell? ⟨gb513, 1, none⟩ = some (.slice (some ad517) l1_1.length c1_1) := cell_regrown_drew ((blk_cell BK513.out 1).trans rfl)
             have qf4_ : ∀ (d_ : Nat) (os_ : Array Obj), (Go.Sort.grow (redrawn wr d_) os_).cell? (ad516.add ((x6_3).toNat * 2)) = some (.int .i64 ((rd_T39 l0_1 x6_3).f0)) := cell_regrown_drew ((pw_cell_below HB.out hw516_0))
             have qf5_ : ∀ (d_ : Nat) (os_ : Array Obj), (Go.Sort.grow (redrawn wr d_) os_).cell? ⟨(ad516.add ((x6_3).toNat * 2)).block, (ad516.add ((x6_3).toNat * 2)).off + 1, none⟩ = some (.slice A516_1 ((rd_T39 l0_1 x6_3).f1).length c516_1) := cell_regrown_drew ((pw_cell_below HB.out hw516_1))
             have qf6_ : ∀ (d_ : Nat) (os_ : Array Obj), (Go.Sort.grow (redrawn wr d_) os_).cell? (ad517.add ((x6_3).toNat * 2)) = some (.int .i64 ((rd_T39 l1_1 x6_3).f0)) := cell_regrown_drew ((pw_cell_below HB.out hw517_0))
             have qf7_ : ∀ (d_ : Nat) (os_ : Array Obj), (Go.Sort.grow (redrawn wr d_) os_).cell? ⟨(ad517.add ((x6_3).toNat * 2)).block, (ad517.add ((x6_3).toNat * 2)).off + 1, none⟩ = some (.slice A517_1 ((rd_T39 l1_1 x6_3).f1).length c517_1) := cell_regrown_drew ((pw_cell_below HB.out hw517_1))
             have HBQ_ := aM (below_class HB.out)
             have HBS_ := HB
             clear HB
             refine wp_region_quiet_below (by kernel_rfl) (by kernel_rfl) ?_
             repeat (go_big_quiet_step ((refine with_class HBQ_.out ?_; intro hbz_; have HB := aM hbz_; clear hbz_; first | (go_at_call 22; apply Calls.regrown_of; with_reducible refine spec_CompareFacts.calls k3 ((rd_T39 l0_1 x6_3).f0) _ _ ((rd_T39 l0_1 x6_3).f1) ((rd_T39 l1_1 x6_3).f0) _ _ ((rd_T39 l1_1 x6_3).f1) t518 _ ?side1 ?side2 ?side3 ?side4 A29.out; (case side1 => repeat (first | exact (Kd.C_below HR516_1.out HB.out) | exact (Kd.C_below HR517_1.out HB.out) | (with_reducible refine pC ?_))); (case side2 => first | exact HC516_1.out | exact HC517_1.out); (case side3 => repeat (first | exact (Kd.C_below HR517_1.out HB.out) | exact (Kd.C_below HR516_1.out HB.out) | (with_reducible refine pC ?_))); (case side4 => first | exact HC517_1.out | exact HC516_1.out)))))
             refine wpQuiet_nil ?_
             intro _ hw_
             obtain ⟨⟨dq_, osq_⟩, hw2_⟩ := hw_
             subst hw2_
             have hb := below_regrown_drew wr dq_ osq_
             have HB := HBS_
             clear HBS_
             clear qf0_ qf1_ qf2_ qf3_ qf4_ qf5_ qf6_ qf7_
             clear HBQ_
             generalize Go.Sort.grow (redrawn wr dq_) osq_ = w34 at hb ⊢
             generalize wr.drew = wd_ at BK512 BK513 HB hb
             have n0_ := aM (kB gb512 #[.slice A0_0 l0_0.length c0_0, .slice (some ad516) l0_1.length c0_1] 31 hb)
             have n1_ := aM (kB gb513 #[.slice A1_0 l1_0.length c1_0, .slice (some ad517) l1_1.length c1_1] 31 hb)
             have n2_ := aM (below_step aG hb)
             clear BK512
             clear BK513
             clear HB
             have BK512 := n0_
             have BK513 := n1_
             have HB := n2_
             clear n0_ n1_ n2_
             (try clear hb)
             (try clear hb2)
             (try clear hk)
             (try clear hi)
             try go_wp2
             go_roundg k3
             case measure => have := HJ2.out; have := HK2.out; have := HK3.out; omega
             case rel => exact ⟨(wrap64 (x6_3 + 1)), aX, H', ⟨by have := HJ2.out; have := HK2.out; have := HK3.out; omega⟩, ⟨aK⟩, ⟨aK⟩, ⟨aG⟩⟩
            ·rw [if_neg c30] at H
             have c30b0 : (t518 == 0) = false := beq_eq_false_iff_ne.mpr c30
             have c30b1 : (t518 != 0) = true := bne_iff_ne.mpr c30
             obtain rfl := Option.some.inj H
             have hnb35 := NB512_513.out
             have hnc35 := NB513_512.out
             have hcz36_0 : wr.cell? ⟨gb512, 0, none⟩ = some (.slice A0_0 l0_0.length c0_0) := (blk_cell BK512.out 0).trans rfl
             have hcz36_1 : wr.cell? ⟨gb512, 1, none⟩ = some (.slice A0_1 l0_1.length c0_1) := (blk_cell BK512.out 1).trans rfl
             have hfz36_0 := blk_frozen BK512.out 0
             have hfz36_1 := blk_frozen BK512.out 1
             try go_wp2
             replace BK512 := aM (blk_drew BK512.out)
             replace BK513 := aM (blk_drew BK513.out)
             replace HB := aM (below_drew1 HB.out)
             have p516 : 0 ≤ (x6_3 : Int) := aD
             have q516 : x6_3 < (l0_1.length : Int) := aD
             obtain ⟨ad516, A516_1, c516_1, e516, hx516_0, hx516_1, hl516_1, hi516_1⟩ := at_T39 HR0_1.out x6_3 p516 q516
             have hw516_1 := hx516_1
             have hw516_0 := hx516_0
             cases e516
             replace hx516_0 := (HB.out.cell (World.block_lt_of_cell? w _ hx516_0)).trans hx516_0
             replace hx516_1 := (HB.out.cell (World.block_lt_of_cell? w _ hx516_1)).trans hx516_1
             have HR516_1 := aM hi516_1
             have HC516_1 := aM hl516_1
             clear hi516_1 hl516_1
             replace p516 := eq_true p516
             replace q516 := eq_true q516
             have p517 : 0 ≤ (x6_3 : Int) := aD
             have q517 : x6_3 < (l1_1.length : Int) := aD
             obtain ⟨ad517, A517_1, c517_1, e517, hx517_0, hx517_1, hl517_1, hi517_1⟩ := at_T39 HR1_1.out x6_3 p517 q517
             have hw517_1 := hx517_1
             have hw517_0 := hx517_0
             cases e517
             replace hx517_0 := (HB.out.cell (World.block_lt_of_cell? w _ hx517_0)).trans hx517_0
             replace hx517_1 := (HB.out.cell (World.block_lt_of_cell? w _ hx517_1)).trans hx517_1
             have HR517_1 := aM hi517_1
             have HC517_1 := aM hl517_1
             clear hi517_1 hl517_1
             replace p517 := eq_true p517
             replace q517 := eq_true q517
             have qf0_ : ∀ (d_ : Nat) (os_ : Array Obj), (Go.Sort.grow (redrawn wr d_) os_).cell? ⟨gb512, 0, none⟩ = some (.slice A0_0 l0_0.length c0_0) := cell_regrown_drew ((blk_cell BK512.out 0).trans rfl)
             have qf1_ : ∀ (d_ : Nat) (os_ : Array Obj), (Go.Sort.grow (redrawn wr d_) os_).cell? ⟨gb512, 1, none⟩ = some (.slice (some ad516) l0_1.length c0_1) := cell_regrown_drew ((blk_cell BK512.out 1).trans rfl)
             have qf2_ : ∀ (d_ : Nat) (os_ : Array Obj), (Go.Sort.grow (redrawn wr d_) os_).cell? ⟨gb513, 0, none⟩ = some (.slice A1_0 l1_0.length c1_0) := cell_regrown_drew ((blk_cell BK513.out 0).trans rfl)
             have qf3_ : ∀ (d_ : Nat) (os_ : Array Obj), (Go.Sort.grow (redrawn wr d_) os_).cell? ⟨gb513, 1, none⟩ = some (.slice (some ad517) l1_1.length c1_1) := cell_regrown_drew ((blk_cell BK513.out 1).trans rfl)
             have qf4_ : ∀ (d_ : Nat) (os_ : Array Obj), (Go.Sort.grow (redrawn wr d_) os_).cell? (ad516.add ((x6_3).toNat * 2)) = some (.int .i64 ((rd_T39 l0_1 x6_3).f0)) := cell_regrown_drew ((pw_cell_below HB.out hw516_0))
             have qf5_ : ∀ (d_ : Nat) (os_ : Array Obj), (Go.Sort.grow (redrawn wr d_) os_).cell? ⟨(ad516.add ((x6_3).toNat * 2)).block, (ad516.add ((x6_3).toNat * 2)).off + 1, none⟩ = some (.slice A516_1 ((rd_T39 l0_1 x6_3).f1).length c516_1) := cell_regrown_drew ((pw_cell_below HB.out hw516_1))
             have qf6_ : ∀ (d_ : Nat) (os_ : Array Obj), (Go.Sort.grow (redrawn wr d_) os_).cell? (ad517.add ((x6_3).toNat * 2)) = some (.int .i64 ((rd_T39 l1_1 x6_3).f0)) := cell_regrown_drew ((pw_cell_below HB.out hw517_0))
             have qf7_ : ∀ (d_ : Nat) (os_ : Array Obj), (Go.Sort.grow (redrawn wr d_) os_).cell? ⟨(ad517.add ((x6_3).toNat * 2)).block, (ad517.add ((x6_3).toNat * 2)).off + 1, none⟩ = some (.slice A517_1 ((rd_T39 l1_1 x6_3).f1).length c517_1) := cell_regrown_drew ((pw_cell_below HB.out hw517_1))
             have HBQ_ := aM (below_class HB.out)
             have HBS_ := HB
             clear HB
             refine wp_region_quiet_below (by kernel_rfl) (by kernel_rfl) ?_
             repeat (go_big_quiet_step ((refine with_class HBQ_.out ?_; intro hbz_; have HB := aM hbz_; clear hbz_; first | (go_at_call 22; apply Calls.regrown_of; with_reducible refine spec_CompareFacts.calls k3 ((rd_T39 l0_1 x6_3).f0) _ _ ((rd_T39 l0_1 x6_3).f1) ((rd_T39 l1_1 x6_3).f0) _ _ ((rd_T39 l1_1 x6_3).f1) t518 _ ?side1 ?side2 ?side3 ?side4 A29.out; (case side1 => repeat (first | exact (Kd.C_below HR516_1.out HB.out) | exact (Kd.C_below HR517_1.out HB.out) | (with_reducible refine pC ?_))); (case side2 => first | exact HC516_1.out | exact HC517_1.out); (case side3 => repeat (first | exact (Kd.C_below HR517_1.out HB.out) | exact (Kd.C_below HR516_1.out HB.out) | (with_reducible refine pC ?_))); (case side4 => first | exact HC517_1.out | exact HC516_1.out)))))
             refine wpQuiet_nil ?_
             intro _ hw_
             obtain ⟨⟨dq_, osq_⟩, hw2_⟩ := hw_
             subst hw2_
             have hb := below_regrown_drew wr dq_ osq_
             have HB := HBS_
             clear HBS_
             clear qf0_ qf1_ qf2_ qf3_ qf4_ qf5_ qf6_ qf7_
             clear HBQ_
             generalize Go.Sort.grow (redrawn wr dq_) osq_ = w38 at hb ⊢
             generalize wr.drew = wd_ at BK512 BK513 HB hb
             have n0_ := aM (kB gb512 #[.slice A0_0 l0_0.length c0_0, .slice (some ad516) l0_1.length c0_1] 31 hb)
             have n1_ := aM (kB gb513 #[.slice A1_0 l1_0.length c1_0, .slice (some ad517) l1_1.length c1_1] 31 hb)
             have n2_ := aM (below_step aG hb)
             clear BK512
             clear BK513
             clear HB
             have BK512 := n0_
             have BK513 := n1_
             have HB := n2_
             clear n0_ n1_ n2_
             (try clear hb)
             (try clear hb2)
             (try clear hk)
             (try clear hi)
             try go_wp2
             go_ret
             exact ⟨aE, aG⟩
           ·rw [if_neg c28] at H
            exact absurd H (by simp)
          ·rw [if_neg c27] at H
           exact absurd H (by simp)
         ·rw [if_neg c26] at H
          have c26b0 : decide (x6_3 < (l0_1.length : Int)) = false := decide_eq_false c26
          clear c26
          obtain rfl := Option.some.inj H
          have hnb39 := NB512_513.out
          have hnc39 := NB513_512.out
          have hcz40_0 : wr.cell? ⟨gb512, 0, none⟩ = some (.slice A0_0 l0_0.length c0_0) := (blk_cell BK512.out 0).trans rfl
          have hcz40_1 : wr.cell? ⟨gb512, 1, none⟩ = some (.slice A0_1 l0_1.length c0_1) := (blk_cell BK512.out 1).trans rfl
          have hfz40_0 := blk_frozen BK512.out 0
          have hfz40_1 := blk_frozen BK512.out 1
          go_wp2
          go_ret
          exact ⟨aE, aG⟩

/-! ### impl_IsValidFact: function 50 -/
def impl_IsValidFact.f (l0 : List (S68)) (a1_0 : Int) (l1_1 : List Int) : Option (Bool) := (impl_AreValidRelations.f l0).bind fun t520 => (if t520 = true then ((impl_isFact.f l0 a1_0 l1_1).bind fun t521 => (some t521)) else (some false))
set_option maxHeartbeats 8000000 in
set_option maxRecDepth 100000 in
theorem impl_IsValidFact.calls (A0 : Option Addr) (c0 : Nat) (l0 : List (S68)) (a1_0 : Int) (A1_1 : Option Addr) (c1_1 : Nat) (l1_1 : List Int) (r : Bool) (w : World) (hr0 : Kd.C k68 w A0 l0.length l0) (hc0 : l0.length ≤ c0) (hr1_1 : Kd.C (Kd.int .i64) w A1_1 l1_1.length l1_1) (hc1_1 : l1_1.length ≤ c1_1) (h : impl_IsValidFact.f l0 a1_0 l1_1 = some r) :
  Calls Tryd.prog 50 #[.slice A0 l0.length c0, .agg #[.int .i64 a1_0, .slice A1_1 l1_1.length c1_1]] w fun e w' => e = .returned (.bool r) ∧ Below w.heap.size w w' := by
 have hu39 := Tryd.underlying39
 obtain ⟨W, hW⟩ : ∃ W, w.alloc (.cells #[.int .i64 a1_0, .slice A1_1 l1_1.length c1_1] 39) = W := ⟨_, rfl⟩
 have q0 := qa (w := W) (p := ⟨w.heap.size, 0, none⟩) (v := .int .i64 a1_0) (by subst hW; go_simp)
 have q1 := qa (w := W) (p := ⟨w.heap.size, 1, none⟩) (v := .slice A1_1 l1_1.length c1_1) (by subst hW; go_simp)
 have HB : Below w.heap.size w W := by subst hW; exact zB
 have HW := Below.refl W.heap.size W
 have hb := aM HB
 unfold impl_IsValidFact.f at h
 replace h := bs h; obtain ⟨t520, B0, h⟩ := h
 replace h := ib h; rcases h with ⟨rfl, h⟩ | ⟨rfl, h⟩
 replace h := bs h; obtain ⟨t521, B2, h⟩ := h
 obtain rfl := si h
 rotate_left
 obtain rfl := si h
 rotate_left
 all_goals (go_enter Tryd.func50, Tryd.ntmps50; go_wp2_with (first | (go_at_call 76; refine (impl_AreValidRelations.calls _ _ _ ?_ _ ?_ ?_ ?h).mono ?_; (case h => exact zA); (iterate 2 (first | exact zC | exact zA)); rintro e w1 ⟨rfl, hb⟩; replace hb := aM hb; have HW : Below W.heap.size W w1 := zB; have HB : Below w.heap.size w w1 := zB) | (go_at_call 77; refine (impl_isFact.calls _ _ _ _ _ _ _ ?_ _ ?_ ?_ ?_ ?_ ?h).mono ?_; (case h => exact zA); (iterate 4 (first | exact zC | exact zA)); rintro e w1 ⟨rfl, hb⟩; replace hb := aM hb; have HW : Below W.heap.size W w1 := zB; have HB : Below w.heap.size w w1 := zB)); go_ret; exact zE zB)

/-! ### strconv_Itoa_92: function 92 -/
def strconv_Itoa_92.f (a0 : Int) : Option (ByteArray) := if -9223372036854775808 ≤ a0 then (if a0 ≤ 9223372036854775807 then (some (⟨(Lib.itoa a0).toArray⟩ : ByteArray)) else (none)) else (none)
theorem strconv_Itoa_92.calls (a0 : Int) (r : ByteArray) (w : World) (h : strconv_Itoa_92.f a0 = some r) (hp_ : Go.Proofs.YtckpikfbhlhhjaaDoor.Shelf.Pow w) :
 Calls Tryd.prog 92 #[.int .i64 a0] w fun e w' => e = .returned (.string r) ∧ Below w.heap.size w w' := by
 unfold strconv_Itoa_92.f at h
 replace h := ie h; rcases h with ⟨c0, c0a, h⟩ | ⟨c0, c0a, h⟩
 replace h := ie h; rcases h with ⟨c1, c1a, h⟩ | ⟨c1, c1a, h⟩
 obtain rfl := si h
 exact Shelf.Itoa a0 c0.out c1.out w hp_
 exact absurd h (by simp)
 exact absurd h (by simp)


/-! ### impl_FormatInt: function 51 -/
def impl_FormatInt.f (a0 : Int) : Option (ByteArray) := (strconv_Itoa_92.f a0).bind fun t539 => (some t539)
set_option maxHeartbeats 8000000 in
set_option maxRecDepth 100000 in
theorem impl_FormatInt.calls (a0 : Int) (r : ByteArray) (w : World) (h : impl_FormatInt.f a0 = some r) (hp_ : Go.Proofs.YtckpikfbhlhhjaaDoor.Shelf.Pow w) :
  Calls Tryd.prog 51 #[.int .i64 a0] w fun e w' => e = .returned (.string r) ∧ Below w.heap.size w w' := by
 unfold impl_FormatInt.f at h
 replace h := bs h; obtain ⟨t539, B0, h⟩ := h
 obtain rfl := si h
 rotate_left
 all_goals (go_enter Tryd.func51, Tryd.ntmps51; go_wp2_with (first | (go_at_call 92; refine (strconv_Itoa_92.calls _ ?_ _ ?h ?hp).mono ?_; (case h => exact zA); (case hp => exact hp_.on zB); rintro e w1 ⟨rfl, hb⟩; replace hb := aM hb; have HB : Below w.heap.size w w1 := zB)); go_ret; exact zE zB)

-- NOT PRINTED: function 110 (abi_NoEscape)

-- NOT PRINTED: function 103 (strings_Builder_copyCheck)

-- NOT PRINTED: function 111 (bytealg_MakeNoZero)

-- NOT PRINTED: function 104 (strings_Builder_grow)

-- NOT PRINTED: function 85 (strings_Builder_Grow)

-- NOT PRINTED: function 86 (strings_Builder_WriteString)

-- NOT PRINTED: function 87 (strings_Builder_String)

end Go.Proofs.YtckpikfbhlhhjaaDoor.PFnSelectFacts
