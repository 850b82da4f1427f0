-- Laid by a program of this claim: what the functions come to, some of them proved by hand.
import Derived.Test.YtbdeimhlohhhiaaPFnExtendToRepairx0
import Derived.Test.YtbdeimhlohhhiaaPFnExtendToRepairx1
import Derived.Test.YtbdeimhlohhhiaaPFnExtendToRepairx11
import Derived.Test.YtbdeimhlohhhiaaPFnExtendToRepairx13
import Derived.Test.YtbdeimhlohhhiaaPFnExtendToRepairx15
import Derived.Test.YtbdeimhlohhhiaaPFnExtendToRepairx16
import Derived.Test.YtbdeimhlohhhiaaPFnExtendToRepairx18
import Derived.Test.YtbdeimhlohhhiaaPFnExtendToRepairx19
import Derived.Test.YtbdeimhlohhhiaaPFnExtendToRepairx20
namespace Go.Proofs.Ytbdeimhlohhhiaa.PFnExtendToRepair
open Go.RowKit Go.Proofs.YtbdeimhlohhhiaaW.PrintWords Go.Proofs.YtbdeimhlohhhiaaW.PrintLast Go.Proofs.YtbdeimhlohhhiaaW.PrintMore
attribute [local go_sem] max2_int min2_int max_two min_two max_three min_three max_four min_four   -- for this text's walks alone
set_option linter.unusedVariables false
set_option linter.unusedSimpArgs false

/-! ### spec_IsPartialRepair: function 28 -/
def spec_IsPartialRepair.f (k : Nat) (l0_0 : List (S70)) (l0_1 : List (S35)) (l1 : List Int) : Option (Bool) := (spec_SelectFacts.f k l0_0 l0_1 l1).bind fun bt672 => (if bt672.2.2 = true then ((spec_IsConsistent.f k bt672.1 bt672.2.1).bind fun t680 => (some t680)) else (some false))
set_option maxHeartbeats 8000000 in
set_option maxRecDepth 100000 in
theorem spec_IsPartialRepair.calls (k : Nat) (A0_0 : Option Addr) (c0_0 : Nat) (l0_0 : List (S70)) (A0_1 : Option Addr) (c0_1 : Nat) (l0_1 : List (S35)) (A1 : Option Addr) (c1 : Nat) (l1 : List Int) (r : Bool) (w : World) (hr0_0 : Kd.C k70 w A0_0 l0_0.length l0_0) (hc0_0 : l0_0.length ≤ c0_0) (hr0_1 : Kd.C k35 w A0_1 l0_1.length l0_1) (hc0_1 : l0_1.length ≤ c0_1) (hr1 : Kd.C (Kd.int .i64) w A1 l1.length l1) (hc1 : l1.length ≤ c1) (h : spec_IsPartialRepair.f k l0_0 l0_1 l1 = some r) :
  Calls Try.prog 28 #[.agg #[.slice A0_0 l0_0.length c0_0, .slice A0_1 l0_1.length c0_1], .slice A1 l1.length c1] w fun e w' => e = .returned (.bool r) ∧ Below w.heap.size w w' := by
 have hu27 := Try.underlying27
 have HR0_0 := aM hr0_0
 have HC0_0 := aM hc0_0
 clear hr0_0 hc0_0
 have HR0_1 := aM hr0_1
 have HC0_1 := aM hc0_1
 clear hr0_1 hc0_1
 have HR1 := aM hr1
 have HC1 := aM hc1
 clear hr1 hc1
 have HB := aM (Below.refl w.heap.size w)
 have H : ((spec_SelectFacts.f k l0_0 l0_1 l1).bind fun bt672 => (if bt672.2.2 = true then ((spec_IsConsistent.f k bt672.1 bt672.2.1).bind fun t680 => (some t680)) else (some false))) = some r := h
 clear h
 replace H := bM H
 obtain ⟨⟨t672, t675, t678⟩, A30, H⟩ := H
 dsimp only at H
 have A3 := aM A30
 clear A30
 by_cases c4 : t678 = true
 ·subst c4
  replace H := iT H
  replace H := bM H
  obtain ⟨t680, A50, H⟩ := H
  have A5 := aM A50
  clear A50
  obtain rfl := Option.some.inj H
  go_enter Try.func28, Try.ntmps28
  go_wp2_with (first | ((with_reducible refine gate_dst (N := 2) rfl ?_); refine bE 2 (cs := #[.slice A0_0 l0_0.length c0_0, .slice A0_1 l0_1.length c0_1]) (t := 27) ?_; intro gb671 hg w6 hbox hb; have BK671 := aM (hbox); have GW671 := aM ((by rw [hg]; exact (below_size aB) : w.heap.size ≤ gb671)); have GE671 := aM ((by rw [hg]; exact (below_size aB) : w.heap.size ≤ gb671)); replace HB := aM (below_step aB hb); clear hb hbox hg; have hcz7_0 : w6.cell? ⟨gb671, 0, none⟩ = some (.slice A0_0 l0_0.length c0_0) := (blk_cell BK671.out 0).trans rfl; have hcz7_1 : w6.cell? ⟨gb671, 1, none⟩ = some (.slice A0_1 l0_1.length c0_1) := (blk_cell BK671.out 1).trans rfl; have hfz7_0 := blk_frozen BK671.out 0; have hfz7_1 := blk_frozen BK671.out 1) | ((with_reducible refine gate_callee (f := 64) rfl ?_); refine goesL_ (some 10) rfl rfl Try.func64 (by kernel_rfl) rfl #[.agg #[.slice A0_0 l0_0.length c0_0, .slice A0_1 l0_1.length c0_1], .slice A1 l1.length c1] rfl aA ?_; (with_reducible refine (spec_SelectFacts.calls k _ _ l0_0 _ _ l0_1 _ _ l1 t672 t675 true _ ?side1 ?side2 ?side3 ?side4 ?side5 ?side6 A3.out).mono ?_); (case side1 => exact aC); (case side2 => exact HC0_0.out); (case side3 => exact aC); (case side4 => exact HC0_1.out); (case side5 => exact aC); (case side6 => exact HC1.out); rintro e w8 ⟨v673, v676, rfl, ho0, ho1, hb⟩; refine ⟨_, rfl, ?_⟩; have HO674 := aM (Kd.R_lower ho0 (below_size aG)); have HO677 := aM (Kd.S_lower ho1 (below_size aG)); replace BK671 := aM (blk_below (g := gb671) (o := .cells #[.slice A0_0 l0_0.length c0_0, .slice A0_1 l0_1.length c0_1] 27 (0, 0)) aK hb); replace HB := aM (below_step aG hb); (try clear hb); (try clear hb2); (try clear hk); (try clear hi); (try clear ho0); (try clear ho1)) | ((with_reducible refine gate_dst (N := 5) rfl ?_); refine bE 5 (cs := #[.slice none 0 0, .slice none 0 0]) (t := 27) ?_; intro gb679 hg w9 hbox hb; have BK679 := aM (hbox); have GW679 := aM ((by rw [hg]; exact (below_size aG) : w.heap.size ≤ gb679)); have GE679 := aM ((by rw [hg]; exact (below_size aG) : w.heap.size ≤ gb679)); have NB671_679 := aM ((by rw [hg]; exact Nat.ne_of_lt (blk_lt (g := gb671) (o := .cells #[.slice A0_0 l0_0.length c0_0, .slice A0_1 l0_1.length c0_1] 27 (0, 0)) aK) : gb671 ≠ gb679)); have NB679_671 := aM ((by rw [hg]; exact Nat.ne_of_gt (blk_lt (g := gb671) (o := .cells #[.slice A0_0 l0_0.length c0_0, .slice A0_1 l0_1.length c0_1] 27 (0, 0)) aK) : gb679 ≠ gb671)); replace HO674 := aM (Kd.R_below (aR HO674) hb); replace HO677 := aM (Kd.S_below (aS HO677) hb); replace BK671 := aM (blk_below (g := gb671) (o := .cells #[.slice A0_0 l0_0.length c0_0, .slice A0_1 l0_1.length c0_1] 27 (0, 0)) aK hb); replace HB := aM (below_step aG hb); clear hb hbox hg; obtain ⟨Ao10, co10, eo10⟩ := Kd.R_slice HO674.out; subst eo10; have hnb11 := NB679_671.out; have hnc11 := NB671_679.out; have hcz12_0 : w9.cell? ⟨gb679, 0, none⟩ = some (.slice none 0 0) := (blk_cell BK679.out 0).trans rfl; have hcz12_1 : w9.cell? ⟨gb679, 1, none⟩ = some (.slice none 0 0) := (blk_cell BK679.out 1).trans rfl; have hfz12_0 := blk_frozen BK679.out 0; have hfz12_1 := blk_frozen BK679.out 1; obtain ⟨Ao13, co13, eo13⟩ := Kd.S_slice HO677.out; subst eo13) | (go_at_call 41; (with_reducible refine (spec_IsConsistent.calls k _ _ t672 _ _ t675 t680 _ ?side1 ?side2 ?side3 ?side4 A5.out).mono ?_); (case side1 => refine (Kd.R_reads' (e := 70) (base := w.heap.size) (ok := fun k_ => True) (n := t672.length) (c := co10) ?_).2.2; exact (by (with_reducible repeat apply pR); exact (Kd.R_mono (Kd.R_far (p := ⟨gb679, 1, none⟩) (Kd.R_far (p := ⟨gb679, 0, none⟩) (Kd.R_types HO674.out BK679.out (by decide)) (fun _ hk => hk.2) (.slice Ao10 t672.length co10)) (fun _ hk => hk.2) (.slice Ao13 t675.length co13)) (fun _ h_ => h_.1)))); (case side2 => exact (Kd.R_reads' HO674.out).2.1); (case side3 => refine (Kd.S_reads' (e := 35) (base := w.heap.size) (ok := fun k_ => True) (n := t675.length) (c := co13) ?_).2.2; exact (by (with_reducible repeat apply pS); exact (Kd.S_mono (Kd.S_far (p := ⟨gb679, 1, none⟩) (Kd.S_far (p := ⟨gb679, 0, none⟩) (Kd.S_types HO677.out BK679.out (by decide)) (fun _ hk => hk.2) (.slice Ao10 t672.length co10)) (fun _ hk => hk.2) (.slice Ao13 t675.length co13)) (fun _ h_ => h_.1)))); (case side4 => exact (Kd.S_reads' HO677.out).2.1); rintro e w14 ⟨rfl, hb⟩; replace HO674 := aM (Kd.R_below (by (with_reducible repeat apply pR); exact (Kd.R_mono (Kd.R_far (p := ⟨gb679, 1, none⟩) (Kd.R_far (p := ⟨gb679, 0, none⟩) (Kd.R_types HO674.out BK679.out (by decide)) (fun _ hk => hk.2) (.slice Ao10 t672.length co10)) (fun _ hk => hk.2) (.slice Ao13 t675.length co13)) (fun _ h_ => h_.1))) hb); replace HO677 := aM (Kd.S_below (by (with_reducible repeat apply pS); exact (Kd.S_mono (Kd.S_far (p := ⟨gb679, 1, none⟩) (Kd.S_far (p := ⟨gb679, 0, none⟩) (Kd.S_types HO677.out BK679.out (by decide)) (fun _ hk => hk.2) (.slice Ao10 t672.length co10)) (fun _ hk => hk.2) (.slice Ao13 t675.length co13)) (fun _ h_ => h_.1))) hb); replace BK671 := aM (blk_below (g := gb671) (o := .cells #[.slice A0_0 l0_0.length c0_0, .slice A0_1 l0_1.length c0_1] 27 (0, 0)) (by (with_reducible repeat refine pB ?_); refine blk_far ?_ NB671_679.out _; (with_reducible repeat refine pB ?_); refine blk_far ?_ NB671_679.out _; (with_reducible repeat refine pB ?_); exact BK671.out) hb); replace BK679 := aM (blk_below (g := gb679) (o := .cells #[.slice Ao10 t672.length co10, .slice Ao13 t675.length co13] 27 (0, 0)) (by (with_reducible repeat refine pB ?_); refine blk_put (cs := #[.slice Ao10 t672.length co10, .slice none 0 0]) ?_ 1 _ rfl; (with_reducible repeat refine pB ?_); refine blk_put (cs := #[.slice none 0 0, .slice none 0 0]) ?_ 0 _ rfl; (with_reducible repeat refine pB ?_); exact BK679.out) hb); replace HB := aM (below_step aG hb); (try clear hb); (try clear hb2); (try clear hk); (try clear hi)))
  go_ret
  exact ⟨aE, aG⟩
 ·replace c4 := Bool.eq_false_iff.mpr c4
  subst c4
  have H1 : (some false) = some r := by rw [if_neg (show ¬ (false = true) by decide)] at H; exact H
  clear H
  have H := H1
  clear H1
  obtain rfl := Option.some.inj H
  go_enter Try.func28, Try.ntmps28
  go_wp2_with (first | ((with_reducible refine gate_dst (N := 2) rfl ?_); refine bE 2 (cs := #[.slice A0_0 l0_0.length c0_0, .slice A0_1 l0_1.length c0_1]) (t := 27) ?_; intro gb671 hg w15 hbox hb; have BK671 := aM (hbox); have GW671 := aM ((by rw [hg]; exact (below_size aB) : w.heap.size ≤ gb671)); have GE671 := aM ((by rw [hg]; exact (below_size aB) : w.heap.size ≤ gb671)); replace HB := aM (below_step aB hb); clear hb hbox hg; have hcz16_0 : w15.cell? ⟨gb671, 0, none⟩ = some (.slice A0_0 l0_0.length c0_0) := (blk_cell BK671.out 0).trans rfl; have hcz16_1 : w15.cell? ⟨gb671, 1, none⟩ = some (.slice A0_1 l0_1.length c0_1) := (blk_cell BK671.out 1).trans rfl; have hfz16_0 := blk_frozen BK671.out 0; have hfz16_1 := blk_frozen BK671.out 1) | ((with_reducible refine gate_callee (f := 64) rfl ?_); refine goesL_ (some 10) rfl rfl Try.func64 (by kernel_rfl) rfl #[.agg #[.slice A0_0 l0_0.length c0_0, .slice A0_1 l0_1.length c0_1], .slice A1 l1.length c1] rfl aA ?_; (with_reducible refine (spec_SelectFacts.calls k _ _ l0_0 _ _ l0_1 _ _ l1 t672 t675 false _ ?side1 ?side2 ?side3 ?side4 ?side5 ?side6 A3.out).mono ?_); (case side1 => exact aC); (case side2 => exact HC0_0.out); (case side3 => exact aC); (case side4 => exact HC0_1.out); (case side5 => exact aC); (case side6 => exact HC1.out); rintro e w17 ⟨v673, v676, rfl, ho0, ho1, hb⟩; refine ⟨_, rfl, ?_⟩; have HO674 := aM (Kd.R_lower ho0 (below_size aG)); have HO677 := aM (Kd.S_lower ho1 (below_size aG)); replace BK671 := aM (blk_below (g := gb671) (o := .cells #[.slice A0_0 l0_0.length c0_0, .slice A0_1 l0_1.length c0_1] 27 (0, 0)) aK hb); replace HB := aM (below_step aG hb); (try clear hb); (try clear hb2); (try clear hk); (try clear hi); (try clear ho0); (try clear ho1)) | ((with_reducible refine gate_dst (N := 5) rfl ?_); refine bE 5 (cs := #[.slice none 0 0, .slice none 0 0]) (t := 27) ?_; intro gb679 hg w18 hbox hb; have BK679 := aM (hbox); have GW679 := aM ((by rw [hg]; exact (below_size aG) : w.heap.size ≤ gb679)); have GE679 := aM ((by rw [hg]; exact (below_size aG) : w.heap.size ≤ gb679)); have NB671_679 := aM ((by rw [hg]; exact Nat.ne_of_lt (blk_lt (g := gb671) (o := .cells #[.slice A0_0 l0_0.length c0_0, .slice A0_1 l0_1.length c0_1] 27 (0, 0)) aK) : gb671 ≠ gb679)); have NB679_671 := aM ((by rw [hg]; exact Nat.ne_of_gt (blk_lt (g := gb671) (o := .cells #[.slice A0_0 l0_0.length c0_0, .slice A0_1 l0_1.length c0_1] 27 (0, 0)) aK) : gb679 ≠ gb671)); replace HO674 := aM (Kd.R_below (aR HO674) hb); replace HO677 := aM (Kd.S_below (aS HO677) hb); replace BK671 := aM (blk_below (g := gb671) (o := .cells #[.slice A0_0 l0_0.length c0_0, .slice A0_1 l0_1.length c0_1] 27 (0, 0)) aK hb); replace HB := aM (below_step aG hb); clear hb hbox hg; obtain ⟨Ao19, co19, eo19⟩ := Kd.R_slice HO674.out; subst eo19; have hnb20 := NB679_671.out; have hnc20 := NB671_679.out; have hcz21_0 : w18.cell? ⟨gb679, 0, none⟩ = some (.slice none 0 0) := (blk_cell BK679.out 0).trans rfl; have hcz21_1 : w18.cell? ⟨gb679, 1, none⟩ = some (.slice none 0 0) := (blk_cell BK679.out 1).trans rfl; have hfz21_0 := blk_frozen BK679.out 0; have hfz21_1 := blk_frozen BK679.out 1; obtain ⟨Ao22, co22, eo22⟩ := Kd.S_slice HO677.out; subst eo22))
  go_ret
  exact ⟨aE, aG⟩

/-! ### laws_has: function 30 -/
def laws_has.l0 : Nat → List Int → Int → Int → Option (Bool)
 | 0, _, _, _ => none
 | k + 1, x0, x1, x5 => if x5 < (x0.length : Int) then (if 0 ≤ x5 then (if (rd x0 x5) = x1 then (some true) else (laws_has.l0 k x0 x1 (wrap64 (x5 + 1)))) else (none)) else (some false)
def laws_has.f (k : Nat) (l0 : List Int) (a1 : Int) : Option (Bool) := laws_has.l0 k l0 a1 0
set_option maxHeartbeats 8000000 in
set_option maxRecDepth 100000 in
theorem laws_has.calls (k : Nat) (A0 : Option Addr) (c0 : Nat) (l0 : List Int) (a1 : Int) (r : Bool) (w : World) (hr0 : Kd.C (Kd.int .i64) w A0 l0.length l0) (hc0 : l0.length ≤ c0) (h : laws_has.f k l0 a1 = some r) :
  Calls Try.prog 30 #[.slice A0 l0.length c0, .int .i64 a1] w fun e w' => e = .returned (.bool r) ∧ Drawn0 w w' := by
 unfold laws_has.f at h
 ·go_enter Try.func30, Try.ntmps30
  go_wp2
  go_loopg [5] k (fun kq v5 w' => ∃ (x5_0 : Int), v5 = .int .i64 x5_0 ∧ laws_has.l0 kq l0 a1 x5_0 = some r ∧ Drawn0 w w')
  case atStart => exact ⟨_, zR, zA, zD⟩
  case round =>
   clear h
   obtain ⟨x5_0, rfl, h, hb⟩ := hrel
   have hd := hb
   replace hb := hb.below
   replace hb := aM hb
   have HB : Below w.heap.size w wr := zB
   rcases gk with _ | kk0
   exact absurd h (by simp [laws_has.l0])
   simp only [laws_has.l0] at h
   replace h := il h; rcases h with ⟨c1, c1a, h⟩ | ⟨c1, c1a, h⟩
   replace h := ie h; rcases h with ⟨c2, c2a, h⟩ | ⟨c2, c2a, h⟩
   replace h := iq h; rcases h with ⟨c3, ⟨c3a, c3b⟩, h⟩ | ⟨c3, ⟨c3a, c3b⟩, h⟩
   obtain rfl := si h
   obtain ⟨ad681, e681, hx681_0⟩ := Kd.at_int hr0 (x5_0 : Int) aD aD
   have p681 := eq_true (aD : 0 ≤ (x5_0 : Int))
   have q681 := eq_true (aD : x5_0 < (l0.length : Int))
   cases e681
   replace hx681_0 := qa hx681_0
   rotate_left
   obtain ⟨kf, hkf⟩ : ∃ kf, kf = kk0 := ⟨_, rfl⟩; rw [← hkf] at h
   obtain ⟨ad681, e681, hx681_0⟩ := Kd.at_int hr0 (x5_0 : Int) aD aD
   have p681 := eq_true (aD : 0 ≤ (x5_0 : Int))
   have q681 := eq_true (aD : x5_0 < (l0.length : Int))
   cases e681
   replace hx681_0 := qa hx681_0
   rotate_left
   exact absurd h (by simp)
   obtain rfl := si h
   rotate_left
   all_goals (go_wp2; first | (go_ret; exact zE zD) | (go_roundg kf; (case measure => omega); (case rel => exact ⟨_, zR, zA, zD⟩)))

/-! ### impl_Blocks: function 9 -/
def impl_Blocks.f (k : Nat) (l0_0 : List (S70)) (l0_1 : List (S35)) : Option ((List (List Int))) := (impl_IsValidDatabase.f l0_0 l0_1).bind fun t683 => (if t683 = true then ((impl_blocks.f k l0_0 l0_1).bind fun t684 => (some t684)) else (some ([] : List (List Int))))
set_option maxHeartbeats 8000000 in
set_option maxRecDepth 100000 in
theorem impl_Blocks.calls (k : Nat) (A0_0 : Option Addr) (c0_0 : Nat) (l0_0 : List (S70)) (A0_1 : Option Addr) (c0_1 : Nat) (l0_1 : List (S35)) (r : List (List Int)) (w : World) (hr0_0 : Kd.C k70 w A0_0 l0_0.length l0_0) (hc0_0 : l0_0.length ≤ c0_0) (hr0_1 : Kd.C k35 w A0_1 l0_1.length l0_1) (hc0_1 : l0_1.length ≤ c0_1) (h : impl_Blocks.f k l0_0 l0_1 = some r) :
  Calls Try.prog 9 #[.agg #[.slice A0_0 l0_0.length c0_0, .slice A0_1 l0_1.length c0_1]] w fun e w' => ∃ v0_ : Value, e = .returned (v0_) ∧ Kd.S (Kd.slice 3 (Kd.int .i64)) 32 w' w.heap.size (fun _ => True) v0_ r ∧ Below w.heap.size w w' := by
 have hu27 := Try.underlying27
 have HR0_0 := aM hr0_0
 have HC0_0 := aM hc0_0
 clear hr0_0 hc0_0
 have HR0_1 := aM hr0_1
 have HC0_1 := aM hc0_1
 clear hr0_1 hc0_1
 have HB := aM (Below.refl w.heap.size w)
 have H : ((impl_IsValidDatabase.f l0_0 l0_1).bind fun t683 => (if t683 = true then ((impl_blocks.f k l0_0 l0_1).bind fun t684 => (some t684)) else (some ([] : List (List Int))))) = some r := h
 clear h
 replace H := bM H
 obtain ⟨t683, A20, H⟩ := H
 have A2 := aM A20
 clear A20
 by_cases c3 : t683 = true
 ·subst c3
  replace H := iT H
  replace H := bM H
  obtain ⟨t684, A40, H⟩ := H
  have A4 := aM A40
  clear A40
  obtain rfl := Option.some.inj H
  go_enter Try.func9, Try.ntmps9
  go_wp2_with (first | ((with_reducible refine gate_dst (N := 1) rfl ?_); refine bE 1 (cs := #[.slice A0_0 l0_0.length c0_0, .slice A0_1 l0_1.length c0_1]) (t := 27) ?_; intro gb682 hg w5 hbox hb; have BK682 := aM (hbox); have GW682 := aM ((by rw [hg]; exact (below_size aB) : w.heap.size ≤ gb682)); have GE682 := aM ((by rw [hg]; exact (below_size aB) : w.heap.size ≤ gb682)); replace HB := aM (below_step aB hb); clear hb hbox hg; have hcz6_0 : w5.cell? ⟨gb682, 0, none⟩ = some (.slice A0_0 l0_0.length c0_0) := (blk_cell BK682.out 0).trans rfl; have hcz6_1 : w5.cell? ⟨gb682, 1, none⟩ = some (.slice A0_1 l0_1.length c0_1) := (blk_cell BK682.out 1).trans rfl; have hfz6_0 := blk_frozen BK682.out 0; have hfz6_1 := blk_frozen BK682.out 1) | ((with_reducible refine gate_callee (f := 20) rfl ?_); refine goesL_ (some 4) rfl rfl Try.func20 (by kernel_rfl) rfl #[.agg #[.slice A0_0 l0_0.length c0_0, .slice A0_1 l0_1.length c0_1]] rfl aA ?_; (with_reducible refine (impl_IsValidDatabase.calls _ _ l0_0 _ _ l0_1 true _ ?side1 ?side2 ?side3 ?side4 A2.out).mono ?_); (case side1 => exact aC); (case side2 => exact HC0_0.out); (case side3 => exact aC); (case side4 => exact HC0_1.out); rintro e w7 ⟨rfl, hb⟩; refine ⟨_, rfl, ?_⟩; replace BK682 := aM (blk_below (g := gb682) (o := .cells #[.slice A0_0 l0_0.length c0_0, .slice A0_1 l0_1.length c0_1] 27 (0, 0)) aK hb); replace HB := aM (below_step aG hb); (try clear hb); (try clear hb2); (try clear hk); (try clear hi); have hcz8_0 : w7.cell? ⟨gb682, 0, none⟩ = some (.slice A0_0 l0_0.length c0_0) := (blk_cell BK682.out 0).trans rfl; have hcz8_1 : w7.cell? ⟨gb682, 1, none⟩ = some (.slice A0_1 l0_1.length c0_1) := (blk_cell BK682.out 1).trans rfl; have hfz8_0 := blk_frozen BK682.out 0; have hfz8_1 := blk_frozen BK682.out 1) | ((with_reducible refine gate_callee (f := 44) rfl ?_); refine goesL_ (some 7) rfl rfl Try.func44 (by kernel_rfl) rfl #[.agg #[.slice A0_0 l0_0.length c0_0, .slice A0_1 l0_1.length c0_1]] rfl aA ?_; (with_reducible refine (impl_blocks.calls k _ _ l0_0 _ _ l0_1 t684 _ ?side1 ?side2 ?side3 ?side4 A4.out).mono ?_); (case side1 => exact aC); (case side2 => exact HC0_0.out); (case side3 => exact aC); (case side4 => exact HC0_1.out); rintro e w9 ⟨v685, rfl, ho0, hb⟩; refine ⟨_, rfl, ?_⟩; have HO686 := aM (Kd.S_lower ho0 (below_size aG)); replace BK682 := aM (blk_below (g := gb682) (o := .cells #[.slice A0_0 l0_0.length c0_0, .slice A0_1 l0_1.length c0_1] 27 (0, 0)) aK hb); replace HB := aM (below_step aG hb); (try clear hb); (try clear hb2); (try clear hk); (try clear hi); (try clear ho0)))
  go_ret
  exact ⟨_, aE, aS HO686, aG⟩
 ·replace c3 := Bool.eq_false_iff.mpr c3
  subst c3
  have H1 : (some ([] : List (List Int))) = some r := by rw [if_neg (show ¬ (false = true) by decide)] at H; exact H
  clear H
  have H := H1
  clear H1
  obtain rfl := Option.some.inj H
  go_enter Try.func9, Try.ntmps9
  go_wp2_with (first | ((with_reducible refine gate_dst (N := 1) rfl ?_); refine bE 1 (cs := #[.slice A0_0 l0_0.length c0_0, .slice A0_1 l0_1.length c0_1]) (t := 27) ?_; intro gb682 hg w10 hbox hb; have BK682 := aM (hbox); have GW682 := aM ((by rw [hg]; exact (below_size aB) : w.heap.size ≤ gb682)); have GE682 := aM ((by rw [hg]; exact (below_size aB) : w.heap.size ≤ gb682)); replace HB := aM (below_step aB hb); clear hb hbox hg; have hcz11_0 : w10.cell? ⟨gb682, 0, none⟩ = some (.slice A0_0 l0_0.length c0_0) := (blk_cell BK682.out 0).trans rfl; have hcz11_1 : w10.cell? ⟨gb682, 1, none⟩ = some (.slice A0_1 l0_1.length c0_1) := (blk_cell BK682.out 1).trans rfl; have hfz11_0 := blk_frozen BK682.out 0; have hfz11_1 := blk_frozen BK682.out 1) | ((with_reducible refine gate_callee (f := 20) rfl ?_); refine goesL_ (some 4) rfl rfl Try.func20 (by kernel_rfl) rfl #[.agg #[.slice A0_0 l0_0.length c0_0, .slice A0_1 l0_1.length c0_1]] rfl aA ?_; (with_reducible refine (impl_IsValidDatabase.calls _ _ l0_0 _ _ l0_1 false _ ?side1 ?side2 ?side3 ?side4 A2.out).mono ?_); (case side1 => exact aC); (case side2 => exact HC0_0.out); (case side3 => exact aC); (case side4 => exact HC0_1.out); rintro e w12 ⟨rfl, hb⟩; refine ⟨_, rfl, ?_⟩; replace BK682 := aM (blk_below (g := gb682) (o := .cells #[.slice A0_0 l0_0.length c0_0, .slice A0_1 l0_1.length c0_1] 27 (0, 0)) aK hb); replace HB := aM (below_step aG hb); (try clear hb); (try clear hb2); (try clear hk); (try clear hi)))
  go_ret
  exact ⟨_, aE, by first | exact Kd.S_nil _ _ _ _ _ | exact Kd.N_nil _ _ _ _ _ | exact Kd.V_nil _ _ _ _ _ | exact Kd.Q_nil _ _ _ _ _ | exact Kd.R_nil _ _ _ _ _, aG⟩

/-! ### impl_IsRepair: function 31 -/
def impl_IsRepair.f (k : Nat) (l0_0 : List (S70)) (l0_1 : List (S35)) (l1 : List Int) : Option (Bool) := (impl_IsPartialRepair.f k l0_0 l0_1 l1).bind fun t688 => (if t688 = true then ((impl_Blocks.f k l0_0 l0_1).bind fun t689 => (some ((l1.length : Int) == (t689.length : Int)))) else (some false))
set_option maxHeartbeats 8000000 in
set_option maxRecDepth 100000 in
theorem impl_IsRepair.calls (k : Nat) (A0_0 : Option Addr) (c0_0 : Nat) (l0_0 : List (S70)) (A0_1 : Option Addr) (c0_1 : Nat) (l0_1 : List (S35)) (A1 : Option Addr) (c1 : Nat) (l1 : List Int) (r : Bool) (w : World) (hr0_0 : Kd.C k70 w A0_0 l0_0.length l0_0) (hc0_0 : l0_0.length ≤ c0_0) (hr0_1 : Kd.C k35 w A0_1 l0_1.length l0_1) (hc0_1 : l0_1.length ≤ c0_1) (hr1 : Kd.C (Kd.int .i64) w A1 l1.length l1) (hc1 : l1.length ≤ c1) (h : impl_IsRepair.f k l0_0 l0_1 l1 = some r) :
  Calls Try.prog 31 #[.agg #[.slice A0_0 l0_0.length c0_0, .slice A0_1 l0_1.length c0_1], .slice A1 l1.length c1] w fun e w' => e = .returned (.bool r) ∧ Below w.heap.size w w' := by
 have hu27 := Try.underlying27
 obtain ⟨W, hW⟩ : ∃ W, w.alloc (.cells #[.slice A0_0 l0_0.length c0_0, .slice A0_1 l0_1.length c0_1] 27) = W := ⟨_, rfl⟩
 have q0 := qa (w := W) (p := ⟨w.heap.size, 0, none⟩) (v := .slice A0_0 l0_0.length c0_0) (by subst hW; go_simp)
 have q1 := qa (w := W) (p := ⟨w.heap.size, 1, none⟩) (v := .slice A0_1 l0_1.length c0_1) (by subst hW; go_simp)
 have HB : Below w.heap.size w W := by subst hW; exact zB
 have HW := Below.refl W.heap.size W
 have hb := aM HB
 unfold impl_IsRepair.f at h
 replace h := bs h; obtain ⟨t688, B0, h⟩ := h
 replace h := ib h; rcases h with ⟨rfl, h⟩ | ⟨rfl, h⟩
 replace h := bs h; obtain ⟨t689, B2, h⟩ := h
 obtain rfl := si h
 rotate_left
 obtain rfl := si h
 rotate_left
 all_goals (go_enter Try.func31, Try.ntmps31; go_wp2_with (first | (go_at_call 29; refine (impl_IsPartialRepair.calls ?_ _ _ _ _ _ _ _ _ _ ?_ _ ?_ ?_ ?_ ?_ ?_ ?_ ?h).mono ?_; (case h => exact zA); (iterate 6 (first | exact zC | exact zA)); rintro e w1 ⟨rfl, hb⟩; replace hb := aM hb; have HW : Below W.heap.size W w1 := zB; have HB : Below w.heap.size w w1 := zB) | (go_at_call 9; refine (impl_Blocks.calls ?_ _ _ _ _ _ _ ?_ _ ?_ ?_ ?_ ?_ ?h).mono ?_; (case h => exact zA); (iterate 4 (first | exact zC | exact zA)); rintro e w1 ⟨v0, rfl, ho0, hb⟩; obtain ⟨A0, c0, rfl, hc0, hC0⟩ := Kd.R_reads (Kd.S_R ho0); replace hb := aM hb; have HW : Below W.heap.size W w1 := zB; have HB : Below w.heap.size w w1 := zB)); go_ret; exact zE zB)

/-! ### spec_IsRepair: function 32 -/
def spec_IsRepair.f (k : Nat) (l0_0 : List (S70)) (l0_1 : List (S35)) (l1 : List Int) : Option (Bool) := (spec_IsPartialRepair.f k l0_0 l0_1 l1).bind fun t693 => (if t693 = true then ((spec_Blocks.f k l0_0 l0_1).bind fun t694 => (some ((l1.length : Int) == (t694.length : Int)))) else (some false))
set_option maxHeartbeats 8000000 in
set_option maxRecDepth 100000 in
theorem spec_IsRepair.calls (k : Nat) (A0_0 : Option Addr) (c0_0 : Nat) (l0_0 : List (S70)) (A0_1 : Option Addr) (c0_1 : Nat) (l0_1 : List (S35)) (A1 : Option Addr) (c1 : Nat) (l1 : List Int) (r : Bool) (w : World) (hr0_0 : Kd.C k70 w A0_0 l0_0.length l0_0) (hc0_0 : l0_0.length ≤ c0_0) (hr0_1 : Kd.C k35 w A0_1 l0_1.length l0_1) (hc0_1 : l0_1.length ≤ c0_1) (hr1 : Kd.C (Kd.int .i64) w A1 l1.length l1) (hc1 : l1.length ≤ c1) (h : spec_IsRepair.f k l0_0 l0_1 l1 = some r) :
  Calls Try.prog 32 #[.agg #[.slice A0_0 l0_0.length c0_0, .slice A0_1 l0_1.length c0_1], .slice A1 l1.length c1] w fun e w' => e = .returned (.bool r) ∧ Below w.heap.size w w' := by
 have hu27 := Try.underlying27
 obtain ⟨W, hW⟩ : ∃ W, w.alloc (.cells #[.slice A0_0 l0_0.length c0_0, .slice A0_1 l0_1.length c0_1] 27) = W := ⟨_, rfl⟩
 have q0 := qa (w := W) (p := ⟨w.heap.size, 0, none⟩) (v := .slice A0_0 l0_0.length c0_0) (by subst hW; go_simp)
 have q1 := qa (w := W) (p := ⟨w.heap.size, 1, none⟩) (v := .slice A0_1 l0_1.length c0_1) (by subst hW; go_simp)
 have HB : Below w.heap.size w W := by subst hW; exact zB
 have HW := Below.refl W.heap.size W
 have hb := aM HB
 unfold spec_IsRepair.f at h
 replace h := bs h; obtain ⟨t693, B0, h⟩ := h
 replace h := ib h; rcases h with ⟨rfl, h⟩ | ⟨rfl, h⟩
 replace h := bs h; obtain ⟨t694, B2, h⟩ := h
 obtain rfl := si h
 rotate_left
 obtain rfl := si h
 rotate_left
 all_goals (go_enter Try.func32, Try.ntmps32; go_wp2_with (first | (go_at_call 28; refine (spec_IsPartialRepair.calls ?_ _ _ _ _ _ _ _ _ _ ?_ _ ?_ ?_ ?_ ?_ ?_ ?_ ?h).mono ?_; (case h => exact zA); (iterate 6 (first | exact zC | exact zA)); rintro e w1 ⟨rfl, hb⟩; replace hb := aM hb; have HW : Below W.heap.size W w1 := zB; have HB : Below w.heap.size w w1 := zB) | (go_at_call 65; refine (spec_Blocks.calls ?_ _ _ _ _ _ _ ?_ _ ?_ ?_ ?_ ?_ ?h).mono ?_; (case h => exact zA); (iterate 4 (first | exact zC | exact zA)); rintro e w1 ⟨v0, rfl, ho0, hb⟩; obtain ⟨A0, c0, rfl, hc0, hC0⟩ := Kd.R_reads (Kd.S_R ho0); replace hb := aM hb; have HW : Below W.heap.size W w1 := zB; have HB : Below w.heap.size w w1 := zB)); go_ret; exact zE zB)

/-! ### laws_FnExtendToRepair: function 5 -/
mutual
def laws_FnExtendToRepair.j0 : Nat → List Int → List Int → Bool → Bool → List (S70) → List (S35) → Option (Bool)
 | 0, _, _, _, _, _, _ => none
 | k + 1, x4, x5, x6, x32, x708000, x708001 => if x32 = true then (some false) else (if x6 = true then (laws_FnExtendToRepair.l0 k x4 x5 0 x708000 x708001) else (some ((x5.length : Int) == 0)))
def laws_FnExtendToRepair.l0 : Nat → List Int → List Int → Int → List (S70) → List (S35) → Option (Bool)
 | 0, _, _, _, _, _ => none
 | k + 1, x4, x5, x7, x708000, x708001 => if x7 < (x4.length : Int) then (if 0 ≤ x7 then ((laws_has.f k x5 (rd x4 x7)).bind fun t715 => (if t715 = true then (laws_FnExtendToRepair.l0 k x4 x5 (wrap64 (x7 + 1)) x708000 x708001) else (some false))) else (none)) else ((impl_IsRepair.f k x708000 x708001 x5).bind fun t716 => (if t716 = true then ((spec_IsRepair.f k x708000 x708001 x5).bind fun t717 => (some t717)) else (some false)))
end
def laws_FnExtendToRepair.f (k : Nat) (l0 : List Int) : Option (Bool) := (laws_big.f l0).bind fun t697 => (if t697 = true then (some true) else ((spec_DrawExtendToRepair.f k l0).bind fun bt698 => ((impl_ExtendToRepair.f k bt698.1 bt698.2.1 bt698.2.2).bind fun bt708 => ((spec_IsPartialRepair.f k bt698.1 bt698.2.1 bt698.2.2).bind fun t712 => (if (bt708.2 != t712) = true then (laws_FnExtendToRepair.j0 k bt698.2.2 bt708.1 bt708.2 true bt698.1 bt698.2.1) else ((impl_IsPartialRepair.f k bt698.1 bt698.2.1 bt698.2.2).bind fun t713 => (laws_FnExtendToRepair.j0 k bt698.2.2 bt708.1 bt708.2 (t713 != bt708.2) bt698.1 bt698.2.1)))))))
set_option maxHeartbeats 8000000 in
set_option maxRecDepth 100000 in
theorem laws_FnExtendToRepair.calls (k : Nat) (A0 : Option Addr) (c0 : Nat) (l0 : List Int) (r : Bool) (w : World) (hr0 : Kd.C (Kd.int .u8) w A0 l0.length l0) (hc0 : l0.length ≤ c0) (h : laws_FnExtendToRepair.f k l0 = some r) (hr_ : r = true) :
  Calls Try.prog 5 #[.slice A0 l0.length c0] w fun e w' => e = .returned (.bool r) ∧ Below w.heap.size w w' := by
 have HRT_ := aM hr_
 clear hr_
 have hu27 := Try.underlying27
 have HR0 := aM hr0
 have HC0 := aM hc0
 clear hr0 hc0
 have HB := aM (Below.refl w.heap.size w)
 have H : ((laws_big.f l0).bind fun t697 => (if t697 = true then (some true) else ((spec_DrawExtendToRepair.f k l0).bind fun bt698 => ((impl_ExtendToRepair.f k bt698.1 bt698.2.1 bt698.2.2).bind fun bt708 => ((spec_IsPartialRepair.f k bt698.1 bt698.2.1 bt698.2.2).bind fun t712 => (if (bt708.2 != t712) = true then (laws_FnExtendToRepair.j0 k bt698.2.2 bt708.1 bt708.2 true bt698.1 bt698.2.1) else ((impl_IsPartialRepair.f k bt698.1 bt698.2.1 bt698.2.2).bind fun t713 => (laws_FnExtendToRepair.j0 k bt698.2.2 bt708.1 bt708.2 (t713 != bt708.2) bt698.1 bt698.2.1)))))))) = some r := h
 clear h
 replace H := bM H
 obtain ⟨t697, A20, H⟩ := H
 have A2 := aM A20
 clear A20
 by_cases c3 : t697 = true
 ·subst c3
  replace H := iT H
  obtain rfl := Option.some.inj H
  go_enter Try.func5, Try.ntmps5
  go_wp2_with (first | ((with_reducible refine gate_callee (f := 7) rfl ?_); refine goesL_ (some 9) rfl rfl Try.func7 (by kernel_rfl) rfl #[.slice A0 l0.length c0] rfl aA ?_; (with_reducible refine (laws_big.calls _ _ l0 true _ ?side1 ?side2 A2.out).mono ?_); (case side1 => repeat (first | exact HR0.out | (with_reducible refine Kd.C_alloc ?_ _) | (with_reducible refine Kd.C_drewN ?_ _) | (with_reducible refine Kd.C_drew ?_))); (case side2 => exact HC0.out); rintro e w' ⟨rfl, ⟨nd, rfl⟩⟩; refine ⟨_, rfl, ?_⟩))
  go_ret
  exact ⟨aE, aB⟩
 ·replace c3 := Bool.eq_false_iff.mpr c3
  subst c3
  have H1 : ((spec_DrawExtendToRepair.f k l0).bind fun bt698 => ((impl_ExtendToRepair.f k bt698.1 bt698.2.1 bt698.2.2).bind fun bt708 => ((spec_IsPartialRepair.f k bt698.1 bt698.2.1 bt698.2.2).bind fun t712 => (if (bt708.2 != t712) = true then (laws_FnExtendToRepair.j0 k bt698.2.2 bt708.1 bt708.2 true bt698.1 bt698.2.1) else ((impl_IsPartialRepair.f k bt698.1 bt698.2.1 bt698.2.2).bind fun t713 => (laws_FnExtendToRepair.j0 k bt698.2.2 bt708.1 bt708.2 (t713 != bt708.2) bt698.1 bt698.2.1)))))) = some r := by rw [if_neg (show ¬ (false = true) by decide)] at H; exact H
  clear H
  have H := H1
  clear H1
  replace H := bM H
  obtain ⟨⟨t698, t701, t704⟩, A40, H⟩ := H
  dsimp only at H
  have A4 := aM A40
  clear A40
  replace H := bM H
  obtain ⟨⟨t708, t711⟩, A50, H⟩ := H
  dsimp only at H
  have A5 := aM A50
  clear A50
  have HC6 := aM H
  clear H
  go_enter Try.func5, Try.ntmps5
  go_upto_region 5 with (first | ((with_reducible refine gate_callee (f := 7) rfl ?_); refine goesL_ (some 9) rfl rfl Try.func7 (by kernel_rfl) rfl #[.slice A0 l0.length c0] rfl aA ?_; (with_reducible refine (laws_big.calls _ _ l0 false _ ?side1 ?side2 A2.out).mono ?_); (case side1 => repeat (first | exact HR0.out | (with_reducible refine Kd.C_alloc ?_ _) | (with_reducible refine Kd.C_drewN ?_ _) | (with_reducible refine Kd.C_drew ?_))); (case side2 => exact HC0.out); rintro e w' ⟨rfl, ⟨nd, rfl⟩⟩; refine ⟨_, rfl, ?_⟩) | ((with_reducible refine gate_callee (f := 26) rfl ?_); refine goesL_ (some 12) rfl rfl Try.func26 (by kernel_rfl) rfl #[.slice A0 l0.length c0] rfl aA ?_; (with_reducible refine (spec_DrawExtendToRepair.calls k _ _ l0 t698 t701 t704 _ ?side1 ?side2 A4.out).mono ?_); (case side1 => repeat (first | exact HR0.out | (with_reducible refine Kd.C_alloc ?_ _) | (with_reducible refine Kd.C_drewN ?_ _) | (with_reducible refine Kd.C_drew ?_))); (case side2 => exact HC0.out); rintro e w7 ⟨v699, v702, v705, rfl, ho0, ho1, ho2, hb⟩; refine ⟨_, rfl, ?_⟩; have HO700 := aM (Kd.R_lower (Kd.R_mono (ok' := fun k_ => True) ho0 (fun _ hk_ => trivial)) (below_size aB)); have HO703 := aM (Kd.N_lower (Kd.N_mono (ok' := fun k_ => some k_ ≠ (v699 : Value).ownBlock ∧ some k_ ≠ (v705 : Value).ownBlock) ho1 (fun k_ hk_ => ⟨hk_.2.1, hk_.2.2⟩)) (below_size aB)); have HO706 := aM (Kd.R_lower (Kd.R_mono (ok' := fun k_ => True) ho2 (fun _ hk_ => trivial)) (below_size aB)); replace HB := aM (below_step aB hb); (try clear hb); (try clear hb2); (try clear hk); (try clear hi); (try clear ho0); (try clear ho1); (try clear ho2)) | ((with_reducible refine gate_dst (N := 3) rfl ?_); refine bE 3 (cs := #[.slice none 0 0, .slice none 0 0]) (t := 27) ?_; intro gb707 hg w8 hbox hb; have BK707 := aM (hbox); have GW707 := aM ((by rw [hg]; exact (below_size aB) : w.heap.size ≤ gb707)); have GE707 := aM ((by rw [hg]; exact (below_size aB) : w.heap.size ≤ gb707)); replace HO700 := aM (Kd.R_below (aR HO700) hb); replace HO703 := aM (Kd.N_below (Kd.N_elderB (aN HO703) gb707 (Nat.le_of_eq hg.symm)) hb); replace HO706 := aM (Kd.R_below (aR HO706) hb); replace HB := aM (below_step aB hb); clear hb hbox hg; obtain ⟨Ao9, co9, eo9⟩ := Kd.R_slice HO700.out; subst eo9; have hcz10_0 : w8.cell? ⟨gb707, 0, none⟩ = some (.slice none 0 0) := (blk_cell BK707.out 0).trans rfl; have hcz10_1 : w8.cell? ⟨gb707, 1, none⟩ = some (.slice none 0 0) := (blk_cell BK707.out 1).trans rfl; have hfz10_0 := blk_frozen BK707.out 0; have hfz10_1 := blk_frozen BK707.out 1; obtain ⟨Ao11, co11, eo11⟩ := Kd.N_slice HO703.out; subst eo11; obtain ⟨Ao12, co12, eo12⟩ := Kd.R_slice HO706.out; subst eo12) | ((with_reducible refine gate_callee (f := 27) rfl ?_); refine goesL_ (some 18) rfl rfl Try.func27 (by kernel_rfl) rfl #[.agg #[.slice Ao9 t698.length co9, .slice Ao11 t701.length co11], .slice Ao12 t704.length co12] rfl aA ?_; (with_reducible refine (impl_ExtendToRepair.calls k _ _ t698 _ _ t701 _ _ t704 t708 t711 _ ?side1 ?side2 ?side3 ?side4 ?side5 ?side6 A5.out).mono ?_); (case side1 => refine (Kd.R_reads' (e := 70) (base := w.heap.size) (ok := fun k_ => True) (n := t698.length) (c := co9) ?_).2.2; exact (by (with_reducible repeat apply pR); exact (Kd.R_mono (Kd.R_far (p := ⟨gb707, 1, none⟩) (Kd.R_far (p := ⟨gb707, 0, none⟩) (Kd.R_types HO700.out BK707.out (by decide)) (fun _ hk => hk.2) (.slice Ao9 t698.length co9)) (fun _ hk => hk.2) (.slice Ao11 t701.length co11)) (fun _ h_ => h_.1)))); (case side2 => exact (Kd.R_reads' HO700.out).2.1); (case side3 => refine (Kd.N_reads' (e := 35) (base := w.heap.size) (ok := fun k_ => ((some k_ ≠ (.slice Ao9 t698.length co9 : Value).ownBlock ∧ some k_ ≠ (.slice Ao12 t704.length co12 : Value).ownBlock) ∧ k_ ≠ gb707)) (n := t701.length) (c := co11) ?_).2.2; exact (by (with_reducible repeat apply pN); exact (Kd.N_mono (Kd.N_far (p := ⟨gb707, 1, none⟩) (Kd.N_far (p := ⟨gb707, 0, none⟩) (Kd.N_mono HO703.out (fun k_ hk => (⟨hk, hk.2⟩ : _ ∧ k_ ≠ gb707))) (fun _ hk => hk.2) (.slice Ao9 t698.length co9)) (fun _ hk => hk.2) (.slice Ao11 t701.length co11)) (fun _ h_ => h_.1)))); (case side4 => exact (Kd.N_reads' HO703.out).2.1); (case side5 => refine (Kd.R_reads' (e := 3) (base := w.heap.size) (ok := fun k_ => True) (n := t704.length) (c := co12) ?_).2.2; exact (by (with_reducible repeat apply pR); exact (Kd.R_mono (Kd.R_far (p := ⟨gb707, 1, none⟩) (Kd.R_far (p := ⟨gb707, 0, none⟩) (Kd.R_types HO706.out BK707.out (by decide)) (fun _ hk => hk.2) (.slice Ao9 t698.length co9)) (fun _ hk => hk.2) (.slice Ao11 t701.length co11)) (fun _ h_ => h_.1)))); (case side6 => exact (Kd.R_reads' HO706.out).2.1); rintro e w13 ⟨v709, rfl, ho0, hb⟩; refine ⟨_, rfl, ?_⟩; have HO710 := aM (Kd.R_lower (Kd.R_new' ho0 (Kd.R_lt (by (with_reducible repeat apply pR); exact (Kd.R_mono (Kd.R_far (p := ⟨gb707, 1, none⟩) (Kd.R_far (p := ⟨gb707, 0, none⟩) (Kd.R_types HO706.out BK707.out (by decide)) (fun _ hk => hk.2) (.slice Ao9 t698.length co9)) (fun _ hk => hk.2) (.slice Ao11 t701.length co11)) (fun _ h_ => h_.1))))) (below_size aG)); replace HO700 := aM (Kd.R_below (by (with_reducible repeat apply pR); exact (Kd.R_mono (Kd.R_far (p := ⟨gb707, 1, none⟩) (Kd.R_far (p := ⟨gb707, 0, none⟩) (Kd.R_types HO700.out BK707.out (by decide)) (fun _ hk => hk.2) (.slice Ao9 t698.length co9)) (fun _ hk => hk.2) (.slice Ao11 t701.length co11)) (fun _ h_ => h_.1))) hb); replace HO703 := aM (Kd.N_elder' (by (with_reducible repeat apply pN); exact (Kd.N_mono (Kd.N_far (p := ⟨gb707, 1, none⟩) (Kd.N_far (p := ⟨gb707, 0, none⟩) (Kd.N_mono HO703.out (fun k_ hk => (⟨hk, hk.2⟩ : _ ∧ k_ ≠ gb707))) (fun _ hk => hk.2) (.slice Ao9 t698.length co9)) (fun _ hk => hk.2) (.slice Ao11 t701.length co11)) (fun _ h_ => h_.1))) (Kd.R_base ho0) hb); replace HO706 := aM (Kd.R_elder' (by (with_reducible repeat apply pR); exact (Kd.R_mono (Kd.R_far (p := ⟨gb707, 1, none⟩) (Kd.R_far (p := ⟨gb707, 0, none⟩) (Kd.R_types HO706.out BK707.out (by decide)) (fun _ hk => hk.2) (.slice Ao9 t698.length co9)) (fun _ hk => hk.2) (.slice Ao11 t701.length co11)) (fun _ h_ => h_.1))) (Kd.R_base ho0) hb); replace BK707 := aM (blk_below (g := gb707) (o := .cells #[.slice Ao9 t698.length co9, .slice Ao11 t701.length co11] 27 (0, 0)) (by (with_reducible repeat refine pB ?_); refine blk_put (cs := #[.slice Ao9 t698.length co9, .slice none 0 0]) ?_ 1 _ rfl; (with_reducible repeat refine pB ?_); refine blk_put (cs := #[.slice none 0 0, .slice none 0 0]) ?_ 0 _ rfl; (with_reducible repeat refine pB ?_); exact BK707.out) hb); replace HB := aM (below_step aG hb); (try clear hb); (try clear hb2); (try clear hk); (try clear hi); (try clear ho0)))
  (try simp only [Act.put, List.setIfInBounds_toArray, List.set_cons_zero, List.set_cons_succ])
  go_cut [32] (fun v32 wc => ∃ (kq : Nat) (x32_5 : Bool), v32 = .bool x32_5 ∧ Aside0 (laws_FnExtendToRepair.j0 kq t704 t708 t711 x32_5 t698 t701 = some r) ∧ Aside0 (kq ≤ k) ∧ Aside0 (Kd.R (Kd.int .i64) 3 wc w.heap.size (fun k_ => some k_ ≠ (v709 : Value).ownBlock) (.slice Ao12 t704.length co12) t704) ∧ Aside0 (Kd.R (Kd.int .i64) 3 wc w.heap.size (fun k_ => some k_ ≠ ((.slice Ao12 t704.length co12) : Value).ownBlock) v709 t708) ∧ Aside0 (Kd.R k70 70 wc w.heap.size (fun _ => True) (.slice Ao9 t698.length co9) t698) ∧ Aside0 (Kd.N k35 35 wc w.heap.size (fun k_ => some k_ ≠ ((.slice Ao12 t704.length co12) : Value).ownBlock ∧ some k_ ≠ (v709 : Value).ownBlock ∧ some k_ ≠ ((.slice Ao9 t698.length co9) : Value).ownBlock ∧ k_ ≠ gb707) (.slice Ao11 t701.length co11) t701) ∧ Aside0 (wc.heap[gb707]? = some (.cells #[(.slice Ao9 t698.length co9), (.slice Ao11 t701.length co11)] 27 (0, 0))) ∧ Aside0 (Below w.heap.size w wc))
  case first =>
   have H := HC6.out
   clear HC6
   replace H := bM H
   obtain ⟨t712, A140, H⟩ := H
   have A14 := aM A140
   clear A140
   by_cases c15 : (t711 != t712) = true
   ·rw [if_pos c15] at H
    have c15b0 : (t711 != t712) = true := c15
    (try (have c15b1 : decide (t711 = t712) = false := by simpa using c15))
    (try (have c15b2 : (t711 == t712) = false := by simpa using c15))
    (try (have c15b3 : ¬ (t711 = t712) := by simpa using c15))
    clear c15
    (first | rw [c15b0] | (simp only [i64_w, i32_w]; rw [c15b0]) | skip)
    have H' := aM H
    clear H
    have hcz16_0 : w13.cell? ⟨gb707, 0, none⟩ = some (.slice Ao9 t698.length co9) := (blk_cell BK707.out 0).trans rfl
    have hcz16_1 : w13.cell? ⟨gb707, 1, none⟩ = some (.slice Ao11 t701.length co11) := (blk_cell BK707.out 1).trans rfl
    have hfz16_0 := blk_frozen BK707.out 0
    have hfz16_1 := blk_frozen BK707.out 1
    go_wp2_with (first | ((with_reducible refine gate_callee (f := 28) rfl ?_); refine goesL_ (some 24) rfl rfl Try.func28 (by kernel_rfl) rfl #[.agg #[.slice Ao9 t698.length co9, .slice Ao11 t701.length co11], .slice Ao12 t704.length co12] rfl aA ?_; (with_reducible refine (spec_IsPartialRepair.calls k _ _ t698 _ _ t701 _ _ t704 t712 _ ?side1 ?side2 ?side3 ?side4 ?side5 ?side6 A14.out).mono ?_); (case side1 => repeat (first | exact (Kd.R_reads' HO700.out).2.2 | (with_reducible refine Kd.C_alloc ?_ _) | (with_reducible refine Kd.C_drewN ?_ _) | (with_reducible refine Kd.C_drew ?_))); (case side2 => exact (Kd.R_reads' HO700.out).2.1); (case side3 => repeat (first | exact (Kd.N_reads' HO703.out).2.2 | (with_reducible refine Kd.C_alloc ?_ _) | (with_reducible refine Kd.C_drewN ?_ _) | (with_reducible refine Kd.C_drew ?_))); (case side4 => exact (Kd.N_reads' HO703.out).2.1); (case side5 => repeat (first | exact (Kd.R_reads' HO706.out).2.2 | (with_reducible refine Kd.C_alloc ?_ _) | (with_reducible refine Kd.C_drewN ?_ _) | (with_reducible refine Kd.C_drew ?_))); (case side6 => exact (Kd.R_reads' HO706.out).2.1); rintro e w17 ⟨rfl, hb⟩; refine ⟨_, rfl, ?_⟩; replace HO700 := aM (Kd.R_below (aR HO700) hb); replace HO703 := aM (Kd.N_below (aN HO703) hb); replace HO706 := aM (Kd.R_below (aR HO706) hb); replace HO710 := aM (Kd.R_below (aR HO710) hb); replace BK707 := aM (blk_below (g := gb707) (o := .cells #[.slice Ao9 t698.length co9, .slice Ao11 t701.length co11] 27 (0, 0)) aK hb); replace HB := aM (below_step aG hb); (try clear hb); (try clear hb2); (try clear hk); (try clear hi)))
    go_meet
    case rel => exact ⟨_, (true), aX, H', ⟨by first | omega | exact Nat.le_refl _⟩, ⟨by (with_reducible repeat apply pR); exact Kd.R_mono HO706.out (fun _ hk => hk.2)⟩, ⟨by (with_reducible repeat apply pR); exact Kd.R_mono HO710.out (fun _ hk => hk.2)⟩, ⟨aR HO700⟩, ⟨by (with_reducible repeat apply pN); exact Kd.N_mono HO703.out (fun _ hk => ⟨hk.1.1.2, ⟨hk.2, ⟨hk.1.1.1, hk.1.2⟩⟩⟩)⟩, ⟨aK⟩, ⟨aG⟩⟩
   ·rw [if_neg c15] at H
    have c15b0 : (t711 != t712) = false := by simpa using c15
    (try (have c15b1 : decide (t711 = t712) = true := by simpa using c15))
    (try (have c15b2 : (t711 == t712) = true := by simpa using c15))
    clear c15
    (first | rw [c15b0] | (simp only [i64_w, i32_w]; rw [c15b0]) | skip)
    replace H := bM H
    obtain ⟨t713, A180, H⟩ := H
    have A18 := aM A180
    clear A180
    have H' := aM H
    clear H
    have hcz19_0 : w13.cell? ⟨gb707, 0, none⟩ = some (.slice Ao9 t698.length co9) := (blk_cell BK707.out 0).trans rfl
    have hcz19_1 : w13.cell? ⟨gb707, 1, none⟩ = some (.slice Ao11 t701.length co11) := (blk_cell BK707.out 1).trans rfl
    have hfz19_0 := blk_frozen BK707.out 0
    have hfz19_1 := blk_frozen BK707.out 1
    go_wp2_with (first | ((with_reducible refine gate_callee (f := 28) rfl ?_); refine goesL_ (some 24) rfl rfl Try.func28 (by kernel_rfl) rfl #[.agg #[.slice Ao9 t698.length co9, .slice Ao11 t701.length co11], .slice Ao12 t704.length co12] rfl aA ?_; (with_reducible refine (spec_IsPartialRepair.calls k _ _ t698 _ _ t701 _ _ t704 t712 _ ?side1 ?side2 ?side3 ?side4 ?side5 ?side6 A14.out).mono ?_); (case side1 => repeat (first | exact (Kd.R_reads' HO700.out).2.2 | (with_reducible refine Kd.C_alloc ?_ _) | (with_reducible refine Kd.C_drewN ?_ _) | (with_reducible refine Kd.C_drew ?_))); (case side2 => exact (Kd.R_reads' HO700.out).2.1); (case side3 => repeat (first | exact (Kd.N_reads' HO703.out).2.2 | (with_reducible refine Kd.C_alloc ?_ _) | (with_reducible refine Kd.C_drewN ?_ _) | (with_reducible refine Kd.C_drew ?_))); (case side4 => exact (Kd.N_reads' HO703.out).2.1); (case side5 => repeat (first | exact (Kd.R_reads' HO706.out).2.2 | (with_reducible refine Kd.C_alloc ?_ _) | (with_reducible refine Kd.C_drewN ?_ _) | (with_reducible refine Kd.C_drew ?_))); (case side6 => exact (Kd.R_reads' HO706.out).2.1); rintro e w20 ⟨rfl, hb⟩; refine ⟨_, rfl, ?_⟩; replace HO700 := aM (Kd.R_below (aR HO700) hb); replace HO703 := aM (Kd.N_below (aN HO703) hb); replace HO706 := aM (Kd.R_below (aR HO706) hb); replace HO710 := aM (Kd.R_below (aR HO710) hb); replace BK707 := aM (blk_below (g := gb707) (o := .cells #[.slice Ao9 t698.length co9, .slice Ao11 t701.length co11] 27 (0, 0)) aK hb); replace HB := aM (below_step aG hb); (try clear hb); (try clear hb2); (try clear hk); (try clear hi); have hcz21_0 : w20.cell? ⟨gb707, 0, none⟩ = some (.slice Ao9 t698.length co9) := (blk_cell BK707.out 0).trans rfl; have hcz21_1 : w20.cell? ⟨gb707, 1, none⟩ = some (.slice Ao11 t701.length co11) := (blk_cell BK707.out 1).trans rfl; have hfz21_0 := blk_frozen BK707.out 0; have hfz21_1 := blk_frozen BK707.out 1) | (go_at_call 29; (with_reducible refine (impl_IsPartialRepair.calls k _ _ t698 _ _ t701 _ _ t704 t713 _ ?side1 ?side2 ?side3 ?side4 ?side5 ?side6 A18.out).mono ?_); (case side1 => repeat (first | exact (Kd.R_reads' HO700.out).2.2 | (with_reducible refine Kd.C_alloc ?_ _) | (with_reducible refine Kd.C_drewN ?_ _) | (with_reducible refine Kd.C_drew ?_))); (case side2 => exact (Kd.R_reads' HO700.out).2.1); (case side3 => repeat (first | exact (Kd.N_reads' HO703.out).2.2 | (with_reducible refine Kd.C_alloc ?_ _) | (with_reducible refine Kd.C_drewN ?_ _) | (with_reducible refine Kd.C_drew ?_))); (case side4 => exact (Kd.N_reads' HO703.out).2.1); (case side5 => repeat (first | exact (Kd.R_reads' HO706.out).2.2 | (with_reducible refine Kd.C_alloc ?_ _) | (with_reducible refine Kd.C_drewN ?_ _) | (with_reducible refine Kd.C_drew ?_))); (case side6 => exact (Kd.R_reads' HO706.out).2.1); rintro e w22 ⟨rfl, hb⟩; replace HO700 := aM (Kd.R_below (aR HO700) hb); replace HO703 := aM (Kd.N_below (aN HO703) hb); replace HO706 := aM (Kd.R_below (aR HO706) hb); replace HO710 := aM (Kd.R_below (aR HO710) hb); replace BK707 := aM (blk_below (g := gb707) (o := .cells #[.slice Ao9 t698.length co9, .slice Ao11 t701.length co11] 27 (0, 0)) aK hb); replace HB := aM (below_step aG hb); (try clear hb); (try clear hb2); (try clear hk); (try clear hi)))
    go_meet
    case rel => exact ⟨_, ((t713 != t711)), aX, H', ⟨by first | omega | exact Nat.le_refl _⟩, ⟨by (with_reducible repeat apply pR); exact Kd.R_mono HO706.out (fun _ hk => hk.2)⟩, ⟨by (with_reducible repeat apply pR); exact Kd.R_mono HO710.out (fun _ hk => hk.2)⟩, ⟨aR HO700⟩, ⟨by (with_reducible repeat apply pN); exact Kd.N_mono HO703.out (fun _ hk => ⟨hk.1.1.2, ⟨hk.2, ⟨hk.1.1.1, hk.1.2⟩⟩⟩)⟩, ⟨aK⟩, ⟨aG⟩⟩
  case rest =>
   clear HC6
   try clear c1
   try clear c2
   try clear p2
   try clear c3
   try clear c5
   try clear c7
   try clear c15
   try clear c15b0
   try clear c15b1
   try clear c15b2
   try clear hcz10_0
   try clear hcz10_1
   try clear hcz16_0
   try clear hcz16_1
   try clear hcz19_0
   try clear hcz19_1
   try clear hcz21_0
   try clear hcz21_1
   try clear hfz10_0
   try clear hfz10_1
   try clear hfz16_0
   try clear hfz16_1
   try clear hfz19_0
   try clear hfz19_1
   try clear hfz21_0
   try clear hfz21_1
   obtain ⟨kq, x32_5, rfl, HA, HJ5, HO_4, HO_5, HO_708000, HO_708001, BK707, HB⟩ := hcut
   cases kq with
   | zero => exact absurd HA.out (by simp [laws_FnExtendToRepair.j0])
   | succ kj5 =>
    have H := HA.out
    clear HA
    simp only [laws_FnExtendToRepair.j0] at H
    by_cases c23 : x32_5 = true
    ·subst c23
     replace H := iT H
     exact absurd (Option.some.inj (H.trans (congrArg some HRT_.out))) (by decide)
    ·replace c23 := Bool.eq_false_iff.mpr c23
     subst c23
     have H1 : (if t711 = true then (laws_FnExtendToRepair.l0 kj5 t704 t708 0 t698 t701) else (some ((t708.length : Int) == 0))) = some r := by rw [if_neg (show ¬ (false = true) by decide)] at H; exact H
     clear H
     have H := H1
     clear H1
     by_cases c24 : t711 = true
     ·subst c24
      replace H := iT H
      have H' := aM H
      clear H
      go_wp2
      go_loopg [7] kj5 (fun kq v7 w' => ∃ (x7_2 : Int), v7 = .int .i64 x7_2 ∧ Aside0 (laws_FnExtendToRepair.l0 kq t704 t708 x7_2 t698 t701 = some r) ∧ Aside0 (kq ≤ kj5) ∧ Aside0 (Kd.R (Kd.int .i64) 3 w' w.heap.size (fun k_ => some k_ ≠ (v709 : Value).ownBlock) (.slice Ao12 t704.length co12) t704) ∧ Aside0 (Kd.R (Kd.int .i64) 3 w' w.heap.size (fun k_ => some k_ ≠ ((.slice Ao12 t704.length co12) : Value).ownBlock) v709 t708) ∧ Aside0 (Kd.R k70 70 w' w.heap.size (fun _ => True) (.slice Ao9 t698.length co9) t698) ∧ Aside0 (Kd.N k35 35 w' w.heap.size (fun k_ => some k_ ≠ ((.slice Ao12 t704.length co12) : Value).ownBlock ∧ some k_ ≠ (v709 : Value).ownBlock ∧ some k_ ≠ ((.slice Ao9 t698.length co9) : Value).ownBlock ∧ k_ ≠ gb707) (.slice Ao11 t701.length co11) t701) ∧ Aside0 (w'.heap[gb707]? = some (.cells #[(.slice Ao9 t698.length co9), (.slice Ao11 t701.length co11)] 27 (0, 0))) ∧ Aside0 (Below w.heap.size w w'))
      case atStart => exact ⟨(0), aX, H', ⟨Nat.le_refl _⟩, ⟨aR HO_4⟩, ⟨aR HO_5⟩, ⟨aR HO_708000⟩, ⟨aN HO_708001⟩, ⟨aK⟩, ⟨aG⟩⟩
      case round =>
       clear H'
       try clear c1
       try clear c2
       try clear p2
       try clear c3
       try clear c5
       try clear c7
       try clear c15
       try clear c15b0
       try clear c15b1
       try clear c15b2
       try clear c23
       try clear c24
       try clear hcz10_0
       try clear hcz10_1
       try clear hcz16_0
       try clear hcz16_1
       try clear hcz19_0
       try clear hcz19_1
       try clear hcz21_0
       try clear hcz21_1
       try clear hfz10_0
       try clear hfz10_1
       try clear hfz16_0
       try clear hfz16_1
       try clear hfz19_0
       try clear hfz19_1
       try clear hfz21_0
       try clear hfz21_1
       try clear p2
       obtain ⟨x7_2, rfl, HA, HK2, HO_4, HO_5, HO_708000, HO_708001, BK707, HB⟩ := hrel
       cases gk with
       | zero => exact absurd HA.out (by simp [laws_FnExtendToRepair.l0])
       | succ k2 =>
        have H := HA.out
        clear HA
        simp only [laws_FnExtendToRepair.l0] at H
        by_cases c25 : x7_2 < (t704.length : Int)
        ·rw [if_pos c25] at H
         have c25b0 : decide (x7_2 < (t704.length : Int)) = true := decide_eq_true c25
         clear c25
         by_cases c26 : 0 ≤ x7_2
         ·rw [if_pos c26] at H
          have c26b0 : decide (0 ≤ x7_2) = true := decide_eq_true c26
          clear c26
          replace H := bM H
          obtain ⟨t715, A270, H⟩ := H
          have A27 := aM A270
          clear A270
          by_cases c28 : t715 = true
          ·subst c28
           replace H := iT H
           have H' := aM H
           clear H
           have p714 : 0 ≤ (x7_2 : Int) := aD
           have q714 : x7_2 < (t704.length : Int) := aD
           obtain ⟨ad714, e714, hx714_0⟩ := Kd.at_int (Kd.R_reads' HO_4.out).2.2 x7_2 p714 q714
           cases e714
           replace p714 := eq_true p714
           replace q714 := eq_true q714
           obtain ⟨Ao29, co29, eo29⟩ := Kd.R_slice HO_5.out
           subst eo29
           go_wp2_with (first | ((with_reducible refine gate_callee (f := 30) rfl ?_); refine goesL_ (some 49) rfl rfl Try.func30 (by kernel_rfl) rfl #[.slice Ao29 t708.length co29, .int .i64 (rd t704 x7_2)] rfl aA ?_; (with_reducible refine (laws_has.calls k2 _ _ t708 (rd t704 x7_2) true _ ?side1 ?side2 A27.out).mono ?_); (case side1 => repeat (first | exact (Kd.R_reads' HO_5.out).2.2 | (with_reducible refine Kd.C_alloc ?_ _) | (with_reducible refine Kd.C_drewN ?_ _) | (with_reducible refine Kd.C_drew ?_))); (case side2 => exact (Kd.R_reads' HO_5.out).2.1); rintro e w' ⟨rfl, ⟨nd, rfl⟩⟩; refine ⟨_, rfl, ?_⟩))
           go_roundg k2
           case measure => have := HJ5.out; have := HK2.out; omega
           case rel => exact ⟨(wrap64 (x7_2 + 1)), aX, H', ⟨by have := HJ5.out; have := HK2.out; omega⟩, ⟨aR HO_4⟩, ⟨aR HO_5⟩, ⟨aR HO_708000⟩, ⟨aN HO_708001⟩, ⟨aK⟩, ⟨aG⟩⟩
          ·replace c28 := Bool.eq_false_iff.mpr c28
           subst c28
           have H1 : (some false) = some r := by rw [if_neg (show ¬ (false = true) by decide)] at H; exact H
           clear H
           have H := H1
           clear H1
           exact absurd (Option.some.inj (H.trans (congrArg some HRT_.out))) (by decide)
         ·rw [if_neg c26] at H
          exact absurd H (by simp)
        ·rw [if_neg c25] at H
         have c25b0 : decide (x7_2 < (t704.length : Int)) = false := decide_eq_false c25
         clear c25
         replace H := bM H
         obtain ⟨t716, A300, H⟩ := H
         have A30 := aM A300
         clear A300
         by_cases c31 : t716 = true
         ·subst c31
          replace H := iT H
          replace H := bM H
          obtain ⟨t717, A320, H⟩ := H
          have A32 := aM A320
          clear A320
          obtain rfl := Option.some.inj H
          have hcz33_0 : wr.cell? ⟨gb707, 0, none⟩ = some (.slice Ao9 t698.length co9) := (blk_cell BK707.out 0).trans rfl
          have hcz33_1 : wr.cell? ⟨gb707, 1, none⟩ = some (.slice Ao11 t701.length co11) := (blk_cell BK707.out 1).trans rfl
          have hfz33_0 := blk_frozen BK707.out 0
          have hfz33_1 := blk_frozen BK707.out 1
          obtain ⟨Ao34, co34, eo34⟩ := Kd.R_slice HO_5.out
          subst eo34
          go_wp2_with (first | ((with_reducible refine gate_callee (f := 31) rfl ?_); refine goesL_ (some 53) rfl rfl Try.func31 (by kernel_rfl) rfl #[.agg #[.slice Ao9 t698.length co9, .slice Ao11 t701.length co11], .slice Ao34 t708.length co34] rfl aA ?_; (with_reducible refine (impl_IsRepair.calls k2 _ _ t698 _ _ t701 _ _ t708 true _ ?side1 ?side2 ?side3 ?side4 ?side5 ?side6 A30.out).mono ?_); (case side1 => repeat (first | exact (Kd.R_reads' HO_708000.out).2.2 | (with_reducible refine Kd.C_alloc ?_ _) | (with_reducible refine Kd.C_drewN ?_ _) | (with_reducible refine Kd.C_drew ?_))); (case side2 => exact (Kd.R_reads' HO_708000.out).2.1); (case side3 => repeat (first | exact (Kd.N_reads' HO_708001.out).2.2 | (with_reducible refine Kd.C_alloc ?_ _) | (with_reducible refine Kd.C_drewN ?_ _) | (with_reducible refine Kd.C_drew ?_))); (case side4 => exact (Kd.N_reads' HO_708001.out).2.1); (case side5 => repeat (first | exact (Kd.R_reads' HO_5.out).2.2 | (with_reducible refine Kd.C_alloc ?_ _) | (with_reducible refine Kd.C_drewN ?_ _) | (with_reducible refine Kd.C_drew ?_))); (case side6 => exact (Kd.R_reads' HO_5.out).2.1); rintro e w35 ⟨rfl, hb⟩; refine ⟨_, rfl, ?_⟩; replace HO_4 := aM (Kd.R_below (aR HO_4) hb); replace HO_5 := aM (Kd.R_below (aR HO_5) hb); replace HO_708000 := aM (Kd.R_below (aR HO_708000) hb); replace HO_708001 := aM (Kd.N_below (aN HO_708001) hb); replace BK707 := aM (blk_below (g := gb707) (o := .cells #[.slice Ao9 t698.length co9, .slice Ao11 t701.length co11] 27 (0, 0)) aK hb); replace HB := aM (below_step aG hb); (try clear hb); (try clear hb2); (try clear hk); (try clear hi); have hcz36_0 : w35.cell? ⟨gb707, 0, none⟩ = some (.slice Ao9 t698.length co9) := (blk_cell BK707.out 0).trans rfl; have hcz36_1 : w35.cell? ⟨gb707, 1, none⟩ = some (.slice Ao11 t701.length co11) := (blk_cell BK707.out 1).trans rfl; have hfz36_0 := blk_frozen BK707.out 0; have hfz36_1 := blk_frozen BK707.out 1) | (go_at_call 32; (with_reducible refine (spec_IsRepair.calls k2 _ _ t698 _ _ t701 _ _ t708 t717 _ ?side1 ?side2 ?side3 ?side4 ?side5 ?side6 A32.out).mono ?_); (case side1 => repeat (first | exact (Kd.R_reads' HO_708000.out).2.2 | (with_reducible refine Kd.C_alloc ?_ _) | (with_reducible refine Kd.C_drewN ?_ _) | (with_reducible refine Kd.C_drew ?_))); (case side2 => exact (Kd.R_reads' HO_708000.out).2.1); (case side3 => repeat (first | exact (Kd.N_reads' HO_708001.out).2.2 | (with_reducible refine Kd.C_alloc ?_ _) | (with_reducible refine Kd.C_drewN ?_ _) | (with_reducible refine Kd.C_drew ?_))); (case side4 => exact (Kd.N_reads' HO_708001.out).2.1); (case side5 => repeat (first | exact (Kd.R_reads' HO_5.out).2.2 | (with_reducible refine Kd.C_alloc ?_ _) | (with_reducible refine Kd.C_drewN ?_ _) | (with_reducible refine Kd.C_drew ?_))); (case side6 => exact (Kd.R_reads' HO_5.out).2.1); rintro e w37 ⟨rfl, hb⟩; replace HO_4 := aM (Kd.R_below (aR HO_4) hb); replace HO_5 := aM (Kd.R_below (aR HO_5) hb); replace HO_708000 := aM (Kd.R_below (aR HO_708000) hb); replace HO_708001 := aM (Kd.N_below (aN HO_708001) hb); replace BK707 := aM (blk_below (g := gb707) (o := .cells #[.slice Ao9 t698.length co9, .slice Ao11 t701.length co11] 27 (0, 0)) aK hb); replace HB := aM (below_step aG hb); (try clear hb); (try clear hb2); (try clear hk); (try clear hi)))
          go_ret
          exact ⟨aE, aG⟩
         ·replace c31 := Bool.eq_false_iff.mpr c31
          subst c31
          have H1 : (some false) = some r := by rw [if_neg (show ¬ (false = true) by decide)] at H; exact H
          clear H
          have H := H1
          clear H1
          exact absurd (Option.some.inj (H.trans (congrArg some HRT_.out))) (by decide)
     ·replace c24 := Bool.eq_false_iff.mpr c24
      subst c24
      have H1 : (some ((t708.length : Int) == 0)) = some r := by rw [if_neg (show ¬ (false = true) by decide)] at H; exact H
      clear H
      have H := H1
      clear H1
      obtain rfl := Option.some.inj H
      obtain ⟨Ao38, co38, eo38⟩ := Kd.R_slice HO_5.out
      subst eo38
      go_wp2
      go_ret
      exact ⟨aE, aG⟩

/-- THE ONE PURE STATEMENT of laws_FnExtendToRepair: yours. -/
def laws_FnExtendToRepair.Pure : Prop := ∀ (l0 : List Int), l0.length ≤ maxLen → l0.length * 1 ≤ 140737488351232 → (∀ x ∈ l0, (Lit.int .u8 x).wf = true) → ∃ k, laws_FnExtendToRepair.f k l0 = some true
theorem laws_FnExtendToRepair.walk (P : laws_FnExtendToRepair.Pure) (a0 : Option Addr) (len0 cap0 : Nat) (z0 : List Int) (w : World) (w0 : (a0 = none ∧ len0 = 0 ∧ cap0 = 0 ∧ z0 = []) ∨ ∃ x, a0 = some x ∧ len0 ≤ cap0 ∧ cap0 ≤ maxLen ∧ z0.length = cap0 ∧ (∀ i, i < z0.length → w.cell? (x.add i) = some (.int .u8 (z0.getD i 0))) ∧ ∀ n ∈ z0, (Lit.int .u8 n).wf = true) (y0 : len0 * 1 ≤ 140737488351232) :
  Calls Try.prog 5 #[.slice a0 len0 cap0] w fun e w' => e = .returned (.bool true) ∧ Below w.heap.size w w' := by
 obtain ⟨l0, rfl, hr0, hm0, hw0, hc0⟩ := ReadsInt.ofRowC w0
 obtain ⟨k, h⟩ := P l0 hm0 y0 hw0
 refine (laws_FnExtendToRepair.calls k _ _ l0 true w (Kd.C_of_reads (d := (0 : Int)) (h1 := fun _ => rfl) hr0) hc0 h rfl).mono ?_
 rintro e w' ⟨rfl, hd⟩
 exact ⟨rfl, hd⟩

end Go.Proofs.Ytbdeimhlohhhiaa.PFnExtendToRepair
