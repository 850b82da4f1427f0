-- Laid by a program of this claim: what the functions come to, some of them proved by hand.
import Derived.Test.YtckpikfbhlhhjaaDoorPFnExactFormatFactsx0
import Derived.Test.YtckpikfbhlhhjaaDoorPFnExactFormatFactsx2
import Derived.Test.YtckpikfbhlhhjaaDoorPFnExactFormatFactsx3
namespace Go.Proofs.YtckpikfbhlhhjaaDoor.PFnExactFormatFacts
open Go.RowKit Go.Proofs.YtckpikfbhlhhjaaDoorW.PrintWords Go.Proofs.YtckpikfbhlhhjaaDoorW.PrintLast Go.Proofs.YtckpikfbhlhhjaaDoorW.PrintMore
attribute [local go_sem] max2_int min2_int max_two min_two max_three min_three max_four min_four   -- for this text's walks alone
set_option linter.unusedVariables false
set_option linter.unusedSimpArgs false

/-! ### impl_SelectFacts: function 28 -/
mutual
def impl_SelectFacts.j0 : Nat → List Int → Bool → List (S68) → List (S39) → Option ((List (S68)) × (List (S39)) × Bool)
 | 0, _, _, _, _ => none
 | k + 1, x1, x20, x211000, x211001 => if x20 = true then (some (([] : List (S68)), ([] : List (S39)), false)) else ((impl_copyDatabase.f k x211000 x211001).bind fun bt214 => (impl_SelectFacts.l0 k x1 (x1.length : Int) 0 bt214.1 bt214.2 bt214.1 ([] : List (S39))))
def impl_SelectFacts.l0 : Nat → List Int → Int → Int → List (S68) → List (S39) → List (S68) → List (S39) → Option ((List (S68)) × (List (S39)) × Bool)
 | 0, _, _, _, _, _, _, _ => none
 | k + 1, x27, x28, x29, x221000, x221001, x222000, x222001 => if x29 < x28 then (if 0 ≤ x29 then (if x29 < (x27.length : Int) then (if 0 ≤ (rd x27 x29) then (if (rd x27 x29) < (x221001.length : Int) then (if x222001.length < 4398046511104 then (impl_SelectFacts.l0 k x27 x28 (wrap64 (x29 + 1)) x221000 x221001 x222000 (x222001 ++ [(⟨(rd_T39 x221001 (rd x27 x29)).f0, (rd_T39 x221001 (rd x27 x29)).f1⟩ : S39)])) else (none)) else (none)) else (none)) else (none)) else (none)) else (some (x222000, x222001, true))
end
def impl_SelectFacts.f (k : Nat) (l0_0 : List (S68)) (l0_1 : List (S39)) (l1 : List Int) : Option ((List (S68)) × (List (S39)) × Bool) := (impl_IsValidDatabase.f l0_0 l0_1).bind fun t212 => (if t212 = true then ((impl_areIndices.f k l1 (l0_1.length : Int)).bind fun t213 => (impl_SelectFacts.j0 k l1 (!t213) l0_0 l0_1)) else (impl_SelectFacts.j0 k l1 true l0_0 l0_1))
def impl_SelectFacts.T8 : Bool × List (List Nat × List Nat) := (true, [([], []), ([0], [0]), ([], []), ([2], [2]), ([], []), ([3, 4], [3, 4]), ([5], [5]), ([6], [6]), ([1, 7], [1, 7]), ([0, 1, 2, 3, 4, 5, 6, 7, 8], []), ([9, 8, 8, 0, 1, 2, 3, 4, 5, 6, 7, 8], [8, 9])])
def impl_SelectFacts.B8 : List Nat := [0, 1, 0, 4, 0, 28, 60, 124, 255, 511, 1023]
theorem impl_SelectFacts.tab8 : rtab .any (opsOf Tryd.f28 8) = impl_SelectFacts.T8 := by kernel_rfl
theorem impl_SelectFacts.bits8 : waitsOk impl_SelectFacts.T8.2 impl_SelectFacts.B8 = true := by kernel_rfl
set_option maxHeartbeats 8000000 in
set_option maxRecDepth 100000 in
theorem impl_SelectFacts.calls (k : Nat) (A0_0 : Option Addr) (c0_0 : Nat) (l0_0 : List (S68)) (A0_1 : Option Addr) (c0_1 : Nat) (l0_1 : List (S39)) (A1 : Option Addr) (c1 : Nat) (l1 : List Int) (r1 : List (S68)) (r2 : List (S39)) (r3 : Bool) (w : World) (hr0_0 : Kd.C k68 w A0_0 l0_0.length l0_0) (hc0_0 : l0_0.length ≤ c0_0) (hr0_1 : Kd.C k39 w A0_1 l0_1.length l0_1) (hc0_1 : l0_1.length ≤ c0_1) (hr1 : Kd.C (Kd.int .i64) w A1 l1.length l1) (hc1 : l1.length ≤ c1) (h : impl_SelectFacts.f k l0_0 l0_1 l1 = some (r1, r2, r3)) :
  Calls Tryd.prog 28 #[.agg #[.slice A0_0 l0_0.length c0_0, .slice A0_1 l0_1.length c0_1], .slice A1 l1.length c1] w fun e w' => ∃ v0_ v1_ : Value, e = .returned (.tuple #[.agg #[v0_, v1_], .bool r3]) ∧ Kd.R k68 68 w' w.heap.size (fun k_ => (w.heap.size ≤ k_)) v0_ r1 ∧ Kd.N k39 39 w' w.heap.size (fun k_ => (w.heap.size ≤ k_) ∧ some k_ ≠ (v0_ : Value).ownBlock) v1_ r2 ∧ Below w.heap.size w w' := by
 have hu31 := Tryd.underlying31
 have hu39 := Tryd.underlying39
 have HR0_0 := aM hr0_0
 have HC0_0 := aM hc0_0
 clear hr0_0 hc0_0
 have HR0_1 := aM hr0_1
 have HC0_1 := aM hc0_1
 clear hr0_1 hc0_1
 have HR1 := aM hr1
 have HC1 := aM hc1
 clear hr1 hc1
 have HB := aM (Below.refl w.heap.size w)
 have H : ((impl_IsValidDatabase.f l0_0 l0_1).bind fun t212 => (if t212 = true then ((impl_areIndices.f k l1 (l0_1.length : Int)).bind fun t213 => (impl_SelectFacts.j0 k l1 (!t213) l0_0 l0_1)) else (impl_SelectFacts.j0 k l1 true l0_0 l0_1))) = some (r1, r2, r3) := h
 clear h
 have HC3 := aM H
 clear H
 go_enter Tryd.func28, Tryd.ntmps28
 go_upto_region 1 with (first | ((with_reducible refine gate_dst (N := 2) rfl ?_); (try (refine gate_guard (by rfl) ?_; dsimp only)); refine box_event ?hg (N := 2) ?hd (cs := #[.slice A0_0 l0_0.length c0_0, .slice A0_1 l0_1.length c0_1]) (t := 31) ?hr ?_; (case hd => rfl); (case hg => rfl); (case hr => first | (go_simp; done) | (go_simp; rfl)); intro gb210 hg w4 hbox hb; have n0_ := aM (below_step aB hb); have n1_ := aM (hbox); have n2_ := aM ((by rw [hg]; exact (below_size aB) : w.heap.size ≤ gb210)); have n3_ := aM ((by rw [hg]; exact (below_size aB) : w.heap.size ≤ gb210)); clear HB; have HB := n0_; have BK210 := n1_; have GW210 := n2_; have GE210 := n3_; clear n0_ n1_ n2_ n3_; clear hb hbox hg) | ((with_reducible refine gate_dst (N := 4) rfl ?_); (try (refine gate_guard (by rfl) ?_; dsimp only)); refine box_event ?hg (N := 4) ?hd (cs := #[.slice none 0 0, .slice none 0 0]) (t := 31) ?hr ?_; (case hd => rfl); (case hg => rfl); (case hr => first | (go_simp; done) | (go_simp; rfl)); intro gb211 hg w5 hbox hb; have n0_ := aM (blk_below (g := gb210) (o := .cells #[.slice A0_0 l0_0.length c0_0, .slice A0_1 l0_1.length c0_1] 31 (0, 0)) aK hb); have n1_ := aM (below_step aG hb); have n2_ := aM (hbox); have n3_ := aM ((by rw [hg]; exact (below_size aG) : w.heap.size ≤ gb211)); have n4_ := aM ((by rw [hg]; exact (below_size aG) : w.heap.size ≤ gb211)); have n5_ := aM ((by rw [hg]; exact Nat.ne_of_lt (blk_lt (g := gb210) (o := .cells #[.slice A0_0 l0_0.length c0_0, .slice A0_1 l0_1.length c0_1] 31 (0, 0)) aK) : gb210 ≠ gb211)); have n6_ := aM ((by rw [hg]; exact Nat.ne_of_gt (blk_lt (g := gb210) (o := .cells #[.slice A0_0 l0_0.length c0_0, .slice A0_1 l0_1.length c0_1] 31 (0, 0)) aK) : gb211 ≠ gb210)); clear BK210; clear HB; have BK210 := n0_; have HB := n1_; have BK211 := n2_; have GW211 := n3_; have GE211 := n4_; have NB210_211 := n5_; have NB211_210 := n6_; clear n0_ n1_ n2_ n3_ n4_ n5_ n6_; clear hb hbox hg))
 (try simp only [Act.put, List.setIfInBounds_toArray, List.set_cons_zero, List.set_cons_succ])
 go_cut [20] (fun v20 wc => ∃ (kq : Nat) (x20_2 : Bool), v20 = .bool x20_2 ∧ Aside0 (impl_SelectFacts.j0 kq l1 x20_2 l0_0 l0_1 = some (r1, r2, r3)) ∧ Aside0 (kq ≤ k) ∧ Aside0 (wc.heap[gb210]? = some (.cells #[(.slice A0_0 l0_0.length c0_0), (.slice A0_1 l0_1.length c0_1)] 31 (0, 0))) ∧ Aside0 (wc.heap[gb211]? = some (.cells #[(.slice none 0 0), (.slice none 0 0)] 31 (0, 0))) ∧ Aside0 (Below w.heap.size w wc))
 case first =>
  have H := HC3.out
  clear HC3
  replace H := Option.bind_eq_some_iff.mp H
  obtain ⟨t212, A60, H⟩ := H
  replace H : (if t212 = true then ((impl_areIndices.f k l1 (l0_1.length : Int)).bind fun t213 => (impl_SelectFacts.j0 k l1 (!t213) l0_0 l0_1)) else (impl_SelectFacts.j0 k l1 true l0_0 l0_1)) = some (r1, r2, r3) := H
  have A6 := aM A60
  clear A60
  by_cases c7 : t212 = true
  ·subst c7
   have H1 : ((impl_areIndices.f k l1 (l0_1.length : Int)).bind fun t213 => (impl_SelectFacts.j0 k l1 (!t213) l0_0 l0_1)) = some (r1, r2, r3) := by rw [if_pos rfl] at H; exact H
   clear H
   have H := H1
   clear H1
   replace H := Option.bind_eq_some_iff.mp H
   obtain ⟨t213, A80, H⟩ := H
   replace H : (impl_SelectFacts.j0 k l1 (!t213) l0_0 l0_1) = some (r1, r2, r3) := H
   have A8 := aM A80
   clear A80
   have H' := aM H
   clear H
   have hnb9 := NB210_211.out
   have hnc9 := NB211_210.out
   have hcz10_0 : w5.cell? ⟨gb210, 0, none⟩ = some (.slice A0_0 l0_0.length c0_0) := (blk_cell BK210.out 0).trans rfl
   have hcz10_1 : w5.cell? ⟨gb210, 1, none⟩ = some (.slice A0_1 l0_1.length c0_1) := (blk_cell BK210.out 1).trans rfl
   have hfz10_0 := blk_frozen BK210.out 0
   have hfz10_1 := blk_frozen BK210.out 1
   go_wp2_with (first | ((with_reducible refine gate_callee (f := 34) rfl ?_); refine goesL_ (some 11) rfl rfl Tryd.func34 (by kernel_rfl) rfl #[.agg #[.slice A0_0 l0_0.length c0_0, .slice A0_1 l0_1.length c0_1]] rfl (by (try simp only [List.map_toArray, List.map_cons, List.map_nil]); first | done | rfl | (simp only [List.length_drop, List.length_take]; rfl)) ?_; (with_reducible refine (impl_IsValidDatabase.calls _ _ l0_0 _ _ l0_1 true _ ?side1 ?side2 ?side3 ?side4 A6.out).mono ?_); (case side1 => exact aC); (case side2 => exact HC0_0.out); (case side3 => exact aC); (case side4 => exact HC0_1.out); rintro e w11 ⟨rfl, hb⟩; refine ⟨_, rfl, ?_⟩; have n0_ := aM (blk_below (g := gb210) (o := .cells #[.slice A0_0 l0_0.length c0_0, .slice A0_1 l0_1.length c0_1] 31 (0, 0)) aK hb); have n1_ := aM (blk_below (g := gb211) (o := .cells #[.slice none 0 0, .slice none 0 0] 31 (0, 0)) aK hb); have n2_ := aM (below_step aG hb); clear BK210; clear BK211; clear HB; have BK210 := n0_; have BK211 := n1_; have HB := n2_; clear n0_ n1_ n2_; (try clear hb); (try clear hb2); (try clear hk); (try clear hi); have hcz12_0 : w11.cell? ⟨gb210, 0, none⟩ = some (.slice A0_0 l0_0.length c0_0) := (blk_cell BK210.out 0).trans rfl; have hcz12_1 : w11.cell? ⟨gb210, 1, none⟩ = some (.slice A0_1 l0_1.length c0_1) := (blk_cell BK210.out 1).trans rfl; have hfz12_0 := blk_frozen BK210.out 0; have hfz12_1 := blk_frozen BK210.out 1) | (go_at_call 73; (with_reducible refine (impl_areIndices.calls k _ _ l1 (l0_1.length : Int) t213 _ ?side1 ?side2 A8.out).mono ?_); (case side1 => exact aC); (case side2 => exact HC1.out); rintro e w' ⟨rfl, ⟨nd, rfl⟩⟩))
   go_meet
   case rel => exact ⟨_, (!t213), (by first | rfl | (simp; done) | (simp [*]; done)), H', ⟨by first | omega | exact Nat.le_refl _⟩, ⟨by (with_reducible repeat (first | refine blk_drewN ?_ _ | refine blk_drew ?_ | refine blk_alloc ?_ _)); exact BK210.out⟩, ⟨by (with_reducible repeat (first | refine blk_drewN ?_ _ | refine blk_drew ?_ | refine blk_alloc ?_ _)); exact BK211.out⟩, ⟨by repeat (first | (with_reducible first | exact HB.out | apply below_alloc | apply pw_below_drewN | apply below_drew1 | refine below_set ?_ GE210.out | refine below_set ?_ GE211.out) | exact HB.out)⟩⟩
  ·replace c7 := Bool.eq_false_iff.mpr c7
   subst c7
   have H1 : (impl_SelectFacts.j0 k l1 true l0_0 l0_1) = some (r1, r2, r3) := by rw [if_neg (show ¬ (false = true) by decide)] at H; exact H
   clear H
   have H := H1
   clear H1
   have H' := aM H
   clear H
   have hnb13 := NB210_211.out
   have hnc13 := NB211_210.out
   have hcz14_0 : w5.cell? ⟨gb210, 0, none⟩ = some (.slice A0_0 l0_0.length c0_0) := (blk_cell BK210.out 0).trans rfl
   have hcz14_1 : w5.cell? ⟨gb210, 1, none⟩ = some (.slice A0_1 l0_1.length c0_1) := (blk_cell BK210.out 1).trans rfl
   have hfz14_0 := blk_frozen BK210.out 0
   have hfz14_1 := blk_frozen BK210.out 1
   go_wp2_with (first | ((with_reducible refine gate_callee (f := 34) rfl ?_); refine goesL_ (some 11) rfl rfl Tryd.func34 (by kernel_rfl) rfl #[.agg #[.slice A0_0 l0_0.length c0_0, .slice A0_1 l0_1.length c0_1]] rfl (by (try simp only [List.map_toArray, List.map_cons, List.map_nil]); first | done | rfl | (simp only [List.length_drop, List.length_take]; rfl)) ?_; (with_reducible refine (impl_IsValidDatabase.calls _ _ l0_0 _ _ l0_1 false _ ?side1 ?side2 ?side3 ?side4 A6.out).mono ?_); (case side1 => exact aC); (case side2 => exact HC0_0.out); (case side3 => exact aC); (case side4 => exact HC0_1.out); rintro e w15 ⟨rfl, hb⟩; refine ⟨_, rfl, ?_⟩; have n0_ := aM (blk_below (g := gb210) (o := .cells #[.slice A0_0 l0_0.length c0_0, .slice A0_1 l0_1.length c0_1] 31 (0, 0)) aK hb); have n1_ := aM (blk_below (g := gb211) (o := .cells #[.slice none 0 0, .slice none 0 0] 31 (0, 0)) aK hb); have n2_ := aM (below_step aG hb); clear BK210; clear BK211; clear HB; have BK210 := n0_; have BK211 := n1_; have HB := n2_; clear n0_ n1_ n2_; (try clear hb); (try clear hb2); (try clear hk); (try clear hi)))
   go_meet
   case rel => exact ⟨_, (true), (by first | rfl | (simp; done) | (simp [*]; done)), H', ⟨by first | omega | exact Nat.le_refl _⟩, ⟨by (with_reducible repeat (first | refine blk_drewN ?_ _ | refine blk_drew ?_ | refine blk_alloc ?_ _)); exact BK210.out⟩, ⟨by (with_reducible repeat (first | refine blk_drewN ?_ _ | refine blk_drew ?_ | refine blk_alloc ?_ _)); exact BK211.out⟩, ⟨by repeat (first | (with_reducible first | exact HB.out | apply below_alloc | apply pw_below_drewN | apply below_drew1 | refine below_set ?_ GE210.out | refine below_set ?_ GE211.out) | exact HB.out)⟩⟩
 case rest =>
  clear HC3
  try clear c1
  try clear c2
  try clear p2
  try clear c3
  try clear c7
  try clear c9
  try clear c13
  try clear hcz10_0
  try clear hcz10_1
  try clear hcz12_0
  try clear hcz12_1
  try clear hcz14_0
  try clear hcz14_1
  try clear hfz10_0
  try clear hfz10_1
  try clear hfz12_0
  try clear hfz12_1
  try clear hfz14_0
  try clear hfz14_1
  obtain ⟨kq, x20_2, rfl, HA, HJ2, BK210, BK211, HB⟩ := hcut
  cases kq with
  | zero => exact absurd HA.out (by simp [impl_SelectFacts.j0])
  | succ kj2 =>
   have H := HA.out
   clear HA
   simp only [impl_SelectFacts.j0] at H
   by_cases c16 : x20_2 = true
   ·subst c16
    have H1 : (some (([] : List (S68)), ([] : List (S39)), false)) = some (r1, r2, r3) := by rw [if_pos rfl] at H; exact H
    clear H
    have H := H1
    clear H1
    simp only [Option.some.injEq, Prod.mk.injEq] at H
    obtain ⟨rfl, rfl, rfl⟩ := H
    have hnb17 := NB211_210.out
    have hnc17 := NB210_211.out
    have hcz18_0 : wc.cell? ⟨gb211, 0, none⟩ = some (.slice none 0 0) := (blk_cell BK211.out 0).trans rfl
    have hcz18_1 : wc.cell? ⟨gb211, 1, none⟩ = some (.slice none 0 0) := (blk_cell BK211.out 1).trans rfl
    have hfz18_0 := blk_frozen BK211.out 0
    have hfz18_1 := blk_frozen BK211.out 1
    go_wp2
    refine bodyPost_ret (results_ct rfl _ _ gb211 31 #[.slice none 0 0, .slice none 0 0] (0, 0) _ rfl (by (with_reducible repeat (first | refine blk_drewN ?_ _ | refine blk_drew ?_ | refine blk_alloc ?_ _)); refine blk_put (cs := #[.slice none 0 0, .slice none 0 0]) ?_ 1 _ rfl; (with_reducible repeat (first | refine blk_drewN ?_ _ | refine blk_drew ?_ | refine blk_alloc ?_ _)); refine blk_put (cs := #[.slice none 0 0, .slice none 0 0]) ?_ 0 _ rfl; (with_reducible repeat (first | refine blk_drewN ?_ _ | refine blk_drew ?_ | refine blk_alloc ?_ _)); exact BK211.out) Tryd.underlying31 rfl (by kernel_rfl)) rfl ?_
    exact ⟨_, _, by first | rfl | (simp [errW_none, errW_some] <;> rfl) | (simp [*, errW_none, errW_some] <;> rfl), by first | exact Kd.R_nil _ _ _ _ _ | exact Kd.N_nil _ _ _ _ _ | exact Kd.V_nil _ _ _ _ _ | exact Kd.Q_nil _ _ _ _ _ | exact Kd.S_nil _ _ _ _ _, by first | exact Kd.S_nil _ _ _ _ _ | exact Kd.N_nil _ _ _ _ _ | exact Kd.V_nil _ _ _ _ _ | exact Kd.Q_nil _ _ _ _ _ | exact Kd.R_nil _ _ _ _ _, by repeat (first | (with_reducible first | exact HB.out | apply below_alloc | apply pw_below_drewN | apply below_drew1 | refine below_set ?_ GE210.out | refine below_set ?_ GE211.out) | exact HB.out)⟩
   ·replace c16 := Bool.eq_false_iff.mpr c16
    subst c16
    have H1 : ((impl_copyDatabase.f kj2 l0_0 l0_1).bind fun bt214 => (impl_SelectFacts.l0 kj2 l1 (l1.length : Int) 0 bt214.1 bt214.2 bt214.1 ([] : List (S39)))) = some (r1, r2, r3) := by rw [if_neg (show ¬ (false = true) by decide)] at H; exact H
    clear H
    have H := H1
    clear H1
    replace H := Option.bind_eq_some_iff.mp H
    obtain ⟨⟨t214, t217⟩, A190, H⟩ := H
    replace H : (impl_SelectFacts.l0 kj2 l1 (l1.length : Int) 0 t214 t217 t214 ([] : List (S39))) = some (r1, r2, r3) := H
    have A19 := aM A190
    clear A190
    have H' := aM H
    clear H
    have hnb20 := NB210_211.out
    have hnc20 := NB211_210.out
    have hcz21_0 : wc.cell? ⟨gb210, 0, none⟩ = some (.slice A0_0 l0_0.length c0_0) := (blk_cell BK210.out 0).trans rfl
    have hcz21_1 : wc.cell? ⟨gb210, 1, none⟩ = some (.slice A0_1 l0_1.length c0_1) := (blk_cell BK210.out 1).trans rfl
    have hfz21_0 := blk_frozen BK210.out 0
    have hfz21_1 := blk_frozen BK210.out 1
    go_wp2_with (first | ((with_reducible refine gate_callee (f := 74) rfl ?_); refine goesL_ (some 23) rfl rfl Tryd.func74 (by kernel_rfl) rfl #[.agg #[.slice A0_0 l0_0.length c0_0, .slice A0_1 l0_1.length c0_1]] rfl (by (try simp only [List.map_toArray, List.map_cons, List.map_nil]); first | done | rfl | (simp only [List.length_drop, List.length_take]; rfl)) ?_; (with_reducible refine (impl_copyDatabase.calls kj2 _ _ l0_0 _ _ l0_1 t214 t217 _ ?side1 ?side2 ?side3 ?side4 A19.out).mono ?_); (case side1 => exact aC); (case side2 => exact HC0_0.out); (case side3 => exact aC); (case side4 => exact HC0_1.out); rintro e w22 ⟨v215, v218, rfl, ho0, ho1, hb⟩; refine ⟨_, rfl, ?_⟩; have n0_ := aM (Kd.R_lower (Kd.R_newM (M := fun k_ => (w.heap.size ≤ k_)) ho0 (below_size aG) (fun k_ h_ => h_)) (below_size aG)); have n1_ := aM (Kd.N_lower (Kd.N_mono (ok' := fun k_ => (w.heap.size ≤ k_) ∧ some k_ ≠ (v215 : Value).ownBlock ∧ k_ ≠ gb210 ∧ k_ ≠ gb211) (Kd.S_N (Kd.S_bound (Kd.S_apart' ho1 (Kd.R_typed ho0) (by decide)))) (fun k_ hk_ => ⟨(Nat.le_trans (below_size aG) hk_.2.1), hk_.1.2, (Kd.freshB (g := gb210) (o := .cells #[.slice A0_0 l0_0.length c0_0, .slice A0_1 l0_1.length c0_1] 31 (0, 0)) aK k_ hk_.2.1), (Kd.freshB (g := gb211) (o := .cells #[.slice none 0 0, .slice none 0 0] 31 (0, 0)) aK k_ hk_.2.1)⟩)) (below_size aG)); have n2_ := aM (blk_below (g := gb210) (o := .cells #[.slice A0_0 l0_0.length c0_0, .slice A0_1 l0_1.length c0_1] 31 (0, 0)) aK hb); have n3_ := aM (blk_below (g := gb211) (o := .cells #[.slice none 0 0, .slice none 0 0] 31 (0, 0)) aK hb); have n4_ := aM (below_step aG hb); clear BK210; clear BK211; clear HB; have HO216 := n0_; have HO219 := n1_; have BK210 := n2_; have BK211 := n3_; have HB := n4_; clear n0_ n1_ n2_ n3_ n4_; (try clear hb); (try clear hb2); (try clear hk); (try clear hi); (try clear ho0); (try clear ho1)) | ((with_reducible refine gate_dst (N := 6) rfl ?_); (try (refine gate_guard (by rfl) ?_; dsimp only)); refine box_event ?hg (N := 6) ?hd (cs := #[.slice none 0 0, .slice none 0 0]) (t := 31) ?hr ?_; (case hd => rfl); (case hg => rfl); (case hr => first | (go_simp; done) | (go_simp; rfl)); intro gb220 hg w23 hbox hb; have n0_ := aM (Kd.R_below (aR HO216) hb); have n1_ := aM (Kd.N_below (Kd.N_elderB (by (with_reducible repeat (first | apply Kd.N_alloc | apply Kd.N_drewN | apply Kd.N_drew)); exact HO219.out) gb220 (Nat.le_of_eq hg.symm)) hb); have n2_ := aM (blk_below (g := gb210) (o := .cells #[.slice A0_0 l0_0.length c0_0, .slice A0_1 l0_1.length c0_1] 31 (0, 0)) aK hb); have n3_ := aM (blk_below (g := gb211) (o := .cells #[.slice none 0 0, .slice none 0 0] 31 (0, 0)) aK hb); have n4_ := aM (below_step aG hb); have n5_ := aM (hbox); have n6_ := aM ((by rw [hg]; exact (below_size aG) : w.heap.size ≤ gb220)); have n7_ := aM ((by rw [hg]; exact (below_size aG) : w.heap.size ≤ gb220)); have n8_ := aM ((by rw [hg]; exact Nat.ne_of_lt (blk_lt (g := gb210) (o := .cells #[.slice A0_0 l0_0.length c0_0, .slice A0_1 l0_1.length c0_1] 31 (0, 0)) aK) : gb210 ≠ gb220)); have n9_ := aM ((by rw [hg]; exact Nat.ne_of_gt (blk_lt (g := gb210) (o := .cells #[.slice A0_0 l0_0.length c0_0, .slice A0_1 l0_1.length c0_1] 31 (0, 0)) aK) : gb220 ≠ gb210)); have n10_ := aM ((by rw [hg]; exact Nat.ne_of_lt (blk_lt (g := gb211) (o := .cells #[.slice none 0 0, .slice none 0 0] 31 (0, 0)) aK) : gb211 ≠ gb220)); have n11_ := aM ((by rw [hg]; exact Nat.ne_of_gt (blk_lt (g := gb211) (o := .cells #[.slice none 0 0, .slice none 0 0] 31 (0, 0)) aK) : gb220 ≠ gb211)); clear HO216; clear HO219; clear BK210; clear BK211; clear HB; have HO216 := n0_; have HO219 := n1_; have BK210 := n2_; have BK211 := n3_; have HB := n4_; have BK220 := n5_; have GW220 := n6_; have GE220 := n7_; have NB210_220 := n8_; have NB220_210 := n9_; have NB211_220 := n10_; have NB220_211 := n11_; clear n0_ n1_ n2_ n3_ n4_ n5_ n6_ n7_ n8_ n9_ n10_ n11_; clear hb hbox hg; obtain ⟨Ao24, co24, eo24⟩ := Kd.R_slice HO216.out; subst eo24; have hnb25 := NB220_210.out; have hnc25 := NB210_220.out; have hnb26 := NB220_211.out; have hnc26 := NB211_220.out; have hcz27_0 : w23.cell? ⟨gb220, 0, none⟩ = some (.slice none 0 0) := (blk_cell BK220.out 0).trans rfl; have hcz27_1 : w23.cell? ⟨gb220, 1, none⟩ = some (.slice none 0 0) := (blk_cell BK220.out 1).trans rfl; have hfz27_0 := blk_frozen BK220.out 0; have hfz27_1 := blk_frozen BK220.out 1; obtain ⟨Ao28, co28, eo28⟩ := Kd.N_slice HO219.out; subst eo28) | ((with_reducible refine gate_dst (N := 7) rfl ?_); (try (refine gate_guard (by rfl) ?_; dsimp only)); refine box_event ?hg (N := 7) ?hd (cs := #[.slice none 0 0, .slice none 0 0]) (t := 31) ?hr ?_; (case hd => rfl); (case hg => rfl); (case hr => first | (go_simp; done) | (go_simp; rfl)); intro gb221 hg w29 hbox hb; have n0_ := aM (Kd.R_below (by (with_reducible repeat (first | apply Kd.R_alloc | apply Kd.R_drewN | apply Kd.R_drew)); exact (Kd.R_mono (Kd.R_far (p := ⟨gb220, 1, none⟩) (Kd.R_far (p := ⟨gb220, 0, none⟩) (Kd.R_types HO216.out BK220.out (by decide)) (fun _ hk => hk.2) (.slice Ao24 t214.length co24)) (fun _ hk => hk.2) (.slice Ao28 t217.length co28)) (fun _ h_ => h_.1))) hb); have n1_ := aM (Kd.N_below (Kd.N_elderB (by (with_reducible repeat (first | apply Kd.N_alloc | apply Kd.N_drewN | apply Kd.N_drew)); exact (Kd.N_mono (Kd.N_far (p := ⟨gb220, 1, none⟩) (Kd.N_far (p := ⟨gb220, 0, none⟩) (Kd.N_mono HO219.out (fun k_ hk => (⟨hk, hk.2⟩ : _ ∧ k_ ≠ gb220))) (fun _ hk => hk.2) (.slice Ao24 t214.length co24)) (fun _ hk => hk.2) (.slice Ao28 t217.length co28)) (fun _ h_ => h_.1))) gb221 (Nat.le_of_eq hg.symm)) hb); have n2_ := aM (blk_below (g := gb210) (o := .cells #[.slice A0_0 l0_0.length c0_0, .slice A0_1 l0_1.length c0_1] 31 (0, 0)) (by (with_reducible repeat (first | refine blk_drewN ?_ _ | refine blk_drew ?_ | refine blk_alloc ?_ _)); refine blk_far ?_ NB210_220.out _; (with_reducible repeat (first | refine blk_drewN ?_ _ | refine blk_drew ?_ | refine blk_alloc ?_ _)); refine blk_far ?_ NB210_220.out _; (with_reducible repeat (first | refine blk_drewN ?_ _ | refine blk_drew ?_ | refine blk_alloc ?_ _)); exact BK210.out) hb); have n3_ := aM (blk_below (g := gb211) (o := .cells #[.slice none 0 0, .slice none 0 0] 31 (0, 0)) (by (with_reducible repeat (first | refine blk_drewN ?_ _ | refine blk_drew ?_ | refine blk_alloc ?_ _)); refine blk_far ?_ NB211_220.out _; (with_reducible repeat (first | refine blk_drewN ?_ _ | refine blk_drew ?_ | refine blk_alloc ?_ _)); refine blk_far ?_ NB211_220.out _; (with_reducible repeat (first | refine blk_drewN ?_ _ | refine blk_drew ?_ | refine blk_alloc ?_ _)); exact BK211.out) hb); have n4_ := aM (blk_below (g := gb220) (o := .cells #[.slice Ao24 t214.length co24, .slice Ao28 t217.length co28] 31 (0, 0)) (by (with_reducible repeat (first | refine blk_drewN ?_ _ | refine blk_drew ?_ | refine blk_alloc ?_ _)); refine blk_put (cs := #[.slice Ao24 t214.length co24, .slice none 0 0]) ?_ 1 _ rfl; (with_reducible repeat (first | refine blk_drewN ?_ _ | refine blk_drew ?_ | refine blk_alloc ?_ _)); refine blk_put (cs := #[.slice none 0 0, .slice none 0 0]) ?_ 0 _ rfl; (with_reducible repeat (first | refine blk_drewN ?_ _ | refine blk_drew ?_ | refine blk_alloc ?_ _)); exact BK220.out) hb); have n5_ := aM (below_step aG hb); have n6_ := aM (hbox); have n7_ := aM ((by rw [hg]; exact (below_size aG) : w.heap.size ≤ gb221)); have n8_ := aM ((by rw [hg]; exact (below_size aG) : w.heap.size ≤ gb221)); have n9_ := aM ((by rw [hg]; exact Nat.ne_of_lt (blk_lt (g := gb210) (o := .cells #[.slice A0_0 l0_0.length c0_0, .slice A0_1 l0_1.length c0_1] 31 (0, 0)) (by (with_reducible repeat (first | refine blk_drewN ?_ _ | refine blk_drew ?_ | refine blk_alloc ?_ _)); refine blk_far ?_ NB210_220.out _; (with_reducible repeat (first | refine blk_drewN ?_ _ | refine blk_drew ?_ | refine blk_alloc ?_ _)); refine blk_far ?_ NB210_220.out _; (with_reducible repeat (first | refine blk_drewN ?_ _ | refine blk_drew ?_ | refine blk_alloc ?_ _)); exact BK210.out)) : gb210 ≠ gb221)); have n10_ := aM ((by rw [hg]; exact Nat.ne_of_gt (blk_lt (g := gb210) (o := .cells #[.slice A0_0 l0_0.length c0_0, .slice A0_1 l0_1.length c0_1] 31 (0, 0)) (by (with_reducible repeat (first | refine blk_drewN ?_ _ | refine blk_drew ?_ | refine blk_alloc ?_ _)); refine blk_far ?_ NB210_220.out _; (with_reducible repeat (first | refine blk_drewN ?_ _ | refine blk_drew ?_ | refine blk_alloc ?_ _)); refine blk_far ?_ NB210_220.out _; (with_reducible repeat (first | refine blk_drewN ?_ _ | refine blk_drew ?_ | refine blk_alloc ?_ _)); exact BK210.out)) : gb221 ≠ gb210)); have n11_ := aM ((by rw [hg]; exact Nat.ne_of_lt (blk_lt (g := gb211) (o := .cells #[.slice none 0 0, .slice none 0 0] 31 (0, 0)) (by (with_reducible repeat (first | refine blk_drewN ?_ _ | refine blk_drew ?_ | refine blk_alloc ?_ _)); refine blk_far ?_ NB211_220.out _; (with_reducible repeat (first | refine blk_drewN ?_ _ | refine blk_drew ?_ | refine blk_alloc ?_ _)); refine blk_far ?_ NB211_220.out _; (with_reducible repeat (first | refine blk_drewN ?_ _ | refine blk_drew ?_ | refine blk_alloc ?_ _)); exact BK211.out)) : gb211 ≠ gb221)); have n12_ := aM ((by rw [hg]; exact Nat.ne_of_gt (blk_lt (g := gb211) (o := .cells #[.slice none 0 0, .slice none 0 0] 31 (0, 0)) (by (with_reducible repeat (first | refine blk_drewN ?_ _ | refine blk_drew ?_ | refine blk_alloc ?_ _)); refine blk_far ?_ NB211_220.out _; (with_reducible repeat (first | refine blk_drewN ?_ _ | refine blk_drew ?_ | refine blk_alloc ?_ _)); refine blk_far ?_ NB211_220.out _; (with_reducible repeat (first | refine blk_drewN ?_ _ | refine blk_drew ?_ | refine blk_alloc ?_ _)); exact BK211.out)) : gb221 ≠ gb211)); have n13_ := aM ((by rw [hg]; exact Nat.ne_of_lt (blk_lt (g := gb220) (o := .cells #[.slice Ao24 t214.length co24, .slice Ao28 t217.length co28] 31 (0, 0)) (by (with_reducible repeat (first | refine blk_drewN ?_ _ | refine blk_drew ?_ | refine blk_alloc ?_ _)); refine blk_put (cs := #[.slice Ao24 t214.length co24, .slice none 0 0]) ?_ 1 _ rfl; (with_reducible repeat (first | refine blk_drewN ?_ _ | refine blk_drew ?_ | refine blk_alloc ?_ _)); refine blk_put (cs := #[.slice none 0 0, .slice none 0 0]) ?_ 0 _ rfl; (with_reducible repeat (first | refine blk_drewN ?_ _ | refine blk_drew ?_ | refine blk_alloc ?_ _)); exact BK220.out)) : gb220 ≠ gb221)); have n14_ := aM ((by rw [hg]; exact Nat.ne_of_gt (blk_lt (g := gb220) (o := .cells #[.slice Ao24 t214.length co24, .slice Ao28 t217.length co28] 31 (0, 0)) (by (with_reducible repeat (first | refine blk_drewN ?_ _ | refine blk_drew ?_ | refine blk_alloc ?_ _)); refine blk_put (cs := #[.slice Ao24 t214.length co24, .slice none 0 0]) ?_ 1 _ rfl; (with_reducible repeat (first | refine blk_drewN ?_ _ | refine blk_drew ?_ | refine blk_alloc ?_ _)); refine blk_put (cs := #[.slice none 0 0, .slice none 0 0]) ?_ 0 _ rfl; (with_reducible repeat (first | refine blk_drewN ?_ _ | refine blk_drew ?_ | refine blk_alloc ?_ _)); exact BK220.out)) : gb221 ≠ gb220)); clear HO216; clear HO219; clear BK210; clear BK211; clear BK220; clear HB; have HO216 := n0_; have HO219 := n1_; have BK210 := n2_; have BK211 := n3_; have BK220 := n4_; have HB := n5_; have BK221 := n6_; have GW221 := n7_; have GE221 := n8_; have NB210_221 := n9_; have NB221_210 := n10_; have NB211_221 := n11_; have NB221_211 := n12_; have NB220_221 := n13_; have NB221_220 := n14_; clear n0_ n1_ n2_ n3_ n4_ n5_ n6_ n7_ n8_ n9_ n10_ n11_ n12_ n13_ n14_; clear hb hbox hg; have hnb30 := NB221_210.out; have hnc30 := NB210_221.out; have hnb31 := NB221_211.out; have hnc31 := NB211_221.out; have hnb32 := NB221_220.out; have hnc32 := NB220_221.out; have hcz33_0 : w29.cell? ⟨gb221, 0, none⟩ = some (.slice none 0 0) := (blk_cell BK221.out 0).trans rfl; have hcz33_1 : w29.cell? ⟨gb221, 1, none⟩ = some (.slice none 0 0) := (blk_cell BK221.out 1).trans rfl; have hfz33_0 := blk_frozen BK221.out 0; have hfz33_1 := blk_frozen BK221.out 1))
    go_loopg [29] kj2 (fun kq v29 w' => ∃ (x29_2 : Int) (x222001_2 : List (S39)) (u222001 : Value), v29 = .int .i64 x29_2 ∧ Aside0 (impl_SelectFacts.l0 kq l1 (l1.length : Int) x29_2 t214 t217 t214 x222001_2 = some (r1, r2, r3)) ∧ Aside0 (kq ≤ kj2) ∧ Aside0 (Kd.R k68 68 w' w.heap.size (fun k_ => (w.heap.size ≤ k_)) (.slice Ao24 t214.length co24) t214) ∧ Aside0 (Kd.N k39 39 w' w.heap.size (fun k_ => (w.heap.size ≤ k_) ∧ some k_ ≠ ((.slice Ao24 t214.length co24) : Value).ownBlock ∧ some k_ ≠ ((.slice Ao24 t214.length co24) : Value).ownBlock ∧ some k_ ≠ (u222001 : Value).ownBlock ∧ k_ ≠ gb210 ∧ k_ ≠ gb211 ∧ k_ ≠ gb220 ∧ k_ ≠ gb221) (.slice Ao28 t217.length co28) t217) ∧ Aside0 (Kd.R k68 68 w' w.heap.size (fun k_ => (w.heap.size ≤ k_)) (.slice Ao24 t214.length co24) t214) ∧ Aside0 (Kd.N k39 39 w' w.heap.size (fun k_ => (w.heap.size ≤ k_) ∧ some k_ ≠ ((.slice Ao24 t214.length co24) : Value).ownBlock ∧ some k_ ≠ ((.slice Ao28 t217.length co28) : Value).ownBlock ∧ some k_ ≠ ((.slice Ao24 t214.length co24) : Value).ownBlock ∧ k_ ≠ gb210 ∧ k_ ≠ gb211 ∧ k_ ≠ gb220 ∧ k_ ≠ gb221) u222001 x222001_2) ∧ Aside0 (w'.heap[gb210]? = some (.cells #[(.slice A0_0 l0_0.length c0_0), (.slice A0_1 l0_1.length c0_1)] 31 (0, 0))) ∧ Aside0 (w'.heap[gb211]? = some (.cells #[(.slice none 0 0), (.slice none 0 0)] 31 (0, 0))) ∧ Aside0 (w'.heap[gb220]? = some (.cells #[(.slice Ao24 t214.length co24), (.slice Ao28 t217.length co28)] 31 (0, 0))) ∧ Aside0 (w'.heap[gb221]? = some (.cells #[(.slice Ao24 t214.length co24), u222001] 31 (0, 0))) ∧ Aside0 (Below w.heap.size w w'))
    case atStart => exact ⟨(0), (([] : List (S39))), (.slice none 0 0), (by first | rfl | (simp; done) | (simp [*]; done)), H', ⟨Nat.le_refl _⟩, ⟨by (with_reducible repeat (first | apply Kd.R_alloc | apply Kd.R_drewN | apply Kd.R_drew)); exact Kd.R_mono (Kd.R_far (p := ⟨gb221, 1, none⟩) (Kd.R_far (p := ⟨gb221, 0, none⟩) (Kd.R_types HO216.out BK221.out (by decide)) (fun _ hk => hk.2) (.slice Ao24 t214.length co24)) (fun _ hk => hk.2) (.slice none 0 0)) (fun _ hk => hk.1.1)⟩, ⟨by (with_reducible repeat (first | apply Kd.N_alloc | apply Kd.N_drewN | apply Kd.N_drew)); exact Kd.N_mono (Kd.N_far (p := ⟨gb221, 1, none⟩) (Kd.N_far (p := ⟨gb221, 0, none⟩) (Kd.N_mono HO219.out (fun k_ hk => (⟨hk, hk.2⟩ : _ ∧ k_ ≠ gb221))) (fun _ hk => hk.2) (.slice Ao24 t214.length co24)) (fun _ hk => hk.2) (.slice none 0 0)) (fun _ hk => ⟨hk.1.1.1.1, ⟨hk.1.1.1.2.1, ⟨hk.1.1.1.2.1, ⟨(by simp [Value.ownBlock]), ⟨hk.1.1.1.2.2.1, ⟨hk.1.1.1.2.2.2, ⟨hk.1.1.2, hk.1.2⟩⟩⟩⟩⟩⟩⟩)⟩, ⟨by (with_reducible repeat (first | apply Kd.R_alloc | apply Kd.R_drewN | apply Kd.R_drew)); exact Kd.R_mono (Kd.R_far (p := ⟨gb221, 1, none⟩) (Kd.R_far (p := ⟨gb221, 0, none⟩) (Kd.R_types HO216.out BK221.out (by decide)) (fun _ hk => hk.2) (.slice Ao24 t214.length co24)) (fun _ hk => hk.2) (.slice none 0 0)) (fun _ hk => hk.1.1)⟩, ⟨by first | exact Kd.S_nil _ _ _ _ _ | exact Kd.N_nil _ _ _ _ _ | exact Kd.V_nil _ _ _ _ _ | exact Kd.Q_nil _ _ _ _ _ | exact Kd.R_nil _ _ _ _ _⟩, ⟨by (with_reducible repeat (first | refine blk_drewN ?_ _ | refine blk_drew ?_ | refine blk_alloc ?_ _)); refine blk_far ?_ NB210_221.out _; (with_reducible repeat (first | refine blk_drewN ?_ _ | refine blk_drew ?_ | refine blk_alloc ?_ _)); refine blk_far ?_ NB210_221.out _; (with_reducible repeat (first | refine blk_drewN ?_ _ | refine blk_drew ?_ | refine blk_alloc ?_ _)); exact BK210.out⟩, ⟨by (with_reducible repeat (first | refine blk_drewN ?_ _ | refine blk_drew ?_ | refine blk_alloc ?_ _)); refine blk_far ?_ NB211_221.out _; (with_reducible repeat (first | refine blk_drewN ?_ _ | refine blk_drew ?_ | refine blk_alloc ?_ _)); refine blk_far ?_ NB211_221.out _; (with_reducible repeat (first | refine blk_drewN ?_ _ | refine blk_drew ?_ | refine blk_alloc ?_ _)); exact BK211.out⟩, ⟨by (with_reducible repeat (first | refine blk_drewN ?_ _ | refine blk_drew ?_ | refine blk_alloc ?_ _)); refine blk_far ?_ NB220_221.out _; (with_reducible repeat (first | refine blk_drewN ?_ _ | refine blk_drew ?_ | refine blk_alloc ?_ _)); refine blk_far ?_ NB220_221.out _; (with_reducible repeat (first | refine blk_drewN ?_ _ | refine blk_drew ?_ | refine blk_alloc ?_ _)); exact BK220.out⟩, ⟨by (with_reducible repeat (first | refine blk_drewN ?_ _ | refine blk_drew ?_ | refine blk_alloc ?_ _)); refine blk_put (cs := #[.slice Ao24 t214.length co24, .slice none 0 0]) ?_ 1 _ rfl; (with_reducible repeat (first | refine blk_drewN ?_ _ | refine blk_drew ?_ | refine blk_alloc ?_ _)); refine blk_put (cs := #[.slice none 0 0, .slice none 0 0]) ?_ 0 _ rfl; (with_reducible repeat (first | refine blk_drewN ?_ _ | refine blk_drew ?_ | refine blk_alloc ?_ _)); exact BK221.out⟩, ⟨by repeat (first | (with_reducible first | exact HB.out | apply below_alloc | apply pw_below_drewN | apply below_drew1 | refine below_set ?_ GE210.out | refine below_set ?_ GE211.out | refine below_set ?_ GE220.out | refine below_set ?_ GE221.out) | exact HB.out)⟩⟩
    case round =>
     clear H'
     try clear c1
     try clear c2
     try clear p2
     try clear c3
     try clear c7
     try clear c9
     try clear c13
     try clear c16
     try clear c17
     try clear c20
     try clear c25
     try clear c26
     try clear c28
     try clear c30
     try clear c31
     try clear c32
     try clear hcz10_0
     try clear hcz10_1
     try clear hcz12_0
     try clear hcz12_1
     try clear hcz14_0
     try clear hcz14_1
     try clear hcz18_0
     try clear hcz18_1
     try clear hcz21_0
     try clear hcz21_1
     try clear hcz27_0
     try clear hcz27_1
     try clear hcz33_0
     try clear hcz33_1
     try clear hfz10_0
     try clear hfz10_1
     try clear hfz12_0
     try clear hfz12_1
     try clear hfz14_0
     try clear hfz14_1
     try clear hfz18_0
     try clear hfz18_1
     try clear hfz21_0
     try clear hfz21_1
     try clear hfz27_0
     try clear hfz27_1
     try clear hfz33_0
     try clear hfz33_1
     try clear p2
     obtain ⟨x29_2, x222001_2, u222001, rfl, HA, HK2, HO_221000, HO_221001, HO_222000, HO_222001, BK210, BK211, BK220, BK221, HB⟩ := hrel
     cases gk with
     | zero => exact absurd HA.out (by simp [impl_SelectFacts.l0])
     | succ k2 =>
      have H := HA.out
      clear HA
      simp only [impl_SelectFacts.l0] at H
      by_cases c34 : x29_2 < (l1.length : Int)
      ·rw [if_pos c34] at H
       have c34b0 : decide (x29_2 < (l1.length : Int)) = true := decide_eq_true c34
       clear c34
       by_cases c35 : 0 ≤ x29_2
       ·rw [if_pos c35] at H
        have c35b0 : decide (0 ≤ x29_2) = true := decide_eq_true c35
        clear c35
        by_cases c36 : x29_2 < (l1.length : Int)
        ·rw [if_pos c36] at H
         have c36b0 : decide (x29_2 < (l1.length : Int)) = true := decide_eq_true c36
         clear c36
         by_cases c37 : 0 ≤ (rd l1 x29_2)
         ·rw [if_pos c37] at H
          have c37b0 : decide (0 ≤ (rd l1 x29_2)) = true := decide_eq_true c37
          clear c37
          by_cases c38 : (rd l1 x29_2) < (t217.length : Int)
          ·rw [if_pos c38] at H
           have c38b0 : decide ((rd l1 x29_2) < (t217.length : Int)) = true := decide_eq_true c38
           clear c38
           by_cases c39 : x222001_2.length < 4398046511104
           ·rw [if_pos c39] at H
            have LMc39 := aM c39
            clear c39
            obtain ⟨y224, hy224⟩ : ∃ y_ : List (S39), y_ = (x222001_2 ++ [(⟨(rd_T39 t217 (rd l1 x29_2)).f0, (rd_T39 t217 (rd l1 x29_2)).f1⟩ : S39)]) := ⟨_, rfl⟩
            replace H : (impl_SelectFacts.l0 k2 l1 (l1.length : Int) (wrap64 (x29_2 + 1)) t214 t217 t214 y224) = some (r1, r2, r3) := by first | (rw [hy224]; with_reducible exact H) | (have H2_ := (Option.bind_some _ _).symm.trans H; rw [hy224]; with_reducible exact H2_) | (have H2_ := (Option.bind_some _ _).symm.trans H; with_reducible exact H2_) | with_reducible exact H | (rw [hy224]; exact H) | exact H
            have Ny224 := aM hy224
            clear hy224
            have H' := aM H
            clear H
            have p222 : 0 ≤ (x29_2 : Int) := aD
            have q222 : x29_2 < (l1.length : Int) := aD
            obtain ⟨ad222, e222, hx222_0⟩ := Kd.at_int HR1.out x29_2 p222 q222
            cases e222
            replace hx222_0 := (HB.out.cell (World.block_lt_of_cell? w _ hx222_0)).trans hx222_0
            replace p222 := eq_true p222
            replace q222 := eq_true q222
            try go_wp2
            have n0_ := aM (Kd.R_drew HO_221000.out)
            have n1_ := aM (Kd.N_drew HO_221001.out)
            have n2_ := aM (Kd.R_drew HO_222000.out)
            have n3_ := aM (Kd.N_drew HO_222001.out)
            have n4_ := aM (blk_drew BK210.out)
            have n5_ := aM (blk_drew BK211.out)
            have n6_ := aM (blk_drew BK220.out)
            have n7_ := aM (blk_drew BK221.out)
            have n8_ := aM (below_drew1 HB.out)
            clear HO_221000
            clear HO_221001
            clear HO_222000
            clear HO_222001
            clear BK210
            clear BK211
            clear BK220
            clear BK221
            clear HB
            have HO_221000 := n0_
            have HO_221001 := n1_
            have HO_222000 := n2_
            have HO_222001 := n3_
            have BK210 := n4_
            have BK211 := n5_
            have BK220 := n6_
            have BK221 := n7_
            have HB := n8_
            clear n0_ n1_ n2_ n3_ n4_ n5_ n6_ n7_ n8_
            have p223 : 0 ≤ ((rd l1 x29_2) : Int) := aD
            have q223 : (rd l1 x29_2) < (t217.length : Int) := aD
            obtain ⟨ad223, A223_1, c223_1, e223, hx223_0, hx223_1, hl223_1, hi223_1⟩ := at_T39 (Kd.N_reads' HO_221001.out).2.2 (rd l1 x29_2) p223 q223
            cases e223
            obtain ⟨ce223, hce223, hMe223, hcc223⟩ := Kd.N_get HO_221001.out z39 (rd l1 x29_2) p223 (by first | exact q223 | exact aD | (have e_ := (Kd.N_reads' HO_221001.out).1; omega))
            obtain ⟨ua223_1, uc223_1, rfl, ul223_1, ge223_1⟩ := k39_openF hMe223
            have hv223_1 := hcc223 1 _ rfl
            rw [add_field _ _ 1 (by omega)] at hv223_1
            replace hv223_1 := Option.some.inj (hv223_1.symm.trans hx223_1)
            injection hv223_1 with hva_ hvn_ hvc_
            rw [hva_] at ge223_1
            rw [hvc_] at ul223_1
            have HL223_1 := aM (show Kd.V (Kd.int .i64) 3 _ w.heap.size _ _ ((rd_T39 t217 (rd l1 x29_2)).f1) from Kd.V_mk ul223_1 ge223_1)
            clear hva_ hvn_ hvc_ ge223_1 ul223_1
            clear hcc223 hce223
            have HR223_1 := aM hi223_1
            have HC223_1 := aM hl223_1
            clear hi223_1 hl223_1
            replace p223 := eq_true p223
            replace q223 := eq_true q223
            refine start_ (n := 11) (S := fun w' => w'.cell? ⟨gb221, 0, none⟩ = some (.slice Ao24 t214.length co24) ∧ w'.cell? ⟨gb221, 1, none⟩ = some (u222001) ∧ w'.cell? ⟨gb220, 0, none⟩ = some (.slice Ao24 t214.length co24) ∧ w'.cell? ⟨gb220, 1, none⟩ = some (.slice (some ad223) t217.length co28) ∧ w'.cell? (ad223.add (((rd l1 x29_2)).toNat * 2)) = some (.int .i64 ((rd_T39 t217 (rd l1 x29_2)).f0)) ∧ w'.cell? ⟨(ad223.add (((rd l1 x29_2)).toNat * 2)).block, (ad223.add (((rd l1 x29_2)).toNat * 2)).off + 1, none⟩ = some (.slice A223_1 ((rd_T39 t217 (rd l1 x29_2)).f1).length c223_1)) (ds := [8, 10]) #[false, false, false, false, false, false, false, false, false, false, false] (by kernel_rfl) rfl rfl ⟨(blk_cell BK221.out 0).trans rfl, (blk_cell BK221.out 1).trans rfl, (blk_cell BK220.out 0).trans rfl, (blk_cell BK220.out 1).trans rfl, hx223_0, hx223_1⟩ (fun hHeld => ?_); refine with_tabW impl_SelectFacts.tab8 impl_SelectFacts.bits8 (fun HT_ HW_ => ?_)
            generalize wr.drew = w40 at HO_221000 HO_221001 HO_222000 HO_222001 BK210 BK211 BK220 BK221 HB HL223_1 HR223_1 hx223_0 hx223_1 hHeld ⊢
            refine pure_ (i := 0) (N := some 33) (v := ?_) (a' := ?_) #[true, false, false, false, false, false, false, false, false, false, false] rfl rfl (any_of HT_.out (by kernel_rfl)) (fun _ _ _ h => h) (Or.inl ⟨by rfl, ?_⟩) ?_ ?_
            rotate_left
            ·exact aI
            rotate_left
            ·exact aP
            refine pure_ (i := 2) (N := some 35) (v := ?_) (a' := ?_) #[true, false, true, false, false, false, false, false, false, false, false] rfl rfl (any_of HT_.out (by kernel_rfl)) (fun _ _ _ h => h) (Or.inl ⟨by rfl, ?_⟩) ?_ ?_
            rotate_left
            ·exact aI
            rotate_left
            ·exact aP
            refine pure_ (i := 4) (N := some 37) (v := ?_) (a' := ?_) #[true, false, true, false, true, false, false, false, false, false, false] rfl rfl (any_of HT_.out (by kernel_rfl)) (fun _ _ _ h => h) (Or.inl ⟨by rfl, ?_⟩) ?_ ?_
            rotate_left
            ·exact aI
            rotate_left
            ·exact aP
            refine take_ (i := 1) (N := some 34) (v := ?_) (a' := ?_) #[true, true, true, false, true, false, false, false, false, false, false] rfl rfl (take_ofW HT_.out HW_.out (by kernel_rfl)) (fun _ _ _ h => h) (Or.inl ⟨by rfl, ?_⟩) hHeld ?_ ?_
            rotate_left
            ·rintro w' ⟨s0, s1, s2, s3, s4, s5⟩
             go_simp
             with_reducible rfl
            rotate_left
            ·exact aP
            refine take_ (i := 3) (N := some 36) (v := ?_) (a' := ?_) #[true, true, true, true, true, false, false, false, false, false, false] rfl rfl (take_ofW HT_.out HW_.out (by kernel_rfl)) (fun _ _ _ h => h) (Or.inl ⟨by rfl, ?_⟩) hHeld ?_ ?_
            rotate_left
            ·rintro w' ⟨s0, s1, s2, s3, s4, s5⟩
             go_simp
             with_reducible rfl
            rotate_left
            ·exact aP
            refine pure_ (i := 5) (N := some 38) (v := ?_) (a' := ?_) #[true, true, true, true, true, true, false, false, false, false, false] rfl rfl (any_of HT_.out (by kernel_rfl)) (fun _ _ _ h => h) (Or.inl ⟨by rfl, ?_⟩) ?_ ?_
            rotate_left
            ·exact aI
            rotate_left
            ·exact aP
            refine take_ (i := 6) (N := some 39) (v := ?_) (a' := ?_) #[true, true, true, true, true, true, true, false, false, false, false] rfl rfl (take_ofW HT_.out HW_.out (by kernel_rfl)) (fun _ _ _ h => h) (Or.inl ⟨by rfl, ?_⟩) hHeld ?_ ?_
            rotate_left
            ·rintro w' ⟨s0, s1, s2, s3, s4, s5⟩
             go_simp
             with_reducible rfl
            rotate_left
            ·exact aP
            refine one_ (i := 7) (N := some 40) #[true, true, true, true, true, true, true, true, false, false, false] rfl rfl (one_of HT_.out (by kernel_rfl)) (by decide) (fun K hK => ?_)
            refine value_ (w1 := ?_) (v := ?_) (by rfl) rfl ?_ ?_
            rotate_left 2
            ·go_simp
             constructor
             ·rfl
             ·rfl
            refine hK.out _ _ ⟨(blk_cell (blk_alloc BK221.out _) 0).trans rfl, (blk_cell (blk_alloc BK221.out _) 1).trans rfl, (blk_cell (blk_alloc BK220.out _) 0).trans rfl, (blk_cell (blk_alloc BK220.out _) 1).trans rfl, (World.cell?_alloc_lt _ _ _ (World.block_lt_of_cell? _ _ (hHeld.2.2.2.2.1))).trans (hHeld.2.2.2.2.1), (World.cell?_alloc_lt _ _ _ (World.block_lt_of_cell? _ _ (hHeld.2.2.2.2.2))).trans (hHeld.2.2.2.2.2)⟩ (fun hHeld => ?_)
            clear hK K
            refine norm_ (a' := ?_) ?_ ?_
            rotate_left
            ·show Act.put _ (some 40) _ = _
             simp only [Act.put, List.setIfInBounds_toArray, List.set_cons_zero, List.set_cons_succ, i64_w, i32_w]
             rfl
            refine last_ (i := 8) (N := some 41) #[true, true, true, true, true, true, true, true, true, false, false] rfl rfl (one_of HT_.out (by kernel_rfl)) (by decide) (fun K hK => ?_)
            refine Kd.N_append_step k39 (w0 := w) w.heap.size (by rfl) (.tmp 34) (.tmp 40) 29 39 (.agg #[(.int .i64 0), (.slice none 0 0)]) 32 rfl Tryd.underlying29 info39 rfl (by decide) (by omega) u222001 x222001_2 (⟨(rd_T39 t217 (rd l1 x29_2)).f0, (rd_T39 t217 (rd l1 x29_2)).f1⟩ : S39) [.int .i64 ((rd_T39 t217 (rd l1 x29_2)).f0), .slice A223_1 ((rd_T39 t217 (rd l1 x29_2)).f1).length c223_1] (fun k_ => (w.heap.size ≤ k_) ∧ some k_ ≠ (.slice Ao24 t214.length co24 : Value).ownBlock ∧ some k_ ≠ (.slice (some ad223) t217.length co28 : Value).ownBlock ∧ some k_ ≠ (.slice Ao24 t214.length co24 : Value).ownBlock ∧ k_ ≠ gb210 ∧ k_ ≠ gb211 ∧ k_ ≠ gb220 ∧ k_ ≠ gb221) (fun k_ => ((fun k_ => (w.heap.size ≤ k_) ∧ some k_ ≠ (.slice Ao24 t214.length co24 : Value).ownBlock ∧ some k_ ≠ (.slice (some ad223) t217.length co28 : Value).ownBlock ∧ some k_ ≠ (.slice Ao24 t214.length co24 : Value).ownBlock ∧ k_ ≠ gb210 ∧ k_ ≠ gb211 ∧ k_ ≠ gb220 ∧ k_ ≠ gb221)) k_ ∧ some k_ ≠ (u222001 : Value).ownBlock) rfl rfl ?aP (fun _ hk => hk) ?aF ?aO ?aB ?aS ?aL ?_
            (case aP => exact (k39_mkF _ _ (⟨(rd_T39 t217 (rd l1 x29_2)).f0, (rd_T39 t217 (rd l1 x29_2)).f1⟩ : S39) (Kd.V_reads' (Kd.V_mono (ok' := (fun k_ => ((fun k_ => (w.heap.size ≤ k_) ∧ some k_ ≠ (.slice Ao24 t214.length co24 : Value).ownBlock ∧ some k_ ≠ (.slice (some ad223) t217.length co28 : Value).ownBlock ∧ some k_ ≠ (.slice Ao24 t214.length co24 : Value).ownBlock ∧ k_ ≠ gb210 ∧ k_ ≠ gb211 ∧ k_ ≠ gb220 ∧ k_ ≠ gb221)) k_ ∧ some k_ ≠ (u222001 : Value).ownBlock)) (HL223_1.out) (fun k_ hk => ⟨⟨hk.1.1, ⟨hk.1.2.1, ⟨hk.2, ⟨hk.1.2.2.1, ⟨hk.1.2.2.2.2.1, ⟨hk.1.2.2.2.2.2.1, ⟨hk.1.2.2.2.2.2.2.1, hk.1.2.2.2.2.2.2.2⟩⟩⟩⟩⟩⟩⟩, hk.1.2.2.2.1⟩))).2.1 (Kd.V_F (Kd.V_mono (ok' := (fun k_ => ((fun k_ => (w.heap.size ≤ k_) ∧ some k_ ≠ (.slice Ao24 t214.length co24 : Value).ownBlock ∧ some k_ ≠ (.slice (some ad223) t217.length co28 : Value).ownBlock ∧ some k_ ≠ (.slice Ao24 t214.length co24 : Value).ownBlock ∧ k_ ≠ gb210 ∧ k_ ≠ gb211 ∧ k_ ≠ gb220 ∧ k_ ≠ gb221)) k_ ∧ some k_ ≠ (u222001 : Value).ownBlock)) (HL223_1.out) (fun k_ hk => ⟨⟨hk.1.1, ⟨hk.1.2.1, ⟨hk.2, ⟨hk.1.2.2.1, ⟨hk.1.2.2.2.2.1, ⟨hk.1.2.2.2.2.2.1, ⟨hk.1.2.2.2.2.2.2.1, hk.1.2.2.2.2.2.2.2⟩⟩⟩⟩⟩⟩⟩, hk.1.2.2.2.1⟩)))))
            (case aB => exact aG)
            (case aF => exact (fun k_ hk => ⟨(Nat.le_trans (below_size aG) hk), Kd.fresh' (Kd.R_lt (aR HO_221000)) k_ hk, Kd.fresh' (Kd.N_lt (by (with_reducible repeat (first | apply Kd.N_alloc | apply Kd.N_drewN | apply Kd.N_drew)); exact HO_221001.out)) k_ hk, Kd.fresh' (Kd.R_lt (aR HO_222000)) k_ hk, Kd.freshB (g := gb210) (o := .cells #[.slice A0_0 l0_0.length c0_0, .slice A0_1 l0_1.length c0_1] 31 (0, 0)) aK k_ hk, Kd.freshB (g := gb211) (o := .cells #[.slice none 0 0, .slice none 0 0] 31 (0, 0)) aK k_ hk, Kd.freshB (g := gb220) (o := .cells #[.slice Ao24 t214.length co24, .slice (some ad223) t217.length co28] 31 (0, 0)) aK k_ hk, Kd.freshB (g := gb221) (o := .cells #[.slice Ao24 t214.length co24, u222001] 31 (0, 0)) aK k_ hk⟩))
            (case aO => exact (by (with_reducible repeat (first | apply Kd.N_alloc | apply Kd.N_drewN | apply Kd.N_drew)); exact HO_222001.out))
            (case aS => exact (below_size aG))
            (case aL => have := LMc39.out; omega)
            intro v225 w41 ho hb hg hat
            rw [← Ny224.out] at ho
            have n0_ := aM (Kd.R_over' (aR HO_221000) (Kd.N_typed (by (with_reducible repeat (first | apply Kd.N_alloc | apply Kd.N_drewN | apply Kd.N_drew)); exact HO_222001.out)) (by decide) hg)
            have n1_ := aM (Kd.N_afterv (ok := (fun k_ => (w.heap.size ≤ k_) ∧ some k_ ≠ (.slice Ao24 t214.length co24 : Value).ownBlock ∧ some k_ ≠ (.slice Ao24 t214.length co24 : Value).ownBlock ∧ k_ ≠ gb210 ∧ k_ ≠ gb211 ∧ k_ ≠ gb220 ∧ k_ ≠ gb221)) (by (with_reducible repeat (first | apply Kd.N_alloc | apply Kd.N_drewN | apply Kd.N_drew)); exact Kd.N_mono HO_221001.out (fun _ hk => ⟨⟨hk.1, ⟨hk.2.1, ⟨hk.2.2.1, ⟨hk.2.2.2.2.1, ⟨hk.2.2.2.2.2.1, ⟨hk.2.2.2.2.2.2.1, hk.2.2.2.2.2.2.2⟩⟩⟩⟩⟩⟩, hk.2.2.2.1⟩)) hg hat)
            have n2_ := aM (Kd.R_over' (aR HO_222000) (Kd.N_typed (by (with_reducible repeat (first | apply Kd.N_alloc | apply Kd.N_drewN | apply Kd.N_drew)); exact HO_222001.out)) (by decide) hg)
            have n3_ := aM (blk_grown (g := gb210) (o := .cells #[.slice A0_0 l0_0.length c0_0, .slice A0_1 l0_1.length c0_1] 31 (0, 0)) aK hg (Kd.N_ne HO_222001.out BK210.out (by decide)))
            have n4_ := aM (blk_grown (g := gb211) (o := .cells #[.slice none 0 0, .slice none 0 0] 31 (0, 0)) aK hg (Kd.N_ne HO_222001.out BK211.out (by decide)))
            have n5_ := aM (blk_grown (g := gb220) (o := .cells #[.slice Ao24 t214.length co24, .slice (some ad223) t217.length co28] 31 (0, 0)) aK hg (Kd.N_ne HO_222001.out BK220.out (by decide)))
            have n6_ := aM (blk_grown (g := gb221) (o := .cells #[.slice Ao24 t214.length co24, u222001] 31 (0, 0)) aK hg (Kd.N_ne HO_222001.out BK221.out (by decide)))
            have n7_ := aM (Kd.V_afterv (ok := (fun k_ => (w.heap.size ≤ k_) ∧ some k_ ≠ (.slice Ao24 t214.length co24 : Value).ownBlock ∧ some k_ ≠ (.slice (some ad223) t217.length co28 : Value).ownBlock ∧ some k_ ≠ (.slice Ao24 t214.length co24 : Value).ownBlock ∧ k_ ≠ gb210 ∧ k_ ≠ gb211 ∧ k_ ≠ gb220 ∧ k_ ≠ gb221)) (by (with_reducible repeat (first | apply Kd.V_alloc | apply Kd.V_drewN | apply Kd.V_drew)); exact Kd.V_mono HL223_1.out (fun _ hk => ⟨⟨hk.1.1, ⟨hk.1.2.1, ⟨hk.2, ⟨hk.1.2.2.1, ⟨hk.1.2.2.2.2.1, ⟨hk.1.2.2.2.2.2.1, ⟨hk.1.2.2.2.2.2.2.1, hk.1.2.2.2.2.2.2.2⟩⟩⟩⟩⟩⟩⟩, hk.1.2.2.2.1⟩)) hg hat)
            have n8_ := aM (hb)
            have n9_ := aM (ho)
            clear HO_221000
            clear HO_221001
            clear HO_222000
            clear BK210
            clear BK211
            clear BK220
            clear BK221
            clear HL223_1
            clear HB
            clear HO_222001
            have HO_221000 := n0_
            have HO_221001 := n1_
            have HO_222000 := n2_
            have BK210 := n3_
            have BK211 := n4_
            have BK220 := n5_
            have BK221 := n6_
            have HL223_1 := n7_
            have HB := n8_
            have HO226 := n9_
            clear n0_ n1_ n2_ n3_ n4_ n5_ n6_ n7_ n8_ n9_
            clear ho hb hg hat
            obtain ⟨Ao42, co42, eo42⟩ := Kd.N_slice HO226.out
            (first | subst eo42 | (injection eo42 with f1_ f2_ f3_; have f4_ := f1_.symm; have f5_ := f3_.symm; clear f1_ f2_ f3_; subst f4_; subst f5_))
            refine hK.out _ _ ?_
            clear hK K
            refine norm_ (a' := ?_) ?_ ?_
            rotate_left
            ·show Act.put _ (some 41) _ = _
             simp only [Act.put, List.setIfInBounds_toArray, List.set_cons_zero, List.set_cons_succ, i64_w, i32_w]
             rfl
            refine pure_ (i := 9) (N := some 42) (v := ?_) (a' := ?_) #[true, true, true, true, true, true, true, true, true, true, false] rfl rfl (any_of HT_.out (by kernel_rfl)) (fun _ _ _ h => h) (Or.inl ⟨by rfl, ?_⟩) ?_ ?_
            rotate_left
            ·exact aI
            rotate_left
            ·exact aP
            refine last_ (i := 10) (N := none) #[true, true, true, true, true, true, true, true, true, true, true] rfl rfl (one_of HT_.out (by kernel_rfl)) (by decide) (fun K hK => ?_)
            have hs43 : w41.cell? ⟨gb221, 1, none⟩ = some (u222001) := (blk_cell BK221.out 1).trans rfl
            have hfs43 := blk_frozen BK221.out 1
            have hns43_0 := NB210_221.out
            have hns43_1 := NB211_221.out
            have hns43_2 := NB220_221.out
            have hms43_0 := NB221_210.out
            have hms43_1 := NB221_211.out
            have hms43_2 := NB221_220.out
            refine skip_ (w1 := ?_) (by rfl) rfl ?_ ?_
            rotate_left
            ·go_simp
             rfl
            refine hK.out _ _ ?_
            clear hK K
            refine done_ (done_of HT_.out (by kernel_rfl)) ?_
            try go_wp2
            go_roundg k2
            case measure => have := HJ2.out; have := HK2.out; omega
            case rel => exact ⟨(wrap64 (x29_2 + 1)), (y224), (.slice Ao42 y224.length co42), (by first | rfl | (simp; done) | (simp [*]; done)), H', ⟨by have := HJ2.out; have := HK2.out; omega⟩, ⟨by (with_reducible repeat (first | apply Kd.R_alloc | apply Kd.R_drewN | apply Kd.R_drew)); exact Kd.R_mono (Kd.R_far (p := ⟨gb221, 1, none⟩) (Kd.R_types HO_221000.out BK221.out (by decide)) (fun _ hk => hk.2) (.slice Ao42 y224.length co42)) (fun _ hk => hk.1)⟩, ⟨by (with_reducible repeat (first | apply Kd.N_alloc | apply Kd.N_drewN | apply Kd.N_drew)); exact Kd.N_mono (Kd.N_far (p := ⟨gb221, 1, none⟩) (Kd.N_mono HO_221001.out (fun k_ hk => (⟨hk, hk.1.2.2.2.2.2.2⟩ : _ ∧ k_ ≠ gb221))) (fun _ hk => hk.2) (.slice Ao42 y224.length co42)) (fun _ hk => ⟨hk.1.1.1, ⟨hk.1.1.2.1, ⟨hk.1.1.2.2.1, ⟨hk.1.2, ⟨hk.1.1.2.2.2.1, ⟨hk.1.1.2.2.2.2.1, ⟨hk.1.1.2.2.2.2.2.1, hk.1.1.2.2.2.2.2.2⟩⟩⟩⟩⟩⟩⟩)⟩, ⟨by (with_reducible repeat (first | apply Kd.R_alloc | apply Kd.R_drewN | apply Kd.R_drew)); exact Kd.R_mono (Kd.R_far (p := ⟨gb221, 1, none⟩) (Kd.R_types HO_222000.out BK221.out (by decide)) (fun _ hk => hk.2) (.slice Ao42 y224.length co42)) (fun _ hk => hk.1)⟩, ⟨by (with_reducible repeat (first | apply Kd.N_alloc | apply Kd.N_drewN | apply Kd.N_drew)); exact Kd.N_mono (Kd.N_far (p := ⟨gb221, 1, none⟩) (Kd.N_mono HO226.out (fun k_ hk => (⟨hk, hk.2.2.2.2.2.2.2⟩ : _ ∧ k_ ≠ gb221))) (fun _ hk => hk.2) (.slice Ao42 y224.length co42)) (fun _ hk => ⟨hk.1.1, ⟨hk.1.2.1, ⟨hk.1.2.2.1, ⟨hk.1.2.2.2.1, ⟨hk.1.2.2.2.2.1, ⟨hk.1.2.2.2.2.2.1, ⟨hk.1.2.2.2.2.2.2.1, hk.1.2.2.2.2.2.2.2⟩⟩⟩⟩⟩⟩⟩)⟩, ⟨by (with_reducible repeat (first | refine blk_drewN ?_ _ | refine blk_drew ?_ | refine blk_alloc ?_ _)); refine blk_far ?_ NB210_221.out _; (with_reducible repeat (first | refine blk_drewN ?_ _ | refine blk_drew ?_ | refine blk_alloc ?_ _)); exact BK210.out⟩, ⟨by (with_reducible repeat (first | refine blk_drewN ?_ _ | refine blk_drew ?_ | refine blk_alloc ?_ _)); refine blk_far ?_ NB211_221.out _; (with_reducible repeat (first | refine blk_drewN ?_ _ | refine blk_drew ?_ | refine blk_alloc ?_ _)); exact BK211.out⟩, ⟨by (with_reducible repeat (first | refine blk_drewN ?_ _ | refine blk_drew ?_ | refine blk_alloc ?_ _)); refine blk_far ?_ NB220_221.out _; (with_reducible repeat (first | refine blk_drewN ?_ _ | refine blk_drew ?_ | refine blk_alloc ?_ _)); exact BK220.out⟩, ⟨by (with_reducible repeat (first | refine blk_drewN ?_ _ | refine blk_drew ?_ | refine blk_alloc ?_ _)); refine blk_put (cs := #[.slice Ao24 t214.length co24, u222001]) ?_ 1 _ rfl; (with_reducible repeat (first | refine blk_drewN ?_ _ | refine blk_drew ?_ | refine blk_alloc ?_ _)); exact BK221.out⟩, ⟨by repeat (first | (with_reducible first | exact HB.out | apply below_alloc | apply pw_below_drewN | apply below_drew1 | refine below_set ?_ GE210.out | refine below_set ?_ GE211.out | refine below_set ?_ GE220.out | refine below_set ?_ GE221.out) | exact HB.out)⟩⟩
           ·rw [if_neg c39] at H
            exact absurd H (by simp)
          ·rw [if_neg c38] at H
           exact absurd H (by simp)
         ·rw [if_neg c37] at H
          exact absurd H (by simp)
        ·rw [if_neg c36] at H
         exact absurd H (by simp)
       ·rw [if_neg c35] at H
        exact absurd H (by simp)
      ·rw [if_neg c34] at H
       have c34b0 : decide (x29_2 < (l1.length : Int)) = false := decide_eq_false c34
       clear c34
       simp only [Option.some.injEq, Prod.mk.injEq] at H
       obtain ⟨rfl, rfl, rfl⟩ := H
       have hnb44 := NB221_210.out
       have hnc44 := NB210_221.out
       have hnb45 := NB221_211.out
       have hnc45 := NB211_221.out
       have hnb46 := NB221_220.out
       have hnc46 := NB220_221.out
       have hcz47_0 : wr.cell? ⟨gb221, 0, none⟩ = some (.slice Ao24 t214.length co24) := (blk_cell BK221.out 0).trans rfl
       have hcz47_1 : wr.cell? ⟨gb221, 1, none⟩ = some (u222001) := (blk_cell BK221.out 1).trans rfl
       have hfz47_0 := blk_frozen BK221.out 0
       have hfz47_1 := blk_frozen BK221.out 1
       have hnb48 := NB211_210.out
       have hnc48 := NB210_211.out
       have hnb49 := NB211_220.out
       have hnc49 := NB220_211.out
       have hcz50_0 : wr.cell? ⟨gb211, 0, none⟩ = some (.slice none 0 0) := (blk_cell BK211.out 0).trans rfl
       have hcz50_1 : wr.cell? ⟨gb211, 1, none⟩ = some (.slice none 0 0) := (blk_cell BK211.out 1).trans rfl
       have hfz50_0 := blk_frozen BK211.out 0
       have hfz50_1 := blk_frozen BK211.out 1
       obtain ⟨Ao51, co51, eo51⟩ := Kd.N_slice HO_222001.out
       subst eo51
       go_wp2
       refine bodyPost_ret (results_ct rfl _ _ gb211 31 #[.slice Ao24 t214.length co24, .slice Ao51 x222001_2.length co51] (0, 0) _ rfl (by (with_reducible repeat (first | refine blk_drewN ?_ _ | refine blk_drew ?_ | refine blk_alloc ?_ _)); refine blk_put (cs := #[.slice Ao24 t214.length co24, .slice none 0 0]) ?_ 1 _ rfl; (with_reducible repeat (first | refine blk_drewN ?_ _ | refine blk_drew ?_ | refine blk_alloc ?_ _)); refine blk_put (cs := #[.slice none 0 0, .slice none 0 0]) ?_ 0 _ rfl; (with_reducible repeat (first | refine blk_drewN ?_ _ | refine blk_drew ?_ | refine blk_alloc ?_ _)); exact BK211.out) Tryd.underlying31 rfl (by kernel_rfl)) rfl ?_
       exact ⟨_, _, by first | rfl | (simp [errW_none, errW_some] <;> rfl) | (simp [*, errW_none, errW_some] <;> rfl), by (with_reducible repeat (first | apply Kd.R_alloc | apply Kd.R_drewN | apply Kd.R_drew)); exact Kd.R_mono (Kd.R_far (p := ⟨gb211, 1, none⟩) (Kd.R_far (p := ⟨gb211, 0, none⟩) (Kd.R_types HO_222000.out BK211.out (by decide)) (fun _ hk => hk.2) (.slice Ao24 t214.length co24)) (fun _ hk => hk.2) (.slice Ao51 x222001_2.length co51)) (fun _ hk => hk.1), by (with_reducible repeat (first | apply Kd.N_alloc | apply Kd.N_drewN | apply Kd.N_drew)); exact Kd.N_mono (Kd.N_far (p := ⟨gb211, 1, none⟩) (Kd.N_far (p := ⟨gb211, 0, none⟩) (Kd.N_mono HO_222001.out (fun k_ hk => (⟨hk, hk.2.2.2.2.2.1⟩ : _ ∧ k_ ≠ gb211))) (fun _ hk => hk.2) (.slice Ao24 t214.length co24)) (fun _ hk => hk.2) (.slice Ao51 x222001_2.length co51)) (fun _ hk => ⟨hk.1.1, hk.1.2.2.2.1⟩), by repeat (first | (with_reducible first | exact HB.out | apply below_alloc | apply pw_below_drewN | apply below_drew1 | refine below_set ?_ GE210.out | refine below_set ?_ GE211.out | refine below_set ?_ GE220.out | refine below_set ?_ GE221.out) | exact HB.out)⟩

/-! ### impl_IsValidFact: function 50 -/
def impl_IsValidFact.f (l0 : List (S68)) (a1_0 : Int) (l1_1 : List Int) : Option (Bool) := (impl_AreValidRelations.f l0).bind fun t228 => (if t228 = true then ((impl_isFact.f l0 a1_0 l1_1).bind fun t229 => (some t229)) else (some false))
set_option maxHeartbeats 8000000 in
set_option maxRecDepth 100000 in
theorem impl_IsValidFact.calls (A0 : Option Addr) (c0 : Nat) (l0 : List (S68)) (a1_0 : Int) (A1_1 : Option Addr) (c1_1 : Nat) (l1_1 : List Int) (r : Bool) (w : World) (hr0 : Kd.C k68 w A0 l0.length l0) (hc0 : l0.length ≤ c0) (hr1_1 : Kd.C (Kd.int .i64) w A1_1 l1_1.length l1_1) (hc1_1 : l1_1.length ≤ c1_1) (h : impl_IsValidFact.f l0 a1_0 l1_1 = some r) :
  Calls Tryd.prog 50 #[.slice A0 l0.length c0, .agg #[.int .i64 a1_0, .slice A1_1 l1_1.length c1_1]] w fun e w' => e = .returned (.bool r) ∧ Below w.heap.size w w' := by
 have hu39 := Tryd.underlying39
 obtain ⟨W, hW⟩ : ∃ W, w.alloc (.cells #[.int .i64 a1_0, .slice A1_1 l1_1.length c1_1] 39) = W := ⟨_, rfl⟩
 have q0 := qa (w := W) (p := ⟨w.heap.size, 0, none⟩) (v := .int .i64 a1_0) (by subst hW; go_simp)
 have q1 := qa (w := W) (p := ⟨w.heap.size, 1, none⟩) (v := .slice A1_1 l1_1.length c1_1) (by subst hW; go_simp)
 have HB : Below w.heap.size w W := by subst hW; exact zB
 have HW := Below.refl W.heap.size W
 have hb := aM HB
 unfold impl_IsValidFact.f at h
 replace h := bs h; obtain ⟨t228, B0, h⟩ := h
 replace h := ib h; rcases h with ⟨rfl, h⟩ | ⟨rfl, h⟩
 replace h := bs h; obtain ⟨t229, B2, h⟩ := h
 obtain rfl := si h
 rotate_left
 obtain rfl := si h
 rotate_left
 all_goals (go_enter Tryd.func50, Tryd.ntmps50; go_wp2_with (first | (go_at_call 76; refine (impl_AreValidRelations.calls _ _ _ ?_ _ ?_ ?_ ?h).mono ?_; (case h => exact zA); (iterate 2 (first | exact zC | exact zA)); rintro e w1 ⟨rfl, hb⟩; replace hb := aM hb; have HW : Below W.heap.size W w1 := zB; have HB : Below w.heap.size w w1 := zB) | (go_at_call 77; refine (impl_isFact.calls _ _ _ _ _ _ _ ?_ _ ?_ ?_ ?_ ?_ ?h).mono ?_; (case h => exact zA); (iterate 4 (first | exact zC | exact zA)); rintro e w1 ⟨rfl, hb⟩; replace hb := aM hb; have HW : Below W.heap.size W w1 := zB; have HB : Below w.heap.size w w1 := zB)); go_ret; exact zE zB)

/-! ### strconv_Itoa_92: function 92 -/
def strconv_Itoa_92.f (a0 : Int) : Option (ByteArray) := if -9223372036854775808 ≤ a0 then (if a0 ≤ 9223372036854775807 then (some (⟨(Lib.itoa a0).toArray⟩ : ByteArray)) else (none)) else (none)
theorem strconv_Itoa_92.calls (a0 : Int) (r : ByteArray) (w : World) (h : strconv_Itoa_92.f a0 = some r) (hp_ : Go.Proofs.YtckpikfbhlhhjaaDoor.Shelf.Pow w) :
 Calls Tryd.prog 92 #[.int .i64 a0] w fun e w' => e = .returned (.string r) ∧ Below w.heap.size w w' := by
 unfold strconv_Itoa_92.f at h
 replace h := ie h; rcases h with ⟨c0, c0a, h⟩ | ⟨c0, c0a, h⟩
 replace h := ie h; rcases h with ⟨c1, c1a, h⟩ | ⟨c1, c1a, h⟩
 obtain rfl := si h
 exact Shelf.Itoa a0 c0.out c1.out w hp_
 exact absurd h (by simp)
 exact absurd h (by simp)


/-! ### impl_FormatInt: function 51 -/
def impl_FormatInt.f (a0 : Int) : Option (ByteArray) := (strconv_Itoa_92.f a0).bind fun t247 => (some t247)
set_option maxHeartbeats 8000000 in
set_option maxRecDepth 100000 in
theorem impl_FormatInt.calls (a0 : Int) (r : ByteArray) (w : World) (h : impl_FormatInt.f a0 = some r) (hp_ : Go.Proofs.YtckpikfbhlhhjaaDoor.Shelf.Pow w) :
  Calls Tryd.prog 51 #[.int .i64 a0] w fun e w' => e = .returned (.string r) ∧ Below w.heap.size w w' := by
 unfold impl_FormatInt.f at h
 replace h := bs h; obtain ⟨t247, B0, h⟩ := h
 obtain rfl := si h
 rotate_left
 all_goals (go_enter Tryd.func51, Tryd.ntmps51; go_wp2_with (first | (go_at_call 92; refine (strconv_Itoa_92.calls _ ?_ _ ?h ?hp).mono ?_; (case h => exact zA); (case hp => exact hp_.on zB); rintro e w1 ⟨rfl, hb⟩; replace hb := aM hb; have HB : Below w.heap.size w w1 := zB)); go_ret; exact zE zB)

-- NOT PRINTED: function 110 (abi_NoEscape)

-- NOT PRINTED: function 103 (strings_Builder_copyCheck)

-- NOT PRINTED: function 111 (bytealg_MakeNoZero)

-- NOT PRINTED: function 104 (strings_Builder_grow)

-- NOT PRINTED: function 85 (strings_Builder_Grow)

-- NOT PRINTED: function 86 (strings_Builder_WriteString)

-- NOT PRINTED: function 87 (strings_Builder_String)

/-! ### strings_Join: function 44 -/
def strings_Join.f (l0 : List ByteArray) (a1 : ByteArray) : Option (ByteArray) := if l0.length ≤ 1000000000 ∧ (Shelf.jn_ l0 a1).length ≤ 1000000000 then some (⟨(Shelf.jn_ l0 a1).toArray⟩ : ByteArray) else none
set_option maxHeartbeats 2000000 in
set_option maxRecDepth 100000 in
theorem strings_Join.calls (A0 : Option Addr) (c0 : Nat) (l0 : List ByteArray) (a1 : ByteArray) (r : ByteArray) (w : World) (hr0 : Kd.C Kd.string w A0 l0.length l0) (hc0 : l0.length ≤ c0) (h : strings_Join.f l0 a1 = some r) :
 Calls Tryd.prog 44 #[.slice A0 l0.length c0, .string a1] w fun e w' => e = .returned (.string r) ∧ Below w.heap.size w w' := by
 unfold strings_Join.f at h
 by_cases h2 : l0.length ≤ 1000000000 ∧ (Shelf.jn_ l0 a1).length ≤ 1000000000
 ·rw [if_pos h2] at h
  replace h := Option.some.inj h
  subst h
  exact Shelf.JoinS A0 l0 c0 a1 w hc0 hr0 (by omega) (by omega)
 ·rw [if_neg h2] at h; exact absurd h (by simp)


/-! ### impl_barred: function 52 -/
def impl_barred.f (l0 : List ByteArray) (a1 : Int) : Option (ByteArray) := if 0 ≤ a1 ∧ a1 ≤ (l0.length : Int) then (if l0.length ≤ 1000000000 ∧ (Shelf.cat_ l0).length ≤ 1000000000 then some (if a1 < (l0.length : Int) then (⟨(Shelf.cat_ (l0.take a1.toNat)).toArray⟩ : ByteArray) ++ ((⟨#[124]⟩ : ByteArray) ++ (⟨(Shelf.cat_ (l0.drop a1.toNat)).toArray⟩ : ByteArray)) else (⟨(Shelf.cat_ (l0.take a1.toNat)).toArray⟩ : ByteArray)) else none) else none
set_option maxHeartbeats 2000000 in
set_option maxRecDepth 100000 in
theorem impl_barred.calls (A0 : Option Addr) (c0 : Nat) (l0 : List ByteArray) (a1 : Int) (r : ByteArray) (w : World) (hr0 : Kd.C Kd.string w A0 l0.length l0) (hc0 : l0.length ≤ c0) (h : impl_barred.f l0 a1 = some r) :
 Calls Tryd.prog 52 #[.slice A0 l0.length c0, .int .i64 a1] w fun e w' => e = .returned (.string r) ∧ Below w.heap.size w w' := by
 unfold impl_barred.f at h
 by_cases h1 : 0 ≤ a1 ∧ a1 ≤ (l0.length : Int)
 ·rw [if_pos h1] at h
  by_cases h2 : l0.length ≤ 1000000000 ∧ (Shelf.cat_ l0).length ≤ 1000000000
  ·rw [if_pos h2] at h
   replace h := Option.some.inj h
   obtain ⟨i, hi, hsz⟩ : ∃ i, Tryd.prog.info? 9 = some i ∧ i.size = 1 := by
    have e : (Tryd.prog.info? 9).map (fun x => x.size) = some 1 := by kernel_rfl
    exact Option.map_eq_some_iff.1 e
   have hR : ReadsOf Value.string ByteArray.empty w A0 l0.length l0 := Kd.reads_of_C hr0
   obtain ⟨T1, T2, T3⟩ := print_take_of Value.string ByteArray.empty 72 9 .i64 Tryd.underlying72 hi hsz A0 c0 l0 a1 h1.1 h1.2 hc0
   obtain ⟨A', D1, D2, D3⟩ := print_drop_of Value.string ByteArray.empty 72 9 .i64 Tryd.underlying72 hi hsz A0 c0 l0 a1 h1.1 h1.2 hc0
   have lt := Shelf.cat_len l0 a1.toNat
   have CT : Kd.C Kd.string w A0 (l0.take a1.toNat).length (l0.take a1.toNat) := Kd.C_of_reads (T2 w hR)
   have CD : Kd.C Kd.string w A' (l0.drop a1.toNat).length (l0.drop a1.toNat) := Kd.C_of_reads (D2 w hR)
   have JT := Shelf.Join A0 (l0.take a1.toNat) c0 w T3 CT (by rw [List.length_take]; omega) (by omega)
   have JD := fun W hW => Shelf.Join A' (l0.drop a1.toNat) (c0 - a1.toNat) W D3 (Kd.C_below CD hW) (by rw [List.length_drop]; omega) (by omega)
   have z1 : (⟨(Shelf.cat_ (l0.take a1.toNat)).toArray⟩ : ByteArray).size ≤ 1000000000 := by rw [show (⟨(Shelf.cat_ (l0.take a1.toNat)).toArray⟩ : ByteArray).size = (Shelf.cat_ (l0.take a1.toNat)).toArray.size from rfl, List.size_toArray]; omega
   have z2 : (⟨(Shelf.cat_ (l0.drop a1.toNat)).toArray⟩ : ByteArray).size ≤ 1000000000 := by rw [show (⟨(Shelf.cat_ (l0.drop a1.toNat)).toArray⟩ : ByteArray).size = (Shelf.cat_ (l0.drop a1.toNat)).toArray.size from rfl, List.size_toArray]; omega
   generalize (⟨(Shelf.cat_ (l0.take a1.toNat)).toArray⟩ : ByteArray) = s1 at h JT z1
   generalize (⟨(Shelf.cat_ (l0.drop a1.toNat)).toArray⟩ : ByteArray) = s2 at h JD z2
   rw [List.length_take] at JT
   simp only [List.length_drop] at JD
   have l1 : (⟨#[124]⟩ : ByteArray).size = 1 := rfl
   have y1 : (1 + s2.size ≤ 9223372036854775807) = True := eq_true (by omega)
   have y2 : decide (1 + s2.size ≤ 9223372036854775807) = true := decide_eq_true (by omega)
   have y3 : (9223372036854775807 < 1 + s2.size) = False := eq_false (by omega)
   have y4 : (s1.size + (1 + s2.size) ≤ 9223372036854775807) = True := eq_true (by omega)
   have y5 : decide (s1.size + (1 + s2.size) ≤ 9223372036854775807) = true := decide_eq_true (by omega)
   have y6 : (9223372036854775807 < s1.size + (1 + s2.size)) = False := eq_false (by omega)
   clear z1 z2 lt T2 D2 hR CT CD h2 T3 D3 l1
   by_cases c : a1 < (l0.length : Int)
   ·rw [if_pos c] at h
    subst h
    have cx : decide (a1 < (l0.length : Int)) = true := decide_eq_true c
    clear c h1
    go_enter Tryd.func52, Tryd.ntmps52
    go_wp2_with (first | (go_at_call 44; first | (refine (JD _ hb).mono ?_; rintro e w2 ⟨rfl, hc⟩) | (refine JT.mono ?_; rintro e w1 ⟨rfl, hb⟩)))
    go_ret
    exact ⟨rfl, below_then hb hb.size hc⟩
   ·rw [if_neg c] at h
    subst h
    have cx : decide (a1 < (l0.length : Int)) = false := decide_eq_false c
    clear c h1
    go_enter Tryd.func52, Tryd.ntmps52
    go_wp2_with (go_at_call 44; refine JT.mono ?_; rintro e w1 ⟨rfl, hb⟩)
    go_ret
    exact ⟨rfl, hb⟩
  ·rw [if_neg h2] at h; exact absurd h (by simp)
 ·rw [if_neg h1] at h; exact absurd h (by simp)


end Go.Proofs.YtckpikfbhlhhjaaDoor.PFnExactFormatFacts
