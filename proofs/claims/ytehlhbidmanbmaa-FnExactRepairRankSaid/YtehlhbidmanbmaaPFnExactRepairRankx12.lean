-- Laid by a program of this claim: what the functions come to, some of them proved by hand.
import Derived.Test.YtehlhbidmanbmaaPFnExactRepairRankx0
import Derived.Test.YtehlhbidmanbmaaPFnExactRepairRankx6
import Derived.Test.YtehlhbidmanbmaaPFnExactRepairRankx7
import Derived.Test.YtehlhbidmanbmaaPFnExactRepairRankx11
namespace Go.Proofs.Ytehlhbidmanbmaa.PFnExactRepairRank
open Go.RowKit Go.Proofs.YtehlhbidmanbmaaW.PrintWords Go.Proofs.YtehlhbidmanbmaaW.PrintLast Go.Proofs.YtehlhbidmanbmaaW.PrintMore
attribute [local go_sem] max2_int min2_int max_two min_two max_three min_three max_four min_four   -- for this text's walks alone
set_option linter.unusedVariables false
set_option linter.unusedSimpArgs false

/-! ### spec_HaveSameKey: function 65 -/
def spec_HaveSameKey.f (k : Nat) (l0 : List (S86)) (a1_0 : Int) (l1_1 : List Int) (a2_0 : Int) (l2_1 : List Int) : Option (Bool) := (spec_IsValidFact.f k l0 a1_0 l1_1).bind fun t237 => (if t237 = true then ((spec_IsValidFact.f k l0 a2_0 l2_1).bind fun t238 => (if t238 = true then (if a1_0 = a2_0 then ((spec_KeyOf.f k l0 a1_0 l1_1).bind fun t239 => ((spec_KeyOf.f k l0 a2_0 l2_1).bind fun t242 => ((spec_l3Ints.f k t239 t242).bind fun t245 => (some (t245 == 0))))) else (some false)) else (some false))) else (some false))
theorem spec_HaveSameKey.mono : ∀ a0 a1 a2 a3 a4 k, LeO (spec_HaveSameKey.f k a0 a1 a2 a3 a4) (spec_HaveSameKey.f (k + 1) a0 a1 a2 a3 a4) := by
 intro a0 a1 a2 a3 a4 k
 unfold spec_HaveSameKey.f
 repeat' first
   | (with_reducible exact spec_IsValidFact.mono _ _ _ _)
   | (with_reducible exact spec_KeyOf.mono _ _ _ _)
   | (with_reducible exact spec_l3Ints.mono _ _ _)
   | (with_reducible exact LeO.refl _)
   | (with_reducible exact LeO.none _)
   | (with_reducible refine LeO.ite ?_ ?_)
   | (with_reducible refine LeO.bind ?_ (fun _ => ?_))
   | exact spec_IsValidFact.mono _ _ _ _
   | exact spec_KeyOf.mono _ _ _ _
   | exact spec_l3Ints.mono _ _ _
   | exact LeO.none _
   | refine LeO.ite ?_ ?_
   | refine LeO.bind ?_ (fun _ => ?_)
def spec_HaveSameKey.T1 : Bool × List (List Nat × List Nat) := (true, [([], []), ([], []), ([0, 1], [0, 1]), ([2, 2], [2]), ([3], [3]), ([3], [3]), ([4, 5, 3, 3], [3, 4, 5]), ([3, 6], [3, 6]), ([7, 6], [7]), ([8], [8]), ([9, 8], [8, 9]), ([8], [8]), ([11, 8], [8, 11]), ([10, 12, 8], [8, 10, 12]), ([8, 13], [8, 13]), ([14, 8], [14]), ([15], [15]), ([15], [15]), ([16, 17, 15, 15], [15, 16, 17]), ([15], [15]), ([15], [15]), ([19, 20, 18, 15], [15, 19, 20]), ([18, 21, 21, 15], [15, 18, 21]), ([22, 15], [15, 22]), ([15, 23], [15, 23]), ([24, 22, 0, 1, 2, 3, 4, 5, 6, 7, 8, 9, 10, 11, 12, 13, 14, 15, 16, 17, 18, 19, 20, 21, 22, 23, 24], [24])])
def spec_HaveSameKey.B1 : List Nat := [0, 0, 3, 7, 15, 15, 63, 127, 255, 511, 1023, 511, 2559, 8191, 16383, 32767, 65535, 65535, 262143, 65535, 65535, 2097151, 4194303, 8388607, 16777215, 33554431]
theorem spec_HaveSameKey.tab1 : rtab .any (opsOf Try.f65 1) = spec_HaveSameKey.T1 := by kernel_rfl
theorem spec_HaveSameKey.bits1 : waitsOk spec_HaveSameKey.T1.2 spec_HaveSameKey.B1 = true := by kernel_rfl
set_option maxHeartbeats 8000000 in
set_option maxRecDepth 100000 in
theorem spec_HaveSameKey.calls (k : Nat) (A0 : Option Addr) (c0 : Nat) (l0 : List (S86)) (a1_0 : Int) (A1_1 : Option Addr) (c1_1 : Nat) (l1_1 : List Int) (a2_0 : Int) (A2_1 : Option Addr) (c2_1 : Nat) (l2_1 : List Int) (r : Bool) (w : World) (hr0 : Kd.C k86 w A0 l0.length l0) (hc0 : l0.length ≤ c0) (hr1_1 : Kd.C (Kd.int .i64) w A1_1 l1_1.length l1_1) (hc1_1 : l1_1.length ≤ c1_1) (hr2_1 : Kd.C (Kd.int .i64) w A2_1 l2_1.length l2_1) (hc2_1 : l2_1.length ≤ c2_1) (h : spec_HaveSameKey.f k l0 a1_0 l1_1 a2_0 l2_1 = some r) :
  Calls Try.prog 65 #[.slice A0 l0.length c0, .agg #[.int .i64 a1_0, .slice A1_1 l1_1.length c1_1], .agg #[.int .i64 a2_0, .slice A2_1 l2_1.length c2_1]] w fun e w' => e = .returned (.bool r) ∧ Below w.heap.size w w' := by
 have hu50 := Try.underlying50
 have HR0 := aM hr0
 have HC0 := aM hc0
 clear hr0 hc0
 have HR1_1 := aM hr1_1
 have HC1_1 := aM hc1_1
 clear hr1_1 hc1_1
 have HR2_1 := aM hr2_1
 have HC2_1 := aM hc2_1
 clear hr2_1 hc2_1
 have HB := aM (Below.refl w.heap.size w)
 have H : ((spec_IsValidFact.f k l0 a1_0 l1_1).bind fun t237 => (if t237 = true then ((spec_IsValidFact.f k l0 a2_0 l2_1).bind fun t238 => (if t238 = true then (if a1_0 = a2_0 then ((spec_KeyOf.f k l0 a1_0 l1_1).bind fun t239 => ((spec_KeyOf.f k l0 a2_0 l2_1).bind fun t242 => ((spec_l3Ints.f k t239 t242).bind fun t245 => (some (t245 == 0))))) else (some false)) else (some false))) else (some false))) = some r := h
 clear h
 replace H := Option.bind_eq_some_iff.mp H
 obtain ⟨t237, A40, H⟩ := H
 replace H : (if t237 = true then ((spec_IsValidFact.f k l0 a2_0 l2_1).bind fun t238 => (if t238 = true then (if a1_0 = a2_0 then ((spec_KeyOf.f k l0 a1_0 l1_1).bind fun t239 => ((spec_KeyOf.f k l0 a2_0 l2_1).bind fun t242 => ((spec_l3Ints.f k t239 t242).bind fun t245 => (some (t245 == 0))))) else (some false)) else (some false))) else (some false)) = some r := H
 have A4 := aM A40
 clear A40
 by_cases c5 : t237 = true
 ·subst c5
  have H1 : ((spec_IsValidFact.f k l0 a2_0 l2_1).bind fun t238 => (if t238 = true then (if a1_0 = a2_0 then ((spec_KeyOf.f k l0 a1_0 l1_1).bind fun t239 => ((spec_KeyOf.f k l0 a2_0 l2_1).bind fun t242 => ((spec_l3Ints.f k t239 t242).bind fun t245 => (some (t245 == 0))))) else (some false)) else (some false))) = some r := by rw [if_pos rfl] at H; exact H
  clear H
  have H := H1
  clear H1
  replace H := Option.bind_eq_some_iff.mp H
  obtain ⟨t238, A60, H⟩ := H
  replace H : (if t238 = true then (if a1_0 = a2_0 then ((spec_KeyOf.f k l0 a1_0 l1_1).bind fun t239 => ((spec_KeyOf.f k l0 a2_0 l2_1).bind fun t242 => ((spec_l3Ints.f k t239 t242).bind fun t245 => (some (t245 == 0))))) else (some false)) else (some false)) = some r := H
  have A6 := aM A60
  clear A60
  by_cases c7 : t238 = true
  ·subst c7
   have H1 : (if a1_0 = a2_0 then ((spec_KeyOf.f k l0 a1_0 l1_1).bind fun t239 => ((spec_KeyOf.f k l0 a2_0 l2_1).bind fun t242 => ((spec_l3Ints.f k t239 t242).bind fun t245 => (some (t245 == 0))))) else (some false)) = some r := by rw [if_pos rfl] at H; exact H
   clear H
   have H := H1
   clear H1
   by_cases c8 : a1_0 = a2_0
   ·rw [if_pos c8] at H
    have c8b0 : (a1_0 == a2_0) = true := beq_iff_eq.mpr c8
    have c8b1 : (a1_0 != a2_0) = false := bne_eq_false_iff_eq.mpr c8
    clear c8
    replace H := Option.bind_eq_some_iff.mp H
    obtain ⟨t239, A90, H⟩ := H
    replace H : ((spec_KeyOf.f k l0 a2_0 l2_1).bind fun t242 => ((spec_l3Ints.f k t239 t242).bind fun t245 => (some (t245 == 0)))) = some r := H
    have A9 := aM A90
    clear A90
    replace H := Option.bind_eq_some_iff.mp H
    obtain ⟨t242, A100, H⟩ := H
    replace H : ((spec_l3Ints.f k t239 t242).bind fun t245 => (some (t245 == 0))) = some r := H
    have A10 := aM A100
    clear A100
    replace H := Option.bind_eq_some_iff.mp H
    obtain ⟨t245, A110, H⟩ := H
    replace H : (some (t245 == 0)) = some r := H
    have A11 := aM A110
    clear A110
    obtain rfl := Option.some.inj H
    go_enter Try.func65, Try.ntmps65
    try go_wp2_with (first | ((with_reducible refine gate_dst (N := 4) rfl ?_); refine box_event ?hg (N := 4) ?hd (cs := #[.int .i64 a1_0, .slice A1_1 l1_1.length c1_1]) (t := 50) ?hr ?_; (case hd => rfl); (case hg => rfl); (case hr => first | (go_simp; done) | (go_simp; rfl)); intro gb235 hg w12 hbox hb; have n0_ := aM (below_step aB hb); have n1_ := aM (hbox); have n2_ := aM ((by rw [hg]; exact (below_size aB) : w.heap.size ≤ gb235)); have n3_ := aM ((by rw [hg]; exact (below_size aB) : w.heap.size ≤ gb235)); clear HB; have HB := n0_; have BK235 := n1_; have GW235 := n2_; have GE235 := n3_; clear n0_ n1_ n2_ n3_; clear hb hbox hg) | ((with_reducible refine gate_dst (N := 5) rfl ?_); refine box_event ?hg (N := 5) ?hd (cs := #[.int .i64 a2_0, .slice A2_1 l2_1.length c2_1]) (t := 50) ?hr ?_; (case hd => rfl); (case hg => rfl); (case hr => first | (go_simp; done) | (go_simp; rfl)); intro gb236 hg w13 hbox hb; have n0_ := aM (blk_below (g := gb235) (o := .cells #[.int .i64 a1_0, .slice A1_1 l1_1.length c1_1] 50 (0, 0)) aK hb); have n1_ := aM (below_step aG hb); have n2_ := aM (hbox); have n3_ := aM ((by rw [hg]; exact (below_size aG) : w.heap.size ≤ gb236)); have n4_ := aM ((by rw [hg]; exact (below_size aG) : w.heap.size ≤ gb236)); have n5_ := aM ((by rw [hg]; exact Nat.ne_of_lt (blk_lt (g := gb235) (o := .cells #[.int .i64 a1_0, .slice A1_1 l1_1.length c1_1] 50 (0, 0)) aK) : gb235 ≠ gb236)); have n6_ := aM ((by rw [hg]; exact Nat.ne_of_gt (blk_lt (g := gb235) (o := .cells #[.int .i64 a1_0, .slice A1_1 l1_1.length c1_1] 50 (0, 0)) aK) : gb236 ≠ gb235)); clear BK235; clear HB; have BK235 := n0_; have HB := n1_; have BK236 := n2_; have GW236 := n3_; have GE236 := n4_; have NB235_236 := n5_; have NB236_235 := n6_; clear n0_ n1_ n2_ n3_ n4_ n5_ n6_; clear hb hbox hg))
    have n0_ := aM (blk_drew BK235.out)
    have n1_ := aM (blk_drew BK236.out)
    have n2_ := aM (below_drew1 HB.out)
    clear BK235
    clear BK236
    clear HB
    have BK235 := n0_
    have BK236 := n1_
    have HB := n2_
    clear n0_ n1_ n2_
    refine start_ (n := 26) (S := fun w' => w'.cell? ⟨gb235, 0, none⟩ = some (.int .i64 a1_0) ∧ w'.cell? ⟨gb235, 1, none⟩ = some (.slice A1_1 l1_1.length c1_1) ∧ w'.cell? ⟨gb236, 0, none⟩ = some (.int .i64 a2_0) ∧ w'.cell? ⟨gb236, 1, none⟩ = some (.slice A2_1 l2_1.length c2_1)) (ds := []) #[false, false, false, false, false, false, false, false, false, false, false, false, false, false, false, false, false, false, false, false, false, false, false, false, false, false] (by kernel_rfl) rfl rfl ⟨(blk_cell BK235.out 0).trans rfl, (blk_cell BK235.out 1).trans rfl, (blk_cell BK236.out 0).trans rfl, (blk_cell BK236.out 1).trans rfl⟩ (fun hHeld => ?_); refine with_tabW spec_HaveSameKey.tab1 spec_HaveSameKey.bits1 (fun HT_ HW_ => ?_)
    generalize w13.drew = w14 at BK235 BK236 HB hHeld ⊢
    refine pure_ (i := 0) (N := some 7) (v := ?_) (a' := ?_) #[true, false, false, false, false, false, false, false, false, false, false, false, false, false, false, false, false, false, false, false, false, false, false, false, false, false] rfl rfl (any_of HT_.out (by kernel_rfl)) (fun _ _ _ h => h) (Or.inl ⟨by rfl, ?_⟩) ?_ ?_
    rotate_left
    ·exact aI
    rotate_left
    ·exact aP
    refine take_ (i := 1) (N := some 8) (v := ?_) (a' := ?_) #[true, true, false, false, false, false, false, false, false, false, false, false, false, false, false, false, false, false, false, false, false, false, false, false, false, false] rfl rfl (take_ofW HT_.out HW_.out (by kernel_rfl)) (fun _ _ _ h => h) (Or.inl ⟨by rfl, ?_⟩) hHeld ?_ ?_
    rotate_left
    ·rintro w' ⟨s0, s1, s2, s3⟩
     go_simp
     with_reducible rfl
    rotate_left
    ·exact aP
    refine one_ (i := 2) (N := some 9) #[true, true, true, false, false, false, false, false, false, false, false, false, false, false, false, false, false, false, false, false, false, false, false, false, false, false] rfl rfl (one_of HT_.out (by kernel_rfl)) (by decide) (fun K hK => ?_)
    refine goes_ Try.func89 (by kernel_rfl) rfl #[.slice A0 l0.length c0, .agg #[.int .i64 a1_0, .slice A1_1 l1_1.length c1_1]] (by rfl) rfl rfl (by (try simp only [List.map_toArray, List.map_cons, List.map_nil]); first | done | rfl | (simp only [List.length_drop, List.length_take]; rfl)) ?_
    with_reducible refine (spec_IsValidFact.calls k _ _ l0 a1_0 _ _ l1_1 true _ ?side1 ?side2 ?side3 ?side4 A4.out).mono ?_
    (case side1 => exact aC)
    (case side2 => exact HC0.out)
    (case side3 => exact aC)
    (case side4 => exact HC1_1.out)
    rintro e w15 ⟨rfl, hb⟩
    refine ⟨_, rfl, ?_⟩
    have n0_ := aM (blk_below (g := gb235) (o := .cells #[.int .i64 a1_0, .slice A1_1 l1_1.length c1_1] 50 (0, 0)) aK hb)
    have n1_ := aM (blk_below (g := gb236) (o := .cells #[.int .i64 a2_0, .slice A2_1 l2_1.length c2_1] 50 (0, 0)) aK hb)
    have n2_ := aM (below_step aG hb)
    clear BK235
    clear BK236
    clear HB
    have BK235 := n0_
    have BK236 := n1_
    have HB := n2_
    clear n0_ n1_ n2_
    (try clear hb)
    (try clear hb2)
    (try clear hk)
    (try clear hi)
    refine hK.out _ _ ⟨(blk_cell BK235.out 0).trans rfl, (blk_cell BK235.out 1).trans rfl, (blk_cell BK236.out 0).trans rfl, (blk_cell BK236.out 1).trans rfl⟩ (fun hHeld => ?_)
    clear hK K
    refine norm_ (a' := ?_) ?_ ?_
    rotate_left
    ·show Act.put _ (some 9) _ = _
     simp only [Act.put, List.setIfInBounds_toArray, List.set_cons_zero, List.set_cons_succ, i64_w, i32_w]
     rfl
    refine pure_ (i := 3) (N := some 10) (v := ?_) (a' := ?_) #[true, true, true, true, false, false, false, false, false, false, false, false, false, false, false, false, false, false, false, false, false, false, false, false, false, false] rfl rfl (any_of HT_.out (by kernel_rfl)) (fun _ _ _ h => h) (Or.inl ⟨by rfl, ?_⟩) ?_ ?_
    rotate_left
    ·exact aI
    rotate_left
    ·exact aP
    refine pure_ (i := 4) (N := some 11) (v := ?_) (a' := ?_) #[true, true, true, true, true, false, false, false, false, false, false, false, false, false, false, false, false, false, false, false, false, false, false, false, false, false] rfl rfl (any_of HT_.out (by kernel_rfl)) (fun _ _ _ h => h) (Or.inl ⟨by rfl, ?_⟩) ?_ ?_
    rotate_left
    ·exact aI
    rotate_left
    ·exact aP
    refine take_ (i := 5) (N := some 12) (v := ?_) (a' := ?_) #[true, true, true, true, true, true, false, false, false, false, false, false, false, false, false, false, false, false, false, false, false, false, false, false, false, false] rfl rfl (take_ofW HT_.out HW_.out (by kernel_rfl)) (fun _ _ _ h => h) (Or.inl ⟨by rfl, ?_⟩) hHeld ?_ ?_
    rotate_left
    ·rintro w' ⟨s0, s1, s2, s3⟩
     go_simp
     with_reducible rfl
    rotate_left
    ·exact aP
    refine one_ (i := 6) (N := some 13) #[true, true, true, true, true, true, true, false, false, false, false, false, false, false, false, false, false, false, false, false, false, false, false, false, false, false] rfl rfl (one_of HT_.out (by kernel_rfl)) (by decide) (fun K hK => ?_)
    refine goes_ Try.func89 (by kernel_rfl) rfl #[.slice A0 l0.length c0, .agg #[.int .i64 a2_0, .slice A2_1 l2_1.length c2_1]] (by rfl) rfl rfl (by (try simp only [List.map_toArray, List.map_cons, List.map_nil]); first | done | rfl | (simp only [List.length_drop, List.length_take]; rfl)) ?_
    with_reducible refine (spec_IsValidFact.calls k _ _ l0 a2_0 _ _ l2_1 true _ ?side1 ?side2 ?side3 ?side4 A6.out).mono ?_
    (case side1 => exact aC)
    (case side2 => exact HC0.out)
    (case side3 => exact aC)
    (case side4 => exact HC2_1.out)
    rintro e w16 ⟨rfl, hb⟩
    refine ⟨_, rfl, ?_⟩
    have n0_ := aM (blk_below (g := gb235) (o := .cells #[.int .i64 a1_0, .slice A1_1 l1_1.length c1_1] 50 (0, 0)) aK hb)
    have n1_ := aM (blk_below (g := gb236) (o := .cells #[.int .i64 a2_0, .slice A2_1 l2_1.length c2_1] 50 (0, 0)) aK hb)
    have n2_ := aM (below_step aG hb)
    clear BK235
    clear BK236
    clear HB
    have BK235 := n0_
    have BK236 := n1_
    have HB := n2_
    clear n0_ n1_ n2_
    (try clear hb)
    (try clear hb2)
    (try clear hk)
    (try clear hi)
    refine hK.out _ _ ⟨(blk_cell BK235.out 0).trans rfl, (blk_cell BK235.out 1).trans rfl, (blk_cell BK236.out 0).trans rfl, (blk_cell BK236.out 1).trans rfl⟩ (fun hHeld => ?_)
    clear hK K
    refine norm_ (a' := ?_) ?_ ?_
    rotate_left
    ·show Act.put _ (some 13) _ = _
     simp only [Act.put, List.setIfInBounds_toArray, List.set_cons_zero, List.set_cons_succ, i64_w, i32_w]
     rfl
    refine pure_ (i := 7) (N := some 14) (v := ?_) (a' := ?_) #[true, true, true, true, true, true, true, true, false, false, false, false, false, false, false, false, false, false, false, false, false, false, false, false, false, false] rfl rfl (any_of HT_.out (by kernel_rfl)) (fun _ _ _ h => h) (Or.inl ⟨by rfl, ?_⟩) ?_ ?_
    rotate_left
    ·exact aI
    rotate_left
    ·exact aP
    refine pure_ (i := 8) (N := some 15) (v := ?_) (a' := ?_) #[true, true, true, true, true, true, true, true, true, false, false, false, false, false, false, false, false, false, false, false, false, false, false, false, false, false] rfl rfl (any_of HT_.out (by kernel_rfl)) (fun _ _ _ h => h) (Or.inl ⟨by rfl, ?_⟩) ?_ ?_
    rotate_left
    ·exact aI
    rotate_left
    ·exact aP
    refine pure_ (i := 9) (N := some 16) (v := ?_) (a' := ?_) #[true, true, true, true, true, true, true, true, true, true, false, false, false, false, false, false, false, false, false, false, false, false, false, false, false, false] rfl rfl (any_of HT_.out (by kernel_rfl)) (fun _ _ _ h => h) (Or.inl ⟨by rfl, ?_⟩) ?_ ?_
    rotate_left
    ·exact aI
    rotate_left
    ·exact aP
    refine pure_ (i := 11) (N := some 18) (v := ?_) (a' := ?_) #[true, true, true, true, true, true, true, true, true, true, false, true, false, false, false, false, false, false, false, false, false, false, false, false, false, false] rfl rfl (any_of HT_.out (by kernel_rfl)) (fun _ _ _ h => h) (Or.inl ⟨by rfl, ?_⟩) ?_ ?_
    rotate_left
    ·exact aI
    rotate_left
    ·exact aP
    refine take_ (i := 10) (N := some 17) (v := ?_) (a' := ?_) #[true, true, true, true, true, true, true, true, true, true, true, true, false, false, false, false, false, false, false, false, false, false, false, false, false, false] rfl rfl (take_ofW HT_.out HW_.out (by kernel_rfl)) (fun _ _ _ h => h) (Or.inl ⟨by rfl, ?_⟩) hHeld ?_ ?_
    rotate_left
    ·rintro w' ⟨s0, s1, s2, s3⟩
     go_simp
     with_reducible rfl
    rotate_left
    ·exact aP
    refine take_ (i := 12) (N := some 19) (v := ?_) (a' := ?_) #[true, true, true, true, true, true, true, true, true, true, true, true, true, false, false, false, false, false, false, false, false, false, false, false, false, false] rfl rfl (take_ofW HT_.out HW_.out (by kernel_rfl)) (fun _ _ _ h => h) (Or.inl ⟨by rfl, ?_⟩) hHeld ?_ ?_
    rotate_left
    ·rintro w' ⟨s0, s1, s2, s3⟩
     go_simp
     with_reducible rfl
    rotate_left
    ·exact aP
    refine pure_ (i := 13) (N := some 20) (v := ?_) (a' := ?_) #[true, true, true, true, true, true, true, true, true, true, true, true, true, true, false, false, false, false, false, false, false, false, false, false, false, false] rfl rfl (any_of HT_.out (by kernel_rfl)) (fun _ _ _ h => h) (Or.inl ⟨by rfl, ?_⟩) ?_ ?_
    rotate_left
    ·exact aI
    rotate_left
    ·exact aP
    refine pure_ (i := 14) (N := some 21) (v := ?_) (a' := ?_) #[true, true, true, true, true, true, true, true, true, true, true, true, true, true, true, false, false, false, false, false, false, false, false, false, false, false] rfl rfl (any_of HT_.out (by kernel_rfl)) (fun _ _ _ h => h) (Or.inl ⟨by rfl, ?_⟩) ?_ ?_
    rotate_left
    ·exact aI
    rotate_left
    ·exact aP
    refine pure_ (i := 15) (N := some 22) (v := ?_) (a' := ?_) #[true, true, true, true, true, true, true, true, true, true, true, true, true, true, true, true, false, false, false, false, false, false, false, false, false, false] rfl rfl (any_of HT_.out (by kernel_rfl)) (fun _ _ _ h => h) (Or.inl ⟨by rfl, ?_⟩) ?_ ?_
    rotate_left
    ·exact aI
    rotate_left
    ·exact aP
    refine pure_ (i := 16) (N := some 23) (v := ?_) (a' := ?_) #[true, true, true, true, true, true, true, true, true, true, true, true, true, true, true, true, true, false, false, false, false, false, false, false, false, false] rfl rfl (any_of HT_.out (by kernel_rfl)) (fun _ _ _ h => h) (Or.inl ⟨by rfl, ?_⟩) ?_ ?_
    rotate_left
    ·exact aI
    rotate_left
    ·exact aP
    refine pure_ (i := 19) (N := some 26) (v := ?_) (a' := ?_) #[true, true, true, true, true, true, true, true, true, true, true, true, true, true, true, true, true, false, false, true, false, false, false, false, false, false] rfl rfl (any_of HT_.out (by kernel_rfl)) (fun _ _ _ h => h) (Or.inl ⟨by rfl, ?_⟩) ?_ ?_
    rotate_left
    ·exact aI
    rotate_left
    ·exact aP
    refine take_ (i := 17) (N := some 24) (v := ?_) (a' := ?_) #[true, true, true, true, true, true, true, true, true, true, true, true, true, true, true, true, true, true, false, true, false, false, false, false, false, false] rfl rfl (take_ofW HT_.out HW_.out (by kernel_rfl)) (fun _ _ _ h => h) (Or.inl ⟨by rfl, ?_⟩) hHeld ?_ ?_
    rotate_left
    ·rintro w' ⟨s0, s1, s2, s3⟩
     go_simp
     with_reducible rfl
    rotate_left
    ·exact aP
    refine take_ (i := 20) (N := some 27) (v := ?_) (a' := ?_) #[true, true, true, true, true, true, true, true, true, true, true, true, true, true, true, true, true, true, false, true, true, false, false, false, false, false] rfl rfl (take_ofW HT_.out HW_.out (by kernel_rfl)) (fun _ _ _ h => h) (Or.inl ⟨by rfl, ?_⟩) hHeld ?_ ?_
    rotate_left
    ·rintro w' ⟨s0, s1, s2, s3⟩
     go_simp
     with_reducible rfl
    rotate_left
    ·exact aP
    refine one_ (i := 18) (N := some 25) #[true, true, true, true, true, true, true, true, true, true, true, true, true, true, true, true, true, true, true, true, true, false, false, false, false, false] rfl rfl (one_of HT_.out (by kernel_rfl)) (by decide) (fun K hK => ?_)
    refine goes_ Try.func100 (by kernel_rfl) rfl #[.slice A0 l0.length c0, .agg #[.int .i64 a1_0, .slice A1_1 l1_1.length c1_1]] (by rfl) rfl rfl (by (try simp only [List.map_toArray, List.map_cons, List.map_nil]); first | done | rfl | (simp only [List.length_drop, List.length_take]; rfl)) ?_
    with_reducible refine (spec_KeyOf.calls k _ _ l0 a1_0 _ _ l1_1 t239 _ ?side1 ?side2 ?side3 ?side4 A9.out).mono ?_
    (case side1 => exact aC)
    (case side2 => exact HC0.out)
    (case side3 => exact aC)
    (case side4 => exact HC1_1.out)
    rintro e w17 ⟨v240, rfl, ho0, hb⟩
    refine ⟨_, rfl, ?_⟩
    have n0_ := aM (Kd.R_lower ho0 (below_size aG))
    have n1_ := aM (blk_below (g := gb235) (o := .cells #[.int .i64 a1_0, .slice A1_1 l1_1.length c1_1] 50 (0, 0)) aK hb)
    have n2_ := aM (blk_below (g := gb236) (o := .cells #[.int .i64 a2_0, .slice A2_1 l2_1.length c2_1] 50 (0, 0)) aK hb)
    have n3_ := aM (below_step aG hb)
    clear BK235
    clear BK236
    clear HB
    have HO241 := n0_
    have BK235 := n1_
    have BK236 := n2_
    have HB := n3_
    clear n0_ n1_ n2_ n3_
    (try clear hb)
    (try clear hb2)
    (try clear hk)
    (try clear hi)
    (try clear ho0)
    refine hK.out _ _ ⟨(blk_cell BK235.out 0).trans rfl, (blk_cell BK235.out 1).trans rfl, (blk_cell BK236.out 0).trans rfl, (blk_cell BK236.out 1).trans rfl⟩ (fun hHeld => ?_)
    clear hK K
    refine norm_ (a' := ?_) ?_ ?_
    rotate_left
    ·show Act.put _ (some 25) _ = _
     simp only [Act.put, List.setIfInBounds_toArray, List.set_cons_zero, List.set_cons_succ, i64_w, i32_w]
     rfl
    refine one_ (i := 21) (N := some 28) #[true, true, true, true, true, true, true, true, true, true, true, true, true, true, true, true, true, true, true, true, true, true, false, false, false, false] rfl rfl (one_of HT_.out (by kernel_rfl)) (by decide) (fun K hK => ?_)
    refine goes_ Try.func100 (by kernel_rfl) rfl #[.slice A0 l0.length c0, .agg #[.int .i64 a2_0, .slice A2_1 l2_1.length c2_1]] (by rfl) rfl rfl (by (try simp only [List.map_toArray, List.map_cons, List.map_nil]); first | done | rfl | (simp only [List.length_drop, List.length_take]; rfl)) ?_
    with_reducible refine (spec_KeyOf.calls k _ _ l0 a2_0 _ _ l2_1 t242 _ ?side1 ?side2 ?side3 ?side4 A10.out).mono ?_
    (case side1 => exact aC)
    (case side2 => exact HC0.out)
    (case side3 => exact aC)
    (case side4 => exact HC2_1.out)
    rintro e w18 ⟨v243, rfl, ho0, hb⟩
    refine ⟨_, rfl, ?_⟩
    have n0_ := aM (Kd.R_elder' (aR HO241) (Kd.R_base ho0) hb)
    have n1_ := aM (Kd.R_lower (Kd.R_new' ho0 (Kd.R_lt (aR HO241))) (below_size aG))
    have n2_ := aM (blk_below (g := gb235) (o := .cells #[.int .i64 a1_0, .slice A1_1 l1_1.length c1_1] 50 (0, 0)) aK hb)
    have n3_ := aM (blk_below (g := gb236) (o := .cells #[.int .i64 a2_0, .slice A2_1 l2_1.length c2_1] 50 (0, 0)) aK hb)
    have n4_ := aM (below_step aG hb)
    clear HO241
    clear BK235
    clear BK236
    clear HB
    have HO241 := n0_
    have HO244 := n1_
    have BK235 := n2_
    have BK236 := n3_
    have HB := n4_
    clear n0_ n1_ n2_ n3_ n4_
    (try clear hb)
    (try clear hb2)
    (try clear hk)
    (try clear hi)
    (try clear ho0)
    obtain ⟨Ao19, co19, eo19⟩ := Kd.R_slice HO241.out
    (first | subst eo19 | (injection eo19 with f1_ f2_ f3_; have f4_ := f1_.symm; have f5_ := f3_.symm; clear f1_ f2_ f3_; subst f4_; subst f5_))
    obtain ⟨Ao20, co20, eo20⟩ := Kd.R_slice HO244.out
    (first | subst eo20 | (injection eo20 with f1_ f2_ f3_; have f4_ := f1_.symm; have f5_ := f3_.symm; clear f1_ f2_ f3_; subst f4_; subst f5_))
    refine hK.out _ _ ⟨(blk_cell BK235.out 0).trans rfl, (blk_cell BK235.out 1).trans rfl, (blk_cell BK236.out 0).trans rfl, (blk_cell BK236.out 1).trans rfl⟩ (fun hHeld => ?_)
    clear hK K
    refine norm_ (a' := ?_) ?_ ?_
    rotate_left
    ·show Act.put _ (some 28) _ = _
     simp only [Act.put, List.setIfInBounds_toArray, List.set_cons_zero, List.set_cons_succ, i64_w, i32_w]
     rfl
    refine one_ (i := 22) (N := some 29) #[true, true, true, true, true, true, true, true, true, true, true, true, true, true, true, true, true, true, true, true, true, true, true, false, false, false] rfl rfl (one_of HT_.out (by kernel_rfl)) (by decide) (fun K hK => ?_)
    refine goes_ Try.func99 (by kernel_rfl) rfl #[.slice Ao19 t239.length co19, .slice Ao20 t242.length co20] (by rfl) rfl rfl (by (try simp only [List.map_toArray, List.map_cons, List.map_nil]); first | done | rfl | (simp only [List.length_drop, List.length_take]; rfl)) ?_
    with_reducible refine (spec_l3Ints.calls k _ _ t239 _ _ t242 t245 _ ?side1 ?side2 ?side3 ?side4 A11.out).mono ?_
    (case side1 => repeat (first | exact (Kd.R_reads' HO241.out).2.2 | (with_reducible refine Kd.C_alloc ?_ _) | (with_reducible refine Kd.C_drewN ?_ _) | (with_reducible refine Kd.C_drew ?_)))
    (case side2 => exact (Kd.R_reads' HO241.out).2.1)
    (case side3 => repeat (first | exact (Kd.R_reads' HO244.out).2.2 | (with_reducible refine Kd.C_alloc ?_ _) | (with_reducible refine Kd.C_drewN ?_ _) | (with_reducible refine Kd.C_drew ?_)))
    (case side4 => exact (Kd.R_reads' HO244.out).2.1)
    rintro e w' ⟨rfl, ⟨nd, rfl⟩⟩
    refine ⟨_, rfl, ?_⟩
    refine hK.out _ _ ⟨(blk_cell BK235.out 0).trans rfl, (blk_cell BK235.out 1).trans rfl, (blk_cell BK236.out 0).trans rfl, (blk_cell BK236.out 1).trans rfl⟩ (fun hHeld => ?_)
    clear hK K
    refine norm_ (a' := ?_) ?_ ?_
    rotate_left
    ·show Act.put _ (some 29) _ = _
     simp only [Act.put, List.setIfInBounds_toArray, List.set_cons_zero, List.set_cons_succ, i64_w, i32_w]
     rfl
    refine pure_ (i := 23) (N := some 30) (v := ?_) (a' := ?_) #[true, true, true, true, true, true, true, true, true, true, true, true, true, true, true, true, true, true, true, true, true, true, true, true, false, false] rfl rfl (any_of HT_.out (by kernel_rfl)) (fun _ _ _ h => h) (Or.inl ⟨by rfl, ?_⟩) ?_ ?_
    rotate_left
    ·exact aI
    rotate_left
    ·exact aP
    refine pure_ (i := 24) (N := some 31) (v := ?_) (a' := ?_) #[true, true, true, true, true, true, true, true, true, true, true, true, true, true, true, true, true, true, true, true, true, true, true, true, true, false] rfl rfl (any_of HT_.out (by kernel_rfl)) (fun _ _ _ h => h) (Or.inl ⟨by rfl, ?_⟩) ?_ ?_
    rotate_left
    ·exact aI
    rotate_left
    ·exact aP
    refine pure_ (i := 25) (N := some 6) (v := ?_) (a' := ?_) #[true, true, true, true, true, true, true, true, true, true, true, true, true, true, true, true, true, true, true, true, true, true, true, true, true, true] rfl rfl (any_of HT_.out (by kernel_rfl)) (fun _ _ _ h => h) (Or.inl ⟨by rfl, ?_⟩) ?_ ?_
    rotate_left
    ·exact aI
    rotate_left
    ·exact aP
    refine done_ (done_of HT_.out (by kernel_rfl)) ?_
    try go_wp2
    go_ret
    exact ⟨by first | rfl | (simp [errW_none, errW_some] <;> rfl) | (simp [*, errW_none, errW_some] <;> rfl), by repeat (first | (with_reducible first | exact HB.out | apply below_alloc | apply pw_below_drewN | apply below_drew1 | refine below_set ?_ GE235.out | refine below_set ?_ GE236.out) | exact HB.out)⟩
   ·rw [if_neg c8] at H
    have c8b0 : (a1_0 == a2_0) = false := beq_eq_false_iff_ne.mpr c8
    have c8b1 : (a1_0 != a2_0) = true := bne_iff_ne.mpr c8
    obtain rfl := Option.some.inj H
    go_enter Try.func65, Try.ntmps65
    try go_wp2_with (first | ((with_reducible refine gate_dst (N := 4) rfl ?_); refine box_event ?hg (N := 4) ?hd (cs := #[.int .i64 a1_0, .slice A1_1 l1_1.length c1_1]) (t := 50) ?hr ?_; (case hd => rfl); (case hg => rfl); (case hr => first | (go_simp; done) | (go_simp; rfl)); intro gb235 hg w21 hbox hb; have n0_ := aM (below_step aB hb); have n1_ := aM (hbox); have n2_ := aM ((by rw [hg]; exact (below_size aB) : w.heap.size ≤ gb235)); have n3_ := aM ((by rw [hg]; exact (below_size aB) : w.heap.size ≤ gb235)); clear HB; have HB := n0_; have BK235 := n1_; have GW235 := n2_; have GE235 := n3_; clear n0_ n1_ n2_ n3_; clear hb hbox hg) | ((with_reducible refine gate_dst (N := 5) rfl ?_); refine box_event ?hg (N := 5) ?hd (cs := #[.int .i64 a2_0, .slice A2_1 l2_1.length c2_1]) (t := 50) ?hr ?_; (case hd => rfl); (case hg => rfl); (case hr => first | (go_simp; done) | (go_simp; rfl)); intro gb236 hg w22 hbox hb; have n0_ := aM (blk_below (g := gb235) (o := .cells #[.int .i64 a1_0, .slice A1_1 l1_1.length c1_1] 50 (0, 0)) aK hb); have n1_ := aM (below_step aG hb); have n2_ := aM (hbox); have n3_ := aM ((by rw [hg]; exact (below_size aG) : w.heap.size ≤ gb236)); have n4_ := aM ((by rw [hg]; exact (below_size aG) : w.heap.size ≤ gb236)); have n5_ := aM ((by rw [hg]; exact Nat.ne_of_lt (blk_lt (g := gb235) (o := .cells #[.int .i64 a1_0, .slice A1_1 l1_1.length c1_1] 50 (0, 0)) aK) : gb235 ≠ gb236)); have n6_ := aM ((by rw [hg]; exact Nat.ne_of_gt (blk_lt (g := gb235) (o := .cells #[.int .i64 a1_0, .slice A1_1 l1_1.length c1_1] 50 (0, 0)) aK) : gb236 ≠ gb235)); clear BK235; clear HB; have BK235 := n0_; have HB := n1_; have BK236 := n2_; have GW236 := n3_; have GE236 := n4_; have NB235_236 := n5_; have NB236_235 := n6_; clear n0_ n1_ n2_ n3_ n4_ n5_ n6_; clear hb hbox hg))
    have n0_ := aM (blk_drew BK235.out)
    have n1_ := aM (blk_drew BK236.out)
    have n2_ := aM (below_drew1 HB.out)
    clear BK235
    clear BK236
    clear HB
    have BK235 := n0_
    have BK236 := n1_
    have HB := n2_
    clear n0_ n1_ n2_
    have qf0_ : ∀ (d_ : Nat) (os_ : Array Obj), (Go.Sort.grow (redrawn w22 d_) os_).cell? ⟨gb235, 0, none⟩ = some (.int .i64 a1_0) := cell_regrown_drew ((blk_cell BK235.out 0).trans rfl)
    have qf1_ : ∀ (d_ : Nat) (os_ : Array Obj), (Go.Sort.grow (redrawn w22 d_) os_).cell? ⟨gb235, 1, none⟩ = some (.slice A1_1 l1_1.length c1_1) := cell_regrown_drew ((blk_cell BK235.out 1).trans rfl)
    have qf2_ : ∀ (d_ : Nat) (os_ : Array Obj), (Go.Sort.grow (redrawn w22 d_) os_).cell? ⟨gb236, 0, none⟩ = some (.int .i64 a2_0) := cell_regrown_drew ((blk_cell BK236.out 0).trans rfl)
    have qf3_ : ∀ (d_ : Nat) (os_ : Array Obj), (Go.Sort.grow (redrawn w22 d_) os_).cell? ⟨gb236, 1, none⟩ = some (.slice A2_1 l2_1.length c2_1) := cell_regrown_drew ((blk_cell BK236.out 1).trans rfl)
    have HBQ_ := aM (below_class HB.out)
    have HBS_ := HB
    clear HB
    refine wp_region_quiet_below (by kernel_rfl) (by kernel_rfl) ?_
    repeat (go_big_quiet_step ((refine with_class HBQ_.out ?_; intro hbz_; have HB := aM hbz_; clear hbz_; first | (go_at_call 89; apply Calls.regrown_of; with_reducible refine spec_IsValidFact.calls k _ _ l0 a1_0 _ _ l1_1 true _ ?side1 ?side2 ?side3 ?side4 A4.out; (case side1 => exact aC); (case side2 => exact HC0.out); (case side3 => exact aC); (case side4 => first | exact HC1_1.out)) | (go_at_call 89; apply Calls.regrown_of; with_reducible refine spec_IsValidFact.calls k _ _ l0 a2_0 _ _ l2_1 true _ ?side1 ?side2 ?side3 ?side4 A6.out; (case side1 => exact aC); (case side2 => exact HC0.out); (case side3 => exact aC); (case side4 => first | exact HC2_1.out)))))
    refine wpQuiet_nil ?_
    intro _ hw_
    obtain ⟨⟨dq_, osq_⟩, hw2_⟩ := hw_
    subst hw2_
    have hb := below_regrown_drew w22 dq_ osq_
    have HB := HBS_
    clear HBS_
    clear qf0_ qf1_ qf2_ qf3_
    clear HBQ_
    generalize Go.Sort.grow (redrawn w22 dq_) osq_ = w25 at hb ⊢
    generalize w22.drew = wd_ at BK235 BK236 HB hb
    have n0_ := aM (blk_below (g := gb235) (o := .cells #[.int .i64 a1_0, .slice A1_1 l1_1.length c1_1] 50 (0, 0)) aK hb)
    have n1_ := aM (blk_below (g := gb236) (o := .cells #[.int .i64 a2_0, .slice A2_1 l2_1.length c2_1] 50 (0, 0)) aK hb)
    have n2_ := aM (below_step aG hb)
    clear BK235
    clear BK236
    clear HB
    have BK235 := n0_
    have BK236 := n1_
    have HB := n2_
    clear n0_ n1_ n2_
    (try clear hb)
    (try clear hb2)
    (try clear hk)
    (try clear hi)
    try go_wp2
    go_ret
    exact ⟨by first | rfl | (simp [errW_none, errW_some] <;> rfl) | (simp [*, errW_none, errW_some] <;> rfl), by repeat (first | (with_reducible first | exact HB.out | apply below_alloc | apply pw_below_drewN | apply below_drew1 | refine below_set ?_ GE235.out | refine below_set ?_ GE236.out) | exact HB.out)⟩
  ·replace c7 := Bool.eq_false_iff.mpr c7
   subst c7
   have H1 : (some false) = some r := by rw [if_neg (show ¬ (false = true) by decide)] at H; exact H
   clear H
   have H := H1
   clear H1
   obtain rfl := Option.some.inj H
   go_enter Try.func65, Try.ntmps65
   try go_wp2_with (first | ((with_reducible refine gate_dst (N := 4) rfl ?_); refine box_event ?hg (N := 4) ?hd (cs := #[.int .i64 a1_0, .slice A1_1 l1_1.length c1_1]) (t := 50) ?hr ?_; (case hd => rfl); (case hg => rfl); (case hr => first | (go_simp; done) | (go_simp; rfl)); intro gb235 hg w26 hbox hb; have n0_ := aM (below_step aB hb); have n1_ := aM (hbox); have n2_ := aM ((by rw [hg]; exact (below_size aB) : w.heap.size ≤ gb235)); have n3_ := aM ((by rw [hg]; exact (below_size aB) : w.heap.size ≤ gb235)); clear HB; have HB := n0_; have BK235 := n1_; have GW235 := n2_; have GE235 := n3_; clear n0_ n1_ n2_ n3_; clear hb hbox hg) | ((with_reducible refine gate_dst (N := 5) rfl ?_); refine box_event ?hg (N := 5) ?hd (cs := #[.int .i64 a2_0, .slice A2_1 l2_1.length c2_1]) (t := 50) ?hr ?_; (case hd => rfl); (case hg => rfl); (case hr => first | (go_simp; done) | (go_simp; rfl)); intro gb236 hg w27 hbox hb; have n0_ := aM (blk_below (g := gb235) (o := .cells #[.int .i64 a1_0, .slice A1_1 l1_1.length c1_1] 50 (0, 0)) aK hb); have n1_ := aM (below_step aG hb); have n2_ := aM (hbox); have n3_ := aM ((by rw [hg]; exact (below_size aG) : w.heap.size ≤ gb236)); have n4_ := aM ((by rw [hg]; exact (below_size aG) : w.heap.size ≤ gb236)); have n5_ := aM ((by rw [hg]; exact Nat.ne_of_lt (blk_lt (g := gb235) (o := .cells #[.int .i64 a1_0, .slice A1_1 l1_1.length c1_1] 50 (0, 0)) aK) : gb235 ≠ gb236)); have n6_ := aM ((by rw [hg]; exact Nat.ne_of_gt (blk_lt (g := gb235) (o := .cells #[.int .i64 a1_0, .slice A1_1 l1_1.length c1_1] 50 (0, 0)) aK) : gb236 ≠ gb235)); clear BK235; clear HB; have BK235 := n0_; have HB := n1_; have BK236 := n2_; have GW236 := n3_; have GE236 := n4_; have NB235_236 := n5_; have NB236_235 := n6_; clear n0_ n1_ n2_ n3_ n4_ n5_ n6_; clear hb hbox hg))
   have n0_ := aM (blk_drew BK235.out)
   have n1_ := aM (blk_drew BK236.out)
   have n2_ := aM (below_drew1 HB.out)
   clear BK235
   clear BK236
   clear HB
   have BK235 := n0_
   have BK236 := n1_
   have HB := n2_
   clear n0_ n1_ n2_
   have qf0_ : ∀ (d_ : Nat) (os_ : Array Obj), (Go.Sort.grow (redrawn w27 d_) os_).cell? ⟨gb235, 0, none⟩ = some (.int .i64 a1_0) := cell_regrown_drew ((blk_cell BK235.out 0).trans rfl)
   have qf1_ : ∀ (d_ : Nat) (os_ : Array Obj), (Go.Sort.grow (redrawn w27 d_) os_).cell? ⟨gb235, 1, none⟩ = some (.slice A1_1 l1_1.length c1_1) := cell_regrown_drew ((blk_cell BK235.out 1).trans rfl)
   have qf2_ : ∀ (d_ : Nat) (os_ : Array Obj), (Go.Sort.grow (redrawn w27 d_) os_).cell? ⟨gb236, 0, none⟩ = some (.int .i64 a2_0) := cell_regrown_drew ((blk_cell BK236.out 0).trans rfl)
   have qf3_ : ∀ (d_ : Nat) (os_ : Array Obj), (Go.Sort.grow (redrawn w27 d_) os_).cell? ⟨gb236, 1, none⟩ = some (.slice A2_1 l2_1.length c2_1) := cell_regrown_drew ((blk_cell BK236.out 1).trans rfl)
   have HBQ_ := aM (below_class HB.out)
   have HBS_ := HB
   clear HB
   refine wp_region_quiet_below (by kernel_rfl) (by kernel_rfl) ?_
   repeat (go_big_quiet_step ((refine with_class HBQ_.out ?_; intro hbz_; have HB := aM hbz_; clear hbz_; first | (go_at_call 89; apply Calls.regrown_of; with_reducible refine spec_IsValidFact.calls k _ _ l0 a1_0 _ _ l1_1 true _ ?side1 ?side2 ?side3 ?side4 A4.out; (case side1 => exact aC); (case side2 => exact HC0.out); (case side3 => exact aC); (case side4 => first | exact HC1_1.out)) | (go_at_call 89; apply Calls.regrown_of; with_reducible refine spec_IsValidFact.calls k _ _ l0 a2_0 _ _ l2_1 false _ ?side1 ?side2 ?side3 ?side4 A6.out; (case side1 => exact aC); (case side2 => exact HC0.out); (case side3 => exact aC); (case side4 => first | exact HC2_1.out)))))
   refine wpQuiet_nil ?_
   intro _ hw_
   obtain ⟨⟨dq_, osq_⟩, hw2_⟩ := hw_
   subst hw2_
   have hb := below_regrown_drew w27 dq_ osq_
   have HB := HBS_
   clear HBS_
   clear qf0_ qf1_ qf2_ qf3_
   clear HBQ_
   generalize Go.Sort.grow (redrawn w27 dq_) osq_ = w30 at hb ⊢
   generalize w27.drew = wd_ at BK235 BK236 HB hb
   have n0_ := aM (blk_below (g := gb235) (o := .cells #[.int .i64 a1_0, .slice A1_1 l1_1.length c1_1] 50 (0, 0)) aK hb)
   have n1_ := aM (blk_below (g := gb236) (o := .cells #[.int .i64 a2_0, .slice A2_1 l2_1.length c2_1] 50 (0, 0)) aK hb)
   have n2_ := aM (below_step aG hb)
   clear BK235
   clear BK236
   clear HB
   have BK235 := n0_
   have BK236 := n1_
   have HB := n2_
   clear n0_ n1_ n2_
   (try clear hb)
   (try clear hb2)
   (try clear hk)
   (try clear hi)
   try go_wp2
   go_ret
   exact ⟨by first | rfl | (simp [errW_none, errW_some] <;> rfl) | (simp [*, errW_none, errW_some] <;> rfl), by repeat (first | (with_reducible first | exact HB.out | apply below_alloc | apply pw_below_drewN | apply below_drew1 | refine below_set ?_ GE235.out | refine below_set ?_ GE236.out) | exact HB.out)⟩
 ·replace c5 := Bool.eq_false_iff.mpr c5
  subst c5
  have H1 : (some false) = some r := by rw [if_neg (show ¬ (false = true) by decide)] at H; exact H
  clear H
  have H := H1
  clear H1
  obtain rfl := Option.some.inj H
  go_enter Try.func65, Try.ntmps65
  try go_wp2_with (first | ((with_reducible refine gate_dst (N := 4) rfl ?_); refine box_event ?hg (N := 4) ?hd (cs := #[.int .i64 a1_0, .slice A1_1 l1_1.length c1_1]) (t := 50) ?hr ?_; (case hd => rfl); (case hg => rfl); (case hr => first | (go_simp; done) | (go_simp; rfl)); intro gb235 hg w31 hbox hb; have n0_ := aM (below_step aB hb); have n1_ := aM (hbox); have n2_ := aM ((by rw [hg]; exact (below_size aB) : w.heap.size ≤ gb235)); have n3_ := aM ((by rw [hg]; exact (below_size aB) : w.heap.size ≤ gb235)); clear HB; have HB := n0_; have BK235 := n1_; have GW235 := n2_; have GE235 := n3_; clear n0_ n1_ n2_ n3_; clear hb hbox hg) | ((with_reducible refine gate_dst (N := 5) rfl ?_); refine box_event ?hg (N := 5) ?hd (cs := #[.int .i64 a2_0, .slice A2_1 l2_1.length c2_1]) (t := 50) ?hr ?_; (case hd => rfl); (case hg => rfl); (case hr => first | (go_simp; done) | (go_simp; rfl)); intro gb236 hg w32 hbox hb; have n0_ := aM (blk_below (g := gb235) (o := .cells #[.int .i64 a1_0, .slice A1_1 l1_1.length c1_1] 50 (0, 0)) aK hb); have n1_ := aM (below_step aG hb); have n2_ := aM (hbox); have n3_ := aM ((by rw [hg]; exact (below_size aG) : w.heap.size ≤ gb236)); have n4_ := aM ((by rw [hg]; exact (below_size aG) : w.heap.size ≤ gb236)); have n5_ := aM ((by rw [hg]; exact Nat.ne_of_lt (blk_lt (g := gb235) (o := .cells #[.int .i64 a1_0, .slice A1_1 l1_1.length c1_1] 50 (0, 0)) aK) : gb235 ≠ gb236)); have n6_ := aM ((by rw [hg]; exact Nat.ne_of_gt (blk_lt (g := gb235) (o := .cells #[.int .i64 a1_0, .slice A1_1 l1_1.length c1_1] 50 (0, 0)) aK) : gb236 ≠ gb235)); clear BK235; clear HB; have BK235 := n0_; have HB := n1_; have BK236 := n2_; have GW236 := n3_; have GE236 := n4_; have NB235_236 := n5_; have NB236_235 := n6_; clear n0_ n1_ n2_ n3_ n4_ n5_ n6_; clear hb hbox hg))
  have n0_ := aM (blk_drew BK235.out)
  have n1_ := aM (blk_drew BK236.out)
  have n2_ := aM (below_drew1 HB.out)
  clear BK235
  clear BK236
  clear HB
  have BK235 := n0_
  have BK236 := n1_
  have HB := n2_
  clear n0_ n1_ n2_
  have qf0_ : ∀ (d_ : Nat) (os_ : Array Obj), (Go.Sort.grow (redrawn w32 d_) os_).cell? ⟨gb235, 0, none⟩ = some (.int .i64 a1_0) := cell_regrown_drew ((blk_cell BK235.out 0).trans rfl)
  have qf1_ : ∀ (d_ : Nat) (os_ : Array Obj), (Go.Sort.grow (redrawn w32 d_) os_).cell? ⟨gb235, 1, none⟩ = some (.slice A1_1 l1_1.length c1_1) := cell_regrown_drew ((blk_cell BK235.out 1).trans rfl)
  have HBQ_ := aM (below_class HB.out)
  have HBS_ := HB
  clear HB
  refine wp_region_quiet_below (by kernel_rfl) (by kernel_rfl) ?_
  repeat (go_big_quiet_step ((refine with_class HBQ_.out ?_; intro hbz_; have HB := aM hbz_; clear hbz_; first | (go_at_call 89; apply Calls.regrown_of; with_reducible refine spec_IsValidFact.calls k _ _ l0 a1_0 _ _ l1_1 false _ ?side1 ?side2 ?side3 ?side4 A4.out; (case side1 => exact aC); (case side2 => exact HC0.out); (case side3 => exact aC); (case side4 => first | exact HC1_1.out)))))
  refine wpQuiet_nil ?_
  intro _ hw_
  obtain ⟨⟨dq_, osq_⟩, hw2_⟩ := hw_
  subst hw2_
  have hb := below_regrown_drew w32 dq_ osq_
  have HB := HBS_
  clear HBS_
  clear qf0_ qf1_
  clear HBQ_
  generalize Go.Sort.grow (redrawn w32 dq_) osq_ = w34 at hb ⊢
  generalize w32.drew = wd_ at BK235 BK236 HB hb
  have n0_ := aM (blk_below (g := gb235) (o := .cells #[.int .i64 a1_0, .slice A1_1 l1_1.length c1_1] 50 (0, 0)) aK hb)
  have n1_ := aM (blk_below (g := gb236) (o := .cells #[.int .i64 a2_0, .slice A2_1 l2_1.length c2_1] 50 (0, 0)) aK hb)
  have n2_ := aM (below_step aG hb)
  clear BK235
  clear BK236
  clear HB
  have BK235 := n0_
  have BK236 := n1_
  have HB := n2_
  clear n0_ n1_ n2_
  (try clear hb)
  (try clear hb2)
  (try clear hk)
  (try clear hi)
  try go_wp2
  go_ret
  exact ⟨by first | rfl | (simp [errW_none, errW_some] <;> rfl) | (simp [*, errW_none, errW_some] <;> rfl), by repeat (first | (with_reducible first | exact HB.out | apply below_alloc | apply pw_below_drewN | apply below_drew1 | refine below_set ?_ GE235.out | refine below_set ?_ GE236.out) | exact HB.out)⟩

end Go.Proofs.Ytehlhbidmanbmaa.PFnExactRepairRank
