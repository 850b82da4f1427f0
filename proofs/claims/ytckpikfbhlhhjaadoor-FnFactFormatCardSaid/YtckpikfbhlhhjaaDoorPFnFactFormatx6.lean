import Derived.Test.YtckpikfbhlhhjaaDoorPFnFactFormatx0
import Derived.Test.YtckpikfbhlhhjaaDoorPFnFactFormatx1
import Derived.Test.YtckpikfbhlhhjaaDoorPFnFactFormatx2
import Derived.Test.YtckpikfbhlhhjaaDoorPFnFactFormatx5
namespace Go.Proofs.YtckpikfbhlhhjaaDoor.PFnFactFormat
open Go.RowKit Go.Proofs.YtckpikfbhlhhjaaDoorW.PrintWords Go.Proofs.YtckpikfbhlhhjaaDoorW.PrintLast Go.Proofs.YtckpikfbhlhhjaaDoorW.PrintMore
attribute [local go_sem] max2_int min2_int max_two min_two max_three min_three max_four min_four
set_option linter.unusedVariables false
set_option linter.unusedSimpArgs false

/-! ### spec_l1Spoil: function 59 -/
def spec_l1Spoil.f (k : Nat) (s0_0 : List Int) (s0_1 : Int) (s0_2 : Int) (a1 : ByteArray) : Option (ByteArray × Int × Int) := if (a1.size : Int) = 0 then ((spec_l1Text.f k s0_0 s0_1 s0_2 3).bind fun bt298 => (some (bt298.1, bt298.2.1, bt298.2.2))) else ((spec_l1Below.f s0_0 s0_1 s0_2 (a1.size : Int)).bind fun bt301 => ((spec_l1Below.f s0_0 bt301.2.1 bt301.2.2 4).bind fun bt304 => (if bt304.1 = 0 then (if 0 ≤ bt301.1 then (if bt301.1 ≤ (a1.size : Int) then (if 0 ≤ (wrap64 (bt301.1 + 1)) then (if (wrap64 (bt301.1 + 1)) ≤ (a1.size : Int) then (if (a1.extract 0 (bt301.1 : Int).toNat).size + (a1.extract ((wrap64 (bt301.1 + 1)) : Int).toNat a1.size).size ≤ 9223372036854775807 then (some ((a1.extract 0 (bt301.1 : Int).toNat) ++ (a1.extract ((wrap64 (bt301.1 + 1)) : Int).toNat a1.size), bt304.2.1, bt304.2.2)) else (none)) else (none)) else (none)) else (none)) else (none)) else (if bt304.1 = 1 then (if 0 ≤ bt301.1 then (if bt301.1 ≤ (a1.size : Int) then ((spec_l1Byte.f s0_0 bt304.2.1 bt304.2.2).bind fun bt307 => ((some (([(bt307.1) % 256] : List Int) : List Int)).bind fun y310 => (if (a1.extract 0 (bt301.1 : Int).toNat).size + (strOfNums y310).size ≤ 9223372036854775807 then (if ((a1.extract 0 (bt301.1 : Int).toNat) ++ (strOfNums y310)).size + (a1.extract (bt301.1 : Int).toNat a1.size).size ≤ 9223372036854775807 then (some (((a1.extract 0 (bt301.1 : Int).toNat) ++ (strOfNums y310)) ++ (a1.extract (bt301.1 : Int).toNat a1.size), bt307.2.1, bt307.2.2)) else (none)) else (none)))) else (none)) else (none)) else (if bt304.1 = 2 then (if 0 ≤ bt301.1 then (if bt301.1 ≤ (a1.size : Int) then (some (a1.extract 0 (bt301.1 : Int).toNat, bt304.2.1, bt304.2.2)) else (none)) else (none)) else (if 0 ≤ bt301.1 then (if bt301.1 ≤ (a1.size : Int) then (if bt301.1 < (a1.size : Int) then ((spec_l1Below.f s0_0 bt304.2.1 bt304.2.2 255).bind fun bt313 => ((some (([(Go.bits .xor .i64 (wrap64 (bt a1 bt301.1)) (wrap64 (1 + bt313.1))) % 256] : List Int) : List Int)).bind fun y316 => (if (a1.extract 0 (bt301.1 : Int).toNat).size + (strOfNums y316).size ≤ 9223372036854775807 then (if 0 ≤ (wrap64 (bt301.1 + 1)) then (if (wrap64 (bt301.1 + 1)) ≤ (a1.size : Int) then (if ((a1.extract 0 (bt301.1 : Int).toNat) ++ (strOfNums y316)).size + (a1.extract ((wrap64 (bt301.1 + 1)) : Int).toNat a1.size).size ≤ 9223372036854775807 then (some (((a1.extract 0 (bt301.1 : Int).toNat) ++ (strOfNums y316)) ++ (a1.extract ((wrap64 (bt301.1 + 1)) : Int).toNat a1.size), bt313.2.1, bt313.2.2)) else (none)) else (none)) else (none)) else (none)))) else (none)) else (none)) else (none)))))))
def spec_l1Spoil.T6 : Bool × List (List Nat × List Nat) := (true, [([], []), ([], []), ([0, 1], [0, 1]), ([], []), ([], []), ([4], [4]), ([3, 5], [3, 5]), ([2, 6], [2, 6]), ([7, 0, 1, 2, 3, 4, 5, 6, 7], [7])])
def spec_l1Spoil.B6 : List Nat := [0, 0, 3, 0, 0, 16, 56, 127, 255]
theorem spec_l1Spoil.tab6 : rtab .any (opsOf Tryd.f59 6) = spec_l1Spoil.T6 := by kernel_rfl
theorem spec_l1Spoil.bits6 : waitsOk spec_l1Spoil.T6.2 spec_l1Spoil.B6 = true := by kernel_rfl
def spec_l1Spoil.T8 : Bool × List (List Nat × List Nat) := (true, [([], []), ([], []), ([0, 1], [0, 1]), ([], []), ([3], [3]), ([4], [4]), ([5], [5]), ([6], [6]), ([2, 7], [2, 7]), ([], []), ([], []), ([9, 10], [9, 10]), ([8, 11], [8, 11]), ([12, 4, 0, 1, 2, 3, 4, 5, 6, 7, 8, 9, 10, 11, 12], [12])])
def spec_l1Spoil.B8 : List Nat := [0, 0, 3, 0, 8, 24, 56, 120, 255, 0, 0, 1536, 4095, 8191]
theorem spec_l1Spoil.tab8 : rtab .any (opsOf Tryd.f59 8) = spec_l1Spoil.T8 := by kernel_rfl
theorem spec_l1Spoil.bits8 : waitsOk spec_l1Spoil.T8.2 spec_l1Spoil.B8 = true := by kernel_rfl
def spec_l1Spoil.T11 : Bool × List (List Nat × List Nat) := (true, [([], []), ([], []), ([0, 1], [0, 1]), ([], []), ([], []), ([3, 4], [3, 4]), ([5], [5]), ([], []), ([7], [7]), ([8], [8]), ([6, 9], [6, 9]), ([10], [10]), ([11], [11]), ([12], [12]), ([2, 13], [2, 13]), ([], []), ([], []), ([16], [16]), ([15, 17], [15, 17]), ([14, 18], [14, 18]), ([19, 8, 0, 1, 2, 3, 4, 5, 6, 7, 8, 9, 10, 11, 12, 13, 14, 15, 16, 17, 18, 19], [19])])
def spec_l1Spoil.B11 : List Nat := [0, 0, 3, 0, 0, 24, 56, 0, 128, 384, 1016, 2040, 4088, 8184, 16383, 0, 0, 65536, 229376, 524287, 1048575]
theorem spec_l1Spoil.tab11 : rtab .any (opsOf Tryd.f59 11) = spec_l1Spoil.T11 := by kernel_rfl
theorem spec_l1Spoil.bits11 : waitsOk spec_l1Spoil.T11.2 spec_l1Spoil.B11 = true := by kernel_rfl
set_option maxHeartbeats 8000000 in
set_option maxRecDepth 100000 in
theorem spec_l1Spoil.calls (k : Nat) (g : Nat) (s0_0 : List Int) (s0_1 : Int) (s0_2 : Int) (a1 : ByteArray) (r1 : ByteArray) (r2 : Int) (r3 : Int) (w0 w : World) (hI : IsS117 w0 w g s0_0 s0_1 s0_2) (hB : Below w0.heap.size w0 w) (h : spec_l1Spoil.f k s0_0 s0_1 s0_2 a1 = some (r1, r2, r3)) :
  Calls Tryd.prog 59 #[.pointer (some ⟨g, 0, none⟩), .string a1] w fun e w' => e = .returned (.string r1) ∧ IsS117 w0 w' g s0_0 r2 r3 ∧ Below w0.heap.size w0 w' ∧ KeepBut w w' g none := by
 have HI0 := aM hI
 have HK := aM (KeepBut.refl w g none)
 have HL := aM hB.size
 clear hI
 have HW0 := aM hB.size
 have HB := aM hB
 clear hB
 have H : (if (a1.size : Int) = 0 then ((spec_l1Text.f k s0_0 s0_1 s0_2 3).bind fun bt298 => (some (bt298.1, bt298.2.1, bt298.2.2))) else ((spec_l1Below.f s0_0 s0_1 s0_2 (a1.size : Int)).bind fun bt301 => ((spec_l1Below.f s0_0 bt301.2.1 bt301.2.2 4).bind fun bt304 => (if bt304.1 = 0 then (if 0 ≤ bt301.1 then (if bt301.1 ≤ (a1.size : Int) then (if 0 ≤ (wrap64 (bt301.1 + 1)) then (if (wrap64 (bt301.1 + 1)) ≤ (a1.size : Int) then (if (a1.extract 0 (bt301.1 : Int).toNat).size + (a1.extract ((wrap64 (bt301.1 + 1)) : Int).toNat a1.size).size ≤ 9223372036854775807 then (some ((a1.extract 0 (bt301.1 : Int).toNat) ++ (a1.extract ((wrap64 (bt301.1 + 1)) : Int).toNat a1.size), bt304.2.1, bt304.2.2)) else (none)) else (none)) else (none)) else (none)) else (none)) else (if bt304.1 = 1 then (if 0 ≤ bt301.1 then (if bt301.1 ≤ (a1.size : Int) then ((spec_l1Byte.f s0_0 bt304.2.1 bt304.2.2).bind fun bt307 => ((some (([(bt307.1) % 256] : List Int) : List Int)).bind fun y310 => (if (a1.extract 0 (bt301.1 : Int).toNat).size + (strOfNums y310).size ≤ 9223372036854775807 then (if ((a1.extract 0 (bt301.1 : Int).toNat) ++ (strOfNums y310)).size + (a1.extract (bt301.1 : Int).toNat a1.size).size ≤ 9223372036854775807 then (some (((a1.extract 0 (bt301.1 : Int).toNat) ++ (strOfNums y310)) ++ (a1.extract (bt301.1 : Int).toNat a1.size), bt307.2.1, bt307.2.2)) else (none)) else (none)))) else (none)) else (none)) else (if bt304.1 = 2 then (if 0 ≤ bt301.1 then (if bt301.1 ≤ (a1.size : Int) then (some (a1.extract 0 (bt301.1 : Int).toNat, bt304.2.1, bt304.2.2)) else (none)) else (none)) else (if 0 ≤ bt301.1 then (if bt301.1 ≤ (a1.size : Int) then (if bt301.1 < (a1.size : Int) then ((spec_l1Below.f s0_0 bt304.2.1 bt304.2.2 255).bind fun bt313 => ((some (([(Go.bits .xor .i64 (wrap64 (bt a1 bt301.1)) (wrap64 (1 + bt313.1))) % 256] : List Int) : List Int)).bind fun y316 => (if (a1.extract 0 (bt301.1 : Int).toNat).size + (strOfNums y316).size ≤ 9223372036854775807 then (if 0 ≤ (wrap64 (bt301.1 + 1)) then (if (wrap64 (bt301.1 + 1)) ≤ (a1.size : Int) then (if ((a1.extract 0 (bt301.1 : Int).toNat) ++ (strOfNums y316)).size + (a1.extract ((wrap64 (bt301.1 + 1)) : Int).toNat a1.size).size ≤ 9223372036854775807 then (some (((a1.extract 0 (bt301.1 : Int).toNat) ++ (strOfNums y316)) ++ (a1.extract ((wrap64 (bt301.1 + 1)) : Int).toNat a1.size), bt313.2.1, bt313.2.2)) else (none)) else (none)) else (none)) else (none)))) else (none)) else (none)) else (none)))))))) = some (r1, r2, r3) := h
 clear h
 by_cases c3 : (a1.size : Int) = 0
 ·rw [if_pos c3] at H
  have c3b0 : ((a1.size : Int) == 0) = true := beq_iff_eq.mpr c3
  have c3b1 : ((a1.size : Int) != 0) = false := bne_eq_false_iff_eq.mpr c3
  clear c3
  replace H := bM H
  obtain ⟨⟨t298, t299, t300⟩, A40, H⟩ := H
  dsimp only at H
  have A4 := aM A40
  clear A40
  simp only [Option.some.injEq, Prod.mk.injEq] at H
  obtain ⟨rfl, rfl, rfl⟩ := H
  go_enter Tryd.func59, Tryd.ntmps59
  go_wp2_with (first | ((with_reducible refine gate_callee (f := 94) rfl ?_); refine goesL_ (some 10) rfl rfl Tryd.func94 (by kernel_rfl) rfl #[.pointer (some ⟨g, 0, none⟩), .int .i64 3] rfl aA ?_; (with_reducible refine (spec_l1Text.calls k g s0_0 s0_1 s0_2 3 t298 t299 t300 w0 _ ?side1 ?side2 A4.out).mono ?_); (case side1 => exact aZ); (case side2 => exact aY); rintro e w5 ⟨rfl, hi, hb, hk⟩; refine ⟨_, rfl, ?_⟩; replace HK := aM (KeepBut.trans aQ hk (.inl rfl)); replace HB := aM (hb); replace HI0 := aM (hi); (try clear hb); (try clear hb2); (try clear hk); (try clear hi)))
  go_ret
  exact ⟨aE, aZ, aY, aQ⟩
 ·rw [if_neg c3] at H
  have c3b0 : ((a1.size : Int) == 0) = false := beq_eq_false_iff_ne.mpr c3
  have c3b1 : ((a1.size : Int) != 0) = true := bne_iff_ne.mpr c3
  replace H := bM H
  obtain ⟨⟨t301, t302, t303⟩, A60, H⟩ := H
  dsimp only at H
  have A6 := aM A60
  clear A60
  replace H := bM H
  obtain ⟨⟨t304, t305, t306⟩, A70, H⟩ := H
  dsimp only at H
  have A7 := aM A70
  clear A70
  by_cases c8 : t304 = 0
  ·rw [if_pos c8] at H
   have c8b0 : (t304 == 0) = true := beq_iff_eq.mpr c8
   have c8b1 : (t304 != 0) = false := bne_eq_false_iff_eq.mpr c8
   clear c8
   by_cases c9 : 0 ≤ t301
   ·rw [if_pos c9] at H
    have c9b0 := eq_true c9
    have c9b1 : decide (0 ≤ t301) = true := decide_eq_true c9
    clear c9
    by_cases c10 : t301 ≤ (a1.size : Int)
    ·rw [if_pos c10] at H
     have c10b0 := eq_true c10
     have c10b1 : decide (t301 ≤ (a1.size : Int)) = true := decide_eq_true c10
     clear c10
     obtain ⟨ji11, hji11⟩ : ∃ j_ : Int, (wrap64 (t301 + 1)) = j_ := ⟨_, rfl⟩
     replace H : (if 0 ≤ (ji11) then (if (ji11) ≤ (a1.size : Int) then (if (a1.extract 0 (t301 : Int).toNat).size + (a1.extract ((ji11) : Int).toNat a1.size).size ≤ 9223372036854775807 then (some ((a1.extract 0 (t301 : Int).toNat) ++ (a1.extract ((ji11) : Int).toNat a1.size), t305, t306)) else (none)) else (none)) else (none)) = some (r1, r2, r3) := by first | (rw [hji11] at H; exact H) | (simp only [hji11] at H ⊢; exact H)
     (try rw [hji11] at A6)
     (try rw [hji11] at A7)
     have hji11w : (IntKind.i64.wrap (t301 + 1)) = ji11 := (i64_w _).trans hji11
     by_cases c12 : 0 ≤ (ji11)
     ·rw [if_pos c12] at H
      have c12b0 := eq_true c12
      have c12b1 : decide (0 ≤ (ji11)) = true := decide_eq_true c12
      clear c12
      by_cases c13 : (ji11) ≤ (a1.size : Int)
      ·rw [if_pos c13] at H
       have c13b0 := eq_true c13
       have c13b1 : decide ((ji11) ≤ (a1.size : Int)) = true := decide_eq_true c13
       clear c13
       by_cases c14 : (a1.extract 0 (t301 : Int).toNat).size + (a1.extract ((ji11) : Int).toNat a1.size).size ≤ 9223372036854775807
       ·rw [if_pos c14] at H
        have c14b0 := eq_true c14
        have c14b1 : decide ((a1.extract 0 (t301 : Int).toNat).size + (a1.extract ((ji11) : Int).toNat a1.size).size ≤ 9223372036854775807) = true := decide_eq_true c14
        try have c14b2 : (9223372036854775807 < (a1.extract 0 (t301 : Int).toNat).size + (a1.extract ((ji11) : Int).toNat a1.size).size) = False := eq_false (Nat.not_lt.2 c14)
        have c14b3 : (9223372036854775807 < t301.toNat + (a1.size - ji11.toNat)) = False := by have h_ := of_eq_false c14b2; have fc10_ := of_decide_eq_true c10b1; have fc9_ := of_decide_eq_true c9b1; simp only [ByteArray.size_append, ByteArray.size_extract] at h_; exact eq_false (by omega)
        simp only [Option.some.injEq, Prod.mk.injEq] at H
        obtain ⟨rfl, rfl, rfl⟩ := H
        go_enter Tryd.func59, Tryd.ntmps59
        try go_wp2_with (first | ((with_reducible refine gate_callee (f := 62) rfl ?_); refine goesL_ (some 14) rfl rfl Tryd.func62 (by kernel_rfl) rfl #[.pointer (some ⟨g, 0, none⟩), .int .i64 (a1.size : Int)] rfl aA ?_; (with_reducible refine (spec_l1Below.calls g s0_0 s0_1 s0_2 (a1.size : Int) t301 t302 t303 w0 _ ?side1 ?side2 A6.out).mono ?_); (case side1 => exact aZ); (case side2 => exact aY); rintro e w15 ⟨rfl, hi, hb, hk⟩; refine ⟨_, rfl, ?_⟩; replace HK := aM (KeepBut.trans aQ hk (.inl rfl)); replace HB := aM (hb); replace HI0 := aM (hi); (try clear hb); (try clear hb2); (try clear hk); (try clear hi)) | ((with_reducible refine gate_callee (f := 62) rfl ?_); refine goesL_ (some 16) rfl rfl Tryd.func62 (by kernel_rfl) rfl #[.pointer (some ⟨g, 0, none⟩), .int .i64 4] rfl aA ?_; (with_reducible refine (spec_l1Below.calls g s0_0 t302 t303 4 t304 t305 t306 w0 _ ?side1 ?side2 A7.out).mono ?_); (case side1 => exact aZ); (case side2 => exact aY); rintro e w16 ⟨rfl, hi, hb, hk⟩; refine ⟨_, rfl, ?_⟩; replace HK := aM (KeepBut.trans aQ hk (.inl rfl)); replace HB := aM (hb); replace HI0 := aM (hi); (try clear hb); (try clear hb2); (try clear hk); (try clear hi)))
        replace HI0 := aM (IsS117.drew HI0.out)
        replace HK := aM (keep_drew HK.out)
        replace HB := aM (below_drew1 HB.out)
        refine start_ (n := 9) (S := fun w' => True) (ds := []) #[false, false, false, false, false, false, false, false, false] (by kernel_rfl) rfl rfl trivial (fun hHeld => ?_); refine with_tabW spec_l1Spoil.tab6 spec_l1Spoil.bits6 (fun HT_ HW_ => ?_)
        generalize w16.drew = w17 at HI0 HK HB hHeld ⊢
        refine pU 0 19 ?_
        refine pU 1 20 ?_
        refine pU 2 21 ?_
        refine pU 3 22 ?_
        refine pU 4 23 ?_
        refine pU 5 24 ?_
        refine pU 6 25 ?_
        refine pU 7 26 ?_
        refine pU 8 4 ?_
        refine done_ (done_of HT_.out (by kernel_rfl)) ?_
        try go_wp2
        go_ret
        exact ⟨by first | rfl | (simp [errW_none, errW_some] <;> rfl) | (simp only [← hji11]; first | rfl | (simp [errW_none, errW_some] <;> rfl)) | (simp [*, errW_none, errW_some] <;> rfl), aZ, aY, aQ⟩
       ·rw [if_neg c14] at H
        exact absurd H (by simp)
      ·rw [if_neg c13] at H
       exact absurd H (by simp)
     ·rw [if_neg c12] at H
      exact absurd H (by simp)
    ·rw [if_neg c10] at H
     exact absurd H (by simp)
   ·rw [if_neg c9] at H
    exact absurd H (by simp)
  ·rw [if_neg c8] at H
   have c8b0 : (t304 == 0) = false := beq_eq_false_iff_ne.mpr c8
   have c8b1 : (t304 != 0) = true := bne_iff_ne.mpr c8
   by_cases c18 : t304 = 1
   ·rw [if_pos c18] at H
    have c18b0 : (t304 == 1) = true := beq_iff_eq.mpr c18
    have c18b1 : (t304 != 1) = false := bne_eq_false_iff_eq.mpr c18
    clear c18
    by_cases c19 : 0 ≤ t301
    ·rw [if_pos c19] at H
     have c19b0 := eq_true c19
     have c19b1 : decide (0 ≤ t301) = true := decide_eq_true c19
     clear c19
     by_cases c20 : t301 ≤ (a1.size : Int)
     ·rw [if_pos c20] at H
      have c20b0 := eq_true c20
      have c20b1 : decide (t301 ≤ (a1.size : Int)) = true := decide_eq_true c20
      clear c20
      replace H := bM H
      obtain ⟨⟨t307, t308, t309⟩, A210, H⟩ := H
      dsimp only at H
      have A21 := aM A210
      clear A210
      obtain ⟨y310, hy310⟩ : ∃ y_ : List Int, y_ = (([(t307) % 256] : List Int)) := ⟨_, rfl⟩
      first | replace H := bY hy310 H | rw [← hy310] at H
      have Ny310 := aM hy310
      clear hy310
      by_cases c22 : (a1.extract 0 (t301 : Int).toNat).size + (strOfNums y310).size ≤ 9223372036854775807
      ·rw [if_pos c22] at H
       have c22b0 := eq_true c22
       have c22b1 : decide ((a1.extract 0 (t301 : Int).toNat).size + (strOfNums y310).size ≤ 9223372036854775807) = true := decide_eq_true c22
       try have c22b2 : (9223372036854775807 < (a1.extract 0 (t301 : Int).toNat).size + (strOfNums y310).size) = False := eq_false (Nat.not_lt.2 c22)
       have c22b3 : (9223372036854775807 < t301.toNat + (strOfNums y310).size) = False := by have h_ := of_eq_false c22b2; have fc20_ := of_decide_eq_true c20b1; have fc19_ := of_decide_eq_true c19b1; simp only [ByteArray.size_append, ByteArray.size_extract] at h_; exact eq_false (by omega)
       have c23b0 := eq_true (aD : 0 ≤ t301)
       have c24b0 := eq_true (aD : t301 ≤ (a1.size : Int))
       by_cases c25 : ((a1.extract 0 (t301 : Int).toNat) ++ (strOfNums y310)).size + (a1.extract (t301 : Int).toNat a1.size).size ≤ 9223372036854775807
       ·rw [if_pos c25] at H
        have c25b0 := eq_true c25
        have c25b1 : decide (((a1.extract 0 (t301 : Int).toNat) ++ (strOfNums y310)).size + (a1.extract (t301 : Int).toNat a1.size).size ≤ 9223372036854775807) = true := decide_eq_true c25
        try have c25b2 : (9223372036854775807 < ((a1.extract 0 (t301 : Int).toNat) ++ (strOfNums y310)).size + (a1.extract (t301 : Int).toNat a1.size).size) = False := eq_false (Nat.not_lt.2 c25)
        have c25b3 : (9223372036854775807 < t301.toNat + (strOfNums y310).size + (a1.size - t301.toNat)) = False := by have h_ := of_eq_false c25b2; have fc20_ := of_decide_eq_true c20b1; have fc19_ := of_decide_eq_true c19b1; simp only [ByteArray.size_append, ByteArray.size_extract] at h_; exact eq_false (by omega)
        simp only [Option.some.injEq, Prod.mk.injEq] at H
        obtain ⟨rfl, rfl, rfl⟩ := H
        go_enter Tryd.func59, Tryd.ntmps59
        try go_wp2_with (first | ((with_reducible refine gate_callee (f := 62) rfl ?_); refine goesL_ (some 14) rfl rfl Tryd.func62 (by kernel_rfl) rfl #[.pointer (some ⟨g, 0, none⟩), .int .i64 (a1.size : Int)] rfl aA ?_; (with_reducible refine (spec_l1Below.calls g s0_0 s0_1 s0_2 (a1.size : Int) t301 t302 t303 w0 _ ?side1 ?side2 A6.out).mono ?_); (case side1 => exact aZ); (case side2 => exact aY); rintro e w26 ⟨rfl, hi, hb, hk⟩; refine ⟨_, rfl, ?_⟩; replace HK := aM (KeepBut.trans aQ hk (.inl rfl)); replace HB := aM (hb); replace HI0 := aM (hi); (try clear hb); (try clear hb2); (try clear hk); (try clear hi)) | ((with_reducible refine gate_callee (f := 62) rfl ?_); refine goesL_ (some 16) rfl rfl Tryd.func62 (by kernel_rfl) rfl #[.pointer (some ⟨g, 0, none⟩), .int .i64 4] rfl aA ?_; (with_reducible refine (spec_l1Below.calls g s0_0 t302 t303 4 t304 t305 t306 w0 _ ?side1 ?side2 A7.out).mono ?_); (case side1 => exact aZ); (case side2 => exact aY); rintro e w27 ⟨rfl, hi, hb, hk⟩; refine ⟨_, rfl, ?_⟩; replace HK := aM (KeepBut.trans aQ hk (.inl rfl)); replace HB := aM (hb); replace HI0 := aM (hi); (try clear hb); (try clear hb2); (try clear hk); (try clear hi)))
        replace HI0 := aM (IsS117.drew HI0.out)
        replace HK := aM (keep_drew HK.out)
        replace HB := aM (below_drew1 HB.out)
        refine start_ (n := 14) (S := fun w' => True) (ds := []) #[false, false, false, false, false, false, false, false, false, false, false, false, false, false] (by kernel_rfl) rfl rfl trivial (fun hHeld => ?_); refine with_tabW spec_l1Spoil.tab8 spec_l1Spoil.bits8 (fun HT_ HW_ => ?_)
        generalize w27.drew = w28 at HI0 HK HB hHeld ⊢
        refine pU 0 29 ?_
        refine pU 1 30 ?_
        refine pU 2 31 ?_
        refine pU 3 32 ?_
        refine pU 9 38 ?_
        refine pU 10 39 ?_
        refine pU 11 40 ?_
        refine oU 4 33 (fun K hK => ?_)
        refine goes_ Tryd.func95 (by kernel_rfl) rfl #[.pointer (some ⟨g, 0, none⟩)] (by rfl) rfl rfl aA ?_
        with_reducible refine (spec_l1Byte.calls g s0_0 t305 t306 t307 t308 t309 w0 _ ?side1 ?side2 A21.out).mono ?_
        (case side1 => exact aZ)
        (case side2 => exact aY)
        rintro e w29 ⟨rfl, hi, hb, hk⟩
        refine ⟨_, rfl, ?_⟩
        replace HK := aM (KeepBut.trans aQ hk (.inl rfl))
        replace HB := aM (hb)
        replace HI0 := aM (hi)
        (try clear hb)
        (try clear hb2)
        (try clear hk)
        (try clear hi)
        refine hK.out _ _ trivial (fun hHeld => ?_)
        clear hK K
        refine nU 33 ?_
        refine pU 5 34 ?_
        refine oU 6 35 (fun K hK => ?_)
        refine Kd.R_lit_step (Kd.int .u8) _ 5 ?hg (N := 35) ?hd (xs := ([(t307) % 256] : List Int)) (inner := [.int .u8 ((t307) % 256)]) (ok := fun _ => True) (okp := fun _ => True) ?hr ?hp (fun _ hk => hk) trivial (Below.refl _ _) (Nat.le_refl _) (by simp) ?_; (case hd => rfl); (case hg => rfl); (case hr => first | (go_simp; done) | (go_simp; rfl)); (case hp => exact (Reps.one (show Kd.M (Kd.int .u8) _ _ _ ((t307) % 256) [.int .u8 ((t307) % 256)] from rfl) (Reps.none _ _)))
        intro v311 w30 ho31 hb hg_ hnew_
        clear hg_ hnew_
        (first | rw [← Ny310.out] at ho31 | (simp only [Int.reduceToNat] at ho31; rw [← Ny310.out] at ho31))
        have HO312 := aM (Kd.R_lower ho31 (kS (w := w) (g := g)))
        replace HK := aM (KeepBut.trans aQ (KeepBut.of_below hb g none) (.inl rfl))
        replace HB := aM (below_step aY hb)
        replace HI0 := aM (IsS117.below aZ hb)
        clear hb ho31
        refine hK.out _ _ trivial (fun hHeld => ?_)
        clear hK K
        refine nU 35 ?_
        refine oU 7 36 (fun K hK => ?_)
        have hcv32 := own_string (P := Tryd.prog) Tryd.underlying35 Tryd.underlying5 Tryd.underlying9 (Kd.own_of_R HO312.out)
        refine value_ (w1 := ?_) (v := ?_) (by rfl) rfl ?_ ?_
        rotate_left 2
        ·go_simp
         constructor
         ·rfl
         ·rfl
        clear hcv32
        refine hK.out _ _ trivial (fun hHeld => ?_)
        clear hK K
        refine nU 36 ?_
        refine pU 8 37 ?_
        refine pU 12 41 ?_
        refine pU 13 4 ?_
        refine done_ (done_of HT_.out (by kernel_rfl)) ?_
        try go_wp2
        go_ret
        exact ⟨aE, aZ, aY, aQ⟩
       ·rw [if_neg c25] at H
        exact absurd H (by simp)
      ·rw [if_neg c22] at H
       exact absurd H (by simp)
     ·rw [if_neg c20] at H
      exact absurd H (by simp)
    ·rw [if_neg c19] at H
     exact absurd H (by simp)
   ·rw [if_neg c18] at H
    have c18b0 : (t304 == 1) = false := beq_eq_false_iff_ne.mpr c18
    have c18b1 : (t304 != 1) = true := bne_iff_ne.mpr c18
    by_cases c33 : t304 = 2
    ·rw [if_pos c33] at H
     have c33b0 : (t304 == 2) = true := beq_iff_eq.mpr c33
     have c33b1 : (t304 != 2) = false := bne_eq_false_iff_eq.mpr c33
     clear c33
     by_cases c34 : 0 ≤ t301
     ·rw [if_pos c34] at H
      have c34b0 := eq_true c34
      have c34b1 : decide (0 ≤ t301) = true := decide_eq_true c34
      clear c34
      by_cases c35 : t301 ≤ (a1.size : Int)
      ·rw [if_pos c35] at H
       have c35b0 := eq_true c35
       have c35b1 : decide (t301 ≤ (a1.size : Int)) = true := decide_eq_true c35
       clear c35
       simp only [Option.some.injEq, Prod.mk.injEq] at H
       obtain ⟨rfl, rfl, rfl⟩ := H
       go_enter Tryd.func59, Tryd.ntmps59
       go_wp2_with (first | ((with_reducible refine gate_callee (f := 62) rfl ?_); refine goesL_ (some 14) rfl rfl Tryd.func62 (by kernel_rfl) rfl #[.pointer (some ⟨g, 0, none⟩), .int .i64 (a1.size : Int)] rfl aA ?_; (with_reducible refine (spec_l1Below.calls g s0_0 s0_1 s0_2 (a1.size : Int) t301 t302 t303 w0 _ ?side1 ?side2 A6.out).mono ?_); (case side1 => exact aZ); (case side2 => exact aY); rintro e w36 ⟨rfl, hi, hb, hk⟩; refine ⟨_, rfl, ?_⟩; replace HK := aM (KeepBut.trans aQ hk (.inl rfl)); replace HB := aM (hb); replace HI0 := aM (hi); (try clear hb); (try clear hb2); (try clear hk); (try clear hi)) | ((with_reducible refine gate_callee (f := 62) rfl ?_); refine goesL_ (some 16) rfl rfl Tryd.func62 (by kernel_rfl) rfl #[.pointer (some ⟨g, 0, none⟩), .int .i64 4] rfl aA ?_; (with_reducible refine (spec_l1Below.calls g s0_0 t302 t303 4 t304 t305 t306 w0 _ ?side1 ?side2 A7.out).mono ?_); (case side1 => exact aZ); (case side2 => exact aY); rintro e w37 ⟨rfl, hi, hb, hk⟩; refine ⟨_, rfl, ?_⟩; replace HK := aM (KeepBut.trans aQ hk (.inl rfl)); replace HB := aM (hb); replace HI0 := aM (hi); (try clear hb); (try clear hb2); (try clear hk); (try clear hi)))
       go_ret
       exact ⟨aE, aZ, aY, aQ⟩
      ·rw [if_neg c35] at H
       exact absurd H (by simp)
     ·rw [if_neg c34] at H
      exact absurd H (by simp)
    ·rw [if_neg c33] at H
     have c33b0 : (t304 == 2) = false := beq_eq_false_iff_ne.mpr c33
     have c33b1 : (t304 != 2) = true := bne_iff_ne.mpr c33
     by_cases c38 : 0 ≤ t301
     ·rw [if_pos c38] at H
      have c38b0 := eq_true c38
      have c38b1 : decide (0 ≤ t301) = true := decide_eq_true c38
      clear c38
      by_cases c39 : t301 ≤ (a1.size : Int)
      ·rw [if_pos c39] at H
       have c39b0 := eq_true c39
       have c39b1 : decide (t301 ≤ (a1.size : Int)) = true := decide_eq_true c39
       clear c39
       by_cases c40 : t301 < (a1.size : Int)
       ·rw [if_pos c40] at H
        have c40b0 : decide (t301 < (a1.size : Int)) = true := decide_eq_true c40
        clear c40
        replace H := bM H
        obtain ⟨⟨t313, t314, t315⟩, A420, H⟩ := H
        dsimp only at H
        have A42 := aM A420
        clear A420
        obtain ⟨y316, hy316⟩ : ∃ y_ : List Int, y_ = (([(Go.bits .xor .i64 (wrap64 (bt a1 t301)) (wrap64 (1 + t313))) % 256] : List Int)) := ⟨_, rfl⟩
        first | replace H := bY hy316 H | rw [← hy316] at H
        have Ny316 := aM hy316
        clear hy316
        by_cases c43 : (a1.extract 0 (t301 : Int).toNat).size + (strOfNums y316).size ≤ 9223372036854775807
        ·rw [if_pos c43] at H
         have c43b0 := eq_true c43
         have c43b1 : decide ((a1.extract 0 (t301 : Int).toNat).size + (strOfNums y316).size ≤ 9223372036854775807) = true := decide_eq_true c43
         try have c43b2 : (9223372036854775807 < (a1.extract 0 (t301 : Int).toNat).size + (strOfNums y316).size) = False := eq_false (Nat.not_lt.2 c43)
         have c43b3 : (9223372036854775807 < t301.toNat + (strOfNums y316).size) = False := by have h_ := of_eq_false c43b2; have fc39_ := of_decide_eq_true c39b1; have fc38_ := of_decide_eq_true c38b1; simp only [ByteArray.size_append, ByteArray.size_extract] at h_; exact eq_false (by omega)
         obtain ⟨ji44, hji44⟩ : ∃ j_ : Int, (wrap64 (t301 + 1)) = j_ := ⟨_, rfl⟩
         replace H : (if 0 ≤ (ji44) then (if (ji44) ≤ (a1.size : Int) then (if ((a1.extract 0 (t301 : Int).toNat) ++ (strOfNums y316)).size + (a1.extract ((ji44) : Int).toNat a1.size).size ≤ 9223372036854775807 then (some (((a1.extract 0 (t301 : Int).toNat) ++ (strOfNums y316)) ++ (a1.extract ((ji44) : Int).toNat a1.size), t314, t315)) else (none)) else (none)) else (none)) = some (r1, r2, r3) := by first | (rw [hji44] at H; exact H) | (simp only [hji44] at H ⊢; exact H)
         (try rw [hji44] at A6)
         (try rw [hji44] at A7)
         (try rw [hji44] at A42)
         have hji44w : (IntKind.i64.wrap (t301 + 1)) = ji44 := (i64_w _).trans hji44
         by_cases c45 : 0 ≤ (ji44)
         ·rw [if_pos c45] at H
          have c45b0 := eq_true c45
          have c45b1 : decide (0 ≤ (ji44)) = true := decide_eq_true c45
          clear c45
          by_cases c46 : (ji44) ≤ (a1.size : Int)
          ·rw [if_pos c46] at H
           have c46b0 := eq_true c46
           have c46b1 : decide ((ji44) ≤ (a1.size : Int)) = true := decide_eq_true c46
           clear c46
           by_cases c47 : ((a1.extract 0 (t301 : Int).toNat) ++ (strOfNums y316)).size + (a1.extract ((ji44) : Int).toNat a1.size).size ≤ 9223372036854775807
           ·rw [if_pos c47] at H
            have c47b0 := eq_true c47
            have c47b1 : decide (((a1.extract 0 (t301 : Int).toNat) ++ (strOfNums y316)).size + (a1.extract ((ji44) : Int).toNat a1.size).size ≤ 9223372036854775807) = true := decide_eq_true c47
            try have c47b2 : (9223372036854775807 < ((a1.extract 0 (t301 : Int).toNat) ++ (strOfNums y316)).size + (a1.extract ((ji44) : Int).toNat a1.size).size) = False := eq_false (Nat.not_lt.2 c47)
            have c47b3 : (9223372036854775807 < t301.toNat + (strOfNums y316).size + (a1.size - ji44.toNat)) = False := by have h_ := of_eq_false c47b2; have fc39_ := of_decide_eq_true c39b1; have fc38_ := of_decide_eq_true c38b1; simp only [ByteArray.size_append, ByteArray.size_extract] at h_; exact eq_false (by omega)
            simp only [Option.some.injEq, Prod.mk.injEq] at H
            obtain ⟨rfl, rfl, rfl⟩ := H
            go_enter Tryd.func59, Tryd.ntmps59
            try go_wp2_with (first | ((with_reducible refine gate_callee (f := 62) rfl ?_); refine goesL_ (some 14) rfl rfl Tryd.func62 (by kernel_rfl) rfl #[.pointer (some ⟨g, 0, none⟩), .int .i64 (a1.size : Int)] rfl aA ?_; (with_reducible refine (spec_l1Below.calls g s0_0 s0_1 s0_2 (a1.size : Int) t301 t302 t303 w0 _ ?side1 ?side2 A6.out).mono ?_); (case side1 => exact aZ); (case side2 => exact aY); rintro e w48 ⟨rfl, hi, hb, hk⟩; refine ⟨_, rfl, ?_⟩; replace HK := aM (KeepBut.trans aQ hk (.inl rfl)); replace HB := aM (hb); replace HI0 := aM (hi); (try clear hb); (try clear hb2); (try clear hk); (try clear hi)) | ((with_reducible refine gate_callee (f := 62) rfl ?_); refine goesL_ (some 16) rfl rfl Tryd.func62 (by kernel_rfl) rfl #[.pointer (some ⟨g, 0, none⟩), .int .i64 4] rfl aA ?_; (with_reducible refine (spec_l1Below.calls g s0_0 t302 t303 4 t304 t305 t306 w0 _ ?side1 ?side2 A7.out).mono ?_); (case side1 => exact aZ); (case side2 => exact aY); rintro e w49 ⟨rfl, hi, hb, hk⟩; refine ⟨_, rfl, ?_⟩; replace HK := aM (KeepBut.trans aQ hk (.inl rfl)); replace HB := aM (hb); replace HI0 := aM (hi); (try clear hb); (try clear hb2); (try clear hk); (try clear hi)))
            replace HI0 := aM (IsS117.drew HI0.out)
            replace HK := aM (keep_drew HK.out)
            replace HB := aM (below_drew1 HB.out)
            have p41 : 0 ≤ (t301 : Int) := aD
            have q41 : t301 < (a1.size : Int) := aD
            have hx41 := bt_at a1 t301
            replace p41 := eq_true p41
            replace q41 := eq_true q41
            refine start_ (n := 21) (S := fun w' => True) (ds := []) #[false, false, false, false, false, false, false, false, false, false, false, false, false, false, false, false, false, false, false, false, false] (by kernel_rfl) rfl rfl trivial (fun hHeld => ?_); refine with_tabW spec_l1Spoil.tab11 spec_l1Spoil.bits11 (fun HT_ HW_ => ?_)
            generalize w49.drew = w50 at HI0 HK HB hHeld ⊢
            refine pU 0 47 ?_
            refine pU 1 48 ?_
            refine pU 2 49 ?_
            refine pU 3 50 ?_
            refine pU 4 51 ?_
            refine pU 7 54 ?_
            refine pU 15 62 ?_
            refine pU 16 63 ?_
            refine pU 17 64 ?_
            refine pU 18 65 ?_
            refine take_ (i := 5) (N := some 52) (v := ?_) (a' := ?_) #[true, true, true, true, true, true, false, true, false, false, false, false, false, false, false, true, true, true, true, false, false] rfl rfl (take_ofW HT_.out HW_.out (by kernel_rfl)) (fun _ _ _ h => h) (Or.inl ⟨by rfl, ?_⟩) hHeld ?_ ?_
            rotate_left
            ·intro w' _
             go_simp
             with_reducible rfl
            rotate_left
            ·exact aP
            refine pU 6 53 ?_
            refine oU 8 55 (fun K hK => ?_)
            refine goes_ Tryd.func62 (by kernel_rfl) rfl #[.pointer (some ⟨g, 0, none⟩), .int .i64 255] (by rfl) rfl rfl aA ?_
            with_reducible refine (spec_l1Below.calls g s0_0 t305 t306 255 t313 t314 t315 w0 _ ?side1 ?side2 A42.out).mono ?_
            (case side1 => exact aZ)
            (case side2 => exact aY)
            rintro e w51 ⟨rfl, hi, hb, hk⟩
            refine ⟨_, rfl, ?_⟩
            replace HK := aM (KeepBut.trans aQ hk (.inl rfl))
            replace HB := aM (hb)
            replace HI0 := aM (hi)
            (try clear hb)
            (try clear hb2)
            (try clear hk)
            (try clear hi)
            refine hK.out _ _ trivial (fun hHeld => ?_)
            clear hK K
            refine nU 55 ?_
            refine pU 9 56 ?_
            refine pU 10 57 ?_
            refine pU 11 58 ?_
            refine oU 12 59 (fun K hK => ?_)
            refine Kd.R_lit_step (Kd.int .u8) _ 5 ?hg (N := 59) ?hd (xs := ([(Go.bits .xor .i64 (wrap64 (bt a1 t301)) (wrap64 (1 + t313))) % 256] : List Int)) (inner := [.int .u8 ((Go.bits .xor .i64 (wrap64 (bt a1 t301)) (wrap64 (1 + t313))) % 256)]) (ok := fun _ => True) (okp := fun _ => True) ?hr ?hp (fun _ hk => hk) trivial (Below.refl _ _) (Nat.le_refl _) (by simp) ?_; (case hd => rfl); (case hg => rfl); (case hr => first | (go_simp; done) | (go_simp; rfl)); (case hp => exact (Reps.one (show Kd.M (Kd.int .u8) _ _ _ ((Go.bits .xor .i64 (wrap64 (bt a1 t301)) (wrap64 (1 + t313))) % 256) [.int .u8 ((Go.bits .xor .i64 (wrap64 (bt a1 t301)) (wrap64 (1 + t313))) % 256)] from rfl) (Reps.none _ _)))
            intro v317 w52 ho53 hb hg_ hnew_
            clear hg_ hnew_
            (first | rw [← Ny316.out] at ho53 | (simp only [Int.reduceToNat] at ho53; rw [← Ny316.out] at ho53))
            have HO318 := aM (Kd.R_lower ho53 (kS (w := w) (g := g)))
            replace HK := aM (KeepBut.trans aQ (KeepBut.of_below hb g none) (.inl rfl))
            replace HB := aM (below_step aY hb)
            replace HI0 := aM (IsS117.below aZ hb)
            clear hb ho53
            refine hK.out _ _ trivial (fun hHeld => ?_)
            clear hK K
            refine nU 59 ?_
            refine oU 13 60 (fun K hK => ?_)
            have hcv54 := own_string (P := Tryd.prog) Tryd.underlying35 Tryd.underlying5 Tryd.underlying9 (Kd.own_of_R HO318.out)
            refine value_ (w1 := ?_) (v := ?_) (by rfl) rfl ?_ ?_
            rotate_left 2
            ·go_simp
             constructor
             ·rfl
             ·rfl
            clear hcv54
            refine hK.out _ _ trivial (fun hHeld => ?_)
            clear hK K
            refine nU 60 ?_
            refine pU 14 61 ?_
            refine pU 19 66 ?_
            refine pU 20 4 ?_
            refine done_ (done_of HT_.out (by kernel_rfl)) ?_
            try go_wp2
            go_ret
            exact ⟨by first | rfl | (simp [errW_none, errW_some] <;> rfl) | (simp only [← hji44]; first | rfl | (simp [errW_none, errW_some] <;> rfl)) | (simp [*, errW_none, errW_some] <;> rfl), aZ, aY, aQ⟩
           ·rw [if_neg c47] at H
            exact absurd H (by simp)
          ·rw [if_neg c46] at H
           exact absurd H (by simp)
         ·rw [if_neg c45] at H
          exact absurd H (by simp)
        ·rw [if_neg c43] at H
         exact absurd H (by simp)
       ·rw [if_neg c40] at H
        exact absurd H (by simp)
      ·rw [if_neg c39] at H
       exact absurd H (by simp)
     ·rw [if_neg c38] at H
      exact absurd H (by simp)

/-! ### spec_DrawParseFact: function 16 -/
def spec_DrawParseFact.f (k : Nat) (l0 : List Int) : Option ((List (S68)) × ByteArray) := (spec_l1New.f k l0).bind fun bt319 => ((spec_l2Sigs.f bt319.1 bt319.2.1 bt319.2.2).bind fun bt323 => ((spec_l3Fact.f k bt319.1 bt323.2.1 bt323.2.2 bt323.1 10).bind fun bt328 => ((spec_FormatFact.f k bt323.1 bt328.1 bt328.2.1).bind fun t334 => ((spec_l1Once.f bt319.1 bt328.2.2.1 bt328.2.2.2 3).bind fun bt335 => (if bt335.1 = true then ((spec_l1Spoil.f k bt319.1 bt335.2.1 bt335.2.2 t334).bind fun bt338 => ((spec_l1Pick.f bt319.1 bt338.2.1 bt338.2.2 (([(⟨#[]⟩ : ByteArray), (⟨#[114]⟩ : ByteArray), (⟨#[114, 49, 124, 50]⟩ : ByteArray), (⟨#[114, 49, 50]⟩ : ByteArray), (⟨#[114, 124, 49, 50]⟩ : ByteArray), (⟨#[114, 49, 124, 50, 51]⟩ : ByteArray), (⟨#[118, 49]⟩ : ByteArray), (⟨#[114, 49, 124, 50, 124]⟩ : ByteArray), (⟨#[114, 49, 124, 124, 50]⟩ : ByteArray), bt338.1] : List ByteArray))).bind fun bt344 => (some (bt323.1, bt344.1)))) else (some (bt323.1, t334)))))))
set_option maxHeartbeats 8000000 in
set_option maxRecDepth 100000 in
theorem spec_DrawParseFact.calls (k : Nat) (A0 : Option Addr) (c0 : Nat) (l0 : List Int) (r1 : List (S68)) (r2 : ByteArray) (w : World) (hr0 : Kd.C (Kd.int .u8) w A0 l0.length l0) (hc0 : l0.length ≤ c0) (h : spec_DrawParseFact.f k l0 = some (r1, r2)) :
  Calls Tryd.prog 16 #[.slice A0 l0.length c0] w fun e w' => ∃ v0_ : Value, e = .returned (.tuple #[v0_, .string r2]) ∧ Kd.R k68 68 w' w.heap.size (fun _ => True) v0_ r1 ∧ Below w.heap.size w w' := by
 have HR0 := aM hr0
 have HC0 := aM hc0
 clear hr0 hc0
 have HB := aM (Below.refl w.heap.size w)
 have H : ((spec_l1New.f k l0).bind fun bt319 => ((spec_l2Sigs.f bt319.1 bt319.2.1 bt319.2.2).bind fun bt323 => ((spec_l3Fact.f k bt319.1 bt323.2.1 bt323.2.2 bt323.1 10).bind fun bt328 => ((spec_FormatFact.f k bt323.1 bt328.1 bt328.2.1).bind fun t334 => ((spec_l1Once.f bt319.1 bt328.2.2.1 bt328.2.2.2 3).bind fun bt335 => (if bt335.1 = true then ((spec_l1Spoil.f k bt319.1 bt335.2.1 bt335.2.2 t334).bind fun bt338 => ((spec_l1Pick.f bt319.1 bt338.2.1 bt338.2.2 (([(⟨#[]⟩ : ByteArray), (⟨#[114]⟩ : ByteArray), (⟨#[114, 49, 124, 50]⟩ : ByteArray), (⟨#[114, 49, 50]⟩ : ByteArray), (⟨#[114, 124, 49, 50]⟩ : ByteArray), (⟨#[114, 49, 124, 50, 51]⟩ : ByteArray), (⟨#[118, 49]⟩ : ByteArray), (⟨#[114, 49, 124, 50, 124]⟩ : ByteArray), (⟨#[114, 49, 124, 124, 50]⟩ : ByteArray), bt338.1] : List ByteArray))).bind fun bt344 => (some (bt323.1, bt344.1)))) else (some (bt323.1, t334)))))))) = some (r1, r2) := h
 clear h
 replace H := bM H
 obtain ⟨⟨t319, t320, t321⟩, A20, H⟩ := H
 dsimp only at H
 have A2 := aM A20
 clear A20
 replace H := bM H
 obtain ⟨⟨t323, t326, t327⟩, A30, H⟩ := H
 dsimp only at H
 have A3 := aM A30
 clear A30
 replace H := bM H
 obtain ⟨⟨t328, t329, t332, t333⟩, A40, H⟩ := H
 dsimp only at H
 have A4 := aM A40
 clear A40
 replace H := bM H
 obtain ⟨t334, A50, H⟩ := H
 have A5 := aM A50
 clear A50
 replace H := bM H
 obtain ⟨⟨t335, t336, t337⟩, A60, H⟩ := H
 dsimp only at H
 have A6 := aM A60
 clear A60
 by_cases c7 : t335 = true
 ·subst c7
  replace H := iT H
  replace H := bM H
  obtain ⟨⟨t338, t339, t340⟩, A80, H⟩ := H
  dsimp only at H
  have A8 := aM A80
  clear A80
  obtain ⟨y341, hy341⟩ : ∃ y_ : List ByteArray, y_ = (([(⟨#[]⟩ : ByteArray), (⟨#[114]⟩ : ByteArray), (⟨#[114, 49, 124, 50]⟩ : ByteArray), (⟨#[114, 49, 50]⟩ : ByteArray), (⟨#[114, 124, 49, 50]⟩ : ByteArray), (⟨#[114, 49, 124, 50, 51]⟩ : ByteArray), (⟨#[118, 49]⟩ : ByteArray), (⟨#[114, 49, 124, 50, 124]⟩ : ByteArray), (⟨#[114, 49, 124, 124, 50]⟩ : ByteArray), t338] : List ByteArray)) := ⟨_, rfl⟩
  first | replace H := bY hy341 H | rw [← hy341] at H
  have Ny341 := aM hy341
  clear hy341
  replace H := bM H
  obtain ⟨⟨t344, t345, t346⟩, A90, H⟩ := H
  dsimp only at H
  have A9 := aM A90
  clear A90
  simp only [Option.some.injEq, Prod.mk.injEq] at H
  obtain ⟨rfl, rfl⟩ := H
  go_enter Tryd.func16, Tryd.ntmps16
  go_wp2_with (first | ((with_reducible refine gate_callee (f := 53) rfl ?_); refine goesL_ (some 8) rfl rfl Tryd.func53 (by kernel_rfl) rfl #[.slice A0 l0.length c0] rfl aA ?_; (with_reducible refine (spec_l1New.calls k _ _ l0 t319 t320 t321 w _ ?side1 ?side2 ?side3 A2.out).mono ?_); (case side1 => exact aB); (case side2 => exact HR0.out); (case side3 => exact HC0.out); rintro e w10 ⟨g322, rfl, hi, hb, hb2⟩; refine ⟨_, rfl, ?_⟩; have HI322 := aM (hi); replace HB := aM (hb); (try clear hb); (try clear hb2); (try clear hk); (try clear hi)) | ((with_reducible refine gate_callee (f := 54) rfl ?_); refine goesL_ (some 10) rfl rfl Tryd.func54 (by kernel_rfl) rfl #[.pointer (some ⟨g322, 0, none⟩)] rfl aA ?_; (with_reducible refine (spec_l2Sigs.calls g322 t319 t320 t321 t323 t326 t327 w _ ?side1 ?side2 A3.out).mono ?_); (case side1 => repeat (first | (with_reducible first | exact HI322.out | apply IsS117.alloc | apply IsS117.drewN | apply IsS117.drew | apply IsS117.set_1 | apply IsS117.set_2) | exact HI322.out)); (case side2 => repeat (first | (with_reducible first | exact HB.out | apply below_alloc | apply pw_below_drewN | apply below_drew1 | refine below_set ?_ (IsS117.ge HI322.out)) | exact HB.out)); rintro e w11 ⟨v324, rfl, ho0, hi, hb, hk⟩; refine ⟨_, rfl, ?_⟩; have HO325 := aM (Kd.R_lower ho0 (below_size (by repeat (first | (with_reducible first | exact HB.out | apply below_alloc | apply pw_below_drewN | apply below_drew1 | refine below_set ?_ (IsS117.ge HI322.out)) | exact HB.out)))); replace HB := aM (hb); replace HI322 := aM (hi); (try clear hb); (try clear hb2); (try clear hk); (try clear hi); (try clear ho0); obtain ⟨Ao12, co12, eo12⟩ := Kd.R_slice HO325.out; subst eo12) | ((with_reducible refine gate_callee (f := 56) rfl ?_); refine goesL_ (some 14) rfl rfl Tryd.func56 (by kernel_rfl) rfl #[.pointer (some ⟨g322, 0, none⟩), .slice Ao12 t323.length co12, .int .i64 10] rfl aA ?_; (with_reducible refine (spec_l3Fact.calls k g322 t319 t326 t327 _ _ t323 10 t328 t329 t332 t333 w _ ?side1 ?side2 ?side3 ?side4 A4.out).mono ?_); (case side1 => repeat (first | (with_reducible first | exact HI322.out | apply IsS117.alloc | apply IsS117.drewN | apply IsS117.drew | apply IsS117.set_1 | apply IsS117.set_2) | exact HI322.out)); (case side2 => repeat (first | (with_reducible first | exact HB.out | apply below_alloc | apply pw_below_drewN | apply below_drew1 | refine below_set ?_ (IsS117.ge HI322.out)) | exact HB.out)); (case side3 => exact Kd.C_foot_own (IsS117.apart (show IsS117 w _ g322 t319 t326 t327 from by repeat (first | (with_reducible first | exact HI322.out | apply IsS117.alloc | apply IsS117.drewN | apply IsS117.drew | apply IsS117.set_1 | apply IsS117.set_2) | exact HI322.out)) (aR HO325) (by decide)) (fun _ h_ => h_.2)); (case side4 => exact (Kd.R_reads' HO325.out).2.1); rintro e w13 ⟨v330, rfl, ho0, hi, hb, hk⟩; refine ⟨_, rfl, ?_⟩; have HO331 := aM (Kd.R_lower ho0 (below_size (by repeat (first | (with_reducible first | exact HB.out | apply below_alloc | apply pw_below_drewN | apply below_drew1 | refine below_set ?_ (IsS117.ge HI322.out)) | exact HB.out)))); replace HO325 := aM (Kd.R_mono (Kd.R_keep (IsS117.apart (show IsS117 w _ g322 t319 t326 t327 from by repeat (first | (with_reducible first | exact HI322.out | apply IsS117.alloc | apply IsS117.drewN | apply IsS117.drew | apply IsS117.set_1 | apply IsS117.set_2) | exact HI322.out)) (aR HO325) (by decide)) hk (fun _ h => h.2)) (fun _ h => h.1)); replace HB := aM (hb); replace HI322 := aM (hi); (try clear hb); (try clear hb2); (try clear hk); (try clear hi); (try clear ho0); obtain ⟨Ao14, co14, eo14⟩ := Kd.R_slice HO331.out; subst eo14) | ((with_reducible refine gate_callee (f := 55) rfl ?_); refine goesL_ (some 15) rfl rfl Tryd.func55 (by kernel_rfl) rfl #[.slice Ao12 t323.length co12, .agg #[.int .i64 t328, .slice Ao14 t329.length co14]] rfl aA ?_; (with_reducible refine (spec_FormatFact.calls k _ _ t323 t328 _ _ t329 t334 _ ?side1 ?side2 ?side3 ?side4 A5.out).mono ?_); (case side1 => repeat (first | exact (Kd.R_reads' HO325.out).2.2 | (with_reducible refine pC ?_))); (case side2 => exact (Kd.R_reads' HO325.out).2.1); (case side3 => repeat (first | exact (Kd.R_reads' HO331.out).2.2 | (with_reducible refine pC ?_))); (case side4 => exact (Kd.R_reads' HO331.out).2.1); rintro e w15 ⟨rfl, hb⟩; refine ⟨_, rfl, ?_⟩; replace HO325 := aM (Kd.R_below (aR HO325) hb); replace HO331 := aM (Kd.R_below (aR HO331) hb); replace HB := aM (below_step (by repeat (first | (with_reducible first | exact HB.out | apply below_alloc | apply pw_below_drewN | apply below_drew1 | refine below_set ?_ (IsS117.ge HI322.out)) | exact HB.out)) hb); replace HI322 := aM (IsS117.below (by repeat (first | (with_reducible first | exact HI322.out | apply IsS117.alloc | apply IsS117.drewN | apply IsS117.drew | apply IsS117.set_1 | apply IsS117.set_2) | exact HI322.out)) hb); (try clear hb); (try clear hb2); (try clear hk); (try clear hi)) | ((with_reducible refine gate_callee (f := 57) rfl ?_); refine goesL_ (some 17) rfl rfl Tryd.func57 (by kernel_rfl) rfl #[.pointer (some ⟨g322, 0, none⟩), .int .i64 3] rfl aA ?_; (with_reducible refine (spec_l1Once.calls g322 t319 t332 t333 3 true t336 t337 w _ ?side1 ?side2 A6.out).mono ?_); (case side1 => repeat (first | (with_reducible first | exact HI322.out | apply IsS117.alloc | apply IsS117.drewN | apply IsS117.drew | apply IsS117.set_1 | apply IsS117.set_2) | exact HI322.out)); (case side2 => repeat (first | (with_reducible first | exact HB.out | apply below_alloc | apply pw_below_drewN | apply below_drew1 | refine below_set ?_ (IsS117.ge HI322.out)) | exact HB.out)); rintro e w16 ⟨rfl, hi, hb, hk⟩; refine ⟨_, rfl, ?_⟩; replace HO325 := aM (Kd.R_mono (Kd.R_keep (IsS117.apart (show IsS117 w _ g322 t319 t332 t333 from by repeat (first | (with_reducible first | exact HI322.out | apply IsS117.alloc | apply IsS117.drewN | apply IsS117.drew | apply IsS117.set_1 | apply IsS117.set_2) | exact HI322.out)) (aR HO325) (by decide)) hk (fun _ h => h.2)) (fun _ h => h.1)); replace HO331 := aM (Kd.R_mono (Kd.R_keep (IsS117.apart (show IsS117 w _ g322 t319 t332 t333 from by repeat (first | (with_reducible first | exact HI322.out | apply IsS117.alloc | apply IsS117.drewN | apply IsS117.drew | apply IsS117.set_1 | apply IsS117.set_2) | exact HI322.out)) (aR HO331) (by decide)) hk (fun _ h => h.2)) (fun _ h => h.1)); replace HB := aM (hb); replace HI322 := aM (hi); (try clear hb); (try clear hb2); (try clear hk); (try clear hi)) | ((with_reducible refine gate_callee (f := 59) rfl ?_); refine goesL_ (some 22) rfl rfl Tryd.func59 (by kernel_rfl) rfl #[.pointer (some ⟨g322, 0, none⟩), .string t334] rfl aA ?_; (with_reducible refine (spec_l1Spoil.calls k g322 t319 t336 t337 t334 t338 t339 t340 w _ ?side1 ?side2 A8.out).mono ?_); (case side1 => repeat (first | (with_reducible first | exact HI322.out | apply IsS117.alloc | apply IsS117.drewN | apply IsS117.drew | apply IsS117.set_1 | apply IsS117.set_2) | exact HI322.out)); (case side2 => repeat (first | (with_reducible first | exact HB.out | apply below_alloc | apply pw_below_drewN | apply below_drew1 | refine below_set ?_ (IsS117.ge HI322.out)) | exact HB.out)); rintro e w17 ⟨rfl, hi, hb, hk⟩; refine ⟨_, rfl, ?_⟩; replace HO325 := aM (Kd.R_mono (Kd.R_keep (IsS117.apart (show IsS117 w _ g322 t319 t336 t337 from by repeat (first | (with_reducible first | exact HI322.out | apply IsS117.alloc | apply IsS117.drewN | apply IsS117.drew | apply IsS117.set_1 | apply IsS117.set_2) | exact HI322.out)) (aR HO325) (by decide)) hk (fun _ h => h.2)) (fun _ h => h.1)); replace HO331 := aM (Kd.R_mono (Kd.R_keep (IsS117.apart (show IsS117 w _ g322 t319 t336 t337 from by repeat (first | (with_reducible first | exact HI322.out | apply IsS117.alloc | apply IsS117.drewN | apply IsS117.drew | apply IsS117.set_1 | apply IsS117.set_2) | exact HI322.out)) (aR HO331) (by decide)) hk (fun _ h => h.2)) (fun _ h => h.1)); replace HB := aM (hb); replace HI322 := aM (hi); (try clear hb); (try clear hb2); (try clear hk); (try clear hi)) | ((with_reducible refine gate_dst (N := 23) rfl ?_); refine Kd.R_lit Kd.string _ 9 ?hg (N := 23) ?hd (xs := ([(⟨#[]⟩ : ByteArray), (⟨#[114]⟩ : ByteArray), (⟨#[114, 49, 124, 50]⟩ : ByteArray), (⟨#[114, 49, 50]⟩ : ByteArray), (⟨#[114, 124, 49, 50]⟩ : ByteArray), (⟨#[114, 49, 124, 50, 51]⟩ : ByteArray), (⟨#[118, 49]⟩ : ByteArray), (⟨#[114, 49, 124, 50, 124]⟩ : ByteArray), (⟨#[114, 49, 124, 124, 50]⟩ : ByteArray), t338] : List ByteArray)) (inner := [.string (⟨#[]⟩ : ByteArray), .string (⟨#[114]⟩ : ByteArray), .string (⟨#[114, 49, 124, 50]⟩ : ByteArray), .string (⟨#[114, 49, 50]⟩ : ByteArray), .string (⟨#[114, 124, 49, 50]⟩ : ByteArray), .string (⟨#[114, 49, 124, 50, 51]⟩ : ByteArray), .string (⟨#[118, 49]⟩ : ByteArray), .string (⟨#[114, 49, 124, 50, 124]⟩ : ByteArray), .string (⟨#[114, 49, 124, 124, 50]⟩ : ByteArray), .string t338]) (ok := fun _ => True) (okp := fun _ => True) ?hr ?hp (fun _ hk => hk) trivial (Below.refl _ _) (Nat.le_refl _) (by simp) ?_; (case hd => rfl); (case hg => rfl); (case hr => first | (go_simp; done) | (go_simp; rfl)); (case hp => exact (Reps.one (show Kd.M Kd.string _ _ _ (⟨#[]⟩ : ByteArray) [.string (⟨#[]⟩ : ByteArray)] from rfl) (Reps.one (show Kd.M Kd.string _ _ _ (⟨#[114]⟩ : ByteArray) [.string (⟨#[114]⟩ : ByteArray)] from rfl) (Reps.one (show Kd.M Kd.string _ _ _ (⟨#[114, 49, 124, 50]⟩ : ByteArray) [.string (⟨#[114, 49, 124, 50]⟩ : ByteArray)] from rfl) (Reps.one (show Kd.M Kd.string _ _ _ (⟨#[114, 49, 50]⟩ : ByteArray) [.string (⟨#[114, 49, 50]⟩ : ByteArray)] from rfl) (Reps.one (show Kd.M Kd.string _ _ _ (⟨#[114, 124, 49, 50]⟩ : ByteArray) [.string (⟨#[114, 124, 49, 50]⟩ : ByteArray)] from rfl) (Reps.one (show Kd.M Kd.string _ _ _ (⟨#[114, 49, 124, 50, 51]⟩ : ByteArray) [.string (⟨#[114, 49, 124, 50, 51]⟩ : ByteArray)] from rfl) (Reps.one (show Kd.M Kd.string _ _ _ (⟨#[118, 49]⟩ : ByteArray) [.string (⟨#[118, 49]⟩ : ByteArray)] from rfl) (Reps.one (show Kd.M Kd.string _ _ _ (⟨#[114, 49, 124, 50, 124]⟩ : ByteArray) [.string (⟨#[114, 49, 124, 50, 124]⟩ : ByteArray)] from rfl) (Reps.one (show Kd.M Kd.string _ _ _ (⟨#[114, 49, 124, 124, 50]⟩ : ByteArray) [.string (⟨#[114, 49, 124, 124, 50]⟩ : ByteArray)] from rfl) (Reps.one (show Kd.M Kd.string _ _ _ t338 [.string t338] from rfl) (Reps.none _ _)))))))))))); intro v342 w18 ho19 hb hg_ hnew_; clear hg_ hnew_; (first | rw [← Ny341.out] at ho19 | (simp only [Int.reduceToNat] at ho19; rw [← Ny341.out] at ho19)); have HO343 := aM (Kd.R_lower ho19 (below_size (by repeat (first | (with_reducible first | exact HB.out | apply below_alloc | apply pw_below_drewN | apply below_drew1 | refine below_set ?_ (IsS117.ge HI322.out)) | exact HB.out)))); replace HO325 := aM (Kd.R_below (aR HO325) hb); replace HO331 := aM (Kd.R_below (aR HO331) hb); replace HB := aM (below_step (by repeat (first | (with_reducible first | exact HB.out | apply below_alloc | apply pw_below_drewN | apply below_drew1 | refine below_set ?_ (IsS117.ge HI322.out)) | exact HB.out)) hb); replace HI322 := aM (IsS117.below (by repeat (first | (with_reducible first | exact HI322.out | apply IsS117.alloc | apply IsS117.drewN | apply IsS117.drew | apply IsS117.set_1 | apply IsS117.set_2) | exact HI322.out)) hb); clear hb ho19; obtain ⟨Ao20, co20, eo20⟩ := Kd.R_slice HO343.out; subst eo20) | ((with_reducible refine gate_callee (f := 58) rfl ?_); refine goesL_ (some 24) rfl rfl Tryd.func58 (by kernel_rfl) rfl #[.pointer (some ⟨g322, 0, none⟩), .slice Ao20 y341.length co20] rfl aA ?_; (with_reducible refine (spec_l1Pick.calls g322 t319 t339 t340 _ _ y341 t344 t345 t346 w _ ?side1 ?side2 ?side3 ?side4 ?side5 A9.out).mono ?_); (case side1 => repeat (first | (with_reducible first | exact HI322.out | apply IsS117.alloc | apply IsS117.drewN | apply IsS117.drew | apply IsS117.set_1 | apply IsS117.set_2) | exact HI322.out)); (case side2 => repeat (first | (with_reducible first | exact HB.out | apply below_alloc | apply pw_below_drewN | apply below_drew1 | refine below_set ?_ (IsS117.ge HI322.out)) | exact HB.out)); (case side3 => repeat (first | exact (Kd.R_reads' HO343.out).2.2 | (with_reducible refine pC ?_))); (case side4 => exact (Kd.R_reads' HO343.out).2.1); (case side5 => exact far_slice (IsS117.own_ne HI322.out HO343.out (by decide))); rintro e w21 ⟨rfl, hi, hb, hk⟩; refine ⟨_, rfl, ?_⟩; replace HO325 := aM (Kd.R_mono (Kd.R_keep (IsS117.apart (show IsS117 w _ g322 t319 t339 t340 from by repeat (first | (with_reducible first | exact HI322.out | apply IsS117.alloc | apply IsS117.drewN | apply IsS117.drew | apply IsS117.set_1 | apply IsS117.set_2) | exact HI322.out)) (aR HO325) (by decide)) hk (fun _ h => h.2)) (fun _ h => h.1)); replace HO331 := aM (Kd.R_mono (Kd.R_keep (IsS117.apart (show IsS117 w _ g322 t319 t339 t340 from by repeat (first | (with_reducible first | exact HI322.out | apply IsS117.alloc | apply IsS117.drewN | apply IsS117.drew | apply IsS117.set_1 | apply IsS117.set_2) | exact HI322.out)) (aR HO331) (by decide)) hk (fun _ h => h.2)) (fun _ h => h.1)); replace HO343 := aM (Kd.R_mono (Kd.R_keep (IsS117.apart (show IsS117 w _ g322 t319 t339 t340 from by repeat (first | (with_reducible first | exact HI322.out | apply IsS117.alloc | apply IsS117.drewN | apply IsS117.drew | apply IsS117.set_1 | apply IsS117.set_2) | exact HI322.out)) (aR HO343) (by decide)) hk (fun _ h => h.2)) (fun _ h => h.1)); replace HB := aM (hb); replace HI322 := aM (hi); (try clear hb); (try clear hb2); (try clear hk); (try clear hi)))
  go_ret2
  exact ⟨_, aE, aR HO325, by repeat (first | (with_reducible first | exact HB.out | apply below_alloc | apply pw_below_drewN | apply below_drew1 | refine below_set ?_ (IsS117.ge HI322.out)) | exact HB.out)⟩
 ·replace c7 := Bool.eq_false_iff.mpr c7
  subst c7
  have H1 : (some (t323, t334)) = some (r1, r2) := by rw [if_neg (show ¬ (false = true) by decide)] at H; exact H
  clear H
  have H := H1
  clear H1
  simp only [Option.some.injEq, Prod.mk.injEq] at H
  obtain ⟨rfl, rfl⟩ := H
  go_enter Tryd.func16, Tryd.ntmps16
  go_wp2_with (first | ((with_reducible refine gate_callee (f := 53) rfl ?_); refine goesL_ (some 8) rfl rfl Tryd.func53 (by kernel_rfl) rfl #[.slice A0 l0.length c0] rfl aA ?_; (with_reducible refine (spec_l1New.calls k _ _ l0 t319 t320 t321 w _ ?side1 ?side2 ?side3 A2.out).mono ?_); (case side1 => exact aB); (case side2 => exact HR0.out); (case side3 => exact HC0.out); rintro e w22 ⟨g322, rfl, hi, hb, hb2⟩; refine ⟨_, rfl, ?_⟩; have HI322 := aM (hi); replace HB := aM (hb); (try clear hb); (try clear hb2); (try clear hk); (try clear hi)) | ((with_reducible refine gate_callee (f := 54) rfl ?_); refine goesL_ (some 10) rfl rfl Tryd.func54 (by kernel_rfl) rfl #[.pointer (some ⟨g322, 0, none⟩)] rfl aA ?_; (with_reducible refine (spec_l2Sigs.calls g322 t319 t320 t321 t323 t326 t327 w _ ?side1 ?side2 A3.out).mono ?_); (case side1 => repeat (first | (with_reducible first | exact HI322.out | apply IsS117.alloc | apply IsS117.drewN | apply IsS117.drew | apply IsS117.set_1 | apply IsS117.set_2) | exact HI322.out)); (case side2 => repeat (first | (with_reducible first | exact HB.out | apply below_alloc | apply pw_below_drewN | apply below_drew1 | refine below_set ?_ (IsS117.ge HI322.out)) | exact HB.out)); rintro e w23 ⟨v324, rfl, ho0, hi, hb, hk⟩; refine ⟨_, rfl, ?_⟩; have HO325 := aM (Kd.R_lower ho0 (below_size (by repeat (first | (with_reducible first | exact HB.out | apply below_alloc | apply pw_below_drewN | apply below_drew1 | refine below_set ?_ (IsS117.ge HI322.out)) | exact HB.out)))); replace HB := aM (hb); replace HI322 := aM (hi); (try clear hb); (try clear hb2); (try clear hk); (try clear hi); (try clear ho0); obtain ⟨Ao24, co24, eo24⟩ := Kd.R_slice HO325.out; subst eo24) | ((with_reducible refine gate_callee (f := 56) rfl ?_); refine goesL_ (some 14) rfl rfl Tryd.func56 (by kernel_rfl) rfl #[.pointer (some ⟨g322, 0, none⟩), .slice Ao24 t323.length co24, .int .i64 10] rfl aA ?_; (with_reducible refine (spec_l3Fact.calls k g322 t319 t326 t327 _ _ t323 10 t328 t329 t332 t333 w _ ?side1 ?side2 ?side3 ?side4 A4.out).mono ?_); (case side1 => repeat (first | (with_reducible first | exact HI322.out | apply IsS117.alloc | apply IsS117.drewN | apply IsS117.drew | apply IsS117.set_1 | apply IsS117.set_2) | exact HI322.out)); (case side2 => repeat (first | (with_reducible first | exact HB.out | apply below_alloc | apply pw_below_drewN | apply below_drew1 | refine below_set ?_ (IsS117.ge HI322.out)) | exact HB.out)); (case side3 => exact Kd.C_foot_own (IsS117.apart (show IsS117 w _ g322 t319 t326 t327 from by repeat (first | (with_reducible first | exact HI322.out | apply IsS117.alloc | apply IsS117.drewN | apply IsS117.drew | apply IsS117.set_1 | apply IsS117.set_2) | exact HI322.out)) (aR HO325) (by decide)) (fun _ h_ => h_.2)); (case side4 => exact (Kd.R_reads' HO325.out).2.1); rintro e w25 ⟨v330, rfl, ho0, hi, hb, hk⟩; refine ⟨_, rfl, ?_⟩; have HO331 := aM (Kd.R_lower ho0 (below_size (by repeat (first | (with_reducible first | exact HB.out | apply below_alloc | apply pw_below_drewN | apply below_drew1 | refine below_set ?_ (IsS117.ge HI322.out)) | exact HB.out)))); replace HO325 := aM (Kd.R_mono (Kd.R_keep (IsS117.apart (show IsS117 w _ g322 t319 t326 t327 from by repeat (first | (with_reducible first | exact HI322.out | apply IsS117.alloc | apply IsS117.drewN | apply IsS117.drew | apply IsS117.set_1 | apply IsS117.set_2) | exact HI322.out)) (aR HO325) (by decide)) hk (fun _ h => h.2)) (fun _ h => h.1)); replace HB := aM (hb); replace HI322 := aM (hi); (try clear hb); (try clear hb2); (try clear hk); (try clear hi); (try clear ho0); obtain ⟨Ao26, co26, eo26⟩ := Kd.R_slice HO331.out; subst eo26) | ((with_reducible refine gate_callee (f := 55) rfl ?_); refine goesL_ (some 15) rfl rfl Tryd.func55 (by kernel_rfl) rfl #[.slice Ao24 t323.length co24, .agg #[.int .i64 t328, .slice Ao26 t329.length co26]] rfl aA ?_; (with_reducible refine (spec_FormatFact.calls k _ _ t323 t328 _ _ t329 t334 _ ?side1 ?side2 ?side3 ?side4 A5.out).mono ?_); (case side1 => repeat (first | exact (Kd.R_reads' HO325.out).2.2 | (with_reducible refine pC ?_))); (case side2 => exact (Kd.R_reads' HO325.out).2.1); (case side3 => repeat (first | exact (Kd.R_reads' HO331.out).2.2 | (with_reducible refine pC ?_))); (case side4 => exact (Kd.R_reads' HO331.out).2.1); rintro e w27 ⟨rfl, hb⟩; refine ⟨_, rfl, ?_⟩; replace HO325 := aM (Kd.R_below (aR HO325) hb); replace HO331 := aM (Kd.R_below (aR HO331) hb); replace HB := aM (below_step (by repeat (first | (with_reducible first | exact HB.out | apply below_alloc | apply pw_below_drewN | apply below_drew1 | refine below_set ?_ (IsS117.ge HI322.out)) | exact HB.out)) hb); replace HI322 := aM (IsS117.below (by repeat (first | (with_reducible first | exact HI322.out | apply IsS117.alloc | apply IsS117.drewN | apply IsS117.drew | apply IsS117.set_1 | apply IsS117.set_2) | exact HI322.out)) hb); (try clear hb); (try clear hb2); (try clear hk); (try clear hi)) | ((with_reducible refine gate_callee (f := 57) rfl ?_); refine goesL_ (some 17) rfl rfl Tryd.func57 (by kernel_rfl) rfl #[.pointer (some ⟨g322, 0, none⟩), .int .i64 3] rfl aA ?_; (with_reducible refine (spec_l1Once.calls g322 t319 t332 t333 3 false t336 t337 w _ ?side1 ?side2 A6.out).mono ?_); (case side1 => repeat (first | (with_reducible first | exact HI322.out | apply IsS117.alloc | apply IsS117.drewN | apply IsS117.drew | apply IsS117.set_1 | apply IsS117.set_2) | exact HI322.out)); (case side2 => repeat (first | (with_reducible first | exact HB.out | apply below_alloc | apply pw_below_drewN | apply below_drew1 | refine below_set ?_ (IsS117.ge HI322.out)) | exact HB.out)); rintro e w28 ⟨rfl, hi, hb, hk⟩; refine ⟨_, rfl, ?_⟩; replace HO325 := aM (Kd.R_mono (Kd.R_keep (IsS117.apart (show IsS117 w _ g322 t319 t332 t333 from by repeat (first | (with_reducible first | exact HI322.out | apply IsS117.alloc | apply IsS117.drewN | apply IsS117.drew | apply IsS117.set_1 | apply IsS117.set_2) | exact HI322.out)) (aR HO325) (by decide)) hk (fun _ h => h.2)) (fun _ h => h.1)); replace HO331 := aM (Kd.R_mono (Kd.R_keep (IsS117.apart (show IsS117 w _ g322 t319 t332 t333 from by repeat (first | (with_reducible first | exact HI322.out | apply IsS117.alloc | apply IsS117.drewN | apply IsS117.drew | apply IsS117.set_1 | apply IsS117.set_2) | exact HI322.out)) (aR HO331) (by decide)) hk (fun _ h => h.2)) (fun _ h => h.1)); replace HB := aM (hb); replace HI322 := aM (hi); (try clear hb); (try clear hb2); (try clear hk); (try clear hi)))
  go_ret2
  exact ⟨_, aE, aR HO325, by repeat (first | (with_reducible first | exact HB.out | apply below_alloc | apply pw_below_drewN | apply below_drew1 | refine below_set ?_ (IsS117.ge HI322.out)) | exact HB.out)⟩

/-! ### spec_RelationIndex: function 60 -/
def spec_RelationIndex.l0 : Nat → List (S68) → ByteArray → Int → Option (Int)
 | 0, _, _, _ => none
 | k + 1, x0, x1, x5 => if x5 < (x0.length : Int) then (if 0 ≤ x5 then (if ((rd_T68 x0 x5).f0).toList = x1.toList then (some x5) else (spec_RelationIndex.l0 k x0 x1 (wrap64 (x5 + 1)))) else (none)) else (some (-1))
def spec_RelationIndex.f (k : Nat) (l0 : List (S68)) (a1 : ByteArray) : Option (Int) := spec_RelationIndex.l0 k l0 a1 0
set_option maxHeartbeats 8000000 in
set_option maxRecDepth 100000 in
theorem spec_RelationIndex.calls (k : Nat) (A0 : Option Addr) (c0 : Nat) (l0 : List (S68)) (a1 : ByteArray) (r : Int) (w : World) (hr0 : Kd.C k68 w A0 l0.length l0) (hc0 : l0.length ≤ c0) (h : spec_RelationIndex.f k l0 a1 = some r) :
  Calls Tryd.prog 60 #[.slice A0 l0.length c0, .string a1] w fun e w' => e = .returned (.int .i64 r) ∧ Drawn0 w w' := by
 unfold spec_RelationIndex.f at h
 ·go_enter Tryd.func60, Tryd.ntmps60
  go_wp2
  go_loopg [5] k (fun kq v5 w' => ∃ (x5_0 : Int), v5 = .int .i64 x5_0 ∧ spec_RelationIndex.l0 kq l0 a1 x5_0 = some r ∧ Drawn0 w w')
  case atStart => exact ⟨_, zR, zA, zD⟩
  case round =>
   clear h
   obtain ⟨x5_0, rfl, h, hb⟩ := hrel
   have hd := hb
   replace hb := hb.below
   replace hb := aM hb
   have HB : Below w.heap.size w wr := zB
   rcases gk with _ | kk0
   exact absurd h (by simp [spec_RelationIndex.l0])
   simp only [spec_RelationIndex.l0] at h
   replace h := il h; rcases h with ⟨c1, c1a, h⟩ | ⟨c1, c1a, h⟩
   replace h := ie h; rcases h with ⟨c2, c2a, h⟩ | ⟨c2, c2a, h⟩
   replace h := iq h; rcases h with ⟨c3, ⟨c3a, c3b⟩, h⟩ | ⟨c3, ⟨c3a, c3b⟩, h⟩
   obtain rfl := si h
   obtain ⟨ad347, e347, hx347_0, hx347_1, hx347_2⟩ := at_T68 hr0 (x5_0 : Int) aD aD
   have p347 := eq_true (aD : 0 ≤ (x5_0 : Int))
   have q347 := eq_true (aD : x5_0 < (l0.length : Int))
   cases e347
   replace hx347_0 := qa hx347_0
   replace hx347_1 := qa hx347_1
   replace hx347_2 := qa hx347_2
   rotate_left
   obtain ⟨kf, hkf⟩ : ∃ kf, kf = kk0 := ⟨_, rfl⟩; rw [← hkf] at h
   obtain ⟨ad347, e347, hx347_0, hx347_1, hx347_2⟩ := at_T68 hr0 (x5_0 : Int) aD aD
   have p347 := eq_true (aD : 0 ≤ (x5_0 : Int))
   have q347 := eq_true (aD : x5_0 < (l0.length : Int))
   cases e347
   replace hx347_0 := qa hx347_0
   replace hx347_1 := qa hx347_1
   replace hx347_2 := qa hx347_2
   rotate_left
   exact absurd h (by simp)
   obtain rfl := si h
   rotate_left
   all_goals (go_wp2; first | (go_ret; exact zE zD) | (go_roundg kf; (case measure => omega); (case rel => exact ⟨_, zR, zA, zD⟩)))

end Go.Proofs.YtckpikfbhlhhjaaDoor.PFnFactFormat
