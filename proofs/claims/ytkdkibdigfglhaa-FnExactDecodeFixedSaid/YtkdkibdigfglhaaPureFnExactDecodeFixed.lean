/- The law FnExactDecodeFixed answers true for every string and width that the row admits: the reference multiplies and adds, the program shifts and joins bits, and both come to one number. -/
import Derived.Test.YtkdkibdigfglhaaPFnExactDecodeFixedx1
import Derived.Test.YtkdkibdigfglhaaBase
namespace Go.Proofs.Ytkdkibdigfglhaa.Pure
open Go.RowKit Go.Proofs.Ytkdkibdigfglhaa.PFnExactDecodeFixed Go.Proofs.YtkdkibdigfglhaaW.PrintWords Go.Proofs.YtkdkibdigfglhaaW.PrintLast Go.Proofs.YtkdkibdigfglhaaW.PrintMore Go.Proofs.Ytkdkibdigfglhaa.Base
set_option linter.unusedVariables false
set_option linter.unusedSimpArgs false

theorem join (n b : Int) (h0 : 0 ≤ n) (h1 : n * 256 < 2 ^ 62) (hb : 0 ≤ b) (hb1 : b ≤ 255) : bits .or .i64 (n * 256) b = n * 256 + b :=
  or_join 8 (by decide) _ _ (by omega) (by have : (2 : Int) ^ 8 = 256 := by decide
                                           rw [this]; omega) h1 hb (by have : (2 : Int) ^ 8 = 256 := by decide
                                                                       rw [this]; omega)

theorem loops (s : ByteArray) (w : Int) (hw : w ≤ 7) (hs : w ≤ s.size) (d : Nat) : ∀ (k : Nat) (i n : Int) (B : Nat), 0 ≤ i → w - i = d → d < k → 0 ≤ n → n < B → B * 256 ^ d ≤ 2 ^ 56 →
    ∃ r, spec_DecodeFixed.l0 k s w n i = some r ∧ impl_DecodeFixed.l0 k s n w i = some r := by
  induction d with
  | zero =>
    intro k i n B h0 hd hk _ _ _
    obtain ⟨k, rfl⟩ : ∃ m, k = m + 1 := ⟨k - 1, by omega⟩
    refine ⟨(n, true), ?_, ?_⟩
    · simp only [spec_DecodeFixed.l0]
      rw [if_neg (by omega)]
    · simp only [impl_DecodeFixed.l0]
      rw [if_neg (by omega)]
  | succ d ih =>
    intro k i n B h0 hd hk hn hB hm
    obtain ⟨k, rfl⟩ : ∃ m, k = m + 1 := ⟨k - 1, by omega⟩
    have hb := btr s i
    have hm' : (B * 256) * 256 ^ d ≤ 2 ^ 56 := by
      rw [Nat.pow_succ] at hm
      rw [Nat.mul_assoc, Nat.mul_comm 256]
      exact hm
    have hBs : B * 256 ≤ 72057594037927936 := by
      have h2 : B * 256 ≤ (B * 256) * 256 ^ d := Nat.le_mul_of_pos_right _ (Nat.pow_pos (by decide))
      have h3 : (2 : Nat) ^ 56 = 72057594037927936 := by decide
      omega
    have h62 : (2 : Int) ^ 62 = 4611686018427387904 := by decide
    have e1 : wrap64 (n * 256) = n * 256 := w64 (by omega) (by omega)
    have e2 : wrap64 (bt s i) = bt s i := w64 (by omega) (by omega)
    have e3 : wrap64 (n * 256 + bt s i) = n * 256 + bt s i := w64 (by omega) (by omega)
    have e4 : wrap64 (i + 1) = i + 1 := w64 (by omega) (by omega)
    have e5 := join n (bt s i) hn (by omega) hb.1 hb.2
    obtain ⟨r, hr, hr'⟩ := ih k (i + 1) (n * 256 + bt s i) (B * 256) (by omega) (by omega) (by omega) (by omega) (by omega) hm'
    refine ⟨r, ?_, ?_⟩
    · simp only [spec_DecodeFixed.l0]
      rw [if_pos (by omega), if_pos h0, if_pos (by omega), e1, e2, e3, e4]
      exact hr
    · simp only [impl_DecodeFixed.l0]
      rw [if_pos (by omega), if_pos h0, if_pos (by omega), e1, e2, e5, e4]
      exact hr'

theorem FnExactDecodeFixed : laws_FnExactDecodeFixed.Pure := by
  intro s w hn hw
  by_cases hs : (s.size : Int) > 1048576
  · exact ⟨0, by unfold laws_FnExactDecodeFixed.f; rw [if_pos hs]⟩
  · have hno : ∀ k, laws_FnExactDecodeFixed.f (k + 1) s w = some true ∨ (1 ≤ w ∧ w ≤ 7 ∧ w ≤ s.size) := by
      intro k
      by_cases h1 : 1 ≤ w
      · by_cases h7 : w ≤ 7
        · by_cases hl : w ≤ s.size
          · exact .inr ⟨h1, h7, hl⟩
          · left
            have hl' : (s.size : Int) < w := by omega
            unfold laws_FnExactDecodeFixed.f spec_DecodeFixed.f impl_DecodeFixed.f spec_l1In.f impl_within.f
            rw [if_neg hs, if_pos h1]
            simp [h7, hl', spec_DecodeFixed.j0, impl_DecodeFixed.j0]
        · left
          unfold laws_FnExactDecodeFixed.f spec_DecodeFixed.f impl_DecodeFixed.f spec_l1In.f impl_within.f
          rw [if_neg hs, if_pos h1]
          simp [h7, spec_DecodeFixed.j0, impl_DecodeFixed.j0]
      · left
        unfold laws_FnExactDecodeFixed.f spec_DecodeFixed.f impl_DecodeFixed.f spec_l1In.f impl_within.f
        rw [if_neg hs, if_neg h1]
        simp [spec_DecodeFixed.j0, impl_DecodeFixed.j0]
    rcases hno 8 with h | ⟨h1, h7, hl⟩
    · exact ⟨_, h⟩
    · obtain ⟨m, rfl⟩ := Int.eq_ofNat_of_zero_le (show 0 ≤ w by omega)
      obtain ⟨r, hr, hr'⟩ := loops s m h7 hl m 8 0 0 1 (by omega) (by omega) (by omega) (by omega) (by omega) (by
        have : (256 : Nat) ^ m ≤ 256 ^ 7 := Nat.pow_le_pow_right (by decide) (by omega)
        have h2 : (256 : Nat) ^ 7 = 2 ^ 56 := by decide
        omega)
      refine ⟨9, ?_⟩
      have hl' : ¬ (s.size : Int) < (m : Int) := by omega
      unfold laws_FnExactDecodeFixed.f spec_DecodeFixed.f impl_DecodeFixed.f spec_l1In.f impl_within.f
      rw [if_neg hs, if_pos h1]
      simp only [Option.bind_some, decide_eq_true h7, if_true, decide_eq_false hl', spec_DecodeFixed.j0, impl_DecodeFixed.j0, Bool.false_eq_true, if_false, hr, hr']
      simp

end Go.Proofs.Ytkdkibdigfglhaa.Pure
