/- The law FnExactEncodeHex answers true for every string that the row admits: the two loops append the same digits. -/
import Derived.Test.YtkdkibdigfglhaaPFnExactEncodeHexx1
import Derived.Test.YtkdkibdigfglhaaBase
namespace Go.Proofs.Ytkdkibdigfglhaa.Pure
open Go.RowKit Go.Proofs.Ytkdkibdigfglhaa.PFnExactEncodeHex Go.Proofs.YtkdkibdigfglhaaW.PrintWords Go.Proofs.YtkdkibdigfglhaaW.PrintLast Go.Proofs.YtkdkibdigfglhaaW.PrintMore Go.Proofs.Ytkdkibdigfglhaa.Base
set_option linter.unusedVariables false
set_option linter.unusedSimpArgs false

theorem digit (v : Int) (h0 : 0 ≤ v) (h1 : v < 16) : spec_l1Digit.f v = some (bt (⟨#[48, 49, 50, 51, 52, 53, 54, 55, 56, 57, 97, 98, 99, 100, 101, 102]⟩ : ByteArray) v) := by
  unfold spec_l1Digit.f
  rw [if_pos h0, if_pos h1]

theorem loops (s : ByteArray) (hn : s.size ≤ 1048576) (d : Nat) : ∀ (k : Nat) (i : Int) (acc : List Int), 0 ≤ i → i ≤ s.size → (s.size : Int) - i = d → d < k → (acc.length : Int) = 2 * i →
    ∃ r, spec_EncodeHex.l0 k s acc i = some r ∧ impl_EncodeHex.l0 k s acc i = some r := by
  induction d with
  | zero =>
    intro k i acc h0 h1 hd hk ha
    obtain ⟨k, rfl⟩ : ∃ m, k = m + 1 := ⟨k - 1, by omega⟩
    refine ⟨strOfNums acc, ?_, ?_⟩
    · simp only [spec_EncodeHex.l0]
      rw [if_neg (by omega)]
    · simp only [impl_EncodeHex.l0]
      rw [if_neg (by omega)]
  | succ d ih =>
    intro k i acc h0 h1 hd hk ha
    obtain ⟨k, rfl⟩ : ∃ m, k = m + 1 := ⟨k - 1, by omega⟩
    have hlt : i < (s.size : Int) := by omega
    have hb := btr s i
    generalize hv : bt s i = b at hb
    have e1 : wrap64 b = b := w64 (by omega) (by omega)
    have e2 : Int.tdiv b 16 = b / 16 := td hb.1
    have e3 : Int.tmod b 16 = b % 16 := tm hb.1
    have e4 : wrap64 (b / 16) = b / 16 := w64 (by omega) (by omega)
    have e5 : b / 16 % 256 = b / 16 := by omega
    have e6 : wrap64 (i + 1) = i + 1 := w64 (by omega) (by omega)
    obtain ⟨r, hr, hr'⟩ := ih k (i + 1) (acc ++ [bt (⟨#[48, 49, 50, 51, 52, 53, 54, 55, 56, 57, 97, 98, 99, 100, 101, 102]⟩ : ByteArray) (b / 16), bt (⟨#[48, 49, 50, 51, 52, 53, 54, 55, 56, 57, 97, 98, 99, 100, 101, 102]⟩ : ByteArray) (b % 16)]) (by omega) (by omega) (by omega) (by omega) (by simp; omega)
    refine ⟨r, ?_, ?_⟩
    · simp only [spec_EncodeHex.l0]
      rw [if_pos hlt, if_pos h0, hv, e1, e2, e3, e4, digit (b / 16) (by omega) (by omega), digit (b % 16) (by omega) (by omega)]
      simp only [Option.bind_some]
      rw [if_pos (by simp; omega), e6]
      exact hr
    · simp only [impl_EncodeHex.l0]
      rw [if_pos hlt, if_pos h0, hv, e2, e3, e5, if_pos (by omega), if_pos (by omega), if_pos (by omega), if_pos (by omega)]
      simp only [Option.bind_some]
      rw [if_pos (by simp; omega), e6]
      exact hr'

theorem FnExactEncodeHex : laws_FnExactEncodeHex.Pure := by
  intro s hn
  by_cases hs : (s.size : Int) > 1048576
  · exact ⟨0, by unfold laws_FnExactEncodeHex.f; rw [if_pos hs]⟩
  · obtain ⟨r, h1, h2⟩ := loops s (by omega) s.size (s.size + 1) 0 [] (by omega) (by omega) (by omega) (by omega) (by simp)
    refine ⟨s.size + 1, ?_⟩
    unfold laws_FnExactEncodeHex.f spec_EncodeHex.f impl_EncodeHex.f
    rw [if_neg hs, h1, h2]
    simp

end Go.Proofs.Ytkdkibdigfglhaa.Pure
