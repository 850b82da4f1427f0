/- The law FnExactEncodeVarint answers true for every number: the two loops append the same bytes. -/
import Derived.Test.YtkdkibdigfglhaaPFnExactEncodeVarintx1
import Derived.Test.YtkdkibdigfglhaaBase
namespace Go.Proofs.Ytkdkibdigfglhaa.Pure
open Go.RowKit Go.Proofs.Ytkdkibdigfglhaa.PFnExactEncodeVarint Go.Proofs.YtkdkibdigfglhaaW.PrintWords Go.Proofs.YtkdkibdigfglhaaW.PrintLast Go.Proofs.YtkdkibdigfglhaaW.PrintMore Go.Proofs.Ytkdkibdigfglhaa.Base
set_option linter.unusedVariables false
set_option linter.unusedSimpArgs false

theorem loops (m : Nat) : ∀ (n : Int) (acc : List Int), 0 ≤ n → n < 128 ^ (m + 1) → n ≤ 562949953421311 → acc.length + m < 140737488355327 →
    ∃ r, ∀ k, m < k → spec_EncodeVarint.l0 k n acc = some r ∧ impl_EncodeVarint.l0 k n acc = some r := by
  induction m with
  | zero =>
    intro n acc h0 h1 _ ha
    refine ⟨strOfNums (acc ++ [n % 256]), fun k hk => ?_⟩
    obtain ⟨k, rfl⟩ : ∃ m, k = m + 1 := ⟨k - 1, by omega⟩
    have h2 : ¬ n ≥ 128 := by simpa using h1
    exact ⟨by simp only [spec_EncodeVarint.l0]; rw [if_neg h2, if_pos (by omega)], by simp only [impl_EncodeVarint.l0]; rw [if_neg h2, if_pos (by omega)]⟩
  | succ m ih =>
    intro n acc h0 h1 hx ha
    by_cases h2 : n ≥ 128
    · have h3 : n / 128 < 128 ^ (m + 1) := by
        rw [Int.pow_succ] at h1
        exact Int.ediv_lt_of_lt_mul (by decide) h1
      obtain ⟨r, hr⟩ := ih (n / 128) (acc ++ [wrap64 (128 + n % 128) % 256]) (by omega) h3 (by omega) (by simp; omega)
      refine ⟨r, fun k hk => ?_⟩
      obtain ⟨k, rfl⟩ : ∃ m, k = m + 1 := ⟨k - 1, by omega⟩
      obtain ⟨hr1, hr2⟩ := hr k (by omega)
      constructor
      · simp only [spec_EncodeVarint.l0]
        rw [if_pos h2, if_pos (by omega), td h0, tm h0, w64 (n := n / 128) (by omega) (by omega)]
        exact hr1
      · simp only [impl_EncodeVarint.l0]
        rw [if_pos h2, if_pos (by omega), td h0, tm h0, w64 (n := n / 128) (by omega) (by omega), Int.add_comm (n % 128) 128]
        exact hr2
    · refine ⟨strOfNums (acc ++ [n % 256]), fun k hk => ?_⟩
      obtain ⟨k, rfl⟩ : ∃ m, k = m + 1 := ⟨k - 1, by omega⟩
      exact ⟨by simp only [spec_EncodeVarint.l0]; rw [if_neg h2, if_pos (by omega)], by simp only [impl_EncodeVarint.l0]; rw [if_neg h2, if_pos (by omega)]⟩

theorem FnExactEncodeVarint : laws_FnExactEncodeVarint.Pure := by
  intro n hw
  by_cases h : 0 ≤ n ∧ n ≤ 562949953421311
  · obtain ⟨r, hr⟩ := loops 6 n [] h.1 (by have : (128 : Int) ^ (6 + 1) = 562949953421312 := by decide
                                           omega) h.2 (by simp)
    refine ⟨7, ?_⟩
    obtain ⟨h1, h2⟩ := hr 7 (by omega)
    unfold laws_FnExactEncodeVarint.f spec_EncodeVarint.f impl_EncodeVarint.f spec_l1In.f impl_within.f
    rw [if_pos h.1]
    simp [h.2, h1, h2]
  · refine ⟨0, ?_⟩
    unfold laws_FnExactEncodeVarint.f spec_EncodeVarint.f impl_EncodeVarint.f spec_l1In.f impl_within.f
    by_cases h0 : 0 ≤ n
    · have h1 : ¬ n ≤ 562949953421311 := fun h1 => h ⟨h0, h1⟩
      rw [if_pos h0]
      simp [h1]
    · rw [if_neg h0]
      simp

end Go.Proofs.Ytkdkibdigfglhaa.Pure
