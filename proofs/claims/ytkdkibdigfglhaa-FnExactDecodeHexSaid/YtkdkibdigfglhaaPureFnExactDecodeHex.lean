/- The law FnExactDecodeHex answers true for every string that the row admits: the two digit readers agree on every byte, and the two loops go alike. -/
import Derived.Test.YtkdkibdigfglhaaPFnExactDecodeHexx1
import Derived.Test.YtkdkibdigfglhaaBase
namespace Go.Proofs.Ytkdkibdigfglhaa.Pure
open Go.RowKit Go.Proofs.Ytkdkibdigfglhaa.PFnExactDecodeHex Go.Proofs.YtkdkibdigfglhaaW.PrintWords Go.Proofs.YtkdkibdigfglhaaW.PrintLast Go.Proofs.YtkdkibdigfglhaaW.PrintMore Go.Proofs.Ytkdkibdigfglhaa.Base
set_option linter.unusedVariables false
set_option linter.unusedSimpArgs false

def digOk (b : Int) : Bool := match spec_l1FromHex.f 18 b, impl_hexValue.f 18 b with
  | some v, some u => decide (v = u ∧ -1 ≤ v ∧ v ≤ 15)
  | _, _ => false
theorem digs : ∀ b : Fin 256, digOk (b.val : Int) = true := by decide +kernel
theorem dig (b : Int) (h0 : 0 ≤ b) (h1 : b ≤ 255) : ∃ v : Int, -1 ≤ v ∧ v ≤ 15 ∧ ∀ k, 18 ≤ k → spec_l1FromHex.f k b = some v ∧ impl_hexValue.f k b = some v := by
  have h := digs ⟨b.toNat, by omega⟩
  have e : ((⟨b.toNat, by omega⟩ : Fin 256).val : Int) = b := by simp; omega
  rw [e] at h
  unfold digOk at h
  split at h
  · rename_i v u hv hu
    obtain ⟨rfl, h2, h3⟩ := of_decide_eq_true h
    exact ⟨v, h2, h3, fun k hk => ⟨at_rounds (spec_l1FromHex.mono b) hk hv, at_rounds (impl_hexValue.mono b) hk hu⟩⟩
  · simp at h

theorem loops (s : ByteArray) (hn : s.size ≤ 1048576) (d : Nat) : ∀ (k : Nat) (i : Int) (acc : List Int), 0 ≤ i → (s.size : Int) - i = 2 * d → d + 18 < k → (acc.length : Int) ≤ i →
    ∃ r, spec_DecodeHex.l0 k s acc i = some r ∧ impl_DecodeHex.l0 k s acc i = some r := by
  induction d with
  | zero =>
    intro k i acc h0 hd hk ha
    obtain ⟨k, rfl⟩ : ∃ m, k = m + 1 := ⟨k - 1, by omega⟩
    refine ⟨(strOfNums acc, true), ?_, ?_⟩
    · simp only [spec_DecodeHex.l0]
      rw [if_neg (by omega)]
    · simp only [impl_DecodeHex.l0]
      rw [if_neg (by omega)]
  | succ d ih =>
    intro k i acc h0 hd hk ha
    obtain ⟨k, rfl⟩ : ∃ m, k = m + 1 := ⟨k - 1, by omega⟩
    have e1 : wrap64 (i + 1) = i + 1 := w64 (by omega) (by omega)
    have e2 : wrap64 (i + 2) = i + 2 := w64 (by omega) (by omega)
    obtain ⟨v, v0, v1, hv⟩ := dig (bt s i) (btr s i).1 (btr s i).2
    obtain ⟨u, u0, u1, hu⟩ := dig (bt s (i + 1)) (btr s (i + 1)).1 (btr s (i + 1)).2
    obtain ⟨hv1, hv2⟩ := hv k (by omega)
    obtain ⟨hu1, hu2⟩ := hu k (by omega)
    have hsp : spec_DecodeHex.l0 (k + 1) s acc i = if v < 0 then some ((⟨#[]⟩ : ByteArray), false) else if u < 0 then some ((⟨#[]⟩ : ByteArray), false) else spec_DecodeHex.l0 k s (acc ++ [(wrap64 ((wrap64 (16 * v)) + u)) % 256]) (i + 2) := by
      simp only [spec_DecodeHex.l0]
      rw [if_pos (by omega), if_pos h0, e1, hv1]
      simp only [Option.bind_some]
      rw [if_pos (by omega), if_pos (by omega), hu1]
      simp only [Option.bind_some]
      rw [if_pos (show acc.length < 140737488355328 by omega), e2]
    have him : impl_DecodeHex.l0 (k + 1) s acc i = if v < 0 then some ((⟨#[]⟩ : ByteArray), false) else if u < 0 then some ((⟨#[]⟩ : ByteArray), false) else impl_DecodeHex.l0 k s (acc ++ [(wrap64 ((wrap64 (16 * v)) + u)) % 256]) (i + 2) := by
      simp only [impl_DecodeHex.l0]
      rw [if_pos (by omega), if_pos h0, e1, hv2]
      simp only [Option.bind_some]
      rw [if_pos (by omega), if_pos (by omega), hu2]
      simp only [Option.bind_some]
      rw [if_pos (show acc.length < 140737488355328 by omega), e2]
    rw [hsp, him]
    by_cases hv3 : v < 0
    · exact ⟨_, if_pos hv3, if_pos hv3⟩
    · rw [if_neg hv3, if_neg hv3]
      by_cases hu3 : u < 0
      · exact ⟨_, if_pos hu3, if_pos hu3⟩
      · rw [if_neg hu3, if_neg hu3]
        exact ih k (i + 2) _ (by omega) (by omega) (by omega) (by simp; omega)

theorem FnExactDecodeHex : laws_FnExactDecodeHex.Pure := by
  intro s hn
  by_cases hs : (s.size : Int) > 1048576
  · exact ⟨0, by unfold laws_FnExactDecodeHex.f; rw [if_pos hs]⟩
  · by_cases ho : (s.size : Int) % 2 = 1
    · refine ⟨0, ?_⟩
      unfold laws_FnExactDecodeHex.f spec_DecodeHex.f impl_DecodeHex.f
      rw [if_neg hs, if_pos ho, if_neg (by omega)]
      simp
    · obtain ⟨r, h1, h2⟩ := loops s (by omega) (s.size / 2) (s.size + 20) 0 [] (by omega) (by omega) (by omega) (by simp)
      refine ⟨s.size + 20, ?_⟩
      unfold laws_FnExactDecodeHex.f spec_DecodeHex.f impl_DecodeHex.f
      rw [if_neg hs, if_neg ho, if_pos (by omega), h1, h2]
      simp

end Go.Proofs.Ytkdkibdigfglhaa.Pure
