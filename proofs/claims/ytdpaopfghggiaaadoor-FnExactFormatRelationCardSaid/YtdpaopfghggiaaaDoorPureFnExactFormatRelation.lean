/- The law FnExactFormatRelation answers true for every relation that the row admits: both texts answer alike, and the argument is left as it was. -/
import Derived.Test.YtdpaopfghggiaaaDoorGFnExactFormatRelation
import Derived.Test.YtdpaopfghggiaaaDoorBase
import Derived.Lib.ItoaLen
namespace Go.Proofs.YtdpaopfghggiaaaDoor.Pure
open Go.RowKit Go.Proofs.YtdpaopfghggiaaaDoor.PFnExactFormatRelation Go.Proofs.YtdpaopfghggiaaaDoorW.PrintWords Go.Proofs.YtdpaopfghggiaaaDoorW.PrintLast Go.Proofs.YtdpaopfghggiaaaDoorW.PrintMore Go.Proofs.YtdpaopfghggiaaaDoor.Base
set_option linter.unusedVariables false
set_option linter.unusedSimpArgs false

theorem in1 (x a b : Int) : spec_l1In.f x a b = some (decide (a ≤ x ∧ x ≤ b)) := by
  unfold spec_l1In.f
  by_cases h : a ≤ x
  · rw [if_pos h]; simp [h]
  · rw [if_neg h]; simp [h]
theorem wi1 (x a b : Int) : impl_within.f x a b = some (decide (a ≤ x ∧ x ≤ b)) := by
  unfold impl_within.f
  by_cases h : a ≤ x
  · rw [if_pos h]; simp [h]
  · rw [if_neg h]; simp [h]

/-- What FormatInt lays for a number's magnitude: nothing for 0, else its digits. -/
def dig (u : Nat) : List UInt8 := if u = 0 then [] else Lib.decDigits u
theorem dig_step (u : Nat) (h : 0 < u) : dig u = dig (u / 10) ++ [UInt8.ofNat (48 + u % 10)] := by
  unfold dig
  rw [if_neg (by omega), Lib.decDigits]
  by_cases c : u < 10
  · rw [dif_pos c, if_pos (by omega), List.nil_append, Nat.mod_eq_of_lt c]
  · rw [dif_neg c, if_neg (by omega)]
theorem sn_cons (z : Int) (l : List UInt8) : strOfNums [z] ++ (⟨l.toArray⟩ : ByteArray) = ⟨(UInt8.ofNat z.toNat :: l).toArray⟩ := by
  apply ByteArray.ext
  apply Array.ext'
  rw [ByteArray.data_append, Array.toList_append, sn_toList]
  simp
theorem sz_mk (l : List UInt8) : (⟨l.toArray⟩ : ByteArray).size = l.length := by
  rw [show (⟨l.toArray⟩ : ByteArray).size = (⟨l.toArray⟩ : ByteArray).data.size from rfl]; simp
def fin (neg : Bool) (l : List UInt8) : ByteArray := if neg = true then ⟨(45 :: l).toArray⟩ else ⟨l.toArray⟩
theorem fil (d : Nat) : ∀ (u : Nat) (x : Int) (neg : Bool) (l : List UInt8), (x = u ∨ x = -(u : Int)) → u < 10 ^ d → u ≤ 9223372036854775808 → l.length + d ≤ 1000 → ∀ k, d < k → spec_FormatInt.l0 k x ⟨l.toArray⟩ neg = some (fin neg (dig u ++ l)) := by
  induction d with
  | zero =>
    intro u x neg l hx hu _ hl k hk
    obtain ⟨k, rfl, hk⟩ := fuel hk
    rw [Nat.pow_zero] at hu
    rw [spec_FormatInt.l0, if_pos (by omega), show u = 0 by omega]
    unfold fin dig
    rw [if_pos rfl, List.nil_append]
    by_cases h : neg = true
    · rw [if_pos h, if_pos h, if_pos (by rw [sz_mk]; omega)]
      congr 1
    · rw [if_neg h, if_neg h]
  | succ d ih =>
    intro u x neg l hx hu hb hl k hk
    obtain ⟨k, rfl, hk⟩ := fuel hk
    by_cases h0 : u = 0
    · rw [spec_FormatInt.l0, if_pos (by omega), h0]
      unfold fin dig
      rw [if_pos rfl, List.nil_append]
      by_cases h : neg = true
      · rw [if_pos h, if_pos h, if_pos (by rw [sz_mk]; omega)]
        congr 1
      · rw [if_neg h, if_neg h]
    · have hm : Int.tmod x 10 = (u % 10 : Nat) ∨ Int.tmod x 10 = -((u % 10 : Nat) : Int) := by
        rcases hx with rfl | rfl
        · left; rw [Int.tmod_eq_emod_of_nonneg (by omega)]; omega
        · right; rw [Int.neg_tmod, Int.tmod_eq_emod_of_nonneg (by omega)]; omega
      have hd : Int.tdiv x 10 = (u / 10 : Nat) ∨ Int.tdiv x 10 = -((u / 10 : Nat) : Int) := by
        rcases hx with rfl | rfl
        · left; rw [Int.tdiv_eq_ediv_of_nonneg (by omega)]; omega
        · right; rw [Int.neg_tdiv, Int.tdiv_eq_ediv_of_nonneg (by omega)]; omega
      have h1 : (strOfNums [((48 + u % 10 : Nat) : Int)]).size = 1 := by rw [sn_size]; rfl
      have hs := ih (u / 10) (Int.tdiv x 10) neg (UInt8.ofNat (48 + u % 10) :: l) hd (by rw [Nat.pow_succ] at hu; omega) (by omega) (by simp only [List.length_cons]; omega) k (by omega)
      have hz : wrap64 (Int.tdiv x 10) = Int.tdiv x 10 := w64 (by omega) (by omega)
      have hn : ∀ z : Int, z = ((u % 10 : Nat) : Int) → wrap64 (48 + z) % 256 = ((48 + u % 10 : Nat) : Int) := by
        intro z e
        rw [w64 (by omega) (by omega)]
        omega
      have hfin : spec_FormatInt.l0 k (wrap64 (Int.tdiv x 10)) (strOfNums [((48 + u % 10 : Nat) : Int)] ++ ⟨l.toArray⟩) neg = some (fin neg (dig u ++ l)) := by
        rw [hz, sn_cons, Int.toNat_natCast, hs, dig_step u (by omega), List.append_assoc]
        rfl
      rw [spec_FormatInt.l0, if_neg (by omega)]
      by_cases hc : Int.tmod x 10 < 0
      · rw [if_pos hc, Option.bind_some, hn _ (by rw [w64 (by omega) (by omega)]; omega), if_pos (by rw [h1, sz_mk]; omega)]
        exact hfin
      · rw [if_neg hc, Option.bind_some, hn _ (by omega), if_pos (by rw [h1, sz_mk]; omega)]
        exact hfin
theorem fiS (n : Int) (h0 : -9223372036854775808 ≤ n) (h1 : n ≤ 9223372036854775807) (k : Nat) (hk : 30 < k) : spec_FormatInt.f k n = some ⟨(Lib.itoa n).toArray⟩ := by
  unfold spec_FormatInt.f
  by_cases h : n = 0
  · rw [if_pos h, h]
    unfold Lib.itoa
    rw [if_neg (by omega), show (0 : Int).toNat = 0 from rfl, Lib.decDigits, dif_pos (by omega)]
    rfl
  · rw [if_neg h]
    have hp : (10 : Nat) ^ 20 = 100000000000000000000 := by decide
    have := fil 20 n.natAbs n (decide (n < 0)) [] (by omega) (by omega) (by omega) (by simp) k (by omega)
    rw [show (⟨#[]⟩ : ByteArray) = ⟨([] : List UInt8).toArray⟩ from rfl, this, List.append_nil]
    unfold fin dig Lib.itoa
    rw [if_neg (show ¬ n.natAbs = 0 by omega)]
    by_cases hn : n < 0
    · rw [if_pos (decide_eq_true hn), if_pos hn]
    · rw [if_neg (by simpa using hn), if_neg hn, show n.natAbs = n.toNat by omega]
theorem fiI (n : Int) (h0 : -9223372036854775808 ≤ n) (h1 : n ≤ 9223372036854775807) : impl_FormatInt.f n = some ⟨(Lib.itoa n).toArray⟩ := by
  unfold impl_FormatInt.f strconv_Itoa_52.f
  rw [if_pos h0, if_pos h1, Option.bind_some]
theorem fiL (n : Int) (h0 : -9223372036854775808 ≤ n) (h1 : n ≤ 9223372036854775807) : (⟨(Lib.itoa n).toArray⟩ : ByteArray).size ≤ 21 := by
  rw [sz_mk]; exact Lib.itoa_length_le n h0 h1

theorem szR (n a b v : _) (hn : n.size ≤ maxLen) (hv : 0 ≤ v) (hv1 : v ≤ 1048576) : ∃ r, laws_szRelation.f n a b v = some r ∧ r ≤ v ∧ -1 ≤ r ∧ (0 ≤ r → (n.size : Int) ≤ v) := by
  unfold maxLen at hn
  unfold laws_szRelation.f
  rw [w64 (by omega) (by omega)]
  by_cases h : v - (n.size : Int) < 0
  · exact ⟨-1, if_pos h, by omega, by omega, fun h => absurd h (by decide)⟩
  · exact ⟨_, if_neg h, by omega, by omega, fun _ => by omega⟩
theorem vR (n : ByteArray) (a b : Int) : ∃ v, spec_IsValidRelation.f n a b = some v ∧ impl_IsValidRelation.f n a b = some v := by
  unfold spec_IsValidRelation.f impl_IsValidRelation.f
  simp only [in1, wi1, Option.bind_some]
  by_cases h : (n.size : Int) = 1
  · rw [if_pos h, if_pos (by omega)]
    repeat' split
    all_goals exact ⟨_, rfl, rfl⟩
  · rw [if_neg h]
    exact ⟨_, rfl, rfl⟩
theorem frB (n : ByteArray) (hn : n.size ≤ 1048576) (a b : Int) (ha : (Lit.int .i64 a).wf = true) (hb : (Lit.int .i64 b).wf = true) (k : Nat) (hk : 30 < k) : ∃ S, spec_FormatRelation.f k n a b = some S ∧ impl_FormatRelation.f n a b = some S := by
  obtain ⟨a0, a1⟩ := wfb ha
  obtain ⟨b0, b1⟩ := wfb hb
  obtain ⟨v, v1, v2⟩ := vR n a b
  have la := fiL a a0 a1
  have lb := fiL b b0 b1
  unfold spec_FormatRelation.f impl_FormatRelation.f
  rw [v1, v2, Option.bind_some, Option.bind_some]
  by_cases h : v = true
  · rw [if_pos h, if_pos h, fiS b b0 b1 k hk, fiI b b0 b1, fiS a a0 a1 k hk, fiI a a0 a1]
    simp only [Option.bind_some]
    generalize (⟨(Lib.itoa a).toArray⟩ : ByteArray) = sa at la ⊢
    generalize (⟨(Lib.itoa b).toArray⟩ : ByteArray) = sb at lb ⊢
    have l1 : (⟨#[47]⟩ : ByteArray).size = 1 := rfl
    rw [if_pos (by omega), if_pos (by rw [ByteArray.size_append]; omega), if_pos (by rw [ByteArray.size_append, ByteArray.size_append, l1]; omega)]
    exact ⟨_, rfl, rfl⟩
  · rw [if_neg h, if_neg h]
    exact ⟨_, rfl, rfl⟩


theorem FnExactFormatRelation : FnExactFormatRelationPure := by
  intro x hx
  obtain ⟨r, h1, h2, h3, h4⟩ := szR x.f0 x.f1 x.f2 1048576 hx.1 (by omega) (by omega)
  refine ⟨31, ?_⟩
  unfold laws_FnExactFormatRelation.f
  rw [h1, Option.bind_some]
  by_cases hr : r < 0
  · rw [if_pos hr]
  · rw [if_neg hr]
    obtain ⟨S, s1, s2⟩ := frB x.f0 (by have := h4 (by omega); omega) x.f1 x.f2 hx.2.1 hx.2.2 31 (by omega)
    simp only [laws_toRelation.f, Option.bind_some]
    rw [s1, s2]
    simp

end Go.Proofs.YtdpaopfghggiaaaDoor.Pure
