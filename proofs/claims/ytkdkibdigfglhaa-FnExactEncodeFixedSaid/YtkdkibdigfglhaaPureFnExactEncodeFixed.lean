/- The law FnExactEncodeFixed answers true for every number and width: both write the number's bytes, the highest first, where they suffice. -/
import Derived.Test.YtkdkibdigfglhaaPFnExactEncodeFixedx1
import Derived.Test.YtkdkibdigfglhaaBase
namespace Go.Proofs.Ytkdkibdigfglhaa.Pure
open Go.RowKit Go.Proofs.Ytkdkibdigfglhaa.PFnExactEncodeFixed Go.Proofs.YtkdkibdigfglhaaW.PrintWords Go.Proofs.YtkdkibdigfglhaaW.PrintLast Go.Proofs.YtkdkibdigfglhaaW.PrintMore Go.Proofs.Ytkdkibdigfglhaa.Base
set_option linter.unusedVariables false
set_option linter.unusedSimpArgs false

/-- The lowest w bytes of x, the highest first. -/
def be : Nat → Int → List Int
  | 0, _ => []
  | w + 1, x => be w (x / 256) ++ [x % 256]
/-- What is left of x behind w bytes. -/
def left : Nat → Int → Int
  | 0, x => x
  | w + 1, x => left w (x / 256)

theorem drop_set (xs : List Int) (i : Nat) (v : Int) (h : i < xs.length) : (xs.set i v).drop i = v :: xs.drop (i + 1) := by
  rw [List.drop_eq_getElem_cons (by simpa using h), List.drop_set_of_lt (by omega)]
  simp

theorem specl (w : Int) (hw : w ≤ 7) (d : Nat) : ∀ (k : Nat) (x i : Int) (acc : List Int), 0 ≤ i → w - i = d → d < k → 0 ≤ x → x ≤ 9223372036854775807 → (acc.length : Int) ≤ i →
    spec_EncodeFixed.l0 k x w (strOfNums acc) i = some (if left d x > 0 then (⟨#[]⟩ : ByteArray) else strOfNums (be d x ++ acc)) := by
  induction d with
  | zero =>
    intro k x i acc h0 hd hk hx _ ha
    obtain ⟨k, rfl⟩ : ∃ m, k = m + 1 := ⟨k - 1, by omega⟩
    show spec_EncodeFixed.l0 (k + 1) x w (strOfNums acc) i = some (if x > 0 then (⟨#[]⟩ : ByteArray) else strOfNums acc)
    simp only [spec_EncodeFixed.l0]
    rw [if_neg (by omega)]
    by_cases h : x > 0
    · rw [if_pos h, if_pos h]
    · rw [if_neg h, if_neg h]
  | succ d ih =>
    intro k x i acc h0 hd hk hx hx1 ha
    obtain ⟨k, rfl⟩ : ∃ m, k = m + 1 := ⟨k - 1, by omega⟩
    have e1 : Int.tmod x 256 % 256 = x % 256 := by rw [tm hx]; omega
    have e2 : wrap64 (Int.tdiv x 256) = x / 256 := by rw [td hx]; exact w64 (by omega) (by omega)
    simp only [spec_EncodeFixed.l0]
    rw [if_pos (by omega), e1, e2]
    simp only [Option.bind_some]
    rw [if_pos (by rw [sn_size, sn_size]; simp; omega), sn_append, show wrap64 (i + 1) = i + 1 from w64 (by omega) (by omega)]
    have e3 : be (d + 1) x ++ acc = be d (x / 256) ++ ([x % 256] ++ acc) := by simp [be]
    rw [e3]
    exact ih k (x / 256) (i + 1) _ (by omega) (by omega) (by omega) (by omega) (by omega) (by simp; omega)

theorem impll (d : Nat) : ∀ (k : Nat) (x : Int) (xs : List Int), d < k → d ≤ xs.length → xs.length ≤ 7 →
    impl_EncodeFixed.l0 k x xs ((d : Int) - 1) = some (strOfNums (be d x ++ xs.drop d)) := by
  induction d with
  | zero =>
    intro k x xs hk _ _
    obtain ⟨k, rfl⟩ : ∃ m, k = m + 1 := ⟨k - 1, by omega⟩
    simp only [impl_EncodeFixed.l0, be, List.nil_append, List.drop_zero]
    rw [if_neg (by omega)]
  | succ d ih =>
    intro k x xs hk hd hl
    obtain ⟨k, rfl⟩ : ∃ m, k = m + 1 := ⟨k - 1, by omega⟩
    have e1 : ((d + 1 : Nat) : Int) - 1 = d := by omega
    rw [e1]
    simp only [impl_EncodeFixed.l0]
    rw [if_pos (by omega), if_pos (by omega), if_pos (by omega), show wrap64 ((d : Int) - 1) = (d : Int) - 1 from w64 (by omega) (by omega)]
    rw [ih k (x / 256) _ (by omega) (by simp; omega) (by simpa using hl)]
    rw [show ((d : Int)).toNat = d from by omega, drop_set _ _ _ (by omega)]
    simp [be]

theorem left_nonneg (d : Nat) : ∀ x : Int, 0 ≤ x → 0 ≤ left d x := by
  induction d with
  | zero => exact fun x h => h
  | succ d ih => exact fun x h => ih (x / 256) (by omega)

theorem shr_left (m : Nat) (hm : m ≤ 7) (n : Int) : shr .i64 n (8 * (m : Int)) = left m n := by
  have hc : m = 0 ∨ m = 1 ∨ m = 2 ∨ m = 3 ∨ m = 4 ∨ m = 5 ∨ m = 6 ∨ m = 7 := by omega
  have b64 : IntKind.bits .i64 = 64 := rfl
  unfold shr
  rcases hc with rfl | rfl | rfl | rfl | rfl | rfl | rfl | rfl <;> simp [left, b64] <;> omega

theorem FnExactEncodeFixed : laws_FnExactEncodeFixed.Pure := by
  intro n w hn hw
  have bn := wfb hn
  by_cases hr : 1 ≤ w ∧ w ≤ 7
  · by_cases h0 : n < 0
    · refine ⟨1, ?_⟩
      unfold laws_FnExactEncodeFixed.f spec_EncodeFixed.f impl_EncodeFixed.f spec_l1In.f impl_within.f
      rw [if_pos hr.1]
      simp [hr.2, h0, spec_EncodeFixed.j0, impl_EncodeFixed.j0]
    · obtain ⟨m, rfl⟩ := Int.eq_ofNat_of_zero_le (show 0 ≤ w by omega)
      have hs := specl m hr.2 m 8 n 0 [] (by omega) (by omega) (by omega) (by omega) bn.2 (by simp)
      have hi := impll m 8 n (List.replicate m 0) (by omega) (by simp) (by simp; omega)
      have e0 : strOfNums [] = (⟨#[]⟩ : ByteArray) := rfl
      rw [e0] at hs
      have e1 : wrap64 (8 * (m : Int)) = 8 * m := w64 (by omega) (by omega)
      have e2 : wrap64 ((m : Int) - 1) = m - 1 := w64 (by omega) (by omega)
      have e3 := shr_left m (by omega) n
      have hl := left_nonneg m n (by omega)
      rw [List.append_nil] at hs
      rw [List.drop_of_length_le (by simp), List.append_nil] at hi
      have hsf : spec_EncodeFixed.f 9 n (m : Int) = some (if left m n > 0 then (⟨#[]⟩ : ByteArray) else strOfNums (be m n)) := by
        unfold spec_EncodeFixed.f spec_l1In.f
        rw [if_pos hr.1, decide_eq_true hr.2]
        simp only [Option.bind_some, if_true, decide_eq_false h0]
        rw [spec_EncodeFixed.j0, if_neg (by decide), hs]
      have hif : impl_EncodeFixed.f 9 n (m : Int) = some (if left m n > 0 then (⟨#[]⟩ : ByteArray) else strOfNums (be m n)) := by
        unfold impl_EncodeFixed.f impl_within.f
        rw [if_pos hr.1, decide_eq_true hr.2]
        simp only [Option.bind_some, if_true]
        rw [if_neg h0, e1, if_pos (by omega), e3, impl_EncodeFixed.j0]
        by_cases hz : left m n = 0
        · rw [if_neg (show ¬ (left m n != 0) = true by simpa using hz), if_pos (show 0 ≤ (m : Int) by omega), Int.toNat_natCast, if_pos (show m ≤ 281474976710656 by omega), e2, hi, if_neg (by omega)]
        · rw [if_pos (show (left m n != 0) = true by simpa using hz), if_pos (by omega)]
      refine ⟨9, ?_⟩
      unfold laws_FnExactEncodeFixed.f
      rw [hsf, hif]
      simp
  · refine ⟨1, ?_⟩
    unfold laws_FnExactEncodeFixed.f spec_EncodeFixed.f impl_EncodeFixed.f spec_l1In.f impl_within.f
    by_cases h1 : 1 ≤ w
    · have h7 : ¬ w ≤ 7 := fun h => hr ⟨h1, h⟩
      rw [if_pos h1]
      simp [h7, spec_EncodeFixed.j0, impl_EncodeFixed.j0]
    · rw [if_neg h1]
      simp [spec_EncodeFixed.j0, impl_EncodeFixed.j0]

end Go.Proofs.Ytkdkibdigfglhaa.Pure
