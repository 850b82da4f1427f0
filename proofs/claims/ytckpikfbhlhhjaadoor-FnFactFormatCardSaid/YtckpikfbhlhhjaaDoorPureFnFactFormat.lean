/- The law FnFactFormat answers true for every code: a drawn fact's text is read back, a text that is read is the text of what was read, facts are compared alike both ways, and facts of one key have one relation and one key. -/
import Derived.Test.YtckpikfbhlhhjaaDoorGFnFactFormat
import Derived.Test.YtckpikfbhlhhjaaDoorBase
import Derived.Lib.ItoaLen
namespace Go.Proofs.YtckpikfbhlhhjaaDoor.Pure
open Go.RowKit Go.Proofs.YtckpikfbhlhhjaaDoor.PFnFactFormat Go.Proofs.YtckpikfbhlhhjaaDoorW.PrintWords Go.Proofs.YtckpikfbhlhhjaaDoorW.PrintLast Go.Proofs.YtckpikfbhlhhjaaDoorW.PrintMore Go.Proofs.YtckpikfbhlhhjaaDoor.Base
set_option linter.unusedVariables false
set_option linter.unusedSimpArgs false
theorem cmpSl (a b : List Int) (ha : a.length ≤ 1048576) (hb : b.length ≤ 1048576) (d : Nat) : ∀ (i : Nat), i + d = a.length → ∀ k, 2 * d + 1 < k → spec_l3Ints.l0 k a b i = some (cmpI (a.drop i) (b.drop i)) ∨ b.length < i := by
 induction d with
 | zero =>
  intro i hd k hk
  by_cases hbi : b.length < i
  ·exact .inr hbi
  left
  obtain ⟨k, rfl⟩ : ∃ z, k = z + 2 := ⟨k - 2, by omega⟩
  rw [spec_l3Ints.l0, if_neg (by omega), spec_l3Ints.j1, if_neg (by decide), cmpI_end (.inl (List.drop_of_length_le (by omega))), List.length_drop, List.length_drop]
  by_cases h1 : (a.length : Int) < (b.length : Int)
  ·rw [if_pos h1, if_pos (show a.length - i < b.length - i by omega)]
  ·rw [if_neg h1, if_neg (show ¬ (a.length : Int) > (b.length : Int) by omega), if_neg (show ¬ a.length - i < b.length - i by omega), if_neg (show ¬ a.length - i > b.length - i by omega)]
 | succ d ih =>
  intro i hd k hk
  by_cases hbi : b.length < i
  ·exact .inr hbi
  left
  obtain ⟨k, rfl⟩ : ∃ z, k = z + 2 := ⟨k - 2, by omega⟩
  rw [spec_l3Ints.l0, if_pos (by omega)]
  by_cases hlt : i < b.length
  ·have e1 : wrap64 ((i : Int) + 1) = ((i + 1 : Nat) : Int) := by rw [w64 (by omega) (by omega)]; omega
   have e2 : rd a (i : Int) = a[i] := by unfold rd; rw [Int.toNat_natCast, getD_lt a _ i (by omega)]
   have e3 : rd b (i : Int) = b[i] := by unfold rd; rw [Int.toNat_natCast, getD_lt b _ i (by omega)]
   rw [decide_eq_true (by omega), spec_l3Ints.j1, if_pos rfl, if_pos (by omega), if_pos (by omega), if_pos (by omega), e1, e2, e3]
   rw [List.drop_eq_getElem_cons (i := i) (l := a) (by omega), List.drop_eq_getElem_cons (i := i) (l := b) (by omega), cmpI]
   by_cases h1 : a[i] < b[i]
   ·rw [if_pos h1, if_pos h1]
   ·rw [if_neg h1, if_neg h1]
    by_cases h2 : a[i] > b[i]
    ·rw [if_pos h2, if_pos h2]
    ·rw [if_neg h2, if_neg h2]
     rcases ih (i + 1) (by omega) k (by omega) with h | h
     ·exact h
     ·omega
  ·rw [decide_eq_false (by omega), spec_l3Ints.j1, if_neg (by decide), cmpI_end (.inr (List.drop_of_length_le (by omega))), List.length_drop, List.length_drop]
   rw [if_neg (show ¬ (a.length : Int) < (b.length : Int) by omega), if_pos (show (a.length : Int) > (b.length : Int) by omega), if_neg (show ¬ a.length - i < b.length - i by omega), if_pos (show a.length - i > b.length - i by omega)]
theorem cmpS (a b : List Int) (ha : a.length ≤ 1048576) (hb : b.length ≤ 1048576) (k : Nat) (hk : 2 * a.length + 1 < k) : spec_l3Ints.f k a b = some (cmpI a b) := by
 rcases cmpSl a b ha hb a.length 0 (by omega) k hk with h | h
 ·exact h
 ·omega
theorem cmpFS (x : Int) (a : List Int) (y : Int) (b : List Int) (ha : a.length ≤ 1048576) (hb : b.length ≤ 1048576) (k : Nat) (hk : 2 * a.length + 1 < k) : spec_CompareFacts.f k x a y b = some (cmpF x a y b) := by
 unfold spec_CompareFacts.f cmpF
 by_cases h1 : x < y
 ·rw [if_pos h1, if_pos h1]
 ·rw [if_neg h1, if_neg h1]
  by_cases h2 : x > y
  ·rw [if_pos h2, if_pos h2]
  ·rw [if_neg h2, if_neg h2, cmpS a b ha hb k hk]
   rfl
theorem cmp1 (x y : Int) : cmp_Compare_int.f x y = some (if x < y then -1 else if x > y then 1 else 0) := by
 unfold cmp_Compare_int.f cmp_isNaN_int.f
 simp only [Option.bind_some, bne_self_eq_false, Bool.false_eq_true, if_false]
 by_cases h1 : x < y
 ·rw [if_pos h1, if_pos h1]
 ·rw [if_neg h1, if_neg h1]
  by_cases h2 : x > y
  ·rw [if_pos h2, if_pos h2]
  ·rw [if_neg h2, if_neg h2]
theorem cmpIl (a b : List Int) (ha : a.length ≤ 9223372036854775807) (hb : b.length ≤ 9223372036854775807) (d : Nat) : ∀ (i : Nat), i + d = a.length → ∀ k, d < k → slices_Compare_int_int.l0 k a b a (a.length : Int) i = some (cmpI (a.drop i) (b.drop i)) ∨ b.length < i := by
 induction d with
 | zero =>
  intro i hd k hk
  by_cases hbi : b.length < i
  ·exact .inr hbi
  left
  obtain ⟨k, rfl, hk⟩ := fuel hk
  rw [slices_Compare_int_int.l0, if_neg (by omega), cmpI_end (.inl (List.drop_of_length_le (by omega))), List.length_drop, List.length_drop]
  by_cases h1 : (a.length : Int) < (b.length : Int)
  ·rw [if_pos h1, if_pos (show a.length - i < b.length - i by omega)]
  ·rw [if_neg h1, if_neg (show ¬ a.length - i < b.length - i by omega), if_neg (show ¬ a.length - i > b.length - i by omega)]
 | succ d ih =>
  intro i hd k hk
  by_cases hbi : b.length < i
  ·exact .inr hbi
  left
  obtain ⟨k, rfl, hk⟩ := fuel hk
  rw [slices_Compare_int_int.l0, if_pos (by omega), if_pos (by omega), if_pos (by omega)]
  by_cases hlt : i < b.length
  ·have e1 : wrap64 ((i : Int) + 1) = ((i + 1 : Nat) : Int) := by rw [w64 (by omega) (by omega)]; omega
   have e2 : rd a (i : Int) = a[i] := by unfold rd; rw [Int.toNat_natCast, getD_lt a _ i (by omega)]
   have e3 : rd b (i : Int) = b[i] := by unfold rd; rw [Int.toNat_natCast, getD_lt b _ i (by omega)]
   rw [if_neg (by omega), if_pos (by omega), e1, e2, e3, cmp1]
   simp only [Option.bind_some]
   rw [List.drop_eq_getElem_cons (i := i) (l := a) (by omega), List.drop_eq_getElem_cons (i := i) (l := b) (by omega), cmpI]
   by_cases h1 : a[i] < b[i]
   ·simp [h1]
   ·by_cases h2 : a[i] > b[i]
    ·simp [h1, h2]
    ·rw [if_neg h1, if_neg h2, if_pos rfl, if_neg h1, if_neg h2]
     rcases ih (i + 1) (by omega) k (by omega) with h | h
     ·exact h
     ·omega
  ·rw [if_pos (by omega), cmpI_end (.inr (List.drop_of_length_le (by omega))), List.length_drop, List.length_drop, if_neg (by omega), if_pos (by omega)]
theorem cmpIs (a b : List Int) (ha : a.length ≤ 9223372036854775807) (hb : b.length ≤ 9223372036854775807) (k : Nat) (hk : a.length < k) : slices_Compare_int_int.f k a b = some (cmpI a b) := by
 rcases cmpIl a b ha hb a.length 0 (by omega) k hk with h | h
 ·exact h
 ·omega
theorem cmpFI (x : Int) (a : List Int) (y : Int) (b : List Int) (ha : a.length ≤ 9223372036854775807) (hb : b.length ≤ 9223372036854775807) (k : Nat) (hk : a.length < k) : impl_CompareFacts.f k x a y b = some (cmpF x a y b) := by
 unfold impl_CompareFacts.f cmpF
 by_cases h0 : x = y
 ·subst h0
  rw [if_pos rfl, cmpIs a b ha hb k hk, if_neg (by omega), if_neg (by omega)]
  rfl
 ·rw [if_neg h0, impl_compare.f]
  by_cases h1 : x < y
  ·rw [if_pos h1, if_pos h1]; rfl
  ·rw [if_neg h1, if_neg h1, if_pos (by omega), if_pos (by omega)]; rfl
def fits (l : List S68) (a : Int) (vs : List Int) : Bool := decide (0 ≤ a ∧ a < (l.length : Int) ∧ (vs.length : Int) = (rd_T68 l a).f1) && !vs.any noVal
def vFact (l : List S68) (a : Int) (vs : List Int) : Bool := vRels l && fits l a vs
theorem in1 (x a b : Int) : spec_l1In.f x a b = some (decide (a ≤ x ∧ x ≤ b)) := by
 unfold spec_l1In.f
 by_cases h : a ≤ x
 ·rw [if_pos h]; simp [h]
 ·rw [if_neg h]; simp [h]
theorem vFSl (a : Int) (vs : List Int) (hs : vs.length ≤ 1048576) (d : Nat) : ∀ (i : Nat), i + d = vs.length → ∀ k, d < k → spec_IsValidFact.l0 k i a vs = some (!(vs.drop i).any noVal) := by
 induction d with
 | zero =>
  intro i hd k hk
  obtain ⟨k, rfl, hk⟩ := fuel hk
  rw [spec_IsValidFact.l0, if_neg (by omega), List.drop_of_length_le (by omega)]
  rfl
 | succ d ih =>
  intro i hd k hk
  obtain ⟨k, rfl, hk⟩ := fuel hk
  rw [spec_IsValidFact.l0, if_pos (by omega), if_pos (by omega), in1, Option.bind_some, List.drop_eq_getElem_cons (i := i) (l := vs) (by omega), List.any_cons]
  rw [show wrap64 ((i : Int) + 1) = ((i + 1 : Nat) : Int) by rw [w64 (by omega) (by omega)]; omega, show rd vs (i : Int) = vs[i] by unfold rd; rw [Int.toNat_natCast, getD_lt vs _ i (by omega)]]
  by_cases h : 0 ≤ vs[i] ∧ vs[i] ≤ 9
  ·rw [if_pos (by simpa using h), ih (i + 1) (by omega) k (by omega)]
   have : noVal vs[i] = false := by simp [noVal, h]
   rw [this, Bool.false_or]
  ·rw [if_neg (by simpa using h)]
   have : noVal vs[i] = true := by
    unfold noVal
    by_cases h1 : 0 ≤ vs[i]
    ·have h2 : ¬ vs[i] ≤ 9 := fun h2 => h ⟨h1, h2⟩
     simp [h2]
    ·simp [h1]
   rw [this, Bool.true_or]
   rfl
theorem vFS (l : List S68) (hl : l.length ≤ 1048576) (a : Int) (vs : List Int) (hs : vs.length ≤ 1048576) (k : Nat) (hk : vs.length + 1 < k) : spec_IsValidFact.f k l a vs = some (vFact l a vs) := by
 obtain ⟨k, rfl⟩ : ∃ z, k = z + 1 := ⟨k - 1, by omega⟩
 unfold spec_IsValidFact.f spec_AreValidRelations.f vFact fits
 rw [Option.bind_some, in1, Option.bind_some, w64 (by omega) (by omega)]
 by_cases h0 : vRels l = true
 ·rw [if_pos h0]
  by_cases h1 : 0 ≤ a ∧ a < (l.length : Int)
  ·rw [if_pos (by simpa using (by omega : 0 ≤ a ∧ a ≤ (l.length : Int) - 1)), if_pos h1.1, if_pos h1.2, spec_IsValidFact.j0]
   by_cases h2 : (vs.length : Int) = (rd_T68 l a).f1
   ·rw [if_neg (by simpa using h2), show (0 : Int) = ((0 : Nat) : Int) from rfl, vFSl a vs hs vs.length 0 (by omega) k (by omega), h0, decide_eq_true (by exact ⟨h1.1, h1.2, h2⟩)]
    simp
   ·rw [if_pos (by simpa using h2), decide_eq_false (by intro h; exact h2 h.2.2)]
    simp
  ·rw [if_neg (by simpa using (by omega : 0 ≤ a → ¬ a ≤ (l.length : Int) - 1)), spec_IsValidFact.j0, if_pos rfl, decide_eq_false (by intro h; exact h1 ⟨h.1, h.2.1⟩)]
   simp
 ·rw [if_neg h0, spec_IsValidFact.j0, if_pos rfl]
  simp [h0]
theorem fitI (l : List S68) (hl : l.length ≤ 9223372036854775807) (a : Int) (vs : List Int) : impl_isFact.f l a vs = some (fits l a vs) := by
 unfold impl_isFact.f impl_areValues.f fits
 rw [inI, Option.bind_some, Option.bind_some, w64 (by omega) (by omega)]
 by_cases h1 : 0 ≤ a ∧ a < (l.length : Int)
 ·rw [if_pos (by unfold inB; simpa using (by omega : 0 ≤ a ∧ a ≤ (l.length : Int) - 1)), if_pos h1.1, if_pos h1.2]
  by_cases h2 : (vs.length : Int) = (rd_T68 l a).f1
  ·rw [if_pos h2, decide_eq_true (by exact ⟨h1.1, h1.2, h2⟩)]
   simp
  ·rw [if_neg h2, decide_eq_false (by intro h; exact h2 h.2.2)]
   simp
 ·rw [if_neg (by unfold inB; simpa using (by omega : 0 ≤ a → ¬ a ≤ (l.length : Int) - 1)), decide_eq_false (by intro h; exact h1 ⟨h.1, h.2.1⟩)]
  simp
theorem vFI (l : List S68) (hl : l.length ≤ 1048576) (a : Int) (vs : List Int) : impl_IsValidFact.f l a vs = some (vFact l a vs) := by
 unfold impl_IsValidFact.f impl_AreValidRelations.f vFact
 rw [Option.bind_some, fitI l (by omega), Option.bind_some]
 by_cases h0 : vRels l = true
 ·rw [if_pos h0, h0]; rfl
 ·rw [if_neg h0]; simp [h0]
def dig (u : Nat) : List UInt8 := if u = 0 then [] else Lib.decDigits u
theorem dig_step (u : Nat) (h : 0 < u) : dig u = dig (u / 10) ++ [UInt8.ofNat (48 + u % 10)] := by
 unfold dig
 rw [if_neg (by omega), Lib.decDigits]
 by_cases c : u < 10
 ·rw [dif_pos c, if_pos (by omega), List.nil_append, Nat.mod_eq_of_lt c]
 ·rw [dif_neg c, if_neg (by omega)]
theorem sn_cons (z : Int) (l : List UInt8) : strOfNums [z] ++ (⟨l.toArray⟩ : ByteArray) = ⟨(UInt8.ofNat z.toNat :: l).toArray⟩ := by
 apply ByteArray.ext
 apply Array.ext'
 rw [ByteArray.data_append, Array.toList_append, sn_toList]
 simp
theorem sz_mk (l : List UInt8) : (⟨l.toArray⟩ : ByteArray).size = l.length := by
 rw [show (⟨l.toArray⟩ : ByteArray).size = (⟨l.toArray⟩ : ByteArray).data.size from rfl]; simp
def fin (neg : Bool) (l : List UInt8) : ByteArray := if neg = true then ⟨(45 :: l).toArray⟩ else ⟨l.toArray⟩
theorem fil (d : Nat) : ∀ (u : Nat) (x : Int) (neg : Bool) (l : List UInt8), (x = u ∨ x = -(u : Int)) → u < 10 ^ d → u ≤ 9223372036854775808 → l.length + d ≤ 1000 → ∀ k, d < k → spec_FormatInt.l0 k x ⟨l.toArray⟩ neg = some (fin neg (dig u ++ l)) := by
 induction d with
 | zero =>
  intro u x neg l hx hu _ hl k hk
  obtain ⟨k, rfl, hk⟩ := fuel hk
  rw [Nat.pow_zero] at hu
  rw [spec_FormatInt.l0, if_pos (by omega), show u = 0 by omega]
  unfold fin dig
  rw [if_pos rfl, List.nil_append]
  by_cases h : neg = true
  ·rw [if_pos h, if_pos h, if_pos (by rw [sz_mk]; omega)]
   congr 1
  ·rw [if_neg h, if_neg h]
 | succ d ih =>
  intro u x neg l hx hu hb hl k hk
  obtain ⟨k, rfl, hk⟩ := fuel hk
  by_cases h0 : u = 0
  ·rw [spec_FormatInt.l0, if_pos (by omega), h0]
   unfold fin dig
   rw [if_pos rfl, List.nil_append]
   by_cases h : neg = true
   ·rw [if_pos h, if_pos h, if_pos (by rw [sz_mk]; omega)]
    congr 1
   ·rw [if_neg h, if_neg h]
  ·have hm : Int.tmod x 10 = (u % 10 : Nat) ∨ Int.tmod x 10 = -((u % 10 : Nat) : Int) := by
    rcases hx with rfl | rfl
    ·left; rw [Int.tmod_eq_emod_of_nonneg (by omega)]; omega
    ·right; rw [Int.neg_tmod, Int.tmod_eq_emod_of_nonneg (by omega)]; omega
   have hd : Int.tdiv x 10 = (u / 10 : Nat) ∨ Int.tdiv x 10 = -((u / 10 : Nat) : Int) := by
    rcases hx with rfl | rfl
    ·left; rw [Int.tdiv_eq_ediv_of_nonneg (by omega)]; omega
    ·right; rw [Int.neg_tdiv, Int.tdiv_eq_ediv_of_nonneg (by omega)]; omega
   have h1 : (strOfNums [((48 + u % 10 : Nat) : Int)]).size = 1 := by rw [sn_size]; rfl
   have hs := ih (u / 10) (Int.tdiv x 10) neg (UInt8.ofNat (48 + u % 10) :: l) hd (by rw [Nat.pow_succ] at hu; omega) (by omega) (by simp only [List.length_cons]; omega) k (by omega)
   have hz : wrap64 (Int.tdiv x 10) = Int.tdiv x 10 := w64 (by omega) (by omega)
   have hn : ∀ z : Int, z = ((u % 10 : Nat) : Int) → wrap64 (48 + z) % 256 = ((48 + u % 10 : Nat) : Int) := by
    intro z e
    rw [w64 (by omega) (by omega)]
    omega
   have hfin : spec_FormatInt.l0 k (wrap64 (Int.tdiv x 10)) (strOfNums [((48 + u % 10 : Nat) : Int)] ++ ⟨l.toArray⟩) neg = some (fin neg (dig u ++ l)) := by
    rw [hz, sn_cons, Int.toNat_natCast, hs, dig_step u (by omega), List.append_assoc]
    rfl
   rw [spec_FormatInt.l0, if_neg (by omega)]
   by_cases hc : Int.tmod x 10 < 0
   ·rw [if_pos hc, Option.bind_some, hn _ (by rw [w64 (by omega) (by omega)]; omega), if_pos (by rw [h1, sz_mk]; omega)]
    exact hfin
   ·rw [if_neg hc, Option.bind_some, hn _ (by omega), if_pos (by rw [h1, sz_mk]; omega)]
    exact hfin
theorem fiS (n : Int) (h0 : -9223372036854775808 ≤ n) (h1 : n ≤ 9223372036854775807) (k : Nat) (hk : 30 < k) : spec_FormatInt.f k n = some ⟨(Lib.itoa n).toArray⟩ := by
 unfold spec_FormatInt.f
 by_cases h : n = 0
 ·rw [if_pos h, h]
  unfold Lib.itoa
  rw [if_neg (by omega), show (0 : Int).toNat = 0 from rfl, Lib.decDigits, dif_pos (by omega)]
  rfl
 ·rw [if_neg h]
  have hp : (10 : Nat) ^ 20 = 100000000000000000000 := by decide
  have := fil 20 n.natAbs n (decide (n < 0)) [] (by omega) (by omega) (by omega) (by simp) k (by omega)
  rw [show (⟨#[]⟩ : ByteArray) = ⟨([] : List UInt8).toArray⟩ from rfl, this, List.append_nil]
  unfold fin dig Lib.itoa
  rw [if_neg (show ¬ n.natAbs = 0 by omega)]
  by_cases hn : n < 0
  ·rw [if_pos (decide_eq_true hn), if_pos hn]
  ·rw [if_neg (by simpa using hn), if_neg hn, show n.natAbs = n.toNat by omega]
theorem vRel_sz (x : S68) (h : vRel x = true) : x.f0.size ≤ 1048576 := by
 unfold vRel at h
 rw [Bool.and_eq_true, Bool.and_eq_true, decide_eq_true_iff] at h
 have := h.1.1.1
 omega
theorem inB_iff (x a b : Int) : inB x a b = true ↔ a ≤ x ∧ x ≤ b := by unfold inB; exact decide_eq_true_iff
theorem vRelsFrom_at (l : List S68) : ∀ (d i : Nat), vRelsFrom l d i = true → ∀ j, i ≤ j → j < i + d → vRel (l.getD j z68) = true
 | 0, i, _, j, h1, h2 => by omega
 | d + 1, i, h, j, h1, h2 => by
  rw [vRelsFrom, Bool.and_eq_true, Bool.and_eq_true] at h
  by_cases hj : j = i
  ·subst hj
   exact h.1.1
  ·exact vRelsFrom_at l d (i + 1) h.2 j (by omega) (by omega)
theorem vRels_at (l : List S68) (h : vRels l = true) (a : Int) (h0 : 0 ≤ a) (h1 : a < (l.length : Int)) : vRel (rd_T68 l a) = true := by
 unfold rd_T68
 exact vRelsFrom_at l l.length 0 h a.toNat (by omega) (by omega)
theorem fits_iff (l : List S68) (a : Int) (vs : List Int) : fits l a vs = true ↔ (0 ≤ a ∧ a < (l.length : Int) ∧ (vs.length : Int) = (rd_T68 l a).f1) ∧ vs.any noVal = false := by
 unfold fits
 rw [Bool.and_eq_true, decide_eq_true_iff, Bool.not_eq_true']
theorem key_ok (l : List S68) (hr : vRels l = true) (a : Int) (vs : List Int) (h : fits l a vs = true) :
  0 ≤ a ∧ a < (l.length : Int) ∧ 0 ≤ (rd_T68 l a).f2 ∧ (rd_T68 l a).f2 ≤ (vs.length : Int) ∧ (vs.length : Int) = (rd_T68 l a).f1 ∧ vs.length ≤ 3 := by
 obtain ⟨⟨h0, h1, h2⟩, _⟩ := (fits_iff l a vs).1 h
 have hv := vRels_at l hr a h0 h1
 unfold vRel at hv
 rw [Bool.and_eq_true, Bool.and_eq_true, inB_iff, inB_iff] at hv
 exact ⟨h0, h1, by omega, by omega, h2, by omega⟩
theorem cmpI_zero : ∀ (x y : List Int), cmpI x y = 0 ↔ x = y
 | [], [] => by simp [cmpI]
 | [], _ :: _ => by simp [cmpI]
 | _ :: _, [] => by simp [cmpI]
 | x :: xs, y :: ys => by
  rw [cmpI]
  by_cases h1 : x < y
  ·rw [if_pos h1]
   constructor
   ·intro h; omega
   ·intro h; have := (List.cons.inj h).1; omega
  ·rw [if_neg h1]
   by_cases h2 : x > y
   ·rw [if_pos h2]
    constructor
    ·intro h; omega
    ·intro h; have := (List.cons.inj h).1; omega
   ·rw [if_neg h2, cmpI_zero xs ys]
    have : x = y := by omega
    subst this
    simp
def sameK (l : List S68) (a : Int) (x : List Int) (b : Int) (y : List Int) : Bool := decide (a = b) && decide (x.take ((rd_T68 l a).f2).toNat = y.take ((rd_T68 l a).f2).toNat)
def keyOf (l : List S68) (a : Int) (vs : List Int) : List Int := if vFact l a vs = true then vs.take ((rd_T68 l a).f2).toNat else []
theorem keyS (l : List S68) (hl : l.length ≤ 1048576) (a : Int) (vs : List Int) (hs : vs.length ≤ 1048576) (k : Nat) (hk : vs.length + 1 < k) : spec_KeyOf.f k l a vs = some (keyOf l a vs) := by
 unfold spec_KeyOf.f keyOf
 rw [vFS l hl a vs hs k hk, Option.bind_some]
 by_cases h : vFact l a vs = true
 ·have h' := h
  unfold vFact at h'
  rw [Bool.and_eq_true] at h'
  obtain ⟨h0, h1, h2, h3, h4, h5⟩ := key_ok l h'.1 a vs h'.2
  rw [if_pos h, if_pos h, Option.bind_some, if_pos h0, if_pos h1, if_pos h2, if_pos h3, if_pos (by simp only [List.length_nil, List.length_take]; omega), List.nil_append]
 ·rw [if_neg h, if_neg h]
theorem sameS (l : List S68) (hl : l.length ≤ 1048576) (a : Int) (x : List Int) (b : Int) (y : List Int) (hx : x.length ≤ 1048576) (hy : y.length ≤ 1048576) (k : Nat) (hk : 3000000 < k) :
  spec_HaveSameKey.f k l a x b y = some (vFact l a x && vFact l b y && sameK l a x b y) := by
 unfold spec_HaveSameKey.f sameK
 rw [vFS l hl a x hx k (by omega), Option.bind_some]
 by_cases h1 : vFact l a x = true
 ·rw [if_pos h1, vFS l hl b y hy k (by omega), Option.bind_some, h1]
  by_cases h2 : vFact l b y = true
  ·rw [if_pos h2, h2]
   by_cases h3 : a = b
   ·subst h3
    rw [if_pos rfl, keyS l hl a x hx k (by omega), Option.bind_some, keyS l hl a y hy k (by omega), Option.bind_some]
    unfold keyOf
    rw [if_pos h1, if_pos h2, cmpS _ _ (by rw [List.length_take]; omega) (by rw [List.length_take]; omega) k (by rw [List.length_take]; omega), Option.bind_some]
    simp only [Bool.true_and, decide_true]
    congr 1
    rw [Bool.eq_iff_iff, beq_iff_eq, cmpI_zero, decide_eq_true_iff]
   ·rw [if_neg h3]
    simp [h3]
  ·rw [if_neg h2]
   simp [h2]
 ·rw [if_neg h1]
  simp [h1]
theorem sameI (l : List S68) (hr : vRels l = true) (a : Int) (x : List Int) (b : Int) (y : List Int) (hx : fits l a x = true) (hy : fits l b y = true) : impl_sameKey.f l a x b y = some (sameK l a x b y) := by
 unfold impl_sameKey.f sameK
 by_cases h : a = b
 ·subst h
  obtain ⟨h0, h1, h2, h3, _⟩ := key_ok l hr a x hx
  obtain ⟨_, _, _, h4, _⟩ := key_ok l hr a y hy
  rw [if_pos rfl, if_pos ⟨h0, h1, h2, h3, h4⟩, decide_eq_true rfl, Bool.true_and]
 ·rw [if_neg h]
  simp [h]
theorem sameKI (l : List S68) (hl : l.length ≤ 1048576) (a : Int) (x : List Int) (b : Int) (y : List Int) : impl_HaveSameKey.f l a x b y = some (vFact l a x && vFact l b y && sameK l a x b y) := by
 unfold impl_HaveSameKey.f
 rw [vFI l hl, Option.bind_some]
 by_cases h1 : vFact l a x = true
 ·rw [if_pos h1, vFI l hl, Option.bind_some, h1]
  by_cases h2 : vFact l b y = true
  ·rw [if_pos h2, h2]
   unfold vFact at h1 h2
   rw [Bool.and_eq_true] at h1 h2
   rw [sameI l h1.1 a x b y h1.2 h2.2, Option.bind_some]
   rfl
  ·rw [if_neg h2]
   simp [h2]
 ·rw [if_neg h1]
  simp [h1]
theorem keyI (l : List S68) (hl : l.length ≤ 1048576) (a : Int) (vs : List Int) (hs : vs.length ≤ 1048576) : impl_KeyOf.f l a vs = some (keyOf l a vs) := by
 unfold impl_KeyOf.f keyOf
 rw [vFI l hl a vs, Option.bind_some]
 by_cases h : vFact l a vs = true
 ·have h' := h
  unfold vFact at h'
  rw [Bool.and_eq_true] at h'
  obtain ⟨h0, h1, h2, h3, h4, h5⟩ := key_ok l h'.1 a vs h'.2
  unfold slices_Clone_int_int.f
  rw [if_pos h, if_pos h, if_pos h0, if_pos h1, if_pos h2, if_pos h3, Option.bind_some, if_pos (by simp only [List.length_nil, List.length_take]; omega), List.nil_append, Option.bind_some]
 ·rw [if_neg h, if_neg h]
theorem keyOf_len (l : List S68) (a : Int) (vs : List Int) (hs : vs.length ≤ 1048576) : (keyOf l a vs).length ≤ 1048576 := by
 unfold keyOf
 by_cases h : vFact l a vs = true
 ·rw [if_pos h, List.length_take]; omega
 ·rw [if_neg h]; simp
theorem fiI (n : Int) (h0 : -9223372036854775808 ≤ n) (h1 : n ≤ 9223372036854775807) : impl_FormatInt.f n = some ⟨(Lib.itoa n).toArray⟩ := by
 unfold impl_FormatInt.f strconv_Itoa_92.f
 rw [if_pos h0, if_pos h1, Option.bind_some]
def numB (v : Int) : ByteArray := ⟨(Lib.itoa v).toArray⟩
theorem numB_sz (v : Int) (h0 : -9223372036854775808 ≤ v) (h1 : v ≤ 9223372036854775807) : (numB v).size ≤ 21 := by
 unfold numB; rw [sz_mk]; exact Lib.itoa_length_le v h0 h1
def ffs (f2 : Nat) : Nat → List Int → ByteArray → ByteArray
 | _, [], s => s
 | i, v :: vs, s => ffs f2 (i + 1) vs ((if i = f2 then s ++ (⟨#[124]⟩ : ByteArray) else s) ++ numB v)
theorem ffSl (l : List S68) (a : Int) (ha : 0 ≤ a) (ha' : a < (l.length : Int)) (f2 : Nat) (h2 : (rd_T68 l a).f2 = f2) (vs : List Int) (hn : vs.length ≤ 3) (hb : ∀ v ∈ vs, -9223372036854775808 ≤ v ∧ v ≤ 9223372036854775807) (d : Nat) : ∀ (i : Nat) (s : ByteArray), i + d = vs.length → s.size + 30 * d ≤ 1000000000 → ∀ k, d + 40 < k → spec_FormatFact.l0 k l s i a vs = some (ffs f2 i (vs.drop i) s) := by
 induction d with
 | zero =>
  intro i s hd _ k hk
  obtain ⟨k, rfl, hk⟩ := fuel hk
  rw [spec_FormatFact.l0, if_neg (by omega), List.drop_eq_nil_of_le (by omega), ffs]
 | succ d ih =>
  intro i s hd hs k hk
  obtain ⟨k, rfl, hk⟩ := fuel hk
  have hv := hb vs[i] (List.getElem_mem _)
  have hz := numB_sz vs[i] hv.1 hv.2
  have hr : rd vs (i : Int) = vs[i] := by unfold rd; rw [Int.toNat_natCast, getD_lt _ _ i (by omega)]
  have l1 : (⟨#[124]⟩ : ByteArray).size = 1 := rfl
  have hf : spec_FormatInt.f k vs[i] = some (numB vs[i]) := fiS _ hv.1 hv.2 k (by omega)
  rw [spec_FormatFact.l0, if_pos (by omega), if_pos ha, if_pos ha', h2, hr, hf, List.drop_eq_getElem_cons (by omega), ffs, show wrap64 ((i : Int) + 1) = ((i + 1 : Nat) : Int) by rw [w64 (by omega) (by omega)]; omega]
  simp only [Option.bind_some]
  by_cases c : i = f2
  ·rw [if_pos (by omega), if_pos (by omega), if_pos (by omega), if_pos (by rw [ByteArray.size_append]; omega), if_pos c]
   exact ih (i + 1) _ (by omega) (by rw [ByteArray.size_append, ByteArray.size_append]; omega) k (by omega)
  ·rw [if_neg (by omega), if_pos (by omega), if_pos (by omega), if_neg c]
   exact ih (i + 1) _ (by omega) (by rw [ByteArray.size_append]; omega) k (by omega)
def bar (xs : List ByteArray) (f2 : Nat) : ByteArray := if (f2 : Int) < (xs.length : Int) then (⟨(Shelf.cat_ (xs.take f2)).toArray⟩ : ByteArray) ++ ((⟨#[124]⟩ : ByteArray) ++ (⟨(Shelf.cat_ (xs.drop f2)).toArray⟩ : ByteArray)) else (⟨(Shelf.cat_ (xs.take f2)).toArray⟩ : ByteArray)
theorem cat_sz : ∀ xs : List ByteArray, (∀ x ∈ xs, x.size ≤ 21) → (Shelf.cat_ xs).length ≤ 21 * xs.length
 | [], _ => by rw [Shelf.cat_]; simp
 | x :: xs, h => by
  have := cat_sz xs fun y hy => h y (List.mem_cons_of_mem _ hy)
  have hx := h x (List.mem_cons_self ..)
  have e : x.toList.length = x.size := by rw [tl_eq, Array.length_toList]; rfl
  rw [Shelf.cat_, List.length_append, List.length_cons, e]
  omega
theorem bar_sz (xs : List ByteArray) (f2 : Nat) (hn : xs.length ≤ 3) (h : ∀ x ∈ xs, x.size ≤ 21) : (bar xs f2).size ≤ 1000 := by
 have h1 := cat_sz xs h
 have h2 := Shelf.cat_len xs f2
 have l1 : (⟨#[124]⟩ : ByteArray).size = 1 := rfl
 unfold bar
 split
 ·rw [ByteArray.size_append, ByteArray.size_append, sz_mk, l1, sz_mk]; omega
 ·rw [sz_mk]; omega
theorem ffIl (l : List S68) (a : Int) (ha : 0 ≤ a) (ha' : a < (l.length : Int)) (f2 : Nat) (h2 : (rd_T68 l a).f2 = f2) (vs : List Int) (hn : vs.length ≤ 3) (hf : f2 ≤ vs.length) (hsz : (rd_T68 l a).f0.size ≤ 1048576) (hb : ∀ v ∈ vs, -9223372036854775808 ≤ v ∧ v ≤ 9223372036854775807) (d : Nat) : ∀ (i : Nat), i + d = vs.length → ∀ k, d < k → impl_FormatFact.l0 k l ((vs.take i).map numB) vs vs.length i a vs = some ((rd_T68 l a).f0 ++ bar (vs.map numB) f2) := by
 have hm : ∀ x ∈ vs.map numB, x.size ≤ 21 := by
  intro x hx
  obtain ⟨v, hv, rfl⟩ := List.mem_map.1 hx
  exact numB_sz v (hb v hv).1 (hb v hv).2
 have hml : (vs.map numB).length = vs.length := List.length_map ..
 induction d with
 | zero =>
  intro i hd k hk
  obtain ⟨k, rfl, hk⟩ := fuel hk
  have hc := cat_sz _ hm
  have hbz := bar_sz (vs.map numB) f2 (by omega) hm
  have hbr : impl_barred.f (vs.map numB) f2 = some (bar (vs.map numB) f2) := by
   unfold impl_barred.f bar
   rw [if_pos (by omega), if_pos (by omega), Int.toNat_natCast]
  rw [impl_FormatFact.l0, if_neg (by omega), if_pos ha, if_pos ha', h2, List.take_of_length_le (by omega), hbr, Option.bind_some, if_pos (by omega)]
 | succ d ih =>
  intro i hd k hk
  obtain ⟨k, rfl, hk⟩ := fuel hk
  have hv := hb vs[i] (List.getElem_mem _)
  have hr : rd vs (i : Int) = vs[i] := by unfold rd; rw [Int.toNat_natCast, getD_lt _ _ i (by omega)]
  have hfi : impl_FormatInt.f vs[i] = some (numB vs[i]) := fiI _ hv.1 hv.2
  rw [impl_FormatFact.l0, if_pos (by omega), if_pos (by omega), if_pos (by omega), hr, hfi, Option.bind_some, if_pos (by rw [List.length_map, List.length_take]; omega), show wrap64 ((i : Int) + 1) = ((i + 1 : Nat) : Int) by rw [w64 (by omega) (by omega)]; omega, show (vs.take i).map numB ++ [numB vs[i]] = (vs.take (i + 1)).map numB by rw [List.take_succ_eq_append_getElem (by omega), List.map_append]; rfl]
  exact ih (i + 1) (by omega) k (by omega)
theorem ba_app (s : ByteArray) (l m : List UInt8) : s ++ (⟨(l ++ m).toArray⟩ : ByteArray) = (s ++ (⟨l.toArray⟩ : ByteArray)) ++ (⟨m.toArray⟩ : ByteArray) := by
 apply ByteArray.ext
 apply Array.ext'
 simp [ByteArray.data_append]
theorem ba_num (s x : ByteArray) (l : List UInt8) : s ++ (⟨(x.toList ++ l).toArray⟩ : ByteArray) = (s ++ x) ++ (⟨l.toArray⟩ : ByteArray) := by
 rw [ba_app, tl_eq]
theorem ffs_past (f2 : Nat) : ∀ (vs : List Int) (i : Nat) (s : ByteArray), f2 < i → ffs f2 i vs s = s ++ (⟨(Shelf.cat_ (vs.map numB)).toArray⟩ : ByteArray)
 | [], i, s, _ => by
  rw [ffs, List.map_nil, Shelf.cat_]
  apply ByteArray.ext; apply Array.ext'; simp [ByteArray.data_append]
 | v :: vs, i, s, h => by rw [ffs, if_neg (by omega), ffs_past f2 vs (i + 1) _ (by omega), List.map_cons, Shelf.cat_, ba_num]
theorem ffs_bar : ∀ (vs : List Int) (i f2 : Nat) (s : ByteArray), i ≤ f2 → ffs f2 i vs s = s ++ bar (vs.map numB) (f2 - i)
 | [], i, f2, s, h => by
  rw [ffs, List.map_nil]
  unfold bar
  rw [if_neg (by simp), List.take_nil, Shelf.cat_]
  apply ByteArray.ext; apply Array.ext'; simp [ByteArray.data_append]
 | v :: vs, i, f2, s, h => by
  rw [ffs]
  by_cases c : i = f2
  ·rw [if_pos c, ffs_past f2 vs (i + 1) _ (by omega), show f2 - i = 0 by omega]
   unfold bar
   rw [if_pos (by simp), List.take_zero, List.drop_zero, List.map_cons, Shelf.cat_, Shelf.cat_, tl_eq]
   apply ByteArray.ext; apply Array.ext'; simp [ByteArray.data_append]
  ·rw [if_neg c, ffs_bar vs (i + 1) f2 _ (by omega), show f2 - i = (f2 - (i + 1)) + 1 by omega]
   unfold bar
   rw [List.map_cons, List.take_succ_cons, List.drop_succ_cons, List.length_cons, Shelf.cat_, tl_eq]
   by_cases q : ((f2 - (i + 1) : Nat) : Int) < ((vs.map numB).length : Int)
   ·rw [if_pos q, if_pos (by push_cast; omega)]
    apply ByteArray.ext; apply Array.ext'; simp [ByteArray.data_append]
   ·rw [if_neg q, if_neg (by push_cast; omega)]
    apply ByteArray.ext; apply Array.ext'; simp [ByteArray.data_append]
def fTx (l : List S68) (a : Int) (vs : List Int) : ByteArray := if vFact l a vs = true then (rd_T68 l a).f0 ++ bar (vs.map numB) (rd_T68 l a).f2.toNat else (⟨#[]⟩ : ByteArray)
theorem ffB2 (l : List S68) (hl : l.length ≤ 1048576) (a : Int) (vs : List Int) (hs : vs.length ≤ 1048576) (hb : ∀ v ∈ vs, -9223372036854775808 ≤ v ∧ v ≤ 9223372036854775807) (k : Nat) (hk : 2000000 < k) : spec_FormatFact.f k l a vs = some (fTx l a vs) ∧ impl_FormatFact.f k l a vs = some (fTx l a vs) := by
 unfold spec_FormatFact.f impl_FormatFact.f fTx
 rw [vFS l hl a vs hs k (by omega), vFI l hl a vs, Option.bind_some, Option.bind_some]
 by_cases h : vFact l a vs = true
 ·have hv := h
  unfold vFact at hv
  rw [Bool.and_eq_true] at hv
  obtain ⟨h0, h1, h2, h3, h4, h5⟩ := key_ok l hv.1 a vs hv.2
  have hn := vRels_at l hv.1 a h0 h1
  have hsz : (rd_T68 l a).f0.size ≤ 1048576 := vRel_sz _ hn
  rw [if_pos h, if_pos h, if_pos h0, if_pos h1, if_pos h]
  have e1 := ffSl l a h0 h1 (rd_T68 l a).f2.toNat (by omega) vs h5 hb vs.length 0 (rd_T68 l a).f0 (by omega) (by omega) k (by omega)
  have e2 := ffIl l a h0 h1 (rd_T68 l a).f2.toNat (by omega) vs h5 (by omega) hsz hb vs.length 0 (by omega) k (by omega)
  rw [List.drop_zero, ffs_bar vs 0 _ _ (by omega), Nat.sub_zero] at e1
  exact ⟨e1, e2⟩
 ·rw [if_neg h, if_neg h, if_neg h]
  exact ⟨rfl, rfl⟩
theorem fTx_small (l : List S68) (a : Int) (vs : List Int) (hb : ∀ v ∈ vs, -9223372036854775808 ≤ v ∧ v ≤ 9223372036854775807) : (fTx l a vs).size ≤ 2000 := by
 unfold fTx
 by_cases h : vFact l a vs = true
 ·have hv := h
  unfold vFact at hv
  rw [Bool.and_eq_true] at hv
  obtain ⟨h0, h1, h2, h3, h4, h5⟩ := key_ok l hv.1 a vs hv.2
  have hr := vRels_at l hv.1 a h0 h1
  unfold vRel at hr
  rw [Bool.and_eq_true, Bool.and_eq_true, decide_eq_true_iff] at hr
  have hs := hr.1.1.1
  have hm : ∀ x ∈ vs.map numB, x.size ≤ 21 := by
   intro x hx
   obtain ⟨v, hv, rfl⟩ := List.mem_map.1 hx
   exact numB_sz v (hb v hv).1 (hb v hv).2
  have hbz := bar_sz (vs.map numB) (rd_T68 l a).f2.toNat (by rw [List.length_map]; exact h5) hm
  rw [if_pos h, ByteArray.size_append]
  omega
 ·rw [if_neg h]
  exact Nat.zero_le _
theorem relIdxSl (l : List S68) (nm : ByteArray) (hl : l.length ≤ 1048576) (d : Nat) : ∀ (i : Nat), i + d = l.length → ∀ k, d < k → spec_RelationIndex.l0 k l nm i = some (idxW (nameIs nm) (l.drop i) i) := by
 induction d with
 | zero =>
  intro i hd k hk
  obtain ⟨k, rfl, hk⟩ := fuel hk
  rw [spec_RelationIndex.l0, if_neg (by omega), List.drop_of_length_le (by omega)]
  rfl
 | succ d ih =>
  intro i hd k hk
  obtain ⟨k, rfl, hk⟩ := fuel hk
  have e1 : wrap64 ((i : Int) + 1) = ((i + 1 : Nat) : Int) := by rw [w64 (by omega) (by omega)]; omega
  have e2 : rd_T68 l (i : Int) = l[i] := by unfold rd_T68; rw [Int.toNat_natCast, getD_lt l _ i (by omega)]
  rw [spec_RelationIndex.l0, if_pos (by omega), if_pos (by omega), e2, e1, List.drop_eq_getElem_cons (by omega)]
  simp only [idxW, nameIs, beq_iff_eq]
  by_cases h : l[i].f0.toList = nm.toList
  ·rw [if_pos h, if_pos h]
  ·rw [if_neg h, if_neg h, ih (i + 1) (by omega) k (by omega)]
   rfl
theorem relIdxS (l : List S68) (nm : ByteArray) (hl : l.length ≤ 1048576) (k : Nat) (hk : l.length < k) : spec_RelationIndex.f k l nm = some (idxW (nameIs nm) l 0) :=
 relIdxSl l nm hl l.length 0 (by omega) k hk
theorem numB_dig (d : Nat) (h : d < 10) : numB (d : Int) = (⟨#[UInt8.ofNat (48 + d)]⟩ : ByteArray) := by
 unfold numB Lib.itoa
 rw [if_neg (by omega), Int.toNat_natCast, Lib.decDigits, dif_pos h]
theorem one_byte (s : ByteArray) (h : s.size = 1) : ∃ c, s = (⟨#[c]⟩ : ByteArray) := by
 obtain ⟨⟨l⟩⟩ := s
 have h' : l.length = 1 := h
 match l, h' with
 | [c], _ => exact ⟨c, rfl⟩
theorem vRel_shape (r : S68) (h : vRel r = true) : ∃ (c : UInt8) (d1 d2 : Nat), d1 < 10 ∧ d2 < 10 ∧ r = (⟨(⟨#[c]⟩ : ByteArray), (d1 : Int), (d2 : Int)⟩ : S68) := by
 unfold vRel at h
 rw [Bool.and_eq_true, Bool.and_eq_true, decide_eq_true_iff] at h
 unfold inB at h
 rw [decide_eq_true_iff, decide_eq_true_iff] at h
 obtain ⟨n, a, b⟩ := r
 dsimp only at h
 obtain ⟨⟨⟨h0, _⟩, h1⟩, h2⟩ := h
 obtain ⟨c, rfl⟩ := one_byte n (by omega)
 refine ⟨c, a.toNat, b.toNat, by omega, by omega, ?_⟩
 rw [Int.toNat_of_nonneg (by omega), Int.toNat_of_nonneg (by omega)]
theorem vRelsFrom_less (l : List S68) : ∀ (d i : Nat), vRelsFrom l d i = true → ∀ j, i ≤ j → j < i + d → j = 0 ∨ Op.bytesLess (l.getD (j - 1) z68).f0.toList (l.getD j z68).f0.toList = true
 | 0, i, _, j, h1, h2 => by omega
 | d + 1, i, h, j, h1, h2 => by
  rw [vRelsFrom, Bool.and_eq_true, Bool.and_eq_true, Bool.or_eq_true, decide_eq_true_iff] at h
  by_cases hj : j = i
  ·subst hj
   exact h.1.2
  ·exact vRelsFrom_less l d (i + 1) h.2 j (by omega) (by omega)
theorem one_toList (c : UInt8) : (⟨#[c]⟩ : ByteArray).toList = [c] := by rw [tl_eq]
theorem name_lt (l : List S68) (h : vRels l = true) (i : Nat) (hi : i < l.length) : ∀ j, j < i → bt (l.getD j z68).f0 0 < bt (l.getD i z68).f0 0 := by
 induction i with
 | zero => intro j hj; omega
 | succ i ih =>
  have v1 := vRelsFrom_at l l.length 0 h i (by omega) (by omega)
  have v2 := vRelsFrom_at l l.length 0 h (i + 1) (by omega) (by omega)
  have hs : bt (l.getD i z68).f0 0 < bt (l.getD (i + 1) z68).f0 0 := by
   rcases vRelsFrom_less l l.length 0 h (i + 1) (by omega) (by omega) with q | q
   ·omega
   ·rw [show i + 1 - 1 = i from rfl] at q
    obtain ⟨c1, _, _, _, _, e1⟩ := vRel_shape _ v1
    obtain ⟨c2, _, _, _, _, e2⟩ := vRel_shape _ v2
    rw [e1, e2] at q ⊢
    simp only [one_toList, Op.bytesLess, Bool.and_false, Bool.or_false, decide_eq_true_iff] at q
    show ((c1.toNat : Nat) : Int) < ((c2.toNat : Nat) : Int)
    have := UInt8.lt_iff_toNat_lt.1 q
    omega
  intro j hj
  by_cases c : j = i
  ·rw [c]; exact hs
  ·have := ih (by omega) j (by omega)
   omega
theorem idxOwn (l : List S68) (h : vRels l = true) (i : Nat) (hi : i < l.length) : impl_RelationIndex.f l (rd_T68 l (i : Int)).f0 = some (i : Int) := by
 unfold impl_RelationIndex.f rd_T68
 rw [Int.toNat_natCast, idxW_hit (nameIs (l.getD i z68).f0) z68 l i 0 hi ?_ ?_]
 ·simp
 ·intro j hj
  unfold nameIs
  rw [Bool.eq_false_iff, ne_eq, beq_iff_eq, tl_inj]
  intro e
  have := name_lt l h i hi j hj
  rw [e] at this
  omega
 ·unfold nameIs
  simp
theorem bt_app (a b : ByteArray) (i : Nat) (h : i < a.size) : bt (a ++ b) i = bt a i := by
 unfold bt
 rw [Int.toNat_natCast, dif_pos (by rw [ByteArray.size_append]; omega), dif_pos h]
 have h' : i < a.data.size := h
 have h2 : i < (a ++ b).data.size := by rw [ByteArray.data_append, Array.size_append]; omega
 have e : (a ++ b).data[i] = a.data[i] := by simp only [ByteArray.data_append, Array.getElem_append_left h']
 exact congrArg (fun c : UInt8 => ((c.toNat : Nat) : Int)) e
def digs : List UInt8 → List Int
 | [] => []
 | b :: r => if b.toNat = 124 then digs r else wrap64 ((wrap64 ((b.toNat : Nat) : Int)) - 48) :: digs r
theorem digs_app : ∀ a b : List UInt8, digs (a ++ b) = digs a ++ digs b
 | [], b => rfl
 | x :: a, b => by
  rw [List.cons_append, digs, digs, digs_app a b]
  split
  ·rfl
  ·rfl
theorem digs_len : ∀ a : List UInt8, (digs a).length ≤ a.length
 | [] => Nat.le_refl _
 | x :: a => by
  have := digs_len a
  rw [digs]
  split
  ·simp only [List.length_cons]; omega
  ·simp only [List.length_cons]; omega
theorem wb (x : Int) : -9223372036854775808 ≤ wrap64 x ∧ wrap64 x ≤ 9223372036854775807 := by unfold wrap64; omega
theorem digs_b : ∀ a : List UInt8, ∀ v ∈ digs a, -9223372036854775808 ≤ v ∧ v ≤ 9223372036854775807
 | [], v, h => by cases h
 | x :: a, v, h => by
  rw [digs] at h
  split at h
  ·exact digs_b a v h
  ·rcases List.mem_cons.1 h with rfl | h
   ·exact wb _
   ·exact digs_b a v h
theorem bt_tl (s : ByteArray) (i : Nat) (h : i < s.size) : ∃ b, s.toList.drop i = b :: s.toList.drop (i + 1) ∧ bt s i = ((b.toNat : Nat) : Int) := by
 have h' : i < s.toList.length := by rw [tl_eq, Array.length_toList]; exact h
 refine ⟨s.toList[i], List.drop_eq_getElem_cons h', ?_⟩
 unfold bt
 rw [Int.toNat_natCast, dif_pos h]
 have : s[i] = s.toList[i] := by
  simp only [tl_eq]
  rfl
 rw [this]
def pFx (l : List S68) (t : ByteArray) : Int × List Int × Bool :=
 if t.toList = ([] : List UInt8) then (0, [], false)
 else if fTx l (idxW (nameIs (t.extract 0 1)) l 0) (digs (t.toList.drop 1)) = t then (idxW (nameIs (t.extract 0 1)) l 0, digs (t.toList.drop 1), true) else (0, [], false)
theorem pfSl (l : List S68) (hl : l.length ≤ 1048576) (t : ByteArray) (ht : t.size ≤ 1000000) (a : Int) (d : Nat) : ∀ (i : Nat) (vs : List Int), i + d = t.size → vs.length ≤ i → (∀ v ∈ vs, -9223372036854775808 ≤ v ∧ v ≤ 9223372036854775807) → ∀ k, 2000100 + d < k → spec_ParseFact.l0 k l t i a vs = some (if fTx l a (vs ++ digs (t.toList.drop i)) = t then (a, vs ++ digs (t.toList.drop i), true) else (0, [], false)) ∧ impl_ParseFact.l0 k l t i a vs = some (if fTx l a (vs ++ digs (t.toList.drop i)) = t then (a, vs ++ digs (t.toList.drop i), true) else (0, [], false)) := by
 have hlen : t.toList.length = t.size := by rw [tl_eq, Array.length_toList]; rfl
 induction d with
 | zero =>
  intro i vs hd hv hb k hk
  obtain ⟨k, rfl, hk⟩ := fuel hk
  obtain ⟨f1, f2⟩ := ffB2 l hl a vs (by omega) hb k (by omega)
  rw [List.drop_eq_nil_of_le (by omega), digs, List.append_nil]
  refine ⟨?_, ?_⟩
  ·rw [spec_ParseFact.l0, if_neg (by omega), f1, Option.bind_some]
   by_cases c : fTx l a vs = t
   ·rw [if_pos c, if_pos (tl_inj.2 c)]
   ·rw [if_neg c, if_neg (fun g => c (tl_inj.1 g))]
  ·rw [impl_ParseFact.l0, if_neg (by omega), f2, Option.bind_some]
   by_cases c : fTx l a vs = t
   ·rw [if_pos c, if_pos (tl_inj.2 c)]
   ·rw [if_neg c, if_neg (fun g => c (tl_inj.1 g))]
 | succ d ih =>
  intro i vs hd hv hb k hk
  obtain ⟨k, rfl, hk⟩ := fuel hk
  obtain ⟨b, hb1, hb2⟩ := bt_tl t i (by omega)
  have e1 : wrap64 ((i : Int) + 1) = ((i + 1 : Nat) : Int) := by rw [w64 (by omega) (by omega)]; omega
  have hn : ∀ v ∈ vs ++ [wrap64 ((wrap64 ((b.toNat : Nat) : Int)) - 48)], -9223372036854775808 ≤ v ∧ v ≤ 9223372036854775807 := fun v h => by
   rcases List.mem_append.1 h with h | h
   ·exact hb v h
   ·rw [List.mem_singleton] at h
    subst h
    exact wb _
  rw [hb1, digs]
  by_cases c : b.toNat = 124
  ·have st := ih (i + 1) vs (by omega) (by omega) hb k (by omega)
   rw [if_pos c]
   refine ⟨?_, ?_⟩
   ·rw [spec_ParseFact.l0, if_pos (by omega), if_pos (by omega), hb2, e1, if_pos (by omega)]
    exact st.1
   ·rw [impl_ParseFact.l0, if_pos (by omega), if_pos (by omega), hb2, e1, if_pos (by omega)]
    exact st.2
  ·have st := ih (i + 1) (vs ++ [wrap64 ((wrap64 ((b.toNat : Nat) : Int)) - 48)]) (by omega) (by simp only [List.length_append, List.length_singleton]; omega) hn k (by omega)
   rw [List.append_assoc, List.singleton_append] at st
   rw [if_neg c]
   refine ⟨?_, ?_⟩
   ·rw [spec_ParseFact.l0, if_pos (by omega), if_pos (by omega), hb2, e1, if_neg (by omega), if_pos (by omega)]
    exact st.1
   ·rw [impl_ParseFact.l0, if_pos (by omega), if_pos (by omega), hb2, e1, if_neg (by omega), if_pos (by omega)]
    exact st.2
theorem pfB (l : List S68) (hl : l.length ≤ 1048576) (t : ByteArray) (ht : t.size ≤ 1000000) (k : Nat) (hk : 4000000 < k) : spec_ParseFact.f k l t = some (pFx l t) ∧ impl_ParseFact.f k l t = some (pFx l t) := by
 unfold spec_ParseFact.f impl_ParseFact.f pFx
 by_cases c : t.toList = ([] : List UInt8)
 ·rw [if_pos c, if_pos c, if_pos c]
  exact ⟨rfl, rfl⟩
 ·have hs : 0 < t.size := by
   rcases Nat.eq_zero_or_pos t.size with h | h
   ·exfalso
    apply c
    apply List.eq_nil_of_length_eq_zero
    rw [tl_eq, Array.length_toList]
    exact h
   ·exact h
  obtain ⟨p1, p2⟩ := pfSl l hl t ht (idxW (nameIs (t.extract 0 1)) l 0) (t.size - 1) 1 [] (by omega) (by simp) (fun v h => by cases h) k (by omega)
  rw [List.nil_append] at p1 p2
  rw [if_neg c, if_neg c, if_neg c]
  refine ⟨?_, ?_⟩
  ·rw [if_pos (show (0 : Nat) ≤ 1 by decide), if_pos (show (1 : Int) ≤ (t.size : Int) by omega), relIdxS l (t.extract 0 1) hl k (by omega), Option.bind_some]
   exact p1
  ·unfold impl_RelationIndex.f
   rw [if_pos (show (0 : Nat) ≤ 1 by decide), if_pos (show (1 : Int) ≤ (t.size : Int) by omega), Option.bind_some]
   exact p2
theorem digs_cat : ∀ vs : List Int, (∀ v ∈ vs, 0 ≤ v ∧ v ≤ 9) → digs (Shelf.cat_ (vs.map numB)) = vs
 | [], _ => rfl
 | v :: vs, h => by
  have hv := h v (List.mem_cons_self ..)
  obtain ⟨d, rfl⟩ := Int.eq_ofNat_of_zero_le hv.1
  have u : (UInt8.ofNat (48 + d)).toNat = 48 + d := by rw [UInt8.toNat_ofNat']; omega
  rw [List.map_cons, Shelf.cat_, digs_app, digs_cat vs (fun z hz => h z (List.mem_cons_of_mem _ hz)), numB_dig d (by omega), one_toList, digs, if_neg (by omega), u, digs, w64 (n := ((48 + d : Nat) : Int)) (by omega) (by omega), w64 (by omega) (by omega)]
  rw [show ((48 + d : Nat) : Int) - 48 = (d : Int) by omega]
  rfl
theorem digs_bar (vs : List Int) (h : ∀ v ∈ vs, 0 ≤ v ∧ v ≤ 9) (f : Nat) (hf : f ≤ vs.length) : digs (bar (vs.map numB) f).toList = vs := by
 have ht := digs_cat (vs.take f) (fun v hv => h v (List.mem_of_mem_take hv))
 have hd := digs_cat (vs.drop f) (fun v hv => h v (List.mem_of_mem_drop hv))
 rw [List.map_take] at ht
 rw [List.map_drop] at hd
 unfold bar
 by_cases c : (f : Int) < ((vs.map numB).length : Int)
 ·rw [if_pos c]
  have e : ((⟨(Shelf.cat_ ((vs.map numB).take f)).toArray⟩ : ByteArray) ++ ((⟨#[124]⟩ : ByteArray) ++ (⟨(Shelf.cat_ ((vs.map numB).drop f)).toArray⟩ : ByteArray))).toList = Shelf.cat_ ((vs.map numB).take f) ++ ([124] ++ Shelf.cat_ ((vs.map numB).drop f)) := by
   rw [tl_eq]; simp [ByteArray.data_append]
  rw [e, digs_app, digs_app, ht, hd, show digs [124] = [] from rfl, List.nil_append, List.take_append_drop]
 ·rw [if_neg c, tl_eq]
  rw [List.length_map] at c
  rw [show (⟨(Shelf.cat_ ((vs.map numB).take f)).toArray⟩ : ByteArray).data.toList = Shelf.cat_ ((vs.map numB).take f) by simp, ht, List.take_of_length_le (by omega)]
theorem val_b (l : List S68) (a : Int) (vs : List Int) (h : fits l a vs = true) : ∀ v ∈ vs, 0 ≤ v ∧ v ≤ 9 := by
 intro v hv
 have hn := ((fits_iff l a vs).1 h).2
 rw [List.any_eq_false] at hn
 have hz := hn v hv
 unfold noVal at hz
 have h3 : (decide (0 ≤ v) && decide (v ≤ 9)) = true := by
  cases hq : (decide (0 ≤ v) && decide (v ≤ 9)) with
  | true => rfl
  | false => exact absurd (by rw [hq]; rfl) hz
 rw [Bool.and_eq_true, decide_eq_true_iff, decide_eq_true_iff] at h3
 exact h3
theorem pFx_valid (l : List S68) (a : Int) (vs : List Int) (h : vFact l a vs = true) : pFx l (fTx l a vs) = (a, vs, true) := by
 have hv := h
 unfold vFact at hv
 rw [Bool.and_eq_true] at hv
 obtain ⟨h0, h1, h2, h3, h4, h5⟩ := key_ok l hv.1 a vs hv.2
 obtain ⟨c, d1, d2, _, _, er⟩ := vRel_shape _ (vRels_at l hv.1 a h0 h1)
 have e0 : (rd_T68 l a).f0 = (⟨#[c]⟩ : ByteArray) := by rw [er]
 have ha : ((a.toNat : Nat) : Int) = a := Int.toNat_of_nonneg h0
 have hi := idxOwn l hv.1 a.toNat (by omega)
 rw [ha] at hi
 unfold impl_RelationIndex.f at hi
 have hi' := Option.some.inj hi
 rw [e0] at hi'
 have et : fTx l a vs = (⟨#[c]⟩ : ByteArray) ++ bar (vs.map numB) (rd_T68 l a).f2.toNat := by unfold fTx; rw [if_pos h, e0]
 have el : (fTx l a vs).toList = c :: (bar (vs.map numB) (rd_T68 l a).f2.toNat).toList := by
  rw [et, tl_eq, tl_eq]; simp [ByteArray.data_append]
 have ex : (fTx l a vs).extract 0 1 = (⟨#[c]⟩ : ByteArray) := by
  rw [et]
  have hz : ((⟨#[c]⟩ : ByteArray) ++ bar (vs.map numB) (rd_T68 l a).f2.toNat).size ≥ 1 := by rw [ByteArray.size_append, show (⟨#[c]⟩ : ByteArray).size = 1 from rfl]; omega
  refine ba_ext (by rw [ex_size _ 1 hz]; rfl) fun i hi => ?_
  rw [ex_size _ 1 hz] at hi
  rw [ex_bt _ 1 i hz hi, bt_app _ _ i (by rw [show (⟨#[c]⟩ : ByteArray).size = 1 from rfl]; omega)]
 have hb := digs_bar vs (val_b l a vs hv.2) (rd_T68 l a).f2.toNat (by omega)
 unfold pFx
 rw [if_neg (by rw [el]; simp), ex, hi', el, List.drop_succ_cons, List.drop_zero, hb, if_pos rfl]
theorem pFx_nil (l : List S68) : pFx l (⟨#[]⟩ : ByteArray) = (0, [], false) := by
 unfold pFx
 rw [if_pos (by rw [tl_eq])]
theorem pFx_told (l : List S68) (t : ByteArray) : (pFx l t).2.2 = true → fTx l (pFx l t).1 (pFx l t).2.1 = t := by
 unfold pFx
 by_cases c : t.toList = ([] : List UInt8)
 ·rw [if_pos c]; intro h; exact absurd h (by decide)
 ·rw [if_neg c]
  by_cases g : fTx l (idxW (nameIs (t.extract 0 1)) l 0) (digs (t.toList.drop 1)) = t
  ·rw [if_pos g]; intro _; exact g
  ·rw [if_neg g]; intro h; exact absurd h (by decide)
theorem pFx_b (l : List S68) (t : ByteArray) : (∀ v ∈ (pFx l t).2.1, -9223372036854775808 ≤ v ∧ v ≤ 9223372036854775807) ∧ (pFx l t).2.1.length ≤ t.size := by
 have hlen : t.toList.length = t.size := by rw [tl_eq, Array.length_toList]; rfl
 unfold pFx
 split
 ·exact ⟨fun v h => (by cases h), Nat.zero_le _⟩
 ·split
  ·refine ⟨digs_b _, ?_⟩
   have := digs_len (t.toList.drop 1)
   rw [List.length_drop] at this
   show (digs (t.toList.drop 1)).length ≤ t.size
   omega
  ·exact ⟨fun v h => (by cases h), Nat.zero_le _⟩
theorem and255 (x : Int) : 0 ≤ Go.bits .and .i64 x 255 ∧ Go.bits .and .i64 x 255 ≤ 255 := by
 unfold Go.bits
 have h : (BitVec.ofInt IntKind.i64.bits x &&& BitVec.ofInt IntKind.i64.bits 255).toNat ≤ 255 := by
  rw [BitVec.toNat_and]
  exact Nat.le_trans Nat.and_le_right (by decide)
 simp only [IntKind.wrap_i64]
 omega
theorem l1ByteT (s : List Int) (hs : s.length ≤ 1048576) (i h : Int) (hi : 0 ≤ i) : ∃ x i' h', spec_l1Byte.f s i h = some (x, i', h') ∧ 0 ≤ x ∧ x ≤ 255 ∧ 0 ≤ i' := by
 unfold spec_l1Byte.f
 by_cases c : i < (s.length : Int)
 ·rw [if_pos c, if_pos hi]
  refine ⟨_, _, _, rfl, (and255 _).1, (and255 _).2, ?_⟩
  rw [w64 (by omega) (by omega)]
  omega
 ·rw [if_neg c]
  exact ⟨_, _, _, rfl, (and255 _).1, (and255 _).2, hi⟩
theorem l1BelowT (s : List Int) (hs : s.length ≤ 1048576) (i h n : Int) (hi : 0 ≤ i) : ∃ x i' h', spec_l1Below.f s i h n = some (x, i', h') ∧ 0 ≤ x ∧ (0 < n → x < n) ∧ (n ≤ 0 → x = 0) ∧ 0 ≤ i' := by
 unfold spec_l1Below.f
 by_cases c : n ≤ 0
 ·rw [if_pos c]
  exact ⟨_, _, _, rfl, by omega, by omega, fun _ => rfl, hi⟩
 ·rw [if_neg c]
  by_cases c2 : n ≤ 256
  ·obtain ⟨x, i1, h1, e1, a1, b1, d1⟩ := l1ByteT s hs i h hi
   rw [if_pos c2, e1, Option.bind_some, if_neg (by omega)]
   refine ⟨_, _, _, rfl, ?_, ?_, by omega, d1⟩
   ·rw [tm a1]; exact Int.emod_nonneg _ (by omega)
   ·intro _; rw [tm a1]; exact Int.emod_lt_of_pos _ (by omega)
  ·obtain ⟨x1, i1, h1, e1, a1, b1, d1⟩ := l1ByteT s hs i h hi
   obtain ⟨x2, i2, h2, e2, a2, b2, d2⟩ := l1ByteT s hs i1 h1 d1
   obtain ⟨x3, i3, h3, e3, a3, b3, d3⟩ := l1ByteT s hs i2 h2 d2
   obtain ⟨x4, i4, h4, e4, a4, b4, d4⟩ := l1ByteT s hs i3 h3 d3
   rw [if_neg c2, e1, Option.bind_some, e2, Option.bind_some, e3, Option.bind_some, e4, Option.bind_some, if_neg (by omega)]
   rw [w64 (n := x1 * 16777216) (by omega) (by omega), w64 (n := x2 * 65536) (by omega) (by omega), w64 (n := x3 * 256) (by omega) (by omega), w64 (n := x1 * 16777216 + x2 * 65536) (by omega) (by omega), w64 (n := x1 * 16777216 + x2 * 65536 + x3 * 256) (by omega) (by omega), w64 (n := x1 * 16777216 + x2 * 65536 + x3 * 256 + x4) (by omega) (by omega)]
   refine ⟨_, _, _, rfl, ?_, ?_, by omega, d4⟩
   ·rw [tm (by omega)]; exact Int.emod_nonneg _ (by omega)
   ·intro _; rw [tm (by omega)]; exact Int.emod_lt_of_pos _ (by omega)
theorem l1PickT (s : List Int) (hs : s.length ≤ 1048576) (i h : Int) (hi : 0 ≤ i) (l : List ByteArray) (hl : 0 < l.length) : ∃ x i' h', spec_l1Pick.f s i h l = some (x, i', h') ∧ x ∈ l ∧ 0 ≤ i' := by
 obtain ⟨x, i1, h1, e1, a1, b1, _, d1⟩ := l1BelowT s hs i h (l.length : Int) hi
 have := b1 (by omega)
 unfold spec_l1Pick.f
 rw [e1, Option.bind_some, if_pos a1, if_pos this]
 refine ⟨_, _, _, rfl, ?_, d1⟩
 unfold rdOf
 exact getD_mem l _ _ (by omega)
theorem l1PickIntT (s : List Int) (hs : s.length ≤ 1048576) (i h : Int) (hi : 0 ≤ i) (l : List Int) (hl : 0 < l.length) : ∃ x i' h', spec_l1PickInt.f s i h l = some (x, i', h') ∧ x ∈ l ∧ 0 ≤ i' := by
 obtain ⟨x, i1, h1, e1, a1, b1, _, d1⟩ := l1BelowT s hs i h (l.length : Int) hi
 have := b1 (by omega)
 unfold spec_l1PickInt.f
 rw [e1, Option.bind_some, if_pos a1, if_pos this]
 refine ⟨_, _, _, rfl, ?_, d1⟩
 unfold rd
 exact getD_mem l _ _ (by omega)
theorem l1NewL (s : List Int) (hs : s.length ≤ 1048576) (d : Nat) : ∀ (i : Nat) (h : Int), i + d = s.length → ∀ k, d < k → ∃ h', spec_l1New.l0 k s h i = some (s, 0, h') := by
 induction d with
 | zero =>
  intro i h hd k hk
  obtain ⟨k, rfl, hk⟩ := fuel hk
  rw [spec_l1New.l0, if_neg (by omega)]
  exact ⟨_, rfl⟩
 | succ d ih =>
  intro i h hd k hk
  obtain ⟨k, rfl, hk⟩ := fuel hk
  rw [spec_l1New.l0, if_pos (by omega)]
  by_cases c : (i : Int) < 4000
  ·rw [if_pos c, if_pos (by omega), show wrap64 ((i : Int) + 1) = ((i + 1 : Nat) : Int) by rw [w64 (by omega) (by omega)]; omega]
   exact ih (i + 1) _ (by omega) k (by omega)
  ·rw [if_neg c]
   exact ⟨_, rfl⟩
theorem l1NewT (s : List Int) (hs : s.length ≤ 1048576) (k : Nat) (hk : s.length < k) : ∃ h', spec_l1New.f k s = some (s, 0, h') := by
 unfold spec_l1New.f
 exact l1NewL s hs s.length 0 _ (by omega) k hk
def sigs (l : List S68) : Prop := l.length = 4 ∧ ∀ y ∈ l, 1 ≤ y.f1 ∧ y.f1 ≤ 3 ∧ y.f0.size ≤ 2
theorem l2SigsT (s : List Int) (hs : s.length ≤ 1048576) (i h : Int) (hi : 0 ≤ i) : ∃ l i' h', spec_l2Sigs.f s i h = some (l, i', h') ∧ sigs l ∧ 0 ≤ i' := by
 obtain ⟨x, i1, h1, e1, a1, d1⟩ := l1PickIntT s hs i h hi [1, 1, 2, 0] (by simp)
 obtain ⟨y, i2, h2, e2, a2, b2, _, d2⟩ := l1BelowT s hs i1 h1 2 d1
 unfold spec_l2Sigs.f
 rw [e1, Option.bind_some, e2, Option.bind_some]
 refine ⟨_, _, _, rfl, ⟨rfl, ?_⟩, d2⟩
 intro y hy
 simp only [List.mem_cons, List.not_mem_nil, or_false] at hy
 rcases hy with rfl | rfl | rfl | rfl
 ·exact ⟨by decide, by decide, by decide⟩
 ·exact ⟨by decide, by decide, by decide⟩
 ·exact ⟨by simp, by simp, by simp; decide⟩
 ·exact ⟨by simp, by simp, by simp; decide⟩
theorem l3FactL (s : List Int) (hs : s.length ≤ 1048576) (l : List S68) (v x : Int) (hv : 0 < v) (hx0 : 0 ≤ x) (hx1 : x < (l.length : Int)) (ha : (rd_T68 l x).f1 ≤ 3) (d : Nat) : ∀ (vs : List Int) (i h : Int), 0 ≤ i → vs.length + d = 4 → ∀ k, d < k → (∀ z ∈ vs, 0 ≤ z ∧ z < v) → ∃ ws i' h', spec_l3Fact.l0 k l v s i h x vs = some (x, ws, i', h') ∧ ws.length ≤ 4 ∧ ((vs.length : Int) ≤ (rd_T68 l x).f1 → (ws.length : Int) = (rd_T68 l x).f1) ∧ (∀ z ∈ ws, 0 ≤ z ∧ z < v) ∧ 0 ≤ i' := by
 induction d with
 | zero =>
  intro vs i h hi hd k hk hz
  obtain ⟨k, rfl, hk⟩ := fuel hk
  rw [spec_l3Fact.l0, if_pos hx0, if_pos hx1, if_neg (by omega)]
  exact ⟨_, _, _, rfl, by omega, by omega, hz, hi⟩
 | succ d ih =>
  intro vs i h hi hd k hk hz
  obtain ⟨k, rfl, hk⟩ := fuel hk
  rw [spec_l3Fact.l0, if_pos hx0, if_pos hx1]
  by_cases c : (vs.length : Int) < (rd_T68 l x).f1
  ·obtain ⟨y, i1, h1, e1, a1, b1, _, d1⟩ := l1BelowT s hs i h v hi
   rw [if_pos c, e1, Option.bind_some, if_pos (by omega)]
   obtain ⟨ws, i2, h2, g1, g2, g3, g4, g5⟩ := ih (vs ++ [y]) i1 h1 d1 (by simp; omega) k (by omega) (by
    intro z hz'
    rcases List.mem_append.1 hz' with hz' | hz'
    ·exact hz z hz'
    ·rw [List.mem_singleton] at hz'
     rw [hz']
     exact ⟨a1, b1 hv⟩)
   exact ⟨ws, i2, h2, g1, g2, fun _ => g3 (by simp; omega), g4, g5⟩
  ·rw [if_neg c]
   exact ⟨_, _, _, rfl, by omega, by omega, hz, hi⟩
theorem l3FactT (s : List Int) (hs : s.length ≤ 1048576) (i h : Int) (hi : 0 ≤ i) (l : List S68) (hl : 0 < l.length) (hl2 : l.length ≤ 1048576) (hg : ∀ y ∈ l, 0 ≤ y.f1 ∧ y.f1 ≤ 3) (v : Int) (hv : 0 < v) (k : Nat) (hk : 4 < k) : ∃ x ws i' h', spec_l3Fact.f k s i h l v = some (x, ws, i', h') ∧ 0 ≤ x ∧ x < (l.length : Int) ∧ ws.length ≤ 4 ∧ (ws.length : Int) = (rd_T68 l x).f1 ∧ (∀ z ∈ ws, 0 ≤ z ∧ z < v) ∧ 0 ≤ i' := by
 obtain ⟨x, i1, h1, e1, a1, b1, _, d1⟩ := l1BelowT s hs i h (l.length : Int) hi
 have hx := b1 (by omega)
 unfold spec_l3Fact.f
 rw [e1, Option.bind_some]
 have hm : (rd_T68 l x) ∈ l := by unfold rd_T68; exact getD_mem l _ _ (by omega)
 obtain ⟨ws, i2, h2, g1, g2, g3, g4, g5⟩ := l3FactL s hs l v x hv a1 hx (hg _ hm).2 4 [] i1 h1 d1 rfl k hk (fun z hz => by cases hz)
 exact ⟨x, ws, i2, h2, g1, a1, hx, g2, g3 (by have := (hg _ hm).1; simpa using this), g4, g5⟩
theorem l3AnyN (s : List Int) (hs : s.length ≤ 1048576) (i h : Int) (hi : 0 ≤ i) (l : List S68) (hl : 0 < l.length) (hl2 : l.length ≤ 1048576) (hg : ∀ y ∈ l, 1 ≤ y.f1 ∧ y.f1 ≤ 3) (k : Nat) (hk : 4 < k) : ∃ x ws i' h', spec_l3Any.f k s i h l = some (x, ws, i', h') ∧ 0 < ws.length ∧ ws.length ≤ 5 ∧ -1 ≤ x ∧ x ≤ 1048576 ∧ (∀ z ∈ ws, -1 ≤ z ∧ z ≤ 10) ∧ 0 ≤ i' := by
 obtain ⟨x, ws, i1, h1, e1, x0, x1, g2, g3, g4, g5⟩ := l3FactT s hs i h hi l hl hl2 (fun y hy => ⟨by have := (hg y hy).1; omega, (hg y hy).2⟩) 4 (by decide) k hk
 obtain ⟨y, i2, h2, e2, a2, b2, _, d2⟩ := l1BelowT s hs i1 h1 10 g5
 have hm : (rd_T68 l x) ∈ l := by unfold rd_T68; exact getD_mem l _ _ (by omega)
 have hw := (hg _ hm).1
 have hz : ∀ z ∈ ws, -1 ≤ z ∧ z ≤ 10 := fun z hz => by have := g4 z hz; omega
 unfold spec_l3Any.f
 rw [e1, Option.bind_some]
 dsimp only
 rw [e2, Option.bind_some]
 dsimp only
 by_cases c0 : y = 0
 ·obtain ⟨z, i3, h3, e3, a3, b3, _, d3⟩ := l1BelowT s hs i2 h2 6 d2
  have := b3 (by decide)
  rw [if_pos c0, e3, Option.bind_some]
  refine ⟨_, _, _, _, rfl, by omega, by omega, ?_, ?_, hz, d3⟩
  ·rw [w64 (by omega) (by omega)]; omega
  ·rw [w64 (by omega) (by omega)]; omega
 rw [if_neg c0]
 by_cases c1 : y = 1
 ·rw [if_pos c1, if_pos (by omega)]
  refine ⟨_, _, _, _, rfl, by simp, by simp; omega, by omega, by omega, ?_, d2⟩
  intro z hz'
  rcases List.mem_append.1 hz' with hz' | hz'
  ·exact hz z hz'
  ·rw [List.mem_singleton] at hz'
   omega
 rw [if_neg c1]
 by_cases c2 : y = 2
 ·obtain ⟨z, i3, h3, e3, a3, d3⟩ := l1PickIntT s hs i2 h2 d2 [-1, 10, 9] (by simp)
  rw [if_pos c2, e3, Option.bind_some, if_pos (by omega)]
  refine ⟨_, _, _, _, rfl, by rw [List.length_set]; omega, by rw [List.length_set]; omega, by omega, by omega, ?_, d3⟩
  intro u hu
  rcases List.mem_or_eq_of_mem_set hu with hu | hu
  ·exact hz u hu
  ·rw [hu]
   simp only [List.mem_cons, List.not_mem_nil, or_false] at a3
   rcases a3 with rfl | rfl | rfl <;> omega
 ·rw [if_neg c2]
  exact ⟨_, _, _, _, rfl, by omega, by omega, by omega, by omega, hz, d2⟩
theorem l1TextL (s : List Int) (hs : s.length ≤ 1048576) (m : Int) (d : Nat) : ∀ (n : Int) (xs : List Int) (i h : Int), 0 ≤ i → n ≤ d → d ≤ 100000 → xs.length + d ≤ 1000000 → ∀ k, d < k → ∃ t i' h', spec_l1Text.l0 k xs m n s i h = some (t, i', h') ∧ t.size ≤ xs.length + d ∧ 0 ≤ i' := by
 induction d with
 | zero =>
  intro n xs i h hi hn _ _ k hk
  obtain ⟨k, rfl, hk⟩ := fuel hk
  rw [spec_l1Text.l0, if_neg (by omega)]
  exact ⟨_, _, _, rfl, by rw [sn_size]; omega, hi⟩
 | succ d ih =>
  intro n xs i h hi hn hd hx k hk
  obtain ⟨k, rfl, hk⟩ := fuel hk
  rw [spec_l1Text.l0]
  by_cases c : n > 0
  ·obtain ⟨x, i1, h1, e1, a1, b1, d1⟩ := l1ByteT s hs i h hi
   have hw : wrap64 (n - 1) = n - 1 := w64 (by omega) (by omega)
   have st := fun z => ih (n - 1) (xs ++ [z]) i1 h1 d1 (by omega) (by omega) (by simp only [List.length_append, List.length_singleton]; omega) k (by omega)
   rw [if_pos c, e1, Option.bind_some, hw]
   by_cases c1 : m = 1
   ·rw [if_pos c1, if_neg (by omega), if_pos (by omega)]
    obtain ⟨t, i', h', e, f, g⟩ := st (Int.tmod x 2 % 256)
    exact ⟨t, i', h', e, by simp only [List.length_append, List.length_singleton] at f; omega, g⟩
   ·rw [if_neg c1]
    by_cases c2 : m = 2
    ·rw [if_pos c2, if_pos (by omega)]
     obtain ⟨t, i', h', e, f, g⟩ := st (wrap64 (97 + Int.tmod x 4) % 256)
     exact ⟨t, i', h', e, by simp only [List.length_append, List.length_singleton] at f; omega, g⟩
    ·rw [if_neg c2, if_pos (by omega)]
     obtain ⟨t, i', h', e, f, g⟩ := st (x % 256)
     exact ⟨t, i', h', e, by simp only [List.length_append, List.length_singleton] at f; omega, g⟩
  ·rw [if_neg c]
   exact ⟨_, _, _, rfl, by rw [sn_size]; omega, hi⟩
theorem l1TextT (s : List Int) (hs : s.length ≤ 1048576) (i h : Int) (hi : 0 ≤ i) (n : Int) (hn0 : 0 ≤ n) (hn : n ≤ 90000) (k : Nat) (hk : 100000 < k) : ∃ t i' h', spec_l1Text.f k s i h n = some (t, i', h') ∧ (t.size : Int) ≤ n ∧ 0 ≤ i' := by
 obtain ⟨x, i1, h1, e1, a1, b1, _, d1⟩ := l1BelowT s hs i h 4 hi
 obtain ⟨y, i2, h2, e2, a2, b2, _, d2⟩ := l1BelowT s hs i1 h1 (n + 1) d1
 have := b2 (by omega)
 unfold spec_l1Text.f
 rw [e1, Option.bind_some, w64 (by omega) (by omega), e2, Option.bind_some]
 obtain ⟨t, i3, h3, e3, f3, d3⟩ := l1TextL s hs x n.toNat y [] i2 h2 d2 (by omega) (by omega) (by simp only [List.length_nil]; omega) k (by omega)
 exact ⟨t, i3, h3, e3, by simp only [List.length_nil] at f3; omega, d3⟩
theorem ex_le (a : ByteArray) (i j : Nat) : (a.extract i j).size ≤ a.size := by rw [ByteArray.size_extract]; omega
theorem sn1 (z : Int) : (strOfNums [z]).size = 1 := by rw [sn_size]; rfl
theorem l1SpoilT (s : List Int) (hs : s.length ≤ 1048576) (i h : Int) (hi : 0 ≤ i) (a : ByteArray) (ha : a.size ≤ 1000000000) (k : Nat) (hk : 100000 < k) : ∃ t i' h', spec_l1Spoil.f k s i h a = some (t, i', h') ∧ t.size ≤ a.size + 3 ∧ 0 ≤ i' := by
 unfold spec_l1Spoil.f
 by_cases c : (a.size : Int) = 0
 ·obtain ⟨t, i1, h1, e1, f1, d1⟩ := l1TextT s hs i h hi 3 (by omega) (by omega) k hk
  rw [if_pos c, e1, Option.bind_some]
  exact ⟨t, i1, h1, rfl, by omega, d1⟩
 ·obtain ⟨x, i1, h1, e1, a1, b1, _, d1⟩ := l1BelowT s hs i h (a.size : Int) hi
  have hx := b1 (by omega)
  obtain ⟨y, i2, h2, e2, a2, b2, _, d2⟩ := l1BelowT s hs i1 h1 4 d1
  have w1 : wrap64 (x + 1) = x + 1 := w64 (by omega) (by omega)
  have s1 := ex_le a 0 x.toNat
  have s2 := ex_le a (x + 1).toNat a.size
  have s3 := ex_le a x.toNat a.size
  have z1 : (a.extract 0 x.toNat).size = x.toNat := by rw [ByteArray.size_extract]; omega
  have z2 : (a.extract (x + 1).toNat a.size).size = a.size - (x + 1).toNat := by rw [ByteArray.size_extract]; omega
  have z3 : (a.extract x.toNat a.size).size = a.size - x.toNat := by rw [ByteArray.size_extract]; omega
  rw [if_neg c, e1, Option.bind_some, e2, Option.bind_some]
  dsimp only
  rw [w1]
  by_cases c0 : y = 0
  ·rw [if_pos c0, if_pos a1, if_pos (by omega), if_pos (by omega), if_pos (by omega), if_pos (by omega)]
   exact ⟨_, _, _, rfl, by rw [ByteArray.size_append]; omega, d2⟩
  ·rw [if_neg c0]
   by_cases c1 : y = 1
   ·obtain ⟨u, i3, h3, e3, a3, b3, d3⟩ := l1ByteT s hs i2 h2 d2
    rw [if_pos c1, if_pos a1, if_pos (by omega), e3, Option.bind_some, Option.bind_some]
    dsimp only
    rw [if_pos (by rw [sn1]; omega), if_pos (by rw [ByteArray.size_append, sn1]; omega)]
    exact ⟨_, _, _, rfl, by rw [ByteArray.size_append, ByteArray.size_append, sn1]; omega, d3⟩
   ·rw [if_neg c1]
    by_cases c2 : y = 2
    ·rw [if_pos c2, if_pos a1, if_pos (by omega)]
     exact ⟨_, _, _, rfl, by omega, d2⟩
    ·obtain ⟨u, i3, h3, e3, a3, b3, _, d3⟩ := l1BelowT s hs i2 h2 255 d2
     rw [if_neg c2, if_pos a1, if_pos (by omega), if_pos (by omega), e3, Option.bind_some, Option.bind_some]
     dsimp only
     rw [if_pos (by rw [sn1]; omega), if_pos (by omega), if_pos (by omega), if_pos (by rw [ByteArray.size_append, sn1]; omega)]
     exact ⟨_, _, _, rfl, by rw [ByteArray.size_append, ByteArray.size_append, sn1]; omega, d3⟩
theorem smIl (b : List Int) (hb : b.length ≤ 1048576) (d : Nat) : ∀ (i : Nat), i + d = b.length → ∀ k, d < k → laws_sameInts.l0 k b b i = some true := by
 induction d with
 | zero =>
  intro i hd k hk
  obtain ⟨k, rfl, hk⟩ := fuel hk
  rw [laws_sameInts.l0, if_neg (by omega)]
 | succ d ih =>
  intro i hd k hk
  obtain ⟨k, rfl, hk⟩ := fuel hk
  rw [laws_sameInts.l0, if_pos (by omega), if_pos (by omega), if_pos (by omega), if_pos rfl, show wrap64 ((i : Int) + 1) = ((i + 1 : Nat) : Int) by rw [w64 (by omega) (by omega)]; omega]
  exact ih (i + 1) (by omega) k (by omega)
theorem smI (b : List Int) (hb : b.length ≤ 1048576) (k : Nat) (hk : b.length < k) : laws_sameInts.f k b b = some true := by
 unfold laws_sameInts.f
 rw [if_pos rfl]
 exact smIl b hb b.length 0 (by omega) k hk
theorem l1OnceT (s : List Int) (hs : s.length ≤ 1048576) (i h n : Int) (hi : 0 ≤ i) : ∃ b i' h', spec_l1Once.f s i h n = some (b, i', h') ∧ 0 ≤ i' := by
 obtain ⟨x, i1, h1, e1, _, _, _, d1⟩ := l1BelowT s hs i h n hi
 unfold spec_l1Once.f
 rw [e1, Option.bind_some]
 exact ⟨_, _, _, rfl, d1⟩
theorem bnd {ws : List Int} (h : ∀ z ∈ ws, -1 ≤ z ∧ z ≤ 10) : ∀ v ∈ ws, -9223372036854775808 ≤ v ∧ v ≤ 9223372036854775807 := fun v hv => by have := h v hv; omega
theorem bnd2 {ws : List Int} {n : Int} (hn : n ≤ 100) (h : ∀ z ∈ ws, 0 ≤ z ∧ z < n) : ∀ v ∈ ws, -9223372036854775808 ≤ v ∧ v ≤ 9223372036854775807 := fun v hv => by have := h v hv; omega
theorem drawFF (s : List Int) (hs : s.length ≤ 1048576) (k : Nat) (hk : 2000000 < k) : ∃ l a ws, spec_DrawFormatFact.f k s = some (l, a, ws) ∧ l.length = 4 ∧ ws.length ≤ 5 ∧ (∀ z ∈ ws, -1 ≤ z ∧ z ≤ 10) := by
 obtain ⟨h, e⟩ := l1NewT s hs k (by omega)
 obtain ⟨l, i1, h1, e1, g1, d1⟩ := l2SigsT s hs 0 h (by omega)
 obtain ⟨x, ws, i2, h2, e2, w0, w1, _, _, wb, d2⟩ := l3AnyN s hs i1 h1 d1 l (by rw [g1.1]; omega) (by rw [g1.1]; omega) (fun y hy => ⟨(g1.2 y hy).1, (g1.2 y hy).2.1⟩) k (by omega)
 unfold spec_DrawFormatFact.f spec_DrawIsValidFact.f
 rw [e, Option.bind_some]
 dsimp only
 rw [e1, Option.bind_some]
 dsimp only
 rw [e2, Option.bind_some, Option.bind_some]
 exact ⟨l, x, ws, rfl, g1.1, w1, wb⟩
theorem drawPF (s : List Int) (hs : s.length ≤ 1048576) (k : Nat) (hk : 3000000 < k) : ∃ l t, spec_DrawParseFact.f k s = some (l, t) ∧ l.length = 4 ∧ t.size ≤ 1000000 := by
 obtain ⟨h, e⟩ := l1NewT s hs k (by omega)
 obtain ⟨l, i1, h1, e1, g1, d1⟩ := l2SigsT s hs 0 h (by omega)
 obtain ⟨x, ws, i2, h2, e2, _, _, w1, _, wb, d2⟩ := l3FactT s hs i1 h1 d1 l (by rw [g1.1]; omega) (by rw [g1.1]; omega) (fun y hy => ⟨by have := (g1.2 y hy).1; omega, (g1.2 y hy).2.1⟩) 10 (by decide) k (by omega)
 obtain ⟨b, i3, h3, e3, d3⟩ := l1OnceT s hs i2 h2 3 d2
 have f := (ffB2 l (by rw [g1.1]; omega) x ws (by omega) (bnd2 (by omega) wb) k (by omega)).1
 have hz := fTx_small l x ws (bnd2 (by omega) wb)
 unfold spec_DrawParseFact.f
 rw [e, Option.bind_some]
 dsimp only
 rw [e1, Option.bind_some]
 dsimp only
 rw [e2, Option.bind_some]
 dsimp only
 rw [f, Option.bind_some, e3, Option.bind_some]
 dsimp only
 by_cases c : b = true
 ·obtain ⟨t, i4, h4, e4, f4, d4⟩ := l1SpoilT s hs i3 h3 d3 (fTx l x ws) (by omega) k (by omega)
  obtain ⟨u, i5, h5, e5, m5, d5⟩ := l1PickT s hs i4 h4 d4 (([(⟨#[]⟩ : ByteArray), (⟨#[114]⟩ : ByteArray), (⟨#[114, 49, 124, 50]⟩ : ByteArray), (⟨#[114, 49, 50]⟩ : ByteArray), (⟨#[114, 124, 49, 50]⟩ : ByteArray), (⟨#[114, 49, 124, 50, 51]⟩ : ByteArray), (⟨#[118, 49]⟩ : ByteArray), (⟨#[114, 49, 124, 50, 124]⟩ : ByteArray), (⟨#[114, 49, 124, 124, 50]⟩ : ByteArray), t] : List ByteArray)) (by simp)
  rw [if_pos c, e4, Option.bind_some]
  dsimp only
  rw [e5, Option.bind_some]
  refine ⟨l, u, rfl, g1.1, ?_⟩
  simp only [List.mem_cons, List.not_mem_nil, or_false] at m5
  rcases m5 with rfl | rfl | rfl | rfl | rfl | rfl | rfl | rfl | rfl | rfl
  all_goals first | (show _ ≤ 1000000; decide) | omega
 ·rw [if_neg c]
  exact ⟨l, _, rfl, g1.1, by omega⟩
theorem drawCF (s : List Int) (hs : s.length ≤ 1048576) (k : Nat) (hk : 2000000 < k) : ∃ a x b y, spec_DrawCompareFacts.f k s = some (a, x, b, y) ∧ x.length ≤ 5 ∧ y.length ≤ 5 := by
 obtain ⟨h, e⟩ := l1NewT s hs k (by omega)
 obtain ⟨l, i1, h1, e1, g1, d1⟩ := l2SigsT s hs 0 h (by omega)
 have hg : ∀ y ∈ l, 0 ≤ y.f1 ∧ y.f1 ≤ 3 := fun y hy => ⟨by have := (g1.2 y hy).1; omega, (g1.2 y hy).2.1⟩
 obtain ⟨x, ws, i2, h2, e2, _, _, w1, _, wb, d2⟩ := l3FactT s hs i1 h1 d1 l (by rw [g1.1]; omega) (by rw [g1.1]; omega) hg 2 (by decide) k (by omega)
 obtain ⟨y, vs, i3, h3, e3, _, _, v1, _, vb, d3⟩ := l3FactT s hs i2 h2 d2 l (by rw [g1.1]; omega) (by rw [g1.1]; omega) hg 2 (by decide) k (by omega)
 unfold spec_DrawCompareFacts.f
 rw [e, Option.bind_some]
 dsimp only
 rw [e1, Option.bind_some]
 dsimp only
 rw [e2, Option.bind_some]
 dsimp only
 rw [e3, Option.bind_some]
 exact ⟨x, ws, y, vs, rfl, by omega, by omega⟩
theorem drawSK (s : List Int) (hs : s.length ≤ 1048576) (k : Nat) (hk : 2000000 < k) : ∃ l a x b y, spec_DrawHaveSameKey.f k s = some (l, a, x, b, y) ∧ l.length = 4 ∧ x.length ≤ 5 ∧ y.length ≤ 5 := by
 obtain ⟨h, e⟩ := l1NewT s hs k (by omega)
 obtain ⟨l, i1, h1, e1, g1, d1⟩ := l2SigsT s hs 0 h (by omega)
 have hg : ∀ y ∈ l, 0 ≤ y.f1 ∧ y.f1 ≤ 3 := fun y hy => ⟨by have := (g1.2 y hy).1; omega, (g1.2 y hy).2.1⟩
 obtain ⟨x, ws, i2, h2, e2, w0, w1, _, _, wb, d2⟩ := l3AnyN s hs i1 h1 d1 l (by rw [g1.1]; omega) (by rw [g1.1]; omega) (fun y hy => ⟨(g1.2 y hy).1, (g1.2 y hy).2.1⟩) k (by omega)
 obtain ⟨y, vs, i3, h3, e3, _, _, v1, _, vb, d3⟩ := l3FactT s hs i2 h2 d2 l (by rw [g1.1]; omega) (by rw [g1.1]; omega) hg 2 (by decide) k (by omega)
 obtain ⟨b, i4, h4, e4, d4⟩ := l1OnceT s hs i3 h3 2 d3
 obtain ⟨z, i5, h5, e5, _, _, _, d5⟩ := l1BelowT s hs i4 h4 4 d4
 unfold spec_DrawHaveSameKey.f
 rw [e, Option.bind_some]
 dsimp only
 rw [e1, Option.bind_some]
 dsimp only
 rw [e2, Option.bind_some]
 dsimp only
 rw [e3, Option.bind_some]
 dsimp only
 rw [e4, Option.bind_some]
 dsimp only
 by_cases c : b = true
 ·have hw : wrap64 (((([] : List Int) ++ ws).length : Int) - 1) = (ws.length : Int) - 1 := by rw [List.nil_append, w64 (by omega) (by omega)]
  rw [if_pos c, Option.bind_some, if_pos (by simp only [List.length_nil]; omega), Option.bind_some, e5, Option.bind_some]
  dsimp only
  rw [hw, if_pos (by omega), if_pos (by rw [List.nil_append]; omega)]
  exact ⟨l, x, ws, x, _, rfl, g1.1, w1, by rw [List.length_set, List.nil_append]; omega⟩
 ·rw [if_neg c]
  exact ⟨l, x, ws, y, vs, rfl, g1.1, w1, by omega⟩
theorem cmpI_anti : ∀ x y : List Int, cmpI x y = -cmpI y x ∧ -1 ≤ cmpI x y ∧ cmpI x y ≤ 1
 | [], [] => by decide
 | [], _ :: _ => by simp [cmpI]
 | _ :: _, [] => by simp [cmpI]
 | a :: x, b :: y => by
  have h := cmpI_anti x y
  rw [cmpI, cmpI]
  by_cases c1 : a < b
  ·rw [if_pos c1, if_neg (by omega), if_pos (by omega)]; omega
  ·by_cases c2 : a > b
   ·rw [if_neg c1, if_pos c2, if_pos (by omega)]; omega
   ·rw [if_neg c1, if_neg c2, if_neg (by omega), if_neg (by omega)]; exact h
theorem cmpF_anti (a : Int) (x : List Int) (b : Int) (y : List Int) : cmpF a x b y = -cmpF b y a x ∧ -1 ≤ cmpF a x b y ∧ cmpF a x b y ≤ 1 := by
 have h := cmpI_anti x y
 unfold cmpF
 by_cases c1 : a < b
 ·rw [if_pos c1, if_neg (by omega), if_pos (by omega)]; omega
 ·by_cases c2 : a > b
  ·rw [if_neg c1, if_pos c2, if_pos (by omega)]; omega
  ·rw [if_neg c1, if_neg c2, if_neg (by omega), if_neg (by omega)]; exact h
theorem sameK_symm (l : List S68) (a : Int) (x : List Int) (b : Int) (y : List Int) : sameK l a x b y = sameK l b y a x := by
 unfold sameK
 by_cases c : a = b
 ·subst c
  rw [show decide (x.take ((rd_T68 l a).f2).toNat = y.take ((rd_T68 l a).f2).toNat) = decide (y.take ((rd_T68 l a).f2).toNat = x.take ((rd_T68 l a).f2).toNat) from decide_eq_decide.2 eq_comm]
 ·rw [decide_eq_false c, decide_eq_false (show ¬ b = a from fun h => c h.symm), Bool.false_and, Bool.false_and]
theorem law1 (l : List S68) (hl : l.length = 4) (a : Int) (x : List Int) (b : Int) (y : List Int) (hx : x.length ≤ 5) (hy : y.length ≤ 5) (k : Nat) (hk : 4000000 < k) : laws_FnFactFormat.j1 k l false a x b y = some true := by
 obtain ⟨k, rfl⟩ : ∃ z, k = z + 1 := ⟨k - 1, by omega⟩
 have hS := sameS l (by omega) a x b y (by omega) (by omega) k (by omega)
 rw [laws_FnFactFormat.j1, if_neg (by decide), sameKI l (by omega), hS, sameKI l (by omega), keyI l (by omega) a x (by omega), keyI l (by omega) b y (by omega), sameK_symm l b y a x]
 simp only [Option.bind_some, beq_self_eq_true, if_true]
 rw [show (vFact l b y && vFact l a x && sameK l a x b y) = (vFact l a x && vFact l b y && sameK l a x b y) by rw [Bool.and_comm (vFact l b y)], if_pos (beq_self_eq_true _)]
 by_cases h : (vFact l a x && vFact l b y && sameK l a x b y) = true
 ·rw [if_pos h]
  rw [Bool.and_eq_true, Bool.and_eq_true] at h
  obtain ⟨⟨h1, h2⟩, h3⟩ := h
  unfold sameK at h3
  rw [Bool.and_eq_true, decide_eq_true_iff, decide_eq_true_iff] at h3
  have e : keyOf l a x = keyOf l b y := by
   unfold keyOf
   rw [if_pos h1, if_pos h2, ← h3.1, h3.2]
  have hk1 := keyOf_len l b y (by omega)
  rw [if_pos h3.1, e, smI _ hk1 k (by omega)]
  rfl
 ·rw [if_neg h]
theorem law0 (l : List S68) (hl : l.length = 4) (a : Int) (x : List Int) (b : Int) (y : List Int) (hx : x.length ≤ 5) (hy : y.length ≤ 5) (a' : Int) (x' : List Int) (b' : Int) (y' : List Int) (hx' : x'.length ≤ 5) (hy' : y'.length ≤ 5) (k : Nat) (hk : 4000100 < k) : laws_FnFactFormat.j0 k l false a x b y a' x' b' y' = some true := by
 obtain ⟨k, rfl⟩ : ∃ z, k = z + 1 := ⟨k - 1, by omega⟩
 have h := cmpF_anti a x b y
 rw [laws_FnFactFormat.j0, if_neg (by decide), cmpFI a x b y (by omega) (by omega) k (by omega), cmpFS a x b y (by omega) (by omega) k (by omega), cmpFI b y a x (by omega) (by omega) k (by omega)]
 simp only [Option.bind_some, if_true]
 rw [w64 (by omega) (by omega), show (cmpF a x b y != -cmpF b y a x) = false by rw [← h.1]; simp]
 exact law1 l hl a' x' b' y' hx' hy' k (by omega)
theorem FnFactFormat : FnFactFormatPure := by
 intro s hs
 by_cases hn : (s.length : Int) > 1048576
 ·refine ⟨0, ?_⟩
  unfold laws_FnFactFormat.f laws_big.f
  rw [decide_eq_true hn, Option.bind_some, if_pos rfl]
 have hsl : s.length ≤ 1048576 := by omega
 refine ⟨5000001, ?_⟩
 generalize hk : (5000001 : Nat) = k
 obtain ⟨l, a, ws, e1, l1, w1, wb⟩ := drawFF s hsl k (by omega)
 obtain ⟨m, t, e2, m1, t1⟩ := drawPF s hsl k (by omega)
 obtain ⟨b, x, c, y, e3, x1, y1⟩ := drawCF s hsl k (by omega)
 obtain ⟨n, g, u, h, v, e4, n1, u1, v1⟩ := drawSK s hsl k (by omega)
 have hL := law0 n n1 b x c y x1 y1 g u h v u1 v1 k (by omega)
 have f1 := (ffB2 l (by omega) a ws (by omega) (bnd wb) k (by omega)).2
 have hz := fTx_small l a ws (bnd wb)
 obtain ⟨_, p1⟩ := pfB l (by omega) (fTx l a ws) (by omega) k (by omega)
 obtain ⟨p2, p3⟩ := pfB m (by omega) t t1 k (by omega)
 have pb := pFx_b m t
 have f2 := (ffB2 m (by omega) (pFx m t).1 (pFx m t).2.1 (by omega) pb.1 k (by omega)).2
 have pt := pFx_told m t
 have v1' : spec_IsValidFact.f k l a ws = some (vFact l a ws) := vFS l (by omega) a ws (by omega) k (by omega)
 unfold laws_FnFactFormat.f
 rw [show laws_big.f s = some false by unfold laws_big.f; rw [decide_eq_false hn], Option.bind_some, if_neg (by decide), e1, Option.bind_some]
 dsimp only
 rw [f1, Option.bind_some, p1, Option.bind_some, e2, Option.bind_some]
 dsimp only
 rw [p3, Option.bind_some, p2, Option.bind_some, e3, Option.bind_some, e4, Option.bind_some]
 dsimp only
 rw [v1', Option.bind_some]
 have tail : (if ((pFx m t).2.2 != (pFx m t).2.2) = true then laws_FnFactFormat.j0 k n true b x c y g u h v else if (pFx m t).2.2 = true then ((impl_FormatFact.f k m (pFx m t).1 (pFx m t).2.1).bind fun t536 => laws_FnFactFormat.j0 k n (t536.toList != t.toList) b x c y g u h v) else laws_FnFactFormat.j0 k n false b x c y g u h v) = some true := by
  rw [if_neg (by simp)]
  by_cases q : (pFx m t).2.2 = true
  ·rw [if_pos q, f2, Option.bind_some, pt q, show (t.toList != t.toList) = false by simp]
   exact hL
  ·rw [if_neg q]
   exact hL
 by_cases q : vFact l a ws = true
 ·rw [pFx_valid l a ws q, q]
  dsimp only
  rw [if_neg (by decide), if_pos rfl, cmpFI a ws a ws (by omega) (by omega) k (by omega), Option.bind_some, if_pos (by have := cmpF_anti a ws a ws; omega)]
  exact tail
 ·have e : fTx l a ws = (⟨#[]⟩ : ByteArray) := by unfold fTx; rw [if_neg q]
  rw [e, pFx_nil, Bool.eq_false_iff.2 q]
  dsimp only
  rw [if_neg (by decide), if_neg (by decide)]
  exact tail
end Go.Proofs.YtckpikfbhlhhjaaDoor.Pure
