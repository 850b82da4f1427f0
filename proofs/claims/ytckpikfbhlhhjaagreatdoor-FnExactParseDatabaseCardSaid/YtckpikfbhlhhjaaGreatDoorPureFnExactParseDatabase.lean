/- The law FnExactParseDatabase answers true for every text that the row admits: both texts read alike, and the result is memory of its own. -/
import Derived.Test.YtckpikfbhlhhjaaGreatDoorGFnExactParseDatabase
import Derived.Test.YtckpikfbhlhhjaaGreatDoorBase
import Derived.Lib.ItoaLen
namespace Go.Proofs.YtckpikfbhlhhjaaGreatDoor.Pure
open Go.RowKit Go.Proofs.YtckpikfbhlhhjaaGreatDoor.PFnExactParseDatabase Go.Proofs.YtckpikfbhlhhjaaGreatDoorW.PrintWords Go.Proofs.YtckpikfbhlhhjaaGreatDoorW.PrintLast Go.Proofs.YtckpikfbhlhhjaaGreatDoorW.PrintMore Go.Proofs.YtckpikfbhlhhjaaGreatDoor.Base
set_option linter.unusedVariables false
set_option linter.unusedSimpArgs false
theorem eqR (a : S42) : laws_eqRelation.f a.f0 a.f1 a.f2 a.f0 a.f1 a.f2 = some true := by
 unfold laws_eqRelation.f
 rw [if_pos rfl, if_pos rfl, if_pos rfl]
theorem eqRSl (l : List S42) (hl : l.length ≤ 1048576) (d : Nat) : ∀ (i : Int), 0 ≤ i → (l.length : Int) - i = d → ∀ k, d < k → laws_eqRelationS.l0 k l l i = some true := by
 induction d with
 | zero =>
  intro i h0 hd k hk
  obtain ⟨k, rfl, hk⟩ := fuel hk
  rw [laws_eqRelationS.l0, if_neg (by omega)]
 | succ d ih =>
  intro i h0 hd k hk
  obtain ⟨k, rfl, hk⟩ := fuel hk
  rw [laws_eqRelationS.l0, if_pos (by omega), if_pos h0, if_pos (by omega), eqR]
  simp only [Option.bind_some, if_true]
  rw [w64 (by omega) (by omega)]
  exact ih (i + 1) (by omega) (by omega) k (by omega)
theorem eqRS (l : List S42) (hl : l.length ≤ 1048576) (k : Nat) (hk : l.length < k) : laws_eqRelationS.f k l l = some true := by
 unfold laws_eqRelationS.f
 rw [if_pos rfl]
 exact eqRSl l hl l.length 0 (by omega) (by omega) k hk
theorem eqIl (l : List Int) (hl : l.length ≤ 1048576) (d : Nat) : ∀ (i : Int), 0 ≤ i → (l.length : Int) - i = d → ∀ k, d < k → laws_eqIntS.l0 k l l i = some true := by
 induction d with
 | zero =>
  intro i h0 hd k hk
  obtain ⟨k, rfl, hk⟩ := fuel hk
  rw [laws_eqIntS.l0, if_neg (by omega)]
 | succ d ih =>
  intro i h0 hd k hk
  obtain ⟨k, rfl, hk⟩ := fuel hk
  rw [laws_eqIntS.l0, if_pos (by omega), if_pos h0, if_pos (by omega), if_pos rfl, w64 (by omega) (by omega)]
  exact ih (i + 1) (by omega) (by omega) k (by omega)
theorem eqI (l : List Int) (hl : l.length ≤ 1048576) (k : Nat) (hk : l.length < k) : laws_eqIntS.f k l l = some true := by
 unfold laws_eqIntS.f
 rw [if_pos rfl]
 exact eqIl l hl l.length 0 (by omega) (by omega) k hk
theorem eqF (a : Int) (l : List Int) (hl : l.length ≤ 1048576) (k : Nat) (hk : l.length < k) : laws_eqFact.f k a l a l = some true := by
 unfold laws_eqFact.f
 rw [if_pos rfl, eqI l hl k hk]
 rfl
theorem eqFSl (l : List S47) (hl : l.length ≤ 1048576) (hg : ∀ y ∈ l, y.f1.length ≤ 1048576) (d : Nat) : ∀ (i : Nat), i + d = l.length → ∀ k, d + 1048577 < k → laws_eqFactS.l0 k l l i = some true := by
 induction d with
 | zero =>
  intro i hd k hk
  obtain ⟨k, rfl, hk⟩ := fuel hk
  rw [laws_eqFactS.l0, if_neg (by omega)]
 | succ d ih =>
  intro i hd k hk
  obtain ⟨k, rfl, hk⟩ := fuel hk
  have hy := hg _ (getD_mem l z47 i (by omega))
  rw [laws_eqFactS.l0, if_pos (by omega), if_pos (by omega), if_pos (by omega)]
  unfold rd_T47
  rw [Int.toNat_natCast, eqF _ _ hy k (by omega), Option.bind_some, if_pos rfl, show wrap64 ((i : Int) + 1) = ((i + 1 : Nat) : Int) by rw [w64 (by omega) (by omega)]; omega]
  exact ih (i + 1) (by omega) k (by omega)
theorem eqFS (l : List S47) (hl : l.length ≤ 1048576) (hg : ∀ y ∈ l, y.f1.length ≤ 1048576) (k : Nat) (hk : l.length + 1048577 < k) : laws_eqFactS.f k l l = some true := by
 unfold laws_eqFactS.f
 rw [if_pos rfl]
 exact eqFSl l hl hg l.length 0 (by omega) k hk
theorem eqD (l : List S42) (fs : List S47) (hl : l.length ≤ 1048576) (hf : fs.length ≤ 1048576) (hg : ∀ y ∈ fs, y.f1.length ≤ 1048576) (k : Nat) (hk : 2097154 < k) : laws_eqDatabase.f k l fs l fs = some true := by
 unfold laws_eqDatabase.f
 rw [eqRS l hl k (by omega), Option.bind_some, if_pos rfl, eqFS fs hf hg k (by omega), Option.bind_some, if_pos rfl]
theorem cmpSl (a b : List Int) (ha : a.length ≤ 1048576) (hb : b.length ≤ 1048576) (d : Nat) : ∀ (i : Nat), i + d = a.length → ∀ k, 2 * d + 1 < k → spec_l3Ints.l0 k a b i = some (cmpI (a.drop i) (b.drop i)) ∨ b.length < i := by
 induction d with
 | zero =>
  intro i hd k hk
  by_cases hbi : b.length < i
  ·exact .inr hbi
  left
  obtain ⟨k, rfl⟩ : ∃ z, k = z + 2 := ⟨k - 2, by omega⟩
  rw [spec_l3Ints.l0, if_neg (by omega), spec_l3Ints.j1, if_neg (by decide), cmpI_end (.inl (List.drop_of_length_le (by omega))), List.length_drop, List.length_drop]
  by_cases h1 : (a.length : Int) < (b.length : Int)
  ·rw [if_pos h1, if_pos (show a.length - i < b.length - i by omega)]
  ·rw [if_neg h1, if_neg (show ¬ (a.length : Int) > (b.length : Int) by omega), if_neg (show ¬ a.length - i < b.length - i by omega), if_neg (show ¬ a.length - i > b.length - i by omega)]
 | succ d ih =>
  intro i hd k hk
  by_cases hbi : b.length < i
  ·exact .inr hbi
  left
  obtain ⟨k, rfl⟩ : ∃ z, k = z + 2 := ⟨k - 2, by omega⟩
  rw [spec_l3Ints.l0, if_pos (by omega)]
  by_cases hlt : i < b.length
  ·have e1 : wrap64 ((i : Int) + 1) = ((i + 1 : Nat) : Int) := by rw [w64 (by omega) (by omega)]; omega
   have e2 : rd a (i : Int) = a[i] := by unfold rd; rw [Int.toNat_natCast, getD_lt a _ i (by omega)]
   have e3 : rd b (i : Int) = b[i] := by unfold rd; rw [Int.toNat_natCast, getD_lt b _ i (by omega)]
   rw [decide_eq_true (by omega), spec_l3Ints.j1, if_pos rfl, if_pos (by omega), if_pos (by omega), if_pos (by omega), e1, e2, e3]
   rw [List.drop_eq_getElem_cons (i := i) (l := a) (by omega), List.drop_eq_getElem_cons (i := i) (l := b) (by omega), cmpI]
   by_cases h1 : a[i] < b[i]
   ·rw [if_pos h1, if_pos h1]
   ·rw [if_neg h1, if_neg h1]
    by_cases h2 : a[i] > b[i]
    ·rw [if_pos h2, if_pos h2]
    ·rw [if_neg h2, if_neg h2]
     rcases ih (i + 1) (by omega) k (by omega) with h | h
     ·exact h
     ·omega
  ·rw [decide_eq_false (by omega), spec_l3Ints.j1, if_neg (by decide), cmpI_end (.inr (List.drop_of_length_le (by omega))), List.length_drop, List.length_drop]
   rw [if_neg (show ¬ (a.length : Int) < (b.length : Int) by omega), if_pos (show (a.length : Int) > (b.length : Int) by omega), if_neg (show ¬ a.length - i < b.length - i by omega), if_pos (show a.length - i > b.length - i by omega)]
theorem cmpS (a b : List Int) (ha : a.length ≤ 1048576) (hb : b.length ≤ 1048576) (k : Nat) (hk : 2 * a.length + 1 < k) : spec_l3Ints.f k a b = some (cmpI a b) := by
 rcases cmpSl a b ha hb a.length 0 (by omega) k hk with h | h
 ·exact h
 ·omega
theorem cmpFS (x : Int) (a : List Int) (y : Int) (b : List Int) (ha : a.length ≤ 1048576) (hb : b.length ≤ 1048576) (k : Nat) (hk : 2 * a.length + 1 < k) : spec_CompareFacts.f k x a y b = some (cmpF x a y b) := by
 unfold spec_CompareFacts.f cmpF
 by_cases h1 : x < y
 ·rw [if_pos h1, if_pos h1]
 ·rw [if_neg h1, if_neg h1]
  by_cases h2 : x > y
  ·rw [if_pos h2, if_pos h2]
  ·rw [if_neg h2, if_neg h2, cmpS a b ha hb k hk]
   rfl
theorem in1 (x a b : Int) : spec_l1In.f x a b = some (decide (a ≤ x ∧ x ≤ b)) := by
 unfold spec_l1In.f
 by_cases h : a ≤ x
 ·rw [if_pos h]; simp [h]
 ·rw [if_neg h]; simp [h]
theorem vFSl (a : Int) (vs : List Int) (hs : vs.length ≤ 1048576) (d : Nat) : ∀ (i : Nat), i + d = vs.length → ∀ k, d < k → spec_IsValidFact.l0 k i a vs = some (!(vs.drop i).any noVal) := by
 induction d with
 | zero =>
  intro i hd k hk
  obtain ⟨k, rfl, hk⟩ := fuel hk
  rw [spec_IsValidFact.l0, if_neg (by omega), List.drop_of_length_le (by omega)]
  rfl
 | succ d ih =>
  intro i hd k hk
  obtain ⟨k, rfl, hk⟩ := fuel hk
  rw [spec_IsValidFact.l0, if_pos (by omega), if_pos (by omega), in1, Option.bind_some, List.drop_eq_getElem_cons (i := i) (l := vs) (by omega), List.any_cons]
  rw [show wrap64 ((i : Int) + 1) = ((i + 1 : Nat) : Int) by rw [w64 (by omega) (by omega)]; omega, show rd vs (i : Int) = vs[i] by unfold rd; rw [Int.toNat_natCast, getD_lt vs _ i (by omega)]]
  by_cases h : 0 ≤ vs[i] ∧ vs[i] ≤ 9
  ·rw [if_pos (by simpa using h), ih (i + 1) (by omega) k (by omega)]
   have : noVal vs[i] = false := by simp [noVal, h]
   rw [this, Bool.false_or]
  ·rw [if_neg (by simpa using h)]
   have : noVal vs[i] = true := by
    unfold noVal
    by_cases h1 : 0 ≤ vs[i]
    ·have h2 : ¬ vs[i] ≤ 9 := fun h2 => h ⟨h1, h2⟩
     simp [h2]
    ·simp [h1]
   rw [this, Bool.true_or]
   rfl
theorem vFS (l : List S42) (hl : l.length ≤ 1048576) (a : Int) (vs : List Int) (hs : vs.length ≤ 1048576) (k : Nat) (hk : vs.length + 1 < k) : spec_IsValidFact.f k l a vs = some (vFact l a vs) := by
 obtain ⟨k, rfl⟩ : ∃ z, k = z + 1 := ⟨k - 1, by omega⟩
 unfold spec_IsValidFact.f spec_AreValidRelations.f vFact fits
 rw [Option.bind_some, in1, Option.bind_some, w64 (by omega) (by omega)]
 by_cases h0 : vRels l = true
 ·rw [if_pos h0]
  by_cases h1 : 0 ≤ a ∧ a < (l.length : Int)
  ·rw [if_pos (by simpa using (by omega : 0 ≤ a ∧ a ≤ (l.length : Int) - 1)), if_pos h1.1, if_pos h1.2, spec_IsValidFact.j0]
   by_cases h2 : (vs.length : Int) = (rd_T42 l a).f1
   ·rw [if_neg (by simpa using h2), show (0 : Int) = ((0 : Nat) : Int) from rfl, vFSl a vs hs vs.length 0 (by omega) k (by omega), h0, decide_eq_true (by exact ⟨h1.1, h1.2, h2⟩)]
    simp
   ·rw [if_pos (by simpa using h2), decide_eq_false (by intro h; exact h2 h.2.2)]
    simp
  ·rw [if_neg (by simpa using (by omega : 0 ≤ a → ¬ a ≤ (l.length : Int) - 1)), spec_IsValidFact.j0, if_pos rfl, decide_eq_false (by intro h; exact h1 ⟨h.1, h.2.1⟩)]
   simp
 ·rw [if_neg h0, spec_IsValidFact.j0, if_pos rfl]
  simp [h0]
theorem vFI (l : List S42) (hl : l.length ≤ 1048576) (a : Int) (vs : List Int) : impl_IsValidFact.f l a vs = some (vFact l a vs) := by
 unfold impl_IsValidFact.f impl_AreValidRelations.f vFact
 rw [Option.bind_some, fitI l (by omega), Option.bind_some]
 by_cases h0 : vRels l = true
 ·rw [if_pos h0, h0]; rfl
 ·rw [if_neg h0]; simp [h0]
theorem vDSl (l : List S42) (hl : l.length ≤ 1048576) (fs : List S47) (hf : fs.length ≤ 1048576) (hg : ∀ y ∈ fs, y.f1.length ≤ 1048576) (d : Nat) : ∀ (i : Nat), i + d = fs.length → ∀ k, d + 4000000 < k → spec_IsValidDatabase.l0 k i l fs = some (vRels l && decide (fs.length ≤ 14) && okFrom l fs d i) := by
 induction d with
 | zero =>
  intro i hd k hk
  obtain ⟨k, rfl, hk⟩ := fuel hk
  rw [spec_IsValidDatabase.l0, if_neg (by omega)]
  unfold spec_AreValidRelations.f
  rw [Option.bind_some]
  by_cases h : vRels l = true
  ·rw [if_pos h, h, okFrom]
   simp only [Bool.true_and, Bool.and_true]
   congr 2
   exact propext (by omega)
  ·rw [if_neg h]; simp [h]
 | succ d ih =>
  intro i hd k hk
  obtain ⟨k, rfl, hk⟩ := fuel hk
  have hy := hg _ (getD_mem fs z47 i (by omega))
  rw [spec_IsValidDatabase.l0, if_pos (by omega), if_pos (by omega)]
  unfold rd_T47
  rw [Int.toNat_natCast, vFS l hl _ _ hy k (by omega), Option.bind_some, okFrom]
  unfold vFact
  by_cases h0 : vRels l = true
  ·by_cases h1 : fits l (fs.getD i z47).f0 (fs.getD i z47).f1 = true
   ·rw [h0, h1, Bool.true_and, if_pos rfl]
    by_cases hi : i = 0
    ·rw [if_neg (by omega), show wrap64 ((i : Int) + 1) = ((i + 1 : Nat) : Int) by rw [w64 (by omega) (by omega)]; omega, ih (i + 1) (by omega) k (by omega), h0, decide_eq_true hi]
     simp
    ·have hy' := hg _ (getD_mem fs z47 (i - 1) (by omega))
     have ew : wrap64 ((i : Int) - 1) = ((i - 1 : Nat) : Int) := by rw [w64 (by omega) (by omega)]; omega
     rw [if_pos (by omega), ew, if_pos (by omega), if_pos (by omega), Int.toNat_natCast, cmpFS _ _ _ _ hy' hy k (by omega), Option.bind_some, decide_eq_false hi]
     by_cases hc : cmpF (fs.getD (i - 1) z47).f0 (fs.getD (i - 1) z47).f1 (fs.getD i z47).f0 (fs.getD i z47).f1 < 0
     ·rw [if_neg (by omega), show wrap64 ((i : Int) + 1) = ((i + 1 : Nat) : Int) by rw [w64 (by omega) (by omega)]; omega, ih (i + 1) (by omega) k (by omega), h0, decide_eq_true hc]
      simp
     ·rw [if_pos (by omega), decide_eq_false hc]
      simp
   ·rw [Bool.eq_false_iff.2 h1, Bool.and_false, if_neg (by decide)]
    simp
  ·rw [if_neg (by simp [h0])]
   simp [h0]
theorem vDS (l : List S42) (hl : l.length ≤ 1048576) (fs : List S47) (hf : fs.length ≤ 1048576) (hg : ∀ y ∈ fs, y.f1.length ≤ 1048576) (k : Nat) (hk : 6000000 < k) : spec_IsValidDatabase.f k l fs = some (vDb l fs) := by
 unfold spec_IsValidDatabase.f vDb
 exact vDSl l hl fs hf hg fs.length 0 (by omega) k (by omega)
theorem inB_iff (x a b : Int) : inB x a b = true ↔ a ≤ x ∧ x ≤ b := by unfold inB; exact decide_eq_true_iff
theorem vRelsFrom_at (l : List S42) : ∀ (d i : Nat), vRelsFrom l d i = true → ∀ j, i ≤ j → j < i + d → vRel (l.getD j z42) = true
 | 0, i, _, j, h1, h2 => by omega
 | d + 1, i, h, j, h1, h2 => by
  rw [vRelsFrom, Bool.and_eq_true, Bool.and_eq_true] at h
  by_cases hj : j = i
  ·subst hj
   exact h.1.1
  ·exact vRelsFrom_at l d (i + 1) h.2 j (by omega) (by omega)
theorem vRels_at (l : List S42) (h : vRels l = true) (a : Int) (h0 : 0 ≤ a) (h1 : a < (l.length : Int)) : vRel (rd_T42 l a) = true := by
 unfold rd_T42
 exact vRelsFrom_at l l.length 0 h a.toNat (by omega) (by omega)
theorem fits_iff (l : List S42) (a : Int) (vs : List Int) : fits l a vs = true ↔ (0 ≤ a ∧ a < (l.length : Int) ∧ (vs.length : Int) = (rd_T42 l a).f1) ∧ vs.any noVal = false := by
 unfold fits
 rw [Bool.and_eq_true, decide_eq_true_iff, Bool.not_eq_true']
theorem key_ok (l : List S42) (hr : vRels l = true) (a : Int) (vs : List Int) (h : fits l a vs = true) :
  0 ≤ a ∧ a < (l.length : Int) ∧ 0 ≤ (rd_T42 l a).f2 ∧ (rd_T42 l a).f2 ≤ (vs.length : Int) ∧ (vs.length : Int) = (rd_T42 l a).f1 ∧ vs.length ≤ 3 := by
 obtain ⟨⟨h0, h1, h2⟩, _⟩ := (fits_iff l a vs).1 h
 have hv := vRels_at l hr a h0 h1
 unfold vRel at hv
 rw [Bool.and_eq_true, Bool.and_eq_true, inB_iff, inB_iff] at hv
 exact ⟨h0, h1, by omega, by omega, h2, by omega⟩
def dig (u : Nat) : List UInt8 := if u = 0 then [] else Lib.decDigits u
theorem dig_step (u : Nat) (h : 0 < u) : dig u = dig (u / 10) ++ [UInt8.ofNat (48 + u % 10)] := by
 unfold dig
 rw [if_neg (by omega), Lib.decDigits]
 by_cases c : u < 10
 ·rw [dif_pos c, if_pos (by omega), List.nil_append, Nat.mod_eq_of_lt c]
 ·rw [dif_neg c, if_neg (by omega)]
theorem sn_cons (z : Int) (l : List UInt8) : strOfNums [z] ++ (⟨l.toArray⟩ : ByteArray) = ⟨(UInt8.ofNat z.toNat :: l).toArray⟩ := by
 apply ByteArray.ext
 apply Array.ext'
 rw [ByteArray.data_append, Array.toList_append, sn_toList]
 simp
theorem sz_mk (l : List UInt8) : (⟨l.toArray⟩ : ByteArray).size = l.length := by
 rw [show (⟨l.toArray⟩ : ByteArray).size = (⟨l.toArray⟩ : ByteArray).data.size from rfl]; simp
def fin (neg : Bool) (l : List UInt8) : ByteArray := if neg = true then ⟨(45 :: l).toArray⟩ else ⟨l.toArray⟩
theorem fil (d : Nat) : ∀ (u : Nat) (x : Int) (neg : Bool) (l : List UInt8), (x = u ∨ x = -(u : Int)) → u < 10 ^ d → u ≤ 9223372036854775808 → l.length + d ≤ 1000 → ∀ k, d < k → spec_FormatInt.l0 k x ⟨l.toArray⟩ neg = some (fin neg (dig u ++ l)) := by
 induction d with
 | zero =>
  intro u x neg l hx hu _ hl k hk
  obtain ⟨k, rfl, hk⟩ := fuel hk
  rw [Nat.pow_zero] at hu
  rw [spec_FormatInt.l0, if_pos (by omega), show u = 0 by omega]
  unfold fin dig
  rw [if_pos rfl, List.nil_append]
  by_cases h : neg = true
  ·rw [if_pos h, if_pos h, if_pos (by rw [sz_mk]; omega)]
   congr 1
  ·rw [if_neg h, if_neg h]
 | succ d ih =>
  intro u x neg l hx hu hb hl k hk
  obtain ⟨k, rfl, hk⟩ := fuel hk
  by_cases h0 : u = 0
  ·rw [spec_FormatInt.l0, if_pos (by omega), h0]
   unfold fin dig
   rw [if_pos rfl, List.nil_append]
   by_cases h : neg = true
   ·rw [if_pos h, if_pos h, if_pos (by rw [sz_mk]; omega)]
    congr 1
   ·rw [if_neg h, if_neg h]
  ·have hm : Int.tmod x 10 = (u % 10 : Nat) ∨ Int.tmod x 10 = -((u % 10 : Nat) : Int) := by
    rcases hx with rfl | rfl
    ·left; rw [Int.tmod_eq_emod_of_nonneg (by omega)]; omega
    ·right; rw [Int.neg_tmod, Int.tmod_eq_emod_of_nonneg (by omega)]; omega
   have hd : Int.tdiv x 10 = (u / 10 : Nat) ∨ Int.tdiv x 10 = -((u / 10 : Nat) : Int) := by
    rcases hx with rfl | rfl
    ·left; rw [Int.tdiv_eq_ediv_of_nonneg (by omega)]; omega
    ·right; rw [Int.neg_tdiv, Int.tdiv_eq_ediv_of_nonneg (by omega)]; omega
   have h1 : (strOfNums [((48 + u % 10 : Nat) : Int)]).size = 1 := by rw [sn_size]; rfl
   have hs := ih (u / 10) (Int.tdiv x 10) neg (UInt8.ofNat (48 + u % 10) :: l) hd (by rw [Nat.pow_succ] at hu; omega) (by omega) (by simp only [List.length_cons]; omega) k (by omega)
   have hz : wrap64 (Int.tdiv x 10) = Int.tdiv x 10 := w64 (by omega) (by omega)
   have hn : ∀ z : Int, z = ((u % 10 : Nat) : Int) → wrap64 (48 + z) % 256 = ((48 + u % 10 : Nat) : Int) := by
    intro z e
    rw [w64 (by omega) (by omega)]
    omega
   have hfin : spec_FormatInt.l0 k (wrap64 (Int.tdiv x 10)) (strOfNums [((48 + u % 10 : Nat) : Int)] ++ ⟨l.toArray⟩) neg = some (fin neg (dig u ++ l)) := by
    rw [hz, sn_cons, Int.toNat_natCast, hs, dig_step u (by omega), List.append_assoc]
    rfl
   rw [spec_FormatInt.l0, if_neg (by omega)]
   by_cases hc : Int.tmod x 10 < 0
   ·rw [if_pos hc, Option.bind_some, hn _ (by rw [w64 (by omega) (by omega)]; omega), if_pos (by rw [h1, sz_mk]; omega)]
    exact hfin
   ·rw [if_neg hc, Option.bind_some, hn _ (by omega), if_pos (by rw [h1, sz_mk]; omega)]
    exact hfin
theorem fiS (n : Int) (h0 : -9223372036854775808 ≤ n) (h1 : n ≤ 9223372036854775807) (k : Nat) (hk : 30 < k) : spec_FormatInt.f k n = some ⟨(Lib.itoa n).toArray⟩ := by
 unfold spec_FormatInt.f
 by_cases h : n = 0
 ·rw [if_pos h, h]
  unfold Lib.itoa
  rw [if_neg (by omega), show (0 : Int).toNat = 0 from rfl, Lib.decDigits, dif_pos (by omega)]
  rfl
 ·rw [if_neg h]
  have hp : (10 : Nat) ^ 20 = 100000000000000000000 := by decide
  have := fil 20 n.natAbs n (decide (n < 0)) [] (by omega) (by omega) (by omega) (by simp) k (by omega)
  rw [show (⟨#[]⟩ : ByteArray) = ⟨([] : List UInt8).toArray⟩ from rfl, this, List.append_nil]
  unfold fin dig Lib.itoa
  rw [if_neg (show ¬ n.natAbs = 0 by omega)]
  by_cases hn : n < 0
  ·rw [if_pos (decide_eq_true hn), if_pos hn]
  ·rw [if_neg (by simpa using hn), if_neg hn, show n.natAbs = n.toNat by omega]
theorem vRel_sz (x : S42) (h : vRel x = true) : x.f0.size ≤ 1048576 := by
 unfold vRel at h
 rw [Bool.and_eq_true, Bool.and_eq_true, decide_eq_true_iff] at h
 have := h.1.1.1
 omega
theorem fiI (n : Int) (h0 : -9223372036854775808 ≤ n) (h1 : n ≤ 9223372036854775807) : impl_FormatInt.f n = some ⟨(Lib.itoa n).toArray⟩ := by
 unfold impl_FormatInt.f strconv_Itoa_96.f
 rw [if_pos h0, if_pos h1, Option.bind_some]
def numB (v : Int) : ByteArray := ⟨(Lib.itoa v).toArray⟩
theorem numB_sz (v : Int) (h0 : -9223372036854775808 ≤ v) (h1 : v ≤ 9223372036854775807) : (numB v).size ≤ 21 := by
 unfold numB; rw [sz_mk]; exact Lib.itoa_length_le v h0 h1
def ffs (f2 : Nat) : Nat → List Int → ByteArray → ByteArray
 | _, [], s => s
 | i, v :: vs, s => ffs f2 (i + 1) vs ((if i = f2 then s ++ (⟨#[124]⟩ : ByteArray) else s) ++ numB v)
theorem ffSl (l : List S42) (a : Int) (ha : 0 ≤ a) (ha' : a < (l.length : Int)) (f2 : Nat) (h2 : (rd_T42 l a).f2 = f2) (vs : List Int) (hn : vs.length ≤ 3) (hb : ∀ v ∈ vs, -9223372036854775808 ≤ v ∧ v ≤ 9223372036854775807) (d : Nat) : ∀ (i : Nat) (s : ByteArray), i + d = vs.length → s.size + 30 * d ≤ 1000000000 → ∀ k, d + 40 < k → spec_FormatFact.l0 k l s i a vs = some (ffs f2 i (vs.drop i) s) := by
 induction d with
 | zero =>
  intro i s hd _ k hk
  obtain ⟨k, rfl, hk⟩ := fuel hk
  rw [spec_FormatFact.l0, if_neg (by omega), List.drop_eq_nil_of_le (by omega), ffs]
 | succ d ih =>
  intro i s hd hs k hk
  obtain ⟨k, rfl, hk⟩ := fuel hk
  have hv := hb vs[i] (List.getElem_mem _)
  have hz := numB_sz vs[i] hv.1 hv.2
  have hr : rd vs (i : Int) = vs[i] := by unfold rd; rw [Int.toNat_natCast, getD_lt _ _ i (by omega)]
  have l1 : (⟨#[124]⟩ : ByteArray).size = 1 := rfl
  have hf : spec_FormatInt.f k vs[i] = some (numB vs[i]) := fiS _ hv.1 hv.2 k (by omega)
  rw [spec_FormatFact.l0, if_pos (by omega), if_pos ha, if_pos ha', h2, hr, hf, List.drop_eq_getElem_cons (by omega), ffs, show wrap64 ((i : Int) + 1) = ((i + 1 : Nat) : Int) by rw [w64 (by omega) (by omega)]; omega]
  simp only [Option.bind_some]
  by_cases c : i = f2
  ·rw [if_pos (by omega), if_pos (by omega), if_pos (by omega), if_pos (by rw [ByteArray.size_append]; omega), if_pos c]
   exact ih (i + 1) _ (by omega) (by rw [ByteArray.size_append, ByteArray.size_append]; omega) k (by omega)
  ·rw [if_neg (by omega), if_pos (by omega), if_pos (by omega), if_neg c]
   exact ih (i + 1) _ (by omega) (by rw [ByteArray.size_append]; omega) k (by omega)
def bar (xs : List ByteArray) (f2 : Nat) : ByteArray := if (f2 : Int) < (xs.length : Int) then (⟨(Shelf.cat_ (xs.take f2)).toArray⟩ : ByteArray) ++ ((⟨#[124]⟩ : ByteArray) ++ (⟨(Shelf.cat_ (xs.drop f2)).toArray⟩ : ByteArray)) else (⟨(Shelf.cat_ (xs.take f2)).toArray⟩ : ByteArray)
theorem cat_sz : ∀ xs : List ByteArray, (∀ x ∈ xs, x.size ≤ 21) → (Shelf.cat_ xs).length ≤ 21 * xs.length
 | [], _ => by rw [Shelf.cat_]; simp
 | x :: xs, h => by
  have := cat_sz xs fun y hy => h y (List.mem_cons_of_mem _ hy)
  have hx := h x (List.mem_cons_self ..)
  have e : x.toList.length = x.size := by rw [tl_eq, Array.length_toList]; rfl
  rw [Shelf.cat_, List.length_append, List.length_cons, e]
  omega
theorem bar_sz (xs : List ByteArray) (f2 : Nat) (hn : xs.length ≤ 3) (h : ∀ x ∈ xs, x.size ≤ 21) : (bar xs f2).size ≤ 1000 := by
 have h1 := cat_sz xs h
 have h2 := Shelf.cat_len xs f2
 have l1 : (⟨#[124]⟩ : ByteArray).size = 1 := rfl
 unfold bar
 split
 ·rw [ByteArray.size_append, ByteArray.size_append, sz_mk, l1, sz_mk]; omega
 ·rw [sz_mk]; omega
theorem ffIl (l : List S42) (a : Int) (ha : 0 ≤ a) (ha' : a < (l.length : Int)) (f2 : Nat) (h2 : (rd_T42 l a).f2 = f2) (vs : List Int) (hn : vs.length ≤ 3) (hf : f2 ≤ vs.length) (hsz : (rd_T42 l a).f0.size ≤ 1048576) (hb : ∀ v ∈ vs, -9223372036854775808 ≤ v ∧ v ≤ 9223372036854775807) (d : Nat) : ∀ (i : Nat), i + d = vs.length → ∀ k, d < k → impl_FormatFact.l0 k l ((vs.take i).map numB) vs vs.length i a vs = some ((rd_T42 l a).f0 ++ bar (vs.map numB) f2) := by
 have hm : ∀ x ∈ vs.map numB, x.size ≤ 21 := by
  intro x hx
  obtain ⟨v, hv, rfl⟩ := List.mem_map.1 hx
  exact numB_sz v (hb v hv).1 (hb v hv).2
 have hml : (vs.map numB).length = vs.length := List.length_map ..
 induction d with
 | zero =>
  intro i hd k hk
  obtain ⟨k, rfl, hk⟩ := fuel hk
  have hc := cat_sz _ hm
  have hbz := bar_sz (vs.map numB) f2 (by omega) hm
  have hbr : impl_barred.f (vs.map numB) f2 = some (bar (vs.map numB) f2) := by
   unfold impl_barred.f bar
   rw [if_pos (by omega), if_pos (by omega), Int.toNat_natCast]
  rw [impl_FormatFact.l0, if_neg (by omega), if_pos ha, if_pos ha', h2, List.take_of_length_le (by omega), hbr, Option.bind_some, if_pos (by omega)]
 | succ d ih =>
  intro i hd k hk
  obtain ⟨k, rfl, hk⟩ := fuel hk
  have hv := hb vs[i] (List.getElem_mem _)
  have hr : rd vs (i : Int) = vs[i] := by unfold rd; rw [Int.toNat_natCast, getD_lt _ _ i (by omega)]
  have hfi : impl_FormatInt.f vs[i] = some (numB vs[i]) := fiI _ hv.1 hv.2
  rw [impl_FormatFact.l0, if_pos (by omega), if_pos (by omega), if_pos (by omega), hr, hfi, Option.bind_some, if_pos (by rw [List.length_map, List.length_take]; omega), show wrap64 ((i : Int) + 1) = ((i + 1 : Nat) : Int) by rw [w64 (by omega) (by omega)]; omega, show (vs.take i).map numB ++ [numB vs[i]] = (vs.take (i + 1)).map numB by rw [List.take_succ_eq_append_getElem (by omega), List.map_append]; rfl]
  exact ih (i + 1) (by omega) k (by omega)
theorem ba_app (s : ByteArray) (l m : List UInt8) : s ++ (⟨(l ++ m).toArray⟩ : ByteArray) = (s ++ (⟨l.toArray⟩ : ByteArray)) ++ (⟨m.toArray⟩ : ByteArray) := by
 apply ByteArray.ext
 apply Array.ext'
 simp [ByteArray.data_append]
theorem ba_num (s x : ByteArray) (l : List UInt8) : s ++ (⟨(x.toList ++ l).toArray⟩ : ByteArray) = (s ++ x) ++ (⟨l.toArray⟩ : ByteArray) := by
 rw [ba_app, tl_eq]
theorem ffs_past (f2 : Nat) : ∀ (vs : List Int) (i : Nat) (s : ByteArray), f2 < i → ffs f2 i vs s = s ++ (⟨(Shelf.cat_ (vs.map numB)).toArray⟩ : ByteArray)
 | [], i, s, _ => by
  rw [ffs, List.map_nil, Shelf.cat_]
  apply ByteArray.ext; apply Array.ext'; simp [ByteArray.data_append]
 | v :: vs, i, s, h => by rw [ffs, if_neg (by omega), ffs_past f2 vs (i + 1) _ (by omega), List.map_cons, Shelf.cat_, ba_num]
theorem ffs_bar : ∀ (vs : List Int) (i f2 : Nat) (s : ByteArray), i ≤ f2 → ffs f2 i vs s = s ++ bar (vs.map numB) (f2 - i)
 | [], i, f2, s, h => by
  rw [ffs, List.map_nil]
  unfold bar
  rw [if_neg (by simp), List.take_nil, Shelf.cat_]
  apply ByteArray.ext; apply Array.ext'; simp [ByteArray.data_append]
 | v :: vs, i, f2, s, h => by
  rw [ffs]
  by_cases c : i = f2
  ·rw [if_pos c, ffs_past f2 vs (i + 1) _ (by omega), show f2 - i = 0 by omega]
   unfold bar
   rw [if_pos (by simp), List.take_zero, List.drop_zero, List.map_cons, Shelf.cat_, Shelf.cat_, tl_eq]
   apply ByteArray.ext; apply Array.ext'; simp [ByteArray.data_append]
  ·rw [if_neg c, ffs_bar vs (i + 1) f2 _ (by omega), show f2 - i = (f2 - (i + 1)) + 1 by omega]
   unfold bar
   rw [List.map_cons, List.take_succ_cons, List.drop_succ_cons, List.length_cons, Shelf.cat_, tl_eq]
   by_cases q : ((f2 - (i + 1) : Nat) : Int) < ((vs.map numB).length : Int)
   ·rw [if_pos q, if_pos (by push_cast; omega)]
    apply ByteArray.ext; apply Array.ext'; simp [ByteArray.data_append]
   ·rw [if_neg q, if_neg (by push_cast; omega)]
    apply ByteArray.ext; apply Array.ext'; simp [ByteArray.data_append]
def ascFrom (xs : List Int) (n : Int) : Nat → Nat → Bool
 | 0, _ => true
 | d + 1, i => decide (0 ≤ xs.getD i 0 ∧ xs.getD i 0 ≤ n - 1) && (decide (i = 0) || decide (xs.getD (i - 1) 0 < xs.getD i 0)) && ascFrom xs n d (i + 1)
def asc (xs : List Int) (n : Int) : Bool := ascFrom xs n xs.length 0
def sel (fs : List S47) (xs : List Int) : List S47 := xs.map fun i => fs.getD i.toNat z47
theorem rdD (xs : List Int) (i : Nat) : rd xs (i : Int) = xs.getD i 0 := by unfold rd; rw [Int.toNat_natCast]
theorem ascFrom_at (xs : List Int) (n : Int) : ∀ (d i : Nat), ascFrom xs n d i = true → ∀ j, i ≤ j → j < i + d → (0 ≤ xs.getD j 0 ∧ xs.getD j 0 ≤ n - 1) ∧ (j = 0 ∨ xs.getD (j - 1) 0 < xs.getD j 0)
 | 0, i, _, j, h1, h2 => by omega
 | d + 1, i, h, j, h1, h2 => by
  rw [ascFrom, Bool.and_eq_true, Bool.and_eq_true, Bool.or_eq_true, decide_eq_true_iff, decide_eq_true_iff, decide_eq_true_iff] at h
  by_cases hj : j = i
  ·subst hj
   exact h.1
  ·exact ascFrom_at xs n d (i + 1) h.2 j (by omega) (by omega)
theorem asc_at (xs : List Int) (n : Int) (h : asc xs n = true) (j : Nat) (hj : j < xs.length) : (0 ≤ xs.getD j 0 ∧ xs.getD j 0 ≤ n - 1) ∧ (j = 0 ∨ xs.getD (j - 1) 0 < xs.getD j 0) :=
 ascFrom_at xs n xs.length 0 h j (by omega) (by omega)
theorem sel_len (fs : List S47) (xs : List Int) : (sel fs xs).length = xs.length := by unfold sel; simp
theorem ascSl (l : List S42) (fs : List S47) (hf : fs.length ≤ 1048576) (xs : List Int) (hx : xs.length ≤ 1048576) (d : Nat) : ∀ (i : Nat), i + d = xs.length → ∀ k, d < k → spec_l4Set.l0 k xs i l fs = some (ascFrom xs fs.length d i) := by
 induction d with
 | zero =>
  intro i hd k hk
  obtain ⟨k, rfl, hk⟩ := fuel hk
  rw [spec_l4Set.l0, if_neg (by omega), ascFrom]
 | succ d ih =>
  intro i hd k hk
  obtain ⟨k, rfl, hk⟩ := fuel hk
  have e1 : wrap64 ((i : Int) + 1) = ((i + 1 : Nat) : Int) := by rw [w64 (by omega) (by omega)]; omega
  rw [spec_l4Set.l0, if_pos (by omega), if_pos (by omega), in1, Option.bind_some, w64 (by omega) (by omega), rdD, ascFrom, e1]
  by_cases h : 0 ≤ xs.getD i 0 ∧ xs.getD i 0 ≤ (fs.length : Int) - 1
  ·rw [decide_eq_true h, if_pos rfl]
   by_cases hi : i = 0
   ·rw [if_neg (by omega), ih (i + 1) (by omega) k (by omega), decide_eq_true hi]
    simp
   ·rw [if_pos (by omega), show wrap64 ((i : Int) - 1) = ((i - 1 : Nat) : Int) by rw [w64 (by omega) (by omega)]; omega, if_pos (by omega), if_pos (by omega), rdD, decide_eq_false hi]
    by_cases hc : xs.getD (i - 1) 0 < xs.getD i 0
    ·rw [if_neg (by omega), ih (i + 1) (by omega) k (by omega), decide_eq_true hc]
     simp
    ·rw [if_pos (by omega), decide_eq_false hc]
     simp
  ·rw [decide_eq_false h, if_neg (by decide)]
   simp
theorem ascS (l : List S42) (fs : List S47) (hf : fs.length ≤ 1048576) (xs : List Int) (hx : xs.length ≤ 1048576) (k : Nat) (hk : xs.length < k) : spec_l4Set.f k l fs xs = some (asc xs fs.length) := by
 unfold spec_l4Set.f asc
 exact ascSl l fs hf xs hx xs.length 0 (by omega) k hk
def fTx (l : List S42) (a : Int) (vs : List Int) : ByteArray := if vFact l a vs = true then (rd_T42 l a).f0 ++ bar (vs.map numB) (rd_T42 l a).f2.toNat else (⟨#[]⟩ : ByteArray)
theorem fTx_sz (l : List S42) (a : Int) (vs : List Int) (hb : ∀ v ∈ vs, -9223372036854775808 ≤ v ∧ v ≤ 9223372036854775807) : (fTx l a vs).size ≤ 1049576 := by
 unfold fTx
 by_cases h : vFact l a vs = true
 ·have hv := h
  unfold vFact at hv
  rw [Bool.and_eq_true] at hv
  obtain ⟨h0, h1, h2, h3, h4, h5⟩ := key_ok l hv.1 a vs hv.2
  have hsz : (rd_T42 l a).f0.size ≤ 1048576 := vRel_sz _ (vRels_at l hv.1 a h0 h1)
  have hm : ∀ x ∈ vs.map numB, x.size ≤ 21 := by
   intro x hx
   obtain ⟨v, hv, rfl⟩ := List.mem_map.1 hx
   exact numB_sz v (hb v hv).1 (hb v hv).2
  have hbz := bar_sz (vs.map numB) (rd_T42 l a).f2.toNat (by rw [List.length_map]; exact h5) hm
  rw [if_pos h, ByteArray.size_append]
  omega
 ·rw [if_neg h]
  exact Nat.zero_le _
theorem ffB2 (l : List S42) (hl : l.length ≤ 1048576) (a : Int) (vs : List Int) (hs : vs.length ≤ 1048576) (hb : ∀ v ∈ vs, -9223372036854775808 ≤ v ∧ v ≤ 9223372036854775807) (k : Nat) (hk : 2000000 < k) : spec_FormatFact.f k l a vs = some (fTx l a vs) ∧ impl_FormatFact.f k l a vs = some (fTx l a vs) := by
 unfold spec_FormatFact.f impl_FormatFact.f fTx
 rw [vFS l hl a vs hs k (by omega), vFI l hl a vs, Option.bind_some, Option.bind_some]
 by_cases h : vFact l a vs = true
 ·have hv := h
  unfold vFact at hv
  rw [Bool.and_eq_true] at hv
  obtain ⟨h0, h1, h2, h3, h4, h5⟩ := key_ok l hv.1 a vs hv.2
  have hn := vRels_at l hv.1 a h0 h1
  have hsz : (rd_T42 l a).f0.size ≤ 1048576 := vRel_sz _ hn
  rw [if_pos h, if_pos h, if_pos h0, if_pos h1, if_pos h]
  have e1 := ffSl l a h0 h1 (rd_T42 l a).f2.toNat (by omega) vs h5 hb vs.length 0 (rd_T42 l a).f0 (by omega) (by omega) k (by omega)
  have e2 := ffIl l a h0 h1 (rd_T42 l a).f2.toNat (by omega) vs h5 (by omega) hsz hb vs.length 0 (by omega) k (by omega)
  rw [List.drop_zero, ffs_bar vs 0 _ _ (by omega), Nat.sub_zero] at e1
  exact ⟨e1, e2⟩
 ·rw [if_neg h, if_neg h, if_neg h]
  exact ⟨rfl, rfl⟩
def spj (b : ByteArray) : Nat → List ByteArray → ByteArray → ByteArray
 | _, [], s => s
 | i, x :: xs, s => spj b (i + 1) xs ((if 0 < i then s ++ b else s) ++ x)
theorem spj_tail (b : ByteArray) : ∀ (xs : List ByteArray) (i : Nat) (s : ByteArray), 0 < i → spj b i xs s = s ++ (⟨(Lib.joinTail b.data.toList (xs.map fun x => x.data.toList)).toArray⟩ : ByteArray)
 | [], i, s, _ => by
  rw [spj]
  apply ByteArray.ext; apply Array.ext'; simp [ByteArray.data_append, Lib.joinTail]
 | x :: xs, i, s, h => by
  rw [spj, if_pos h, spj_tail b xs (i + 1) _ (by omega)]
  apply ByteArray.ext; apply Array.ext'; simp [ByteArray.data_append, Lib.joinTail]
theorem spj_join (b : ByteArray) : ∀ (xs : List ByteArray), spj b 0 xs (⟨#[]⟩ : ByteArray) = (⟨(Shelf.jn_ xs b).toArray⟩ : ByteArray)
 | [] => by
  rw [spj]
  unfold Shelf.jn_
  rw [List.map_nil, Lib.join_nil]
 | x :: xs => by
  rw [spj, if_neg (by omega), spj_tail b xs 1 _ (by omega)]
  unfold Shelf.jn_
  rw [List.map_cons, Lib.join_cons]
  apply ByteArray.ext; apply Array.ext'; simp [ByteArray.data_append]
theorem spj_sz (b : ByteArray) (B : Nat) (hB : b.size ≤ 1) : ∀ (xs : List ByteArray) (i : Nat) (s : ByteArray), (∀ x ∈ xs, x.size ≤ B) → (spj b i xs s).size ≤ s.size + xs.length * (B + 1)
 | [], i, s, _ => by rw [spj]; simp
 | x :: xs, i, s, h => by
  have h1 := spj_sz b B hB xs (i + 1) ((if 0 < i then s ++ b else s) ++ x) fun y hy => h y (List.mem_cons_of_mem _ hy)
  have h2 := h x (List.mem_cons_self ..)
  rw [spj]
  have h3 : (if 0 < i then s ++ b else s).size ≤ s.size + 1 := by
   split
   ·rw [ByteArray.size_append]; omega
   ·omega
  rw [ByteArray.size_append] at h1
  rw [List.length_cons, Nat.succ_mul]
  omega
def fTxs (l : List S42) (ys : List S47) : List ByteArray := ys.map fun y => fTx l y.f0 y.f1
theorem faIl (l : List S42) (hl : l.length ≤ 1048576) (ys : List S47) (hn : ys.length ≤ 14) (hg : ∀ y ∈ ys, y.f1.length ≤ 1048576) (hb : ∀ y ∈ ys, ∀ v ∈ y.f1, -9223372036854775808 ≤ v ∧ v ≤ 9223372036854775807) (d : Nat) : ∀ (i : Nat), i + d = ys.length → ∀ k, 2000100 + d < k → impl_formatAll.l0 k (fTxs l (ys.take i)) ys ys.length i l ys = some (⟨(Shelf.jn_ (fTxs l ys) (⟨#[32]⟩ : ByteArray)).toArray⟩ : ByteArray) := by
 have hz : ∀ x ∈ fTxs l ys, x.size ≤ 1049576 := by
  intro x hx
  obtain ⟨y, hy, rfl⟩ := List.mem_map.1 hx
  exact fTx_sz l y.f0 y.f1 (hb y hy)
 have hq := spj_sz (⟨#[32]⟩ : ByteArray) 1049576 (by decide) (fTxs l ys) 0 (⟨#[]⟩ : ByteArray) hz
 have hlen : (fTxs l ys).length = ys.length := by unfold fTxs; simp
 rw [spj_join, sz_mk, hlen, show (⟨#[]⟩ : ByteArray).size = 0 from rfl] at hq
 have hq' : (Shelf.jn_ (fTxs l ys) (⟨#[32]⟩ : ByteArray)).length ≤ 1000000000 := by omega
 induction d with
 | zero =>
  intro i hd k hk
  obtain ⟨k, rfl, hk⟩ := fuel hk
  rw [impl_formatAll.l0, if_neg (by omega), List.take_of_length_le (by omega)]
  unfold strings_Join.f
  rw [if_pos ⟨by omega, hq'⟩, Option.bind_some]
 | succ d ih =>
  intro i hd k hk
  obtain ⟨k, rfl, hk⟩ := fuel hk
  have hm := getD_mem ys z47 i (by omega)
  rw [impl_formatAll.l0, if_pos (by omega), if_pos (by omega), if_pos (by omega)]
  unfold rd_T47
  rw [Int.toNat_natCast, (ffB2 l hl _ _ (hg _ hm) (hb _ hm) k (by omega)).2, Option.bind_some, if_pos (by unfold fTxs; rw [List.length_map, List.length_take]; omega), show wrap64 ((i : Int) + 1) = ((i + 1 : Nat) : Int) by rw [w64 (by omega) (by omega)]; omega]
  rw [show fTxs l (ys.take i) ++ [fTx l (ys.getD i z47).f0 (ys.getD i z47).f1] = fTxs l (ys.take (i + 1)) by unfold fTxs; rw [List.take_succ_eq_append_getElem (by omega), List.map_append, getD_lt ys _ i (by omega)]; rfl]
  exact ih (i + 1) (by omega) k (by omega)
theorem faI (l : List S42) (hl : l.length ≤ 1048576) (ys : List S47) (hn : ys.length ≤ 14) (hg : ∀ y ∈ ys, y.f1.length ≤ 1048576) (hb : ∀ y ∈ ys, ∀ v ∈ y.f1, -9223372036854775808 ≤ v ∧ v ≤ 9223372036854775807) (k : Nat) (hk : 2000200 < k) : impl_formatAll.f k l ys = some (⟨(Shelf.jn_ (fTxs l ys) (⟨#[32]⟩ : ByteArray)).toArray⟩ : ByteArray) := by
 unfold impl_formatAll.f
 exact faIl l hl ys hn hg hb ys.length 0 (by omega) k (by omega)
theorem ffsSl (l : List S42) (hl : l.length ≤ 1048576) (fs : List S47) (hf : fs.length ≤ 1048576) (hg : ∀ y ∈ fs, y.f1.length ≤ 1048576) (hb : ∀ y ∈ fs, ∀ v ∈ y.f1, -9223372036854775808 ≤ v ∧ v ≤ 9223372036854775807) (xs : List Int) (hx : xs.length ≤ 14) (hv : vDb l fs = true) (ha : asc xs fs.length = true) (d : Nat) : ∀ (i : Nat) (s : ByteArray), i + d = xs.length → s.size + 2000000 * d ≤ 1000000000 → ∀ k, 7000000 + 2 * d < k → spec_FormatFacts.l0 k xs s i l fs = some (spj (⟨#[32]⟩ : ByteArray) i ((fTxs l (sel fs xs)).drop i) s) := by
 have hlen : (fTxs l (sel fs xs)).length = xs.length := by unfold fTxs sel; simp
 induction d with
 | zero =>
  intro i s hd _ k hk
  obtain ⟨k, rfl, hk⟩ := fuel hk
  obtain ⟨k, rfl⟩ : ∃ z, k = z + 1 := ⟨k - 1, by omega⟩
  rw [spec_FormatFacts.l0, if_neg (by omega), spec_FormatFacts.j1, if_neg (by decide), List.drop_eq_nil_of_le (by omega), spj]
 | succ d ih =>
  intro i s hd hs k hk
  obtain ⟨k, rfl, hk⟩ := fuel hk
  obtain ⟨k, rfl⟩ : ∃ z, k = z + 1 := ⟨k - 1, by omega⟩
  have hi := (asc_at xs fs.length ha i (by omega)).1
  have hm := getD_mem fs z47 (xs.getD i 0).toNat (by omega)
  have hz := fTx_sz l (fs.getD (xs.getD i 0).toNat z47).f0 (fs.getD (xs.getD i 0).toNat z47).f1 (hb _ hm)
  have l1 : (⟨#[32]⟩ : ByteArray).size = 1 := rfl
  have he : (fTxs l (sel fs xs)).drop i = fTx l (fs.getD (xs.getD i 0).toNat z47).f0 (fs.getD (xs.getD i 0).toNat z47).f1 :: (fTxs l (sel fs xs)).drop (i + 1) := by
   rw [List.drop_eq_getElem_cons (by omega)]
   congr 1
   unfold fTxs sel
   rw [List.getElem_map, List.getElem_map, getD_lt xs 0 i (by omega)]
  rw [spec_FormatFacts.l0, if_pos (by omega), vDS l hl fs hf hg _ (by omega), Option.bind_some, if_pos hv, ascS l fs hf xs (by omega) _ (by omega), Option.bind_some, ha, spec_FormatFacts.j1, if_pos rfl, he, spj, rdD, show wrap64 ((i : Int) + 1) = ((i + 1 : Nat) : Int) by rw [w64 (by omega) (by omega)]; omega]
  unfold rd_T47
  rw [(ffB2 l hl _ _ (hg _ hm) (hb _ hm) k (by omega)).1]
  simp only [Option.bind_some]
  by_cases h0 : i = 0
  ·rw [if_neg (by omega), if_pos (by omega), if_pos (by omega), if_pos (by omega), if_pos (by omega), if_pos (by omega), if_neg (by omega)]
   exact ih (i + 1) _ (by omega) (by rw [ByteArray.size_append]; omega) k (by omega)
  ·rw [if_pos (by omega), if_pos (by omega), if_pos (by omega), if_pos (by omega), if_pos (by omega), if_pos (by omega), if_pos (by rw [ByteArray.size_append]; omega), if_pos (by omega)]
   exact ih (i + 1) _ (by omega) (by rw [ByteArray.size_append, ByteArray.size_append]; omega) k (by omega)
theorem vDb_14 (l : List S42) (fs : List S47) (h : vDb l fs = true) : fs.length ≤ 14 := by
 unfold vDb at h
 rw [Bool.and_eq_true, Bool.and_eq_true] at h
 exact of_decide_eq_true h.1.2
def rTx (r : S42) : ByteArray := if vRel r = true then ((r.f0 ++ numB r.f2) ++ (⟨#[47]⟩ : ByteArray)) ++ numB r.f1 else (⟨#[]⟩ : ByteArray)
def okN (v : Int) : Prop := -9223372036854775808 ≤ v ∧ v ≤ 9223372036854775807
theorem rTx_sz (r : S42) (h1 : okN r.f1) (h2 : okN r.f2) : (rTx r).size ≤ 50 := by
 unfold rTx
 by_cases h : vRel r = true
 ·have hs := h
  unfold vRel at hs
  rw [Bool.and_eq_true, Bool.and_eq_true, decide_eq_true_iff] at hs
  have := hs.1.1.1
  have l1 : (⟨#[47]⟩ : ByteArray).size = 1 := rfl
  have a := numB_sz r.f1 h1.1 h1.2
  have b := numB_sz r.f2 h2.1 h2.2
  rw [if_pos h, ByteArray.size_append, ByteArray.size_append, ByteArray.size_append]
  omega
 ·rw [if_neg h]
  exact Nat.zero_le _
theorem frB2 (r : S42) (h1 : okN r.f1) (h2 : okN r.f2) (k : Nat) (hk : 30 < k) : spec_FormatRelation.f k r.f0 r.f1 r.f2 = some (rTx r) ∧ impl_FormatRelation.f r.f0 r.f1 r.f2 = some (rTx r) := by
 unfold spec_FormatRelation.f impl_FormatRelation.f rTx
 rw [vRelS, vRelI, Option.bind_some, Option.bind_some]
 by_cases h : vRel r = true
 ·have hs := h
  unfold vRel at hs
  rw [Bool.and_eq_true, Bool.and_eq_true, decide_eq_true_iff] at hs
  have := hs.1.1.1
  have l1 : (⟨#[47]⟩ : ByteArray).size = 1 := rfl
  have a := numB_sz r.f1 h1.1 h1.2
  have b := numB_sz r.f2 h2.1 h2.2
  have e1 : spec_FormatInt.f k r.f2 = some (numB r.f2) := fiS _ h2.1 h2.2 k (by omega)
  have e2 : spec_FormatInt.f k r.f1 = some (numB r.f1) := fiS _ h1.1 h1.2 k (by omega)
  have e3 : impl_FormatInt.f r.f2 = some (numB r.f2) := fiI _ h2.1 h2.2
  have e4 : impl_FormatInt.f r.f1 = some (numB r.f1) := fiI _ h1.1 h1.2
  rw [if_pos h, if_pos h, if_pos h, e1, e2, e3, e4]
  simp only [Option.bind_some]
  rw [if_pos (by omega), if_pos (by rw [ByteArray.size_append]; omega), if_pos (by rw [ByteArray.size_append, ByteArray.size_append]; omega)]
  exact ⟨rfl, rfl⟩
 ·rw [if_neg h, if_neg h, if_neg h]
  exact ⟨rfl, rfl⟩
def rng (n : Nat) : List Int := (List.range n).map fun (i : Nat) => (i : Int)
theorem rng_len (n : Nat) : (rng n).length = n := by unfold rng; simp
theorem rng_at (n j : Nat) (h : j < n) : (rng n).getD j 0 = (j : Int) := by
 rw [getD_lt _ _ j (by rw [rng_len]; exact h)]
 unfold rng
 rw [List.getElem_map, List.getElem_range]
theorem rng_asc (n : Nat) : asc (rng n) n = true := by
 have go : ∀ (d i : Nat), i + d = n → ascFrom (rng n) n d i = true := by
  intro d
  induction d with
  | zero => intro i _; rfl
  | succ d ih =>
   intro i hd
   rw [ascFrom, ih (i + 1) (by omega), rng_at n i (by omega), Bool.and_true, Bool.and_eq_true, Bool.or_eq_true, decide_eq_true_iff, decide_eq_true_iff, decide_eq_true_iff]
   refine ⟨by omega, ?_⟩
   by_cases h : i = 0
   ·exact .inl h
   ·right
    rw [rng_at n (i - 1) (by omega)]
    omega
 have := go n 0 (by omega)
 unfold asc
 rw [rng_len]
 exact this
theorem rng_sel (fs : List S47) : sel fs (rng fs.length) = fs := by
 apply List.ext_getElem
 ·rw [sel_len, rng_len]
 ·intro i h1 h2
  simp only [sel, rng, List.getElem_map, List.getElem_range, Int.toNat_natCast]
  exact getD_lt fs _ i h2
theorem rng_succ (n : Nat) : rng n ++ [(n : Int)] = rng (n + 1) := by
 unfold rng
 rw [List.range_succ, List.map_append]
 rfl
theorem l6l (l : List S42) (fs : List S47) (hf : fs.length ≤ 1048576) (d : Nat) : ∀ (i : Nat), i + d = fs.length → ∀ k, d < k → spec_l6All.l0 k (rng i) l fs = some (rng fs.length) := by
 induction d with
 | zero =>
  intro i hd k hk
  obtain ⟨k, rfl, hk⟩ := fuel hk
  rw [spec_l6All.l0, rng_len, if_neg (by omega), show i = fs.length by omega]
 | succ d ih =>
  intro i hd k hk
  obtain ⟨k, rfl, hk⟩ := fuel hk
  rw [spec_l6All.l0, rng_len, if_pos (by omega), if_pos (by omega), rng_succ]
  exact ih (i + 1) (by omega) k (by omega)
theorem l6 (l : List S42) (fs : List S47) (hf : fs.length ≤ 1048576) (k : Nat) (hk : fs.length < k) : spec_l6All.f k l fs = some (rng fs.length) := by
 unfold spec_l6All.f
 exact l6l l fs hf fs.length 0 (by omega) k hk
def rTxs (l : List S42) : List ByteArray := l.map rTx
def dTx (l : List S42) (fs : List S47) : ByteArray := (spj (⟨#[32]⟩ : ByteArray) 0 (rTxs l) (⟨#[]⟩ : ByteArray) ++ (⟨#[58]⟩ : ByteArray)) ++ spj (⟨#[32]⟩ : ByteArray) 0 (fTxs l fs) (⟨#[]⟩ : ByteArray)
theorem fdSl (l : List S42) (hl : l.length ≤ 1048576) (hr : ∀ y ∈ l, okN y.f1 ∧ okN y.f2) (fs : List S47) (hf : fs.length ≤ 1048576) (hg : ∀ y ∈ fs, y.f1.length ≤ 1048576) (hb : ∀ y ∈ fs, ∀ v ∈ y.f1, -9223372036854775808 ≤ v ∧ v ≤ 9223372036854775807) (hv : vDb l fs = true) (d : Nat) : ∀ (i : Nat) (s : ByteArray), i + d = l.length → s.size + 60 * d ≤ 1000000000 → ∀ k, 8000000 + d < k → spec_FormatDatabase.l0 k s i l fs = some ((spj (⟨#[32]⟩ : ByteArray) i ((rTxs l).drop i) s ++ (⟨#[58]⟩ : ByteArray)) ++ spj (⟨#[32]⟩ : ByteArray) 0 (fTxs l fs) (⟨#[]⟩ : ByteArray)) := by
 have hlen : (rTxs l).length = l.length := by unfold rTxs; simp
 have h14 := vDb_14 l fs hv
 have hz : ∀ x ∈ fTxs l fs, x.size ≤ 1049576 := by
  intro x hx
  obtain ⟨y, hy, rfl⟩ := List.mem_map.1 hx
  exact fTx_sz l y.f0 y.f1 (hb y hy)
 have hq := spj_sz (⟨#[32]⟩ : ByteArray) 1049576 (by decide) (fTxs l fs) 0 (⟨#[]⟩ : ByteArray) hz
 have hlf : (fTxs l fs).length = fs.length := by unfold fTxs; simp
 rw [hlf, show (⟨#[]⟩ : ByteArray).size = 0 from rfl] at hq
 have l1 : (⟨#[58]⟩ : ByteArray).size = 1 := rfl
 have l2 : (⟨#[32]⟩ : ByteArray).size = 1 := rfl
 induction d with
 | zero =>
  intro i s hd hs k hk
  obtain ⟨k, rfl, hk⟩ := fuel hk
  have e1 := ffsSl l hl fs hf hg hb (rng fs.length) (by rw [rng_len]; exact h14) hv (rng_asc _) (rng fs.length).length 0 (⟨#[]⟩ : ByteArray) (by omega) (by rw [rng_len, show (⟨#[]⟩ : ByteArray).size = 0 from rfl]; omega) k (by rw [rng_len]; omega)
  rw [rng_sel, List.drop_zero] at e1
  rw [spec_FormatDatabase.l0, if_neg (by omega), if_pos (by omega), l6 l fs hf k (by omega), Option.bind_some, show spec_FormatFacts.f k l fs (rng fs.length) = _ from e1, Option.bind_some, if_pos (by rw [ByteArray.size_append]; omega), List.drop_eq_nil_of_le (by omega), spj]
 | succ d ih =>
  intro i s hd hs k hk
  obtain ⟨k, rfl, hk⟩ := fuel hk
  have hm := getD_mem l z42 i (by omega)
  have hz := rTx_sz _ (hr _ hm).1 (hr _ hm).2
  have he : (rTxs l).drop i = rTx (l.getD i z42) :: (rTxs l).drop (i + 1) := by
   rw [List.drop_eq_getElem_cons (by omega)]
   congr 1
   unfold rTxs
   rw [List.getElem_map, getD_lt l _ i (by omega)]
  rw [spec_FormatDatabase.l0, if_pos (by omega), he, spj, show wrap64 ((i : Int) + 1) = ((i + 1 : Nat) : Int) by rw [w64 (by omega) (by omega)]; omega]
  unfold rd_T42
  rw [Int.toNat_natCast, (frB2 _ (hr _ hm).1 (hr _ hm).2 k (by omega)).1]
  simp only [Option.bind_some]
  by_cases h0 : i = 0
  ·rw [if_neg (by omega), if_pos (by omega), if_pos (by omega), if_neg (by omega)]
   exact ih (i + 1) _ (by omega) (by rw [ByteArray.size_append]; omega) k (by omega)
  ·rw [if_pos (by omega), if_pos (by omega), if_pos (by omega), if_pos (by rw [ByteArray.size_append]; omega), if_pos (by omega)]
   exact ih (i + 1) _ (by omega) (by rw [ByteArray.size_append, ByteArray.size_append]; omega) k (by omega)
theorem fdIl (l : List S42) (hl : l.length ≤ 1048576) (hr : ∀ y ∈ l, okN y.f1 ∧ okN y.f2) (fs : List S47) (hf : fs.length ≤ 1048576) (hg : ∀ y ∈ fs, y.f1.length ≤ 1048576) (hb : ∀ y ∈ fs, ∀ v ∈ y.f1, -9223372036854775808 ≤ v ∧ v ≤ 9223372036854775807) (hv : vDb l fs = true) (d : Nat) : ∀ (i : Nat), i + d = l.length → ∀ k, 8000000 + d < k → impl_FormatDatabase.l0 k (rTxs (l.take i)) l l.length i l fs = some (dTx l fs) := by
 have hlen : (rTxs l).length = l.length := by unfold rTxs; simp
 have h14 := vDb_14 l fs hv
 have hz : ∀ x ∈ fTxs l fs, x.size ≤ 1049576 := by
  intro x hx
  obtain ⟨y, hy, rfl⟩ := List.mem_map.1 hx
  exact fTx_sz l y.f0 y.f1 (hb y hy)
 have hzr : ∀ x ∈ rTxs l, x.size ≤ 50 := by
  intro x hx
  obtain ⟨y, hy, rfl⟩ := List.mem_map.1 hx
  exact rTx_sz y (hr y hy).1 (hr y hy).2
 have hq := spj_sz (⟨#[32]⟩ : ByteArray) 1049576 (by decide) (fTxs l fs) 0 (⟨#[]⟩ : ByteArray) hz
 have hqr := spj_sz (⟨#[32]⟩ : ByteArray) 50 (by decide) (rTxs l) 0 (⟨#[]⟩ : ByteArray) hzr
 have hlf : (fTxs l fs).length = fs.length := by unfold fTxs; simp
 rw [hlf, show (⟨#[]⟩ : ByteArray).size = 0 from rfl] at hq
 rw [hlen, show (⟨#[]⟩ : ByteArray).size = 0 from rfl] at hqr
 have l1 : (⟨#[58]⟩ : ByteArray).size = 1 := rfl
 have hjr : (Shelf.jn_ (rTxs l) (⟨#[32]⟩ : ByteArray)).length ≤ 1000000000 := by
  rw [spj_join, sz_mk] at hqr
  omega
 induction d with
 | zero =>
  intro i hd k hk
  obtain ⟨k, rfl, hk⟩ := fuel hk
  rw [impl_FormatDatabase.l0, if_neg (by omega), List.take_of_length_le (by omega)]
  unfold strings_Join.f
  rw [if_pos ⟨by omega, hjr⟩, Option.bind_some, faI l hl fs h14 hg hb k (by omega), ← spj_join, ← spj_join, Option.bind_some, if_pos (by omega), if_pos (by rw [ByteArray.size_append]; omega)]
  rfl
 | succ d ih =>
  intro i hd k hk
  obtain ⟨k, rfl, hk⟩ := fuel hk
  have hm := getD_mem l z42 i (by omega)
  rw [impl_FormatDatabase.l0, if_pos (by omega), if_pos (by omega), if_pos (by omega)]
  unfold rd_T42
  rw [Int.toNat_natCast, (frB2 _ (hr _ hm).1 (hr _ hm).2 31 (by omega)).2, Option.bind_some, if_pos (by unfold rTxs; rw [List.length_map, List.length_take]; omega), show wrap64 ((i : Int) + 1) = ((i + 1 : Nat) : Int) by rw [w64 (by omega) (by omega)]; omega]
  rw [show rTxs (l.take i) ++ [rTx (l.getD i z42)] = rTxs (l.take (i + 1)) by unfold rTxs; rw [List.take_succ_eq_append_getElem (by omega), List.map_append, getD_lt l _ i (by omega)]; rfl]
  exact ih (i + 1) (by omega) k (by omega)
theorem relIdxSl (l : List S42) (nm : ByteArray) (hl : l.length ≤ 1048576) (d : Nat) : ∀ (i : Nat), i + d = l.length → ∀ k, d < k → spec_RelationIndex.l0 k l nm i = some (idxW (nameIs nm) (l.drop i) i) := by
 induction d with
 | zero =>
  intro i hd k hk
  obtain ⟨k, rfl, hk⟩ := fuel hk
  rw [spec_RelationIndex.l0, if_neg (by omega), List.drop_of_length_le (by omega)]
  rfl
 | succ d ih =>
  intro i hd k hk
  obtain ⟨k, rfl, hk⟩ := fuel hk
  have e1 : wrap64 ((i : Int) + 1) = ((i + 1 : Nat) : Int) := by rw [w64 (by omega) (by omega)]; omega
  have e2 : rd_T42 l (i : Int) = l[i] := by unfold rd_T42; rw [Int.toNat_natCast, getD_lt l _ i (by omega)]
  rw [spec_RelationIndex.l0, if_pos (by omega), if_pos (by omega), e2, e1, List.drop_eq_getElem_cons (by omega)]
  simp only [idxW, nameIs, beq_iff_eq]
  by_cases h : l[i].f0.toList = nm.toList
  ·rw [if_pos h, if_pos h]
  ·rw [if_neg h, if_neg h, ih (i + 1) (by omega) k (by omega)]
   rfl
theorem relIdxS (l : List S42) (nm : ByteArray) (hl : l.length ≤ 1048576) (k : Nat) (hk : l.length < k) : spec_RelationIndex.f k l nm = some (idxW (nameIs nm) l 0) :=
 relIdxSl l nm hl l.length 0 (by omega) k hk
theorem numB_dig (d : Nat) (h : d < 10) : numB (d : Int) = (⟨#[UInt8.ofNat (48 + d)]⟩ : ByteArray) := by
 unfold numB Lib.itoa
 rw [if_neg (by omega), Int.toNat_natCast, Lib.decDigits, dif_pos h]
theorem one_byte (s : ByteArray) (h : s.size = 1) : ∃ c, s = (⟨#[c]⟩ : ByteArray) := by
 obtain ⟨⟨l⟩⟩ := s
 have h' : l.length = 1 := h
 match l, h' with
 | [c], _ => exact ⟨c, rfl⟩
theorem vRel_shape (r : S42) (h : vRel r = true) : ∃ (c : UInt8) (d1 d2 : Nat), d1 < 10 ∧ d2 < 10 ∧ r = (⟨(⟨#[c]⟩ : ByteArray), (d1 : Int), (d2 : Int)⟩ : S42) := by
 unfold vRel at h
 rw [Bool.and_eq_true, Bool.and_eq_true, decide_eq_true_iff] at h
 unfold inB at h
 rw [decide_eq_true_iff, decide_eq_true_iff] at h
 obtain ⟨n, a, b⟩ := r
 dsimp only at h
 obtain ⟨⟨⟨h0, _⟩, h1⟩, h2⟩ := h
 obtain ⟨c, rfl⟩ := one_byte n (by omega)
 refine ⟨c, a.toNat, b.toNat, by omega, by omega, ?_⟩
 rw [Int.toNat_of_nonneg (by omega), Int.toNat_of_nonneg (by omega)]
def digs : List UInt8 → List Int
 | [] => []
 | b :: r => if b.toNat = 124 then digs r else wrap64 ((wrap64 ((b.toNat : Nat) : Int)) - 48) :: digs r
theorem digs_len : ∀ a : List UInt8, (digs a).length ≤ a.length
 | [] => Nat.le_refl _
 | x :: a => by
  have := digs_len a
  rw [digs]
  split
  ·simp only [List.length_cons]; omega
  ·simp only [List.length_cons]; omega
theorem wb (x : Int) : -9223372036854775808 ≤ wrap64 x ∧ wrap64 x ≤ 9223372036854775807 := by unfold wrap64; omega
theorem digs_b : ∀ a : List UInt8, ∀ v ∈ digs a, -9223372036854775808 ≤ v ∧ v ≤ 9223372036854775807
 | [], v, h => by cases h
 | x :: a, v, h => by
  rw [digs] at h
  split at h
  ·exact digs_b a v h
  ·rcases List.mem_cons.1 h with rfl | h
   ·exact wb _
   ·exact digs_b a v h
theorem bt_tl (s : ByteArray) (i : Nat) (h : i < s.size) : ∃ b, s.toList.drop i = b :: s.toList.drop (i + 1) ∧ bt s i = ((b.toNat : Nat) : Int) := by
 have h' : i < s.toList.length := by rw [tl_eq, Array.length_toList]; exact h
 refine ⟨s.toList[i], List.drop_eq_getElem_cons h', ?_⟩
 unfold bt
 rw [Int.toNat_natCast, dif_pos h]
 have : s[i] = s.toList[i] := by
  simp only [tl_eq]
  rfl
 rw [this]
def pFx (l : List S42) (t : ByteArray) : Int × List Int × Bool :=
 if t.toList = ([] : List UInt8) then (0, [], false)
 else if fTx l (idxW (nameIs (t.extract 0 1)) l 0) (digs (t.toList.drop 1)) = t then (idxW (nameIs (t.extract 0 1)) l 0, digs (t.toList.drop 1), true) else (0, [], false)
theorem pfSl (l : List S42) (hl : l.length ≤ 1048576) (t : ByteArray) (ht : t.size ≤ 1048576) (a : Int) (d : Nat) : ∀ (i : Nat) (vs : List Int), i + d = t.size → vs.length ≤ i → (∀ v ∈ vs, -9223372036854775808 ≤ v ∧ v ≤ 9223372036854775807) → ∀ k, 2000100 + d < k → spec_ParseFact.l0 k l t i a vs = some (if fTx l a (vs ++ digs (t.toList.drop i)) = t then (a, vs ++ digs (t.toList.drop i), true) else (0, [], false)) ∧ impl_ParseFact.l0 k l t i a vs = some (if fTx l a (vs ++ digs (t.toList.drop i)) = t then (a, vs ++ digs (t.toList.drop i), true) else (0, [], false)) := by
 have hlen : t.toList.length = t.size := by rw [tl_eq, Array.length_toList]; rfl
 induction d with
 | zero =>
  intro i vs hd hv hb k hk
  obtain ⟨k, rfl, hk⟩ := fuel hk
  obtain ⟨f1, f2⟩ := ffB2 l hl a vs (by omega) hb k (by omega)
  rw [List.drop_eq_nil_of_le (by omega), digs, List.append_nil]
  refine ⟨?_, ?_⟩
  ·rw [spec_ParseFact.l0, if_neg (by omega), f1, Option.bind_some]
   by_cases c : fTx l a vs = t
   ·rw [if_pos c, if_pos (tl_inj.2 c)]
   ·rw [if_neg c, if_neg (fun g => c (tl_inj.1 g))]
  ·rw [impl_ParseFact.l0, if_neg (by omega), f2, Option.bind_some]
   by_cases c : fTx l a vs = t
   ·rw [if_pos c, if_pos (tl_inj.2 c)]
   ·rw [if_neg c, if_neg (fun g => c (tl_inj.1 g))]
 | succ d ih =>
  intro i vs hd hv hb k hk
  obtain ⟨k, rfl, hk⟩ := fuel hk
  obtain ⟨b, hb1, hb2⟩ := bt_tl t i (by omega)
  have e1 : wrap64 ((i : Int) + 1) = ((i + 1 : Nat) : Int) := by rw [w64 (by omega) (by omega)]; omega
  have hn : ∀ v ∈ vs ++ [wrap64 ((wrap64 ((b.toNat : Nat) : Int)) - 48)], -9223372036854775808 ≤ v ∧ v ≤ 9223372036854775807 := fun v h => by
   rcases List.mem_append.1 h with h | h
   ·exact hb v h
   ·rw [List.mem_singleton] at h
    subst h
    exact wb _
  rw [hb1, digs]
  by_cases c : b.toNat = 124
  ·have st := ih (i + 1) vs (by omega) (by omega) hb k (by omega)
   rw [if_pos c]
   refine ⟨?_, ?_⟩
   ·rw [spec_ParseFact.l0, if_pos (by omega), if_pos (by omega), hb2, e1, if_pos (by omega)]
    exact st.1
   ·rw [impl_ParseFact.l0, if_pos (by omega), if_pos (by omega), hb2, e1, if_pos (by omega)]
    exact st.2
  ·have st := ih (i + 1) (vs ++ [wrap64 ((wrap64 ((b.toNat : Nat) : Int)) - 48)]) (by omega) (by simp only [List.length_append, List.length_singleton]; omega) hn k (by omega)
   rw [List.append_assoc, List.singleton_append] at st
   rw [if_neg c]
   refine ⟨?_, ?_⟩
   ·rw [spec_ParseFact.l0, if_pos (by omega), if_pos (by omega), hb2, e1, if_neg (by omega), if_pos (by omega)]
    exact st.1
   ·rw [impl_ParseFact.l0, if_pos (by omega), if_pos (by omega), hb2, e1, if_neg (by omega), if_pos (by omega)]
    exact st.2
theorem pfB (l : List S42) (hl : l.length ≤ 1048576) (t : ByteArray) (ht : t.size ≤ 1048576) (k : Nat) (hk : 4000000 < k) : spec_ParseFact.f k l t = some (pFx l t) ∧ impl_ParseFact.f k l t = some (pFx l t) := by
 unfold spec_ParseFact.f impl_ParseFact.f pFx
 by_cases c : t.toList = ([] : List UInt8)
 ·rw [if_pos c, if_pos c, if_pos c]
  exact ⟨rfl, rfl⟩
 ·have hs : 0 < t.size := by
   rcases Nat.eq_zero_or_pos t.size with h | h
   ·exfalso
    apply c
    apply List.eq_nil_of_length_eq_zero
    rw [tl_eq, Array.length_toList]
    exact h
   ·exact h
  obtain ⟨p1, p2⟩ := pfSl l hl t ht (idxW (nameIs (t.extract 0 1)) l 0) (t.size - 1) 1 [] (by omega) (by simp) (fun v h => by cases h) k (by omega)
  rw [List.nil_append] at p1 p2
  rw [if_neg c, if_neg c, if_neg c]
  refine ⟨?_, ?_⟩
  ·rw [if_pos (show (0 : Nat) ≤ 1 by decide), if_pos (show (1 : Int) ≤ (t.size : Int) by omega), relIdxS l (t.extract 0 1) hl k (by omega), Option.bind_some]
   exact p1
  ·unfold impl_RelationIndex.f
   rw [if_pos (show (0 : Nat) ≤ 1 by decide), if_pos (show (1 : Int) ≤ (t.size : Int) by omega), Option.bind_some]
   exact p2
theorem val_b (l : List S42) (a : Int) (vs : List Int) (h : fits l a vs = true) : ∀ v ∈ vs, 0 ≤ v ∧ v ≤ 9 := by
 intro v hv
 have hn := ((fits_iff l a vs).1 h).2
 rw [List.any_eq_false] at hn
 have hz := hn v hv
 unfold noVal at hz
 have h3 : (decide (0 ≤ v) && decide (v ≤ 9)) = true := by
  cases hq : (decide (0 ≤ v) && decide (v ≤ 9)) with
  | true => rfl
  | false => exact absurd (by rw [hq]; rfl) hz
 rw [Bool.and_eq_true, decide_eq_true_iff, decide_eq_true_iff] at h3
 exact h3
theorem pFx_b (l : List S42) (t : ByteArray) : (∀ v ∈ (pFx l t).2.1, -9223372036854775808 ≤ v ∧ v ≤ 9223372036854775807) ∧ (pFx l t).2.1.length ≤ t.size := by
 have hlen : t.toList.length = t.size := by rw [tl_eq, Array.length_toList]; rfl
 unfold pFx
 split
 ·exact ⟨fun v h => (by cases h), Nat.zero_le _⟩
 ·split
  ·refine ⟨digs_b _, ?_⟩
   have := digs_len (t.toList.drop 1)
   rw [List.length_drop] at this
   show (digs (t.toList.drop 1)).length ≤ t.size
   omega
  ·exact ⟨fun v h => (by cases h), Nat.zero_le _⟩
theorem okFrom_at (l : List S42) (fs : List S47) : ∀ (d i : Nat), okFrom l fs d i = true → ∀ j, i ≤ j → j < i + d → fits l (fs.getD j z47).f0 (fs.getD j z47).f1 = true ∧ (j = 0 ∨ cmpF (fs.getD (j - 1) z47).f0 (fs.getD (j - 1) z47).f1 (fs.getD j z47).f0 (fs.getD j z47).f1 < 0)
 | 0, i, _, j, h1, h2 => by omega
 | d + 1, i, h, j, h1, h2 => by
  rw [okFrom, Bool.and_eq_true, Bool.and_eq_true, Bool.or_eq_true, decide_eq_true_iff, decide_eq_true_iff] at h
  by_cases hj : j = i
  ·subst hj
   exact h.1
  ·exact okFrom_at l fs d (i + 1) h.2 j (by omega) (by omega)
theorem vDb_parts (l : List S42) (fs : List S47) (h : vDb l fs = true) : vRels l = true ∧ fs.length ≤ 14 ∧ (∀ j, j < fs.length → fits l (fs.getD j z47).f0 (fs.getD j z47).f1 = true) ∧ ∀ j, 0 < j → j < fs.length → cmpF (fs.getD (j - 1) z47).f0 (fs.getD (j - 1) z47).f1 (fs.getD j z47).f0 (fs.getD j z47).f1 < 0 := by
 unfold vDb at h
 rw [Bool.and_eq_true, Bool.and_eq_true, decide_eq_true_iff] at h
 refine ⟨h.1.1, h.1.2, fun j hj => (okFrom_at l fs _ 0 h.2 j (by omega) (by omega)).1, fun j h0 hj => ?_⟩
 rcases (okFrom_at l fs _ 0 h.2 j (by omega) (by omega)).2 with e | e
 ·omega
 ·exact e
def cutL (c : UInt8) : List UInt8 → List (List UInt8)
 | [] => [[]]
 | b :: l => if b = c then [] :: cutL c l else (b :: (cutL c l).headD []) :: (cutL c l).tail
theorem cutL_cons (c : UInt8) : ∀ l, ∃ x xs, cutL c l = x :: xs
 | [] => ⟨_, _, rfl⟩
 | b :: l => by
  rw [cutL]
  split
  ·exact ⟨_, _, rfl⟩
  ·exact ⟨_, _, rfl⟩
theorem cutL_hit (c : UInt8) (l : List UInt8) : cutL c (c :: l) = [] :: cutL c l := by rw [cutL, if_pos rfl]
theorem cutL_miss {c b : UInt8} (h : b ≠ c) {l x : List UInt8} {xs : List (List UInt8)} (e : cutL c l = x :: xs) : cutL c (b :: l) = (b :: x) :: xs := by rw [cutL, if_neg h, e]; rfl
theorem cutL_free {c : UInt8} : ∀ {l : List UInt8}, (∀ b ∈ l, b ≠ c) → cutL c l = [l]
 | [], _ => rfl
 | b :: l, h => cutL_miss (h b (List.mem_cons_self ..)) (cutL_free fun z hz => h z (List.mem_cons_of_mem _ hz))
theorem cutL_app {c : UInt8} (r : List UInt8) : ∀ {l : List UInt8}, (∀ b ∈ l, b ≠ c) → cutL c (l ++ c :: r) = l :: cutL c r
 | [], _ => cutL_hit c r
 | b :: l, h => cutL_miss (h b (List.mem_cons_self ..)) (cutL_app r fun z hz => h z (List.mem_cons_of_mem _ hz))
def glue (c : UInt8) : List (List UInt8) → List UInt8
 | [] => []
 | [x] => x
 | x :: y :: r => x ++ c :: glue c (y :: r)
theorem glue_cons (c b : UInt8) (x : List UInt8) : ∀ xs, glue c ((b :: x) :: xs) = b :: glue c (x :: xs)
 | [] => rfl
 | y :: r => rfl
theorem glue_cutL (c : UInt8) : ∀ l, glue c (cutL c l) = l
 | [] => rfl
 | b :: l => by
  obtain ⟨x, xs, e⟩ := cutL_cons c l
  have ih := glue_cutL c l
  by_cases h : b = c
  ·subst h
   rw [cutL_hit, e, glue, ← e, ih]
   rfl
  ·rw [cutL_miss h e, glue_cons, ← e, ih]
theorem cutL_len (c : UInt8) : ∀ l, (cutL c l).length = l.count c + 1
 | [] => rfl
 | b :: l => by
  have ih := cutL_len c l
  by_cases h : b = c
  ·subst h
   rw [cutL_hit, List.length_cons, ih, List.count_cons_self]
  ·obtain ⟨x, xs, e⟩ := cutL_cons c l
   rw [e, List.length_cons] at ih
   rw [cutL_miss h e, List.length_cons, ih, List.count_cons_of_ne (by simpa using h)]
theorem ix_hit (c : UInt8) (l : List UInt8) : Lib.index (c :: l) [c] = ((0 : Nat) : Int) := by rw [Lib.index]; simp [List.isPrefixOf]
theorem ix_miss {c b : UInt8} (h : b ≠ c) (l : List UInt8) : Lib.index (b :: l) [c] = if Lib.index l [c] == -1 then -1 else Lib.index l [c] + 1 := by
 have hp : ([c] : List UInt8).isPrefixOf (b :: l) = false := by simp [List.isPrefixOf, Ne.symm h]
 rw [Lib.index, hp]
 simp
theorem splitK_cutL (c : UInt8) : ∀ l, Lib.splitK [c] 0 (Lib.count l [c]) l = cutL c l
 | [] => by rw [Lib.count_miss (by rfl)]; rfl
 | b :: l => by
  have ih := splitK_cutL c l
  by_cases h : b = c
  ·subst h
   rw [Lib.count_cons_eq, Nat.add_comm, Lib.splitK, ix_hit, if_neg (by simp), cutL_hit, ← ih]
   simp
  ·obtain ⟨x, xs, e⟩ := cutL_cons c l
   rw [Lib.count_cons_ne b c l h, cutL_miss h e]
   rw [e] at ih
   by_cases hm : Lib.index l [c] = -1
   ·have hc := Lib.count_miss hm
    rw [hc] at ih ⊢
    rw [Lib.splitK] at ih ⊢
    cases ih
    rfl
   ·have hge := Lib.index_ge l [c]
    obtain ⟨j, hj⟩ : ∃ j : Nat, Lib.index l [c] = j := ⟨(Lib.index l [c]).toNat, by omega⟩
    have hix : Lib.index (b :: l) [c] = ((j + 1 : Nat) : Int) := by rw [ix_miss h, if_neg (fun e => hm (beq_iff_eq.1 e)), hj]; omega
    have hc := Lib.count_hit (by simp) hj
    obtain ⟨n, hn⟩ : ∃ n, Lib.count l [c] = n + 1 := ⟨_, by rw [hc, Nat.add_comm]⟩
    rw [hn] at ih ⊢
    rw [Lib.splitK, if_neg (fun e => hm (beq_iff_eq.1 e)), hj] at ih
    rw [Lib.splitK, hix, if_neg (by rw [beq_iff_eq]; omega)]
    simp only [Int.toNat_natCast, Nat.add_zero, List.length_singleton, List.take_succ_cons, List.drop_succ_cons] at ih ⊢
    cases ih
    rfl
theorem cut_cutL (c : UInt8) : ∀ (l x : List UInt8) (xs : List (List UInt8)), cutL c l = x :: xs →
  (Lib.cut l [c]).1 = x ∧ ((Lib.cut l [c]).2.2 = true ↔ xs ≠ []) ∧ (xs ≠ [] → cutL c (Lib.cut l [c]).2.1 = xs)
 | [], x, xs, e => by
  rw [cutL] at e
  cases e
  exact ⟨rfl, by simp [Lib.cut, Lib.index], fun h => absurd rfl h⟩
 | b :: l, x, xs, e => by
  by_cases h : b = c
  ·subst h
   rw [cutL_hit] at e
   cases e
   obtain ⟨y, ys, e⟩ := cutL_cons b l
   unfold Lib.cut
   rw [ix_hit, if_pos (by omega), e]
   refine ⟨rfl, by simp, fun _ => ?_⟩
   rw [← e]
   rfl
  ·obtain ⟨y, ys, e'⟩ := cutL_cons c l
   rw [cutL_miss h e'] at e
   cases e
   obtain ⟨i1, i2, i3⟩ := cut_cutL c l y xs e'
   unfold Lib.cut at i1 i2 i3 ⊢
   rw [ix_miss h]
   by_cases hm : Lib.index l [c] = -1
   ·rw [hm] at i1 i2 i3 ⊢
    rw [if_neg (by omega)] at i1 i2 i3
    rw [show (if ((-1 : Int) == -1) = true then (-1 : Int) else -1 + 1) = -1 from rfl, if_neg (by omega)]
    dsimp only at i1 i2 i3 ⊢
    exact ⟨by rw [i1], i2, i3⟩
   ·have hge := Lib.index_ge l [c]
    obtain ⟨j, hj⟩ : ∃ j : Nat, Lib.index l [c] = j := ⟨(Lib.index l [c]).toNat, by omega⟩
    rw [if_neg (fun e => hm (beq_iff_eq.1 e))]
    rw [hj, if_pos (by omega)] at i1 i2 i3
    rw [hj, if_pos (by omega)]
    rw [show ((j : Int) + 1).toNat = j + 1 by omega]
    rw [Int.toNat_natCast] at i1 i2 i3
    dsimp only [List.length_singleton] at i1 i2 i3 ⊢
    refine ⟨by rw [List.take_succ_cons, i1], i2, fun hx => ?_⟩
    rw [show j + 1 + 1 = (j + 1) + 1 from rfl, List.drop_succ_cons]
    exact i3 hx
def mkB (l : List UInt8) : ByteArray := ⟨l.toArray⟩
theorem mkB_dl (l : List UInt8) : (mkB l).data.toList = l := by simp [mkB]
theorem mkB_eta (s : ByteArray) : mkB s.data.toList = s := by obtain ⟨⟨l⟩⟩ := s; rfl
theorem mkB_sz (l : List UInt8) : (mkB l).size = l.length := by rw [Lib.size_eq, mkB_dl]
theorem ext_mk (s : ByteArray) (a b : Nat) : s.extract a b = mkB ((s.data.toList.take b).drop a) := by
 rw [← mkB_eta (s.extract a b), Lib.extract_data, List.drop_take]
def cutB (c : UInt8) (s : ByteArray) : List ByteArray := (cutL c s.data.toList).map mkB
theorem l6cutl (s : ByteArray) (hs : s.size ≤ 1048576) (c : UInt8) (d : Nat) : ∀ (i f : Nat) (out : List ByteArray) (x : List UInt8) (xs : List (List UInt8)), i + d = s.size → f ≤ i → out.length ≤ i → cutL c (s.data.toList.drop i) = x :: xs → ∀ k, d < k → spec_l6Cut.l0 k s ((c.toNat : Nat) : Int) out f i = some (out ++ mkB ((s.data.toList.take i).drop f ++ x) :: xs.map mkB) := by
 have hlen : s.data.toList.length = s.size := (Lib.size_eq s).symm
 induction d with
 | zero =>
  intro i f out x xs hd hf ho hc k hk
  obtain ⟨k, rfl, hk⟩ := fuel hk
  rw [List.drop_eq_nil_of_le (by omega), cutL] at hc
  cases hc
  rw [spec_l6Cut.l0, if_neg (by omega), if_pos (by omega), if_pos (by omega), if_pos (by omega), Int.toNat_natCast, ext_mk, List.append_nil, show i = s.size by omega]
  rfl
 | succ d ih =>
  intro i f out x xs hd hf ho hc k hk
  obtain ⟨k, rfl, hk⟩ := fuel hk
  obtain ⟨b, hb1, hb2⟩ := bt_tl s i (by omega)
  rw [tl_eq] at hb1
  obtain ⟨y, ys, hy⟩ := cutL_cons c (s.data.toList.drop (i + 1))
  have e1 : wrap64 ((i : Int) + 1) = ((i + 1 : Nat) : Int) := by rw [w64 (by omega) (by omega)]; omega
  rw [hb1] at hc
  by_cases h : b = c
  ·subst h
   rw [cutL_hit] at hc
   cases hc
   have st := ih (i + 1) (i + 1) (out ++ [s.extract f i]) y ys (by omega) (by omega) (by simp only [List.length_append, List.length_singleton]; omega) hy k (by omega)
   rw [spec_l6Cut.l0, if_pos (by omega), if_pos (by omega), if_pos hb2, if_pos (by omega), if_pos (by omega), if_pos (by omega), if_pos (by omega), e1, Int.toNat_natCast, Int.toNat_natCast, st, hy, ext_mk, List.append_nil]
   rw [show ((s.data.toList.take (i + 1)).drop (i + 1)) = [] from List.drop_eq_nil_of_le (by rw [List.length_take]; omega), List.nil_append, List.append_assoc]
   rfl
  ·rw [cutL_miss h hy] at hc
   cases hc
   have hne : ¬ bt s (i : Int) = ((c.toNat : Nat) : Int) := by
    rw [hb2]
    intro e
    exact h (UInt8.toNat_inj.1 (by omega))
   have st := ih (i + 1) f out y xs (by omega) (by omega) (by omega) hy k (by omega)
   rw [spec_l6Cut.l0, if_pos (by omega), if_pos (by omega), if_neg hne, e1, st]
   congr 3
   have hi : i < s.data.toList.length := by omega
   have hbe : s.data.toList[i] = b := by
    have := List.drop_eq_getElem_cons hi
    rw [hb1] at this
    exact (List.cons.inj this).1.symm
   rw [List.take_succ_eq_append_getElem hi, List.drop_append_of_le_length (by rw [List.length_take]; omega), List.append_assoc, hbe]
   rfl
theorem l6cut (s : ByteArray) (hs : s.size ≤ 1048576) (c : UInt8) (k : Nat) (hk : s.size < k) : spec_l6Cut.f k s ((c.toNat : Nat) : Int) = some (cutB c s) := by
 obtain ⟨x, xs, e⟩ := cutL_cons c s.data.toList
 have := l6cutl s hs c s.size 0 0 [] x xs (by omega) (by omega) (by simp) (by rw [List.drop_zero]; exact e) k hk
 unfold spec_l6Cut.f cutB
 rw [e, List.map_cons]
 rw [List.take_zero, List.drop_nil, List.nil_append, List.nil_append] at this
 exact this
theorem pcsE (s : ByteArray) : Shelf.pcs s (⟨#[32]⟩ : ByteArray) = cutB 32 s := by
 unfold Shelf.pcs cutB
 rw [← splitK_cutL 32 s.data.toList]
 have h := Lib.splitB_data (⟨#[32]⟩ : ByteArray) 0 (Lib.countB s (⟨#[32]⟩ : ByteArray)) s
 rw [show (⟨#[32]⟩ : ByteArray).data.toList = [32] from rfl] at h
 rw [← h, List.map_map]
 conv => lhs; rw [← List.map_id (Lib.splitB _ _ _ _)]
 apply List.map_congr_left
 intro y _
 exact (mkB_eta y).symm
def wds (s : ByteArray) : List ByteArray := if s.toList = ([] : List UInt8) then [] else cutB 32 s
theorem wdsI (s : ByteArray) (hs : s.size ≤ 1048576) : impl_words.f s = some (wds s) := by
 unfold impl_words.f wds
 by_cases h : s.toList = ([] : List UInt8)
 ·rw [if_pos h, if_pos h]
 ·rw [if_neg h, if_neg h]
  unfold strings_Split.f
  rw [if_pos ⟨by omega, by decide⟩, Option.bind_some, pcsE]
theorem cutL_sub (c : UInt8) : ∀ (l : List UInt8), ∀ x ∈ cutL c l, x.length ≤ l.length
 | [], x, h => by rw [cutL, List.mem_singleton] at h; subst h; exact Nat.le_refl _
 | b :: l, x, h => by
  have ih := cutL_sub c l
  by_cases hb : b = c
  ·subst hb
   rw [cutL_hit] at h
   rcases List.mem_cons.1 h with rfl | h
   ·exact Nat.zero_le _
   ·have := ih x h; rw [List.length_cons]; omega
  ·obtain ⟨y, ys, e⟩ := cutL_cons c l
   rw [cutL_miss hb e] at h
   rw [e] at ih
   rcases List.mem_cons.1 h with rfl | h
   ·have := ih y (List.mem_cons_self ..); rw [List.length_cons, List.length_cons]; omega
   ·have := ih x (List.mem_cons_of_mem _ h); rw [List.length_cons]; omega
theorem wds_len (s : ByteArray) : (wds s).length ≤ s.size + 1 ∧ ∀ t ∈ wds s, t.size ≤ s.size := by
 unfold wds
 by_cases h : s.toList = ([] : List UInt8)
 ·rw [if_pos h]; exact ⟨Nat.zero_le _, fun t ht => by cases ht⟩
 ·rw [if_neg h]
  unfold cutB
  have hl := (Lib.size_eq s).symm
  have hc : s.data.toList.count 32 ≤ s.data.toList.length := List.count_le_length
  refine ⟨by rw [List.length_map, cutL_len]; omega, fun t ht => ?_⟩
  obtain ⟨x, hx, rfl⟩ := List.mem_map.1 ht
  have := cutL_sub 32 _ x hx
  rw [mkB_sz]
  omega
def cln (t : ByteArray) : Prop := ∀ b ∈ t.data.toList, b ≠ 58 ∧ b ≠ 32
theorem ne_num {b : UInt8} {n : Nat} (h : b.toNat ≠ n) (hn : n < 256) : b ≠ UInt8.ofNat n := by
 rintro rfl
 apply h
 rw [UInt8.toNat_ofNat']
 omega
theorem cln_b {b : UInt8} (h : b.toNat ≠ 58 ∧ b.toNat ≠ 32) : b ≠ 58 ∧ b ≠ 32 := ⟨ne_num (n := 58) h.1 (by omega), ne_num (n := 32) h.2 (by omega)⟩
theorem cln_nil : cln (⟨#[]⟩ : ByteArray) := fun b h => by cases h
theorem cln_app {a b : ByteArray} (ha : cln a) (hb : cln b) : cln (a ++ b) := fun c h => by
 rw [ByteArray.data_append, Array.toList_append, List.mem_append] at h
 exact h.elim (ha c) (hb c)
theorem vRel_name (r : S42) (h : vRel r = true) : cln r.f0 := by
 have h' := h
 obtain ⟨c, d1, d2, h1, h2, rfl⟩ := vRel_shape r h
 unfold vRel at h'
 rw [Bool.and_eq_true, Bool.and_eq_true, decide_eq_true_iff] at h'
 have hb : 97 ≤ ((c.toNat : Nat) : Int) := h'.1.1.2.1
 intro b hb'
 have : b = c := by simpa using hb'
 subst this
 exact cln_b (by omega)
theorem numB_cln (d : Nat) (h : d < 10) : cln (numB (d : Int)) := by
 rw [numB_dig d h]
 intro b hb
 have : b = UInt8.ofNat (48 + d) := by simpa using hb
 subst this
 have u : (UInt8.ofNat (48 + d)).toNat = 48 + d := by rw [UInt8.toNat_ofNat']; omega
 exact cln_b (by omega)
theorem rTx_cln (r : S42) : cln (rTx r) := by
 unfold rTx
 by_cases h : vRel r = true
 ·rw [if_pos h]
  have hn := vRel_name r h
  obtain ⟨c, d1, d2, h1, h2, rfl⟩ := vRel_shape r h
  refine cln_app (cln_app (cln_app hn (numB_cln d2 h2)) ?_) (numB_cln d1 h1)
  intro b hb
  have : b = 47 := by simpa using hb
  subst this
  decide
 ·rw [if_neg h]; exact cln_nil
theorem cat_cln : ∀ xs : List ByteArray, (∀ x ∈ xs, cln x) → ∀ b ∈ Shelf.cat_ xs, b ≠ 58 ∧ b ≠ 32
 | [], _, b, h => by rw [Shelf.cat_] at h; cases h
 | x :: xs, hx, b, h => by
  rw [Shelf.cat_, List.mem_append, tl_eq] at h
  exact h.elim (hx x (List.mem_cons_self ..) b) (cat_cln xs (fun y hy => hx y (List.mem_cons_of_mem _ hy)) b)
theorem bar_cln (xs : List ByteArray) (f : Nat) (h : ∀ x ∈ xs, cln x) : cln (bar xs f) := by
 have ht : cln (⟨(Shelf.cat_ (xs.take f)).toArray⟩ : ByteArray) := fun b hb => cat_cln _ (fun x hx => h x (List.mem_of_mem_take hx)) b (by simpa using hb)
 have hd : cln (⟨(Shelf.cat_ (xs.drop f)).toArray⟩ : ByteArray) := fun b hb => cat_cln _ (fun x hx => h x (List.mem_of_mem_drop hx)) b (by simpa using hb)
 unfold bar
 split
 ·refine cln_app ht (cln_app ?_ hd)
  intro b hb
  have : b = 124 := by simpa using hb
  subst this
  decide
 ·exact ht
theorem fTx_cln (l : List S42) (a : Int) (vs : List Int) : cln (fTx l a vs) := by
 unfold fTx
 by_cases h : vFact l a vs = true
 ·rw [if_pos h]
  have hv := h
  unfold vFact at hv
  rw [Bool.and_eq_true] at hv
  obtain ⟨h0, h1, _⟩ := key_ok l hv.1 a vs hv.2
  refine cln_app (vRel_name _ (vRels_at l hv.1 a h0 h1)) (bar_cln _ _ fun x hx => ?_)
  obtain ⟨v, hv', rfl⟩ := List.mem_map.1 hx
  have hb := val_b l a vs hv.2 v hv'
  have := numB_cln v.toNat (by omega)
  rwa [Int.toNat_of_nonneg hb.1] at this
 ·rw [if_neg h]; exact cln_nil
theorem tail_glue (c : UInt8) : ∀ (x : List UInt8) (xs : List (List UInt8)), x ++ Lib.joinTail [c] xs = glue c (x :: xs)
 | x, [] => by show x ++ [] = x; rw [List.append_nil]
 | x, y :: r => by
  rw [show Lib.joinTail [c] (y :: r) = [c] ++ y ++ Lib.joinTail [c] r by simp [Lib.joinTail], List.append_assoc, tail_glue c y r]
  rfl
theorem spj_glue (c : UInt8) (xs : List ByteArray) : (spj (⟨#[c]⟩ : ByteArray) 0 xs (⟨#[]⟩ : ByteArray)).data.toList = glue c (xs.map fun x => x.data.toList) := by
 rw [spj_join]
 unfold Shelf.jn_
 cases xs with
 | nil => rw [List.map_nil, Lib.join_nil]; rfl
 | cons x xs => rw [List.map_cons, Lib.join_cons, ← tail_glue]
theorem glue_mem (c : UInt8) : ∀ (xs : List (List UInt8)), ∀ b ∈ glue c xs, b = c ∨ ∃ x ∈ xs, b ∈ x
 | [], b, h => by cases h
 | [x], b, h => .inr ⟨x, List.mem_singleton.2 rfl, h⟩
 | x :: y :: r, b, h => by
  rw [glue, List.mem_append, List.mem_cons] at h
  rcases h with h | h | h
  ·exact .inr ⟨x, List.mem_cons_self .., h⟩
  ·exact .inl h
  ·rcases glue_mem c (y :: r) b h with h | ⟨z, hz, h⟩
   ·exact .inl h
   ·exact .inr ⟨z, List.mem_cons_of_mem _ hz, h⟩
theorem glue_free (xs : List ByteArray) (h : ∀ x ∈ xs, cln x) : ∀ b ∈ glue 32 (xs.map fun x => x.data.toList), b ≠ 58 := by
 intro b hb
 rcases glue_mem 32 _ b hb with rfl | ⟨z, hz, hb⟩
 ·decide
 ·obtain ⟨x, hx, rfl⟩ := List.mem_map.1 hz
  exact (h x hx b hb).1
theorem rTxs_cln (l : List S42) : ∀ x ∈ rTxs l, cln x := fun x hx => by
 obtain ⟨y, _, rfl⟩ := List.mem_map.1 hx
 exact rTx_cln y
theorem fTxs_cln (l : List S42) (fs : List S47) : ∀ x ∈ fTxs l fs, cln x := fun x hx => by
 obtain ⟨y, _, rfl⟩ := List.mem_map.1 hx
 exact fTx_cln l _ _
theorem dTx_cut (l : List S42) (fs : List S47) : cutL 58 (dTx l fs).data.toList = [glue 32 ((rTxs l).map fun x => x.data.toList), glue 32 ((fTxs l fs).map fun x => x.data.toList)] := by
 unfold dTx
 rw [ByteArray.data_append, Array.toList_append, ByteArray.data_append, Array.toList_append, spj_glue, spj_glue, List.append_assoc, show (⟨#[58]⟩ : ByteArray).data.toList = [58] from rfl, List.singleton_append, cutL_app _ (glue_free _ (rTxs_cln l)), cutL_free (glue_free _ (fTxs_cln l fs))]
def prC (t : ByteArray) : S42 := ⟨t.extract 0 1, wrap64 ((wrap64 (bt t 3)) - 48), wrap64 ((wrap64 (bt t 1)) - 48)⟩
def pRx (t : ByteArray) : S42 × Bool := if (t.size : Int) = 4 then (if rTx (prC t) = t then (prC t, true) else (⟨(⟨#[]⟩ : ByteArray), 0, 0⟩, false)) else (⟨(⟨#[]⟩ : ByteArray), 0, 0⟩, false)
theorem prR (t : ByteArray) (k : Nat) (hk : 30 < k) : spec_ParseRelation.f k t = some ((pRx t).1.f0, (pRx t).1.f1, (pRx t).1.f2, (pRx t).2) ∧ impl_ParseRelation.f t = some ((pRx t).1.f0, (pRx t).1.f1, (pRx t).1.f2, (pRx t).2) := by
 have w64b : ∀ x : Int, okN (wrap64 x) := fun x => by unfold okN wrap64; omega
 unfold spec_ParseRelation.f impl_ParseRelation.f pRx
 by_cases h : (t.size : Int) = 4
 ·have f := frB2 (prC t) (w64b _) (w64b _) k hk
  have f1 : spec_FormatRelation.f k (t.extract 0 1) (wrap64 ((wrap64 (bt t 3)) - 48)) (wrap64 ((wrap64 (bt t 1)) - 48)) = _ := f.1
  have f2 : impl_FormatRelation.f (t.extract 0 1) (wrap64 ((wrap64 (bt t 3)) - 48)) (wrap64 ((wrap64 (bt t 1)) - 48)) = _ := f.2
  rw [f1, f2]
  simp only [h, Option.bind_some]
  by_cases g : (rTx (prC t)).toList = t.toList
  ·rw [if_pos (tl_inj.1 g)]
   rw [if_pos g]
   constructor
   ·simp [prC]
   ·simp [prC]
  ·rw [if_neg (fun e => g (tl_inj.2 e)), if_neg g]
   constructor
   ·simp
   ·simp
 ·rw [if_neg h, if_neg h, if_neg h]
  exact ⟨rfl, rfl⟩
theorem pRx_ok (t : ByteArray) : okN (pRx t).1.f1 ∧ okN (pRx t).1.f2 := by
 have w64b : ∀ x : Int, okN (wrap64 x) := fun x => by unfold okN wrap64; omega
 have z : okN (0 : Int) := ⟨by omega, by omega⟩
 unfold pRx
 split
 ·split
  ·exact ⟨w64b _, w64b _⟩
  ·exact ⟨z, z⟩
 ·exact ⟨z, z⟩
theorem pRx_fell (t : ByteArray) (h : (pRx t).2 = false) : vRel (pRx t).1 = false := by
 have z : vRel (⟨(⟨#[]⟩ : ByteArray), 0, 0⟩ : S42) = false := rfl
 unfold pRx at h ⊢
 by_cases c : (t.size : Int) = 4
 ·rw [if_pos c] at h ⊢
  by_cases g : rTx (prC t) = t
  ·rw [if_pos g] at h; cases h
  ·rw [if_neg g]; exact z
 ·rw [if_neg c]; exact z
def pF (l : List S42) (t : ByteArray) : S47 := ⟨(pFx l t).1, (pFx l t).2.1⟩
theorem pFx_fell (l : List S42) (t : ByteArray) (h : (pFx l t).2.2 = false) : pF l t = (⟨0, []⟩ : S47) := by
 unfold pF
 unfold pFx at h ⊢
 by_cases c : t.toList = ([] : List UInt8)
 ·rw [if_pos c]
 ·rw [if_neg c] at h ⊢
  by_cases g : fTx l (idxW (nameIs (t.extract 0 1)) l 0) (digs (t.toList.drop 1)) = t
  ·rw [if_pos g] at h; cases h
  ·rw [if_neg g]
def dT (l : List S42) (fs : List S47) : ByteArray := if vDb l fs = true then dTx l fs else (⟨#[]⟩ : ByteArray)
theorem fdE (l : List S42) (hl : l.length ≤ 1048576) (hr : ∀ y ∈ l, okN y.f1 ∧ okN y.f2) (fs : List S47) (hf : fs.length ≤ 1048576) (hg : ∀ y ∈ fs, y.f1.length ≤ 1048576) (hb : ∀ y ∈ fs, ∀ v ∈ y.f1, -9223372036854775808 ≤ v ∧ v ≤ 9223372036854775807) (k : Nat) (hk : 9100000 < k) : spec_FormatDatabase.f k l fs = some (dT l fs) ∧ impl_FormatDatabase.f k l fs = some (dT l fs) := by
 unfold spec_FormatDatabase.f impl_FormatDatabase.f dT
 rw [vDS l hl fs hf hg k (by omega), vDI l hl fs hf hg k (by omega), Option.bind_some, Option.bind_some]
 by_cases h : vDb l fs = true
 ·have e1 := fdSl l hl hr fs hf hg hb h l.length 0 (⟨#[]⟩ : ByteArray) (by omega) (by rw [show (⟨#[]⟩ : ByteArray).size = 0 from rfl]; omega) k (by omega)
  have e2 := fdIl l hl hr fs hf hg hb h l.length 0 (by omega) k (by omega)
  rw [List.drop_zero] at e1
  rw [if_pos h, if_pos h, if_pos h]
  exact ⟨e1, e2⟩
 ·rw [if_neg h, if_neg h, if_neg h]
  exact ⟨rfl, rfl⟩
def pdF (s : ByteArray) (l : List S42) (fs : List S47) : List S42 × List S47 × Bool := if dT l fs = s then (l, fs, true) else ([], [], false)
structure PdOk (l : List S42) (fs : List S47) : Prop where
 hl : l.length ≤ 1048576
 hr : ∀ y ∈ l, okN y.f1 ∧ okN y.f2
 hf : fs.length ≤ 1048576
 hg : ∀ y ∈ fs, y.f1.length ≤ 1048576
 hb : ∀ y ∈ fs, ∀ v ∈ y.f1, -9223372036854775808 ≤ v ∧ v ≤ 9223372036854775807
theorem pdok (ws : List ByteArray) (hw : ws.length ≤ 1048576) (us : List ByteArray) (hu : us.length ≤ 1048576) (hz : ∀ t ∈ us, t.size ≤ 1048576) : PdOk (ws.map fun t => (pRx t).1) (us.map (pF (ws.map fun t => (pRx t).1))) := by
 refine ⟨by rw [List.length_map]; exact hw, fun y hy => ?_, by rw [List.length_map]; exact hu, fun y hy => ?_, fun y hy => ?_⟩
 ·obtain ⟨t, _, rfl⟩ := List.mem_map.1 hy
  exact pRx_ok t
 ·obtain ⟨t, ht, rfl⟩ := List.mem_map.1 hy
  exact Nat.le_trans (pFx_b _ t).2 (hz t ht)
 ·obtain ⟨t, ht, rfl⟩ := List.mem_map.1 hy
  exact (pFx_b _ t).1
theorem all_drop {α : Type} (p : α → Bool) (ws : List α) (i : Nat) (h : i < ws.length) : (ws.drop i).all p = (p ws[i] && (ws.drop (i + 1)).all p) := by rw [List.drop_eq_getElem_cons h, List.all_cons]
theorem rdE (ws : List ByteArray) (i : Nat) (h : i < ws.length) : rdOf ByteArray.empty ws (i : Int) = ws[i] := by unfold rdOf; rw [Int.toNat_natCast, getD_lt _ _ i h]
theorem map_snoc {α β : Type} (f : α → β) (ws : List α) (i : Nat) (h : i < ws.length) : (ws.take i).map f ++ [f ws[i]] = (ws.take (i + 1)).map f := by rw [List.take_succ_eq_append_getElem h, List.map_append]; rfl
theorem pdIf (s : ByteArray) (l : List S42) (hl : l.length ≤ 1048576) (us : List ByteArray) (hu : us.length ≤ 1048576) (hz : ∀ t ∈ us, t.size ≤ 1048576) (ho : PdOk l (us.map (pF l))) (d : Nat) : ∀ (i : Nat), i + d = us.length → ∀ k, 9200000 + d < k → impl_ParseDatabase.l1 k s us us.length i l ((us.take i).map (pF l)) = some (if (us.drop i).all (fun t => (pFx l t).2.2) = true then pdF s l (us.map (pF l)) else ([], [], false)) := by
 induction d with
 | zero =>
  intro i hd k hk
  obtain ⟨k, rfl, hk⟩ := fuel hk
  rw [impl_ParseDatabase.l1, if_neg (by omega), List.take_of_length_le (by omega), List.drop_eq_nil_of_le (by omega), (fdE l hl ho.hr _ ho.hf ho.hg ho.hb k (by omega)).2, Option.bind_some, List.all_nil, if_pos rfl]
  unfold pdF
  by_cases c : dT l (us.map (pF l)) = s
  ·rw [if_pos c, if_pos (tl_inj.2 c)]
  ·rw [if_neg c, if_neg (fun g => c (tl_inj.1 g))]
 | succ d ih =>
  intro i hd k hk
  obtain ⟨k, rfl, hk⟩ := fuel hk
  rw [impl_ParseDatabase.l1, if_pos (by omega), if_pos (by omega), if_pos (by omega), rdE us i (by omega), (pfB l hl _ (hz _ (List.getElem_mem _)) k (by omega)).2, Option.bind_some, all_drop _ us i (by omega)]
  by_cases c : (pFx l us[i]).2.2 = true
  ·rw [if_pos c, c, if_pos (by rw [List.length_map, List.length_take]; omega), show wrap64 ((i : Int) + 1) = ((i + 1 : Nat) : Int) by rw [w64 (by omega) (by omega)]; omega]
   rw [show (us.take i).map (pF l) ++ [(⟨(pFx l us[i]).1, (pFx l us[i]).2.1⟩ : S47)] = (us.take (i + 1)).map (pF l) from map_snoc (pF l) us i (by omega)]
   rw [Bool.true_and]
   exact ih (i + 1) (by omega) k (by omega)
  ·rw [if_neg c, Bool.eq_false_iff.2 c, Bool.false_and, if_neg (by decide)]
theorem pdIr (s tail : ByteArray) (ht : tail.size ≤ 1048575) (ws : List ByteArray) (hw : ws.length ≤ 1048576) (d : Nat) : ∀ (i : Nat), i + d = ws.length → ∀ k, 10400000 + d < k → impl_ParseDatabase.l0 k s tail ws ws.length i ((ws.take i).map fun t => (pRx t).1) = some (if (ws.drop i).all (fun t => (pRx t).2) = true then (if (wds tail).all (fun t => (pFx (ws.map fun t => (pRx t).1) t).2.2) = true then pdF s (ws.map fun t => (pRx t).1) ((wds tail).map (pF (ws.map fun t => (pRx t).1))) else ([], [], false)) else ([], [], false)) := by
 obtain ⟨hu, hz⟩ := wds_len tail
 induction d with
 | zero =>
  intro i hd k hk
  obtain ⟨k, rfl, hk⟩ := fuel hk
  have st := pdIf s (ws.map fun t => (pRx t).1) (by rw [List.length_map]; exact hw) (wds tail) (by omega) (fun t h => by have := hz t h; omega) (pdok ws hw (wds tail) (by omega) (fun t h => by have := hz t h; omega)) (wds tail).length 0 (by omega) k (by omega)
  rw [List.drop_zero] at st
  rw [impl_ParseDatabase.l0, if_neg (by omega), List.take_of_length_le (by omega), List.drop_eq_nil_of_le (by omega), wdsI tail (by omega), Option.bind_some, List.all_nil, if_pos rfl]
  exact st
 | succ d ih =>
  intro i hd k hk
  obtain ⟨k, rfl, hk⟩ := fuel hk
  rw [impl_ParseDatabase.l0, if_pos (by omega), if_pos (by omega), if_pos (by omega), rdE ws i (by omega), (prR ws[i] 31 (by omega)).2, Option.bind_some, all_drop _ ws i (by omega)]
  dsimp only
  by_cases c : (pRx ws[i]).2 = true
  ·rw [if_pos c, c, if_pos (by rw [List.length_map, List.length_take]; omega), show wrap64 ((i : Int) + 1) = ((i + 1 : Nat) : Int) by rw [w64 (by omega) (by omega)]; omega]
   rw [show (ws.take i).map (fun t => (pRx t).1) ++ [(⟨(pRx ws[i]).1.f0, (pRx ws[i]).1.f1, (pRx ws[i]).1.f2⟩ : S42)] = (ws.take (i + 1)).map (fun t => (pRx t).1) from map_snoc (fun t => (pRx t).1) ws i (by omega)]
   rw [Bool.true_and]
   exact ih (i + 1) (by omega) k (by omega)
  ·rw [if_neg c, Bool.eq_false_iff.2 c, Bool.false_and, if_neg (by decide)]
theorem cutB_nil (c : UInt8) (s : ByteArray) (h : s.toList = ([] : List UInt8)) : (cutB c s).length = 1 := by
 unfold cutB
 rw [← tl_eq, h]
 rfl
theorem pdSf (s : ByteArray) (l : List S42) (hl : l.length ≤ 1048576) (a b : ByteArray) (hb0 : ¬ b.toList = ([] : List UInt8)) (us : List ByteArray) (hu : us.length ≤ 1048576) (hz : ∀ t ∈ us, t.size ≤ 1048576) (ho : PdOk l (us.map (pF l))) (d : Nat) : ∀ (i : Nat), i + d = us.length → ∀ k, 9200000 + d < k → spec_ParseDatabase.l1 k s [a, b] us i l ((us.take i).map (pF l)) = some (pdF s l (us.map (pF l))) := by
 induction d with
 | zero =>
  intro i hd k hk
  obtain ⟨k, rfl, hk⟩ := fuel hk
  rw [spec_ParseDatabase.l1, if_neg (by omega), List.take_of_length_le (by omega), (fdE l hl ho.hr _ ho.hf ho.hg ho.hb k (by omega)).1, Option.bind_some]
  unfold pdF
  by_cases c : dT l (us.map (pF l)) = s
  ·rw [if_pos c, if_pos (tl_inj.2 c)]
  ·rw [if_neg c, if_neg (fun g => c (tl_inj.1 g))]
 | succ d ih =>
  intro i hd k hk
  obtain ⟨k, rfl, hk⟩ := fuel hk
  rw [spec_ParseDatabase.l1, if_pos (by omega), if_pos (by simp), if_neg (show ¬ (rdOf ByteArray.empty [a, b] 1).toList = ([] : List UInt8) from hb0), if_pos (by omega), rdE us i (by omega), (pfB l hl _ (hz _ (List.getElem_mem _)) k (by omega)).1, Option.bind_some]
  rw [if_pos (by rw [List.length_map, List.length_take]; omega), show wrap64 ((i : Int) + 1) = ((i + 1 : Nat) : Int) by rw [w64 (by omega) (by omega)]; omega]
  rw [show (us.take i).map (pF l) ++ [(⟨(pFx l us[i]).1, (pFx l us[i]).2.1⟩ : S47)] = (us.take (i + 1)).map (pF l) from map_snoc (pF l) us i (by omega)]
  exact ih (i + 1) (by omega) k (by omega)
theorem pdSj (s : ByteArray) (l : List S42) (hl : l.length ≤ 1048576) (hr : ∀ y ∈ l, okN y.f1 ∧ okN y.f2) (a b : ByteArray) (hb : b.size ≤ 1048575) (ho : PdOk l ((wds b).map (pF l))) (k : Nat) (hk : 10400000 < k) : spec_ParseDatabase.j1 k s [a, b] l = some (pdF s l ((wds b).map (pF l))) := by
 obtain ⟨hu, hz⟩ := wds_len b
 obtain ⟨k, rfl, hk⟩ := fuel hk
 have hc := l6cut b (by omega) 32 k (by omega)
 rw [spec_ParseDatabase.j1, if_pos (by simp), show rdOf ByteArray.empty [a, b] 1 = b from rfl, show (32 : Int) = (((32 : UInt8).toNat : Nat) : Int) from rfl, hc, Option.bind_some, show (0 : Int) = ((0 : Nat) : Int) from rfl]
 unfold wds at ho hu hz ⊢
 by_cases h : b.toList = ([] : List UInt8)
 ·rw [if_pos h] at ho ⊢
  have hn := cutB_nil 32 b h
  obtain ⟨k, rfl⟩ : ∃ z, k = z + 1 := ⟨k - 1, by omega⟩
  rw [spec_ParseDatabase.l1, if_pos (by omega), if_pos (by simp), if_pos (show (rdOf ByteArray.empty [a, b] 1).toList = ([] : List UInt8) from h), List.map_nil]
  rw [List.map_nil] at ho
  rw [(fdE l hl ho.hr _ ho.hf ho.hg ho.hb k (by omega)).1, Option.bind_some]
  unfold pdF
  by_cases c : dT l [] = s
  ·rw [if_pos c, if_pos (tl_inj.2 c)]
  ·rw [if_neg c, if_neg (fun g => c (tl_inj.1 g))]
 ·rw [if_neg h] at ho hu hz ⊢
  exact pdSf s l hl a b h (cutB 32 b) (by omega) (fun t ht => by have := hz t ht; omega) ho (cutB 32 b).length 0 (by omega) k (by omega)
theorem pdSr (s a b : ByteArray) (ha0 : ¬ a.toList = ([] : List UInt8)) (hb : b.size ≤ 1048575) (ws : List ByteArray) (hw : ws.length ≤ 1048576) (d : Nat) : ∀ (i : Nat), i + d = ws.length → ∀ k, 10500000 + d < k → spec_ParseDatabase.l0 k s [a, b] ws i ((ws.take i).map fun t => (pRx t).1) = some (pdF s (ws.map fun t => (pRx t).1) ((wds b).map (pF (ws.map fun t => (pRx t).1)))) := by
 obtain ⟨hu, hz⟩ := wds_len b
 have hok := pdok ws hw (wds b) (by omega) (fun t h => by have := hz t h; omega)
 induction d with
 | zero =>
  intro i hd k hk
  obtain ⟨k, rfl, hk⟩ := fuel hk
  rw [spec_ParseDatabase.l0, if_neg (by omega), List.take_of_length_le (by omega)]
  exact pdSj s _ hok.hl hok.hr a b hb hok k (by omega)
 | succ d ih =>
  intro i hd k hk
  obtain ⟨k, rfl, hk⟩ := fuel hk
  rw [spec_ParseDatabase.l0, if_pos (by omega), if_pos (by simp), if_neg (show ¬ (rdOf ByteArray.empty [a, b] 0).toList = ([] : List UInt8) from ha0), if_pos (by omega), rdE ws i (by omega), (prR ws[i] k (by omega)).1, Option.bind_some]
  dsimp only
  rw [if_pos (by rw [List.length_map, List.length_take]; omega), show wrap64 ((i : Int) + 1) = ((i + 1 : Nat) : Int) by rw [w64 (by omega) (by omega)]; omega]
  rw [show (ws.take i).map (fun t => (pRx t).1) ++ [(⟨(pRx ws[i]).1.f0, (pRx ws[i]).1.f1, (pRx ws[i]).1.f2⟩ : S42)] = (ws.take (i + 1)).map (fun t => (pRx t).1) from map_snoc (fun t => (pRx t).1) ws i (by omega)]
  exact ih (i + 1) (by omega) k (by omega)
def pD (s : ByteArray) : List S42 × List S47 × Bool := match cutL 58 s.data.toList with
 | [a, b] => pdF s ((wds (mkB a)).map fun t => (pRx t).1) ((wds (mkB b)).map (pF ((wds (mkB a)).map fun t => (pRx t).1)))
 | _ => ([], [], false)
theorem cut2_len (c : UInt8) (l x y : List UInt8) (ys : List (List UInt8)) (h : cutL c l = x :: y :: ys) : l = x ++ c :: glue c (y :: ys) := by
 have := glue_cutL c l
 rw [h] at this
 exact this.symm
theorem pdS (s : ByteArray) (hs : s.size ≤ 1048576) (k : Nat) (hk : 12000000 < k) : spec_ParseDatabase.f k s = some (pD s) := by
 have hc := l6cut s hs 58 k (by omega)
 unfold spec_ParseDatabase.f pD
 rw [show (58 : Int) = (((58 : UInt8).toNat : Nat) : Int) from rfl, hc, Option.bind_some]
 unfold cutB
 rcases e : cutL 58 s.data.toList with _ | ⟨x, _ | ⟨y, _ | ⟨z, r⟩⟩⟩
 ·obtain ⟨x, xs, e'⟩ := cutL_cons 58 s.data.toList
  rw [e] at e'; cases e'
 ·rw [if_neg (by simp)]
 ·have hl := cut2_len 58 _ x y [] e
  have hsz := congrArg List.length hl
  rw [← Lib.size_eq] at hsz
  simp only [glue, List.length_append, List.length_cons] at hsz
  have za : (mkB x).size ≤ 1048575 := by rw [mkB_sz]; omega
  have zb : (mkB y).size ≤ 1048575 := by rw [mkB_sz]; omega
  rw [List.map_cons, List.map_cons, List.map_nil]
  dsimp only
  rw [if_pos (by simp), if_pos (by simp), show rdOf ByteArray.empty [mkB x, mkB y] 0 = mkB x from rfl, show (32 : Int) = (((32 : UInt8).toNat : Nat) : Int) from rfl, l6cut (mkB x) (by omega) 32 k (by omega), Option.bind_some, show (0 : Int) = ((0 : Nat) : Int) from rfl]
  obtain ⟨hu, hz⟩ := wds_len (mkB x)
  obtain ⟨hu2, hz2⟩ := wds_len (mkB y)
  by_cases h : (mkB x).toList = ([] : List UInt8)
  ·have hn := cutB_nil 32 (mkB x) h
   obtain ⟨k, rfl⟩ : ∃ z, k = z + 1 := ⟨k - 1, by omega⟩
   have hw : wds (mkB x) = [] := by unfold wds; rw [if_pos h]
   have hok := pdok [] (by simp) (wds (mkB y)) (by omega) (fun t h => by have := hz2 t h; omega)
   rw [spec_ParseDatabase.l0, if_pos (by omega), if_pos (by simp), if_pos (show (rdOf ByteArray.empty [mkB x, mkB y] 0).toList = ([] : List UInt8) from h), hw]
   exact pdSj s [] (by simp) (fun y hy => by cases hy) (mkB x) (mkB y) zb hok k (by omega)
  ·have hw : wds (mkB x) = cutB 32 (mkB x) := by unfold wds; rw [if_neg h]
   rw [hw] at hu ⊢
   exact pdSr s (mkB x) (mkB y) h zb (cutB 32 (mkB x)) (by omega) (cutB 32 (mkB x)).length 0 (by omega) k (by omega)
 ·rw [if_neg (by simp only [List.length_map, List.length_cons]; omega)]
theorem dT_fell (s : ByteArray) (hs : 0 < s.size) (l : List S42) (fs : List S47) (h : vDb l fs = false) : pdF s l fs = ([], [], false) := by
 unfold pdF dT
 rw [if_neg (show ¬ vDb l fs = true by rw [h]; decide)]
 rw [if_neg (by rintro rfl; exact absurd hs (by decide))]
theorem vDb_rel (l : List S42) (fs : List S47) (h : vDb l fs = true) : ∀ y ∈ l, vRel y = true := by
 intro y hy
 obtain ⟨j, hj, rfl⟩ := List.mem_iff_getElem.1 hy
 have := vRels_at l (vDb_parts l fs h).1 (j : Int) (by omega) (by omega)
 unfold rd_T42 at this
 rwa [Int.toNat_natCast, getD_lt l _ j hj] at this
theorem vDb_fact (l : List S42) (fs : List S47) (h : vDb l fs = true) : ∀ y ∈ fs, vFact l y.f0 y.f1 = true := by
 intro y hy
 obtain ⟨j, hj, rfl⟩ := List.mem_iff_getElem.1 hy
 have hp := vDb_parts l fs h
 have := hp.2.2.1 j hj
 rw [getD_lt fs _ j hj] at this
 unfold vFact
 rw [hp.1, this]
 rfl
theorem fit0 (l : List S42) : vFact l 0 [] = false := by
 rw [Bool.eq_false_iff]
 intro h
 unfold vFact at h
 rw [Bool.and_eq_true] at h
 obtain ⟨h0, h1, _, _, h4, _⟩ := key_ok l h.1 0 [] h.2
 have hv := vRels_at l h.1 0 h0 h1
 unfold vRel at hv
 rw [Bool.and_eq_true, Bool.and_eq_true, inB_iff] at hv
 have := hv.1.2.1
 rw [List.length_nil] at h4
 omega
theorem pdI (s : ByteArray) (hs : s.size ≤ 1048576) (k : Nat) (hk : 12000000 < k) : impl_ParseDatabase.f k s = some (pD s) := by
 unfold impl_ParseDatabase.f pD strings_Cut.f
 rw [if_pos (by omega), Option.bind_some, show (⟨#[58]⟩ : ByteArray).data.toList = [58] from rfl]
 obtain ⟨x, xs, e⟩ := cutL_cons 58 s.data.toList
 obtain ⟨c1, c2, c3⟩ := cut_cutL 58 _ x xs e
 rw [c1]
 rcases xs with _ | ⟨y, r⟩
 ·rw [if_neg (fun h => (c2.1 h) rfl), e]
 ·have hl := cut2_len 58 _ x y r e
  have ht := c3 (by simp)
  have hg := glue_cutL 58 (Lib.cut s.data.toList [58]).2.1
  rw [ht] at hg
  rw [if_pos (c2.2 (by simp))]
  generalize (Lib.cut s.data.toList [58]).2.1 = tl at ht hg
  subst hg
  have hsz := congrArg List.length hl
  rw [← Lib.size_eq] at hsz
  simp only [List.length_append, List.length_cons] at hsz
  have za : (mkB x).size ≤ 1048575 := by rw [mkB_sz]; omega
  have zb : (mkB (glue 58 (y :: r))).size ≤ 1048575 := by rw [mkB_sz]; omega
  have hsp : 0 < s.size := by omega
  obtain ⟨hu, hz⟩ := wds_len (mkB x)
  rw [show (⟨x.toArray⟩ : ByteArray) = mkB x from rfl, show (⟨(glue 58 (y :: r)).toArray⟩ : ByteArray) = mkB (glue 58 (y :: r)) from rfl, wdsI (mkB x) (by omega), Option.bind_some, show (0 : Int) = ((0 : Nat) : Int) from rfl]
  have st := pdIr s (mkB (glue 58 (y :: r))) zb (wds (mkB x)) (by omega) (wds (mkB x)).length 0 (by omega) k (by omega)
  rw [List.take_zero, List.map_nil, List.drop_zero] at st
  rw [st, e]
  -- a piece that is not read: the database is not valid
  have key : (if (wds (mkB x)).all (fun t => (pRx t).2) = true then (if (wds (mkB (glue 58 (y :: r)))).all (fun t => (pFx ((wds (mkB x)).map fun t => (pRx t).1) t).2.2) = true then pdF s ((wds (mkB x)).map fun t => (pRx t).1) ((wds (mkB (glue 58 (y :: r)))).map (pF ((wds (mkB x)).map fun t => (pRx t).1))) else ([], [], false)) else ([], [], false)) = pdF s ((wds (mkB x)).map fun t => (pRx t).1) ((wds (mkB (glue 58 (y :: r)))).map (pF ((wds (mkB x)).map fun t => (pRx t).1))) := by
   by_cases ca : (wds (mkB x)).all (fun t => (pRx t).2) = true
   ·rw [if_pos ca]
    by_cases cb : (wds (mkB (glue 58 (y :: r)))).all (fun t => (pFx ((wds (mkB x)).map fun t => (pRx t).1) t).2.2) = true
    ·rw [if_pos cb]
    ·rw [if_neg cb, dT_fell s hsp]
     rw [Bool.eq_false_iff]
     intro hv
     apply cb
     rw [List.all_eq_true]
     intro t htm
     by_cases g : (pFx ((wds (mkB x)).map fun t => (pRx t).1) t).2.2 = true
     ·exact g
     ·exfalso
      have hm : pF ((wds (mkB x)).map fun t => (pRx t).1) t ∈ (wds (mkB (glue 58 (y :: r)))).map (pF ((wds (mkB x)).map fun t => (pRx t).1)) := List.mem_map.2 ⟨t, htm, rfl⟩
      rw [pFx_fell _ t (Bool.eq_false_iff.2 g)] at hm
      have := vDb_fact _ _ hv _ hm
      rw [fit0] at this
      cases this
   ·rw [if_neg ca, dT_fell s hsp]
    rw [Bool.eq_false_iff]
    intro hv
    apply ca
    rw [List.all_eq_true]
    intro t htm
    by_cases g : (pRx t).2 = true
    ·exact g
    ·exfalso
     have := vDb_rel _ _ hv _ (List.mem_map.2 ⟨t, htm, rfl⟩)
     rw [pRx_fell t (Bool.eq_false_iff.2 g)] at this
     cases this
  rw [key]
  rcases r with _ | ⟨z, r⟩
  ·rfl
  ·-- more colons than a database's text has
   dsimp only
   unfold pdF
   rw [if_neg ?_]
   intro he
   unfold dT at he
   by_cases hv : vDb ((wds (mkB x)).map fun t => (pRx t).1) ((wds (mkB (glue 58 (y :: z :: r)))).map (pF ((wds (mkB x)).map fun t => (pRx t).1))) = true
   ·rw [if_pos hv] at he
    have hc := dTx_cut ((wds (mkB x)).map fun t => (pRx t).1) ((wds (mkB (glue 58 (y :: z :: r)))).map (pF ((wds (mkB x)).map fun t => (pRx t).1)))
    rw [he, e] at hc
    have := congrArg List.length hc
    simp only [List.length_cons, List.length_nil] at this
    omega
   ·rw [if_neg hv] at he
    rw [← he] at hsp
    exact absurd hsp (by decide)
theorem pD_ok (s : ByteArray) (hs : s.size ≤ 1048576) : PdOk (pD s).1 (pD s).2.1 := by
 have z : PdOk ([] : List S42) ([] : List S47) := ⟨by simp, (fun y h => by cases h), by simp, (fun y h => by cases h), (fun y h => by cases h)⟩
 unfold pD
 rcases e : cutL 58 s.data.toList with _ | ⟨x, _ | ⟨y, _ | ⟨w, r⟩⟩⟩
 ·exact z
 ·exact z
 ·have hl := cut2_len 58 _ x y [] e
  have hsz := congrArg List.length hl
  rw [← Lib.size_eq] at hsz
  simp only [glue, List.length_append, List.length_cons] at hsz
  obtain ⟨hu, hz⟩ := wds_len (mkB x)
  obtain ⟨hu2, hz2⟩ := wds_len (mkB y)
  rw [mkB_sz] at hu hu2
  have hok := pdok (wds (mkB x)) (by omega) (wds (mkB y)) (by omega) (fun t h => by have := hz2 t h; rw [mkB_sz] at this; omega)
  dsimp only
  unfold pdF
  split
  ·exact hok
  ·exact z
 ·exact z
def cnt : Int → Nat → List Int
 | _, 0 => []
 | a, d + 1 => a :: cnt (a + 1) d
theorem cnt_len : ∀ (a : Int) (d : Nat), (cnt a d).length = d
 | _, 0 => rfl
 | a, d + 1 => by rw [cnt, List.length_cons, cnt_len]
theorem markIl (n : Nat) (hn : n ≤ 1048576) (d : Nat) : ∀ (i : Nat) (xs : List Int) (a : Int), xs.length = n → i + d = n → 0 ≤ a → a + (d : Int) ≤ 4000000000000000000 → ∀ k, d < k → laws_markIntS.l0 k xs a i = some (a + d, xs.take i ++ cnt a d) := by
 induction d with
 | zero =>
  intro i xs a hx hd _ _ k hk
  obtain ⟨k, rfl, hk⟩ := fuel hk
  rw [laws_markIntS.l0, if_neg (by omega), List.take_of_length_le (by omega), cnt, List.append_nil]
  simp
 | succ d ih =>
  intro i xs a hx hd h0 h1 k hk
  obtain ⟨k, rfl, hk⟩ := fuel hk
  rw [laws_markIntS.l0, if_pos (by omega), if_pos (by omega), Int.toNat_natCast, w64 (by omega) (by omega), show wrap64 ((i : Int) + 1) = ((i + 1 : Nat) : Int) by rw [w64 (by omega) (by omega)]; omega, ih (i + 1) (xs.set i a) (a + 1) (by simpa using hx) (by omega) (by omega) (by omega) k (by omega), take_set_succ xs i a (by omega), cnt, List.append_assoc]
  congr 2
  omega
theorem markI (xs : List Int) (hn : xs.length ≤ 1048576) (a : Int) (h0 : 0 ≤ a) (h1 : a ≤ 1000000000000000000) (k : Nat) (hk : xs.length < k) : laws_markIntS.f k xs a = some (a + xs.length, cnt a xs.length) := by
 unfold laws_markIntS.f
 exact markIl xs.length hn xs.length 0 xs a rfl (by omega) h0 (by omega) k hk
theorem heldIl (a0 : Int) (n : Nat) (h0 : 0 ≤ a0) (h1 : a0 ≤ 1000000000000000000) (hn : n ≤ 1048576) (d : Nat) : ∀ (i : Nat), i + d = n → (cnt a0 n).drop i = cnt (a0 + i) d → ∀ k, d < k → laws_heldIntS.l0 k (cnt a0 n) (a0 + i) i = some (a0 + n) := by
 have hl := cnt_len a0 n
 induction d with
 | zero =>
  intro i hd _ k hk
  obtain ⟨k, rfl, hk⟩ := fuel hk
  rw [laws_heldIntS.l0, if_neg (by omega), show i = n by omega]
 | succ d ih =>
  intro i hd hc k hk
  obtain ⟨k, rfl, hk⟩ := fuel hk
  rw [cnt, List.drop_eq_getElem_cons (by omega)] at hc
  obtain ⟨c1, c2⟩ := List.cons.inj hc
  have hr : rd (cnt a0 n) (i : Int) = a0 + i := by unfold rd; rw [Int.toNat_natCast, getD_lt _ _ i (by omega)]; exact c1
  rw [laws_heldIntS.l0, if_pos (by omega), if_pos (by omega), if_pos hr, show wrap64 ((i : Int) + 1) = ((i + 1 : Nat) : Int) by rw [w64 (by omega) (by omega)]; omega, show wrap64 (a0 + (i : Int) + 1) = a0 + ((i + 1 : Nat) : Int) by rw [w64 (by omega) (by omega)]; omega]
  refine ih (i + 1) (by omega) ?_ k (by omega)
  rw [c2]
  congr 1
  omega
theorem heldI (n : Nat) (a0 : Int) (h0 : 0 ≤ a0) (h1 : a0 ≤ 1000000000000000000) (hn : n ≤ 1048576) (k : Nat) (hk : n < k) : laws_heldIntS.f k (cnt a0 n) a0 = some (a0 + n) := by
 unfold laws_heldIntS.f
 have := heldIl a0 n h0 h1 hn n 0 (by omega) (by simp) k hk
 simpa using this
theorem textD (d : Nat) : ∀ (x : Int) (s : ByteArray), 0 ≤ x → x < 10 ^ d → x ≤ 4000000000 → s.size + d ≤ 1000 → ∃ t, ∀ k, d < k → laws_markText.l0 k x s = some t := by
 induction d with
 | zero =>
  intro x s h0 h1 _ hs
  rw [Int.pow_zero] at h1
  refine ⟨(⟨#[109]⟩ : ByteArray) ++ s, fun k hk => ?_⟩
  obtain ⟨k, rfl, hk⟩ := fuel hk
  rw [laws_markText.l0, if_neg (by omega), if_pos (by omega)]
 | succ d ih =>
  intro x s h0 h1 h2 hs
  by_cases hx : x > 0
  ·have hz : ∀ z : Int, (strOfNums [z]).size = 1 := fun z => by rw [sn_size]; rfl
   obtain ⟨t, ht⟩ := ih (x / 10) (strOfNums [(wrap64 (48 + (Int.tmod x 10))) % 256] ++ s) (by omega) (by rw [Int.pow_succ] at h1; omega) (by omega) (by rw [ByteArray.size_append, hz]; omega)
   refine ⟨t, fun k hk => ?_⟩
   obtain ⟨k, rfl, hk⟩ := fuel hk
   rw [laws_markText.l0, if_pos hx, Option.bind_some, if_pos (by rw [hz]; omega), td h0, w64 (n := x / 10) (by omega) (by omega)]
   exact ht k (by omega)
  ·refine ⟨(⟨#[109]⟩ : ByteArray) ++ s, fun k hk => ?_⟩
   obtain ⟨k, rfl, hk⟩ := fuel hk
   rw [laws_markText.l0, if_neg hx, if_pos (by omega)]
theorem markTD (x : Int) (h0 : 0 ≤ x) (h1 : x ≤ 1000000000) : ∃ t, ∀ k, 20 < k → laws_markText.f k x = some t := by
 unfold laws_markText.f
 by_cases h : x ≤ 0
 ·exact ⟨_, fun _ _ => if_pos h⟩
 ·have hp : (10 : Int) ^ 10 = 10000000000 := by decide
  obtain ⟨t, ht⟩ := textD 10 x (⟨#[]⟩ : ByteArray) h0 (by omega) (by omega) (by decide)
  exact ⟨t, fun k hk => by rw [if_neg h]; exact ht k (by omega)⟩
noncomputable def mTx (x : Int) : ByteArray := Classical.epsilon fun t => ∀ k, 20 < k → laws_markText.f k x = some t
theorem mTx_at (x : Int) (h0 : 0 ≤ x) (h1 : x ≤ 1000000000) (k : Nat) (hk : 20 < k) : laws_markText.f k x = some (mTx x) :=
 Classical.epsilon_spec (markTD x h0 h1) k hk
noncomputable def cntR : Int → Nat → List S42
 | _, 0 => []
 | a, d + 1 => (⟨mTx a, a + 1, a + 1 + 1⟩ : S42) :: cntR (a + 1 + 1 + 1) d
theorem cntR_len : ∀ (a : Int) (d : Nat), (cntR a d).length = d
 | _, 0 => rfl
 | a, d + 1 => by rw [cntR, List.length_cons, cntR_len]
theorem set3 (xs : List S42) (i : Nat) (h : i < xs.length) (a b c : S42) : ((xs.set i a).set i b).set i c = xs.set i c := by rw [List.set_set, List.set_set]
theorem rd_set (xs : List S42) (i : Nat) (h : i < xs.length) (a : S42) : rd_T42 (xs.set i a) (i : Int) = a := by
 unfold rd_T42
 rw [Int.toNat_natCast, getD_lt _ _ i (by simpa using h)]
 simp
theorem markRDl (n : Nat) (hn : n ≤ 1048576) (d : Nat) : ∀ (i : Nat) (xs : List S42) (a : Int), xs.length = n → i + d = n → 0 ≤ a → a + 3 * (d : Int) ≤ 1000000000 → ∀ k, d + 21 < k → laws_markRelationS.l0 k xs a i = some (a + 3 * d, xs.take i ++ cntR a d) := by
 induction d with
 | zero =>
  intro i xs a hx hd _ _ k hk
  obtain ⟨k, rfl, hk⟩ := fuel hk
  rw [laws_markRelationS.l0, if_neg (by omega), List.take_of_length_le (by omega), cntR, List.append_nil]
  simp
 | succ d ih =>
  intro i xs a hx hd h0 h1 k hk
  obtain ⟨k, rfl, hk⟩ := fuel hk
  rw [laws_markRelationS.l0, if_pos (by omega), mTx_at a h0 (by omega) k (by omega), Option.bind_some, if_pos (by omega), Option.bind_some, Option.bind_some, w64 (n := a + 1) (by omega) (by omega), w64 (n := a + 1 + 1) (by omega) (by omega), w64 (n := a + 1 + 1 + 1) (by omega) (by omega), show wrap64 ((i : Int) + 1) = ((i + 1 : Nat) : Int) by rw [w64 (by omega) (by omega)]; omega, show a + 3 * ((d + 1 : Nat) : Int) = a + 1 + 1 + 1 + 3 * (d : Int) by omega]
  simp only [Int.toNat_natCast]
  rw [rd_set xs i (by omega), rd_set _ i (by simp; omega), set3 xs i (by omega)]
  dsimp only
  rw [ih (i + 1) _ (a + 1 + 1 + 1) (by simpa using hx) (by omega) (by omega) (by omega) k (by omega), take_set_succ xs i _ (by omega), cntR, List.append_assoc]
  rfl
theorem heldRDl (a0 : Int) (n : Nat) (h0 : 0 ≤ a0) (h1 : a0 + 3 * (n : Int) ≤ 1000000000) (d : Nat) : ∀ (i : Nat) (a : Int), a = a0 + 3 * (i : Int) → i + d = n → (cntR a0 n).drop i = cntR a d → ∀ k, d + 21 < k → laws_heldRelationS.l0 k (cntR a0 n) a i = some (a0 + 3 * (n : Int)) := by
 have hl := cntR_len a0 n
 induction d with
 | zero =>
  intro i a ha hd _ k hk
  obtain ⟨k, rfl, hk⟩ := fuel hk
  rw [laws_heldRelationS.l0, if_neg (by omega), ha, show i = n by omega]
 | succ d ih =>
  intro i a ha hd hc k hk
  obtain ⟨k, rfl, hk⟩ := fuel hk
  rw [cntR, List.drop_eq_getElem_cons (by omega)] at hc
  obtain ⟨c1, c2⟩ := List.cons.inj hc
  have hr : rd_T42 (cntR a0 n) (i : Int) = (⟨mTx a, a + 1, a + 1 + 1⟩ : S42) := by unfold rd_T42; rw [Int.toNat_natCast, getD_lt _ _ i (by omega)]; exact c1
  rw [laws_heldRelationS.l0, if_pos (by omega), if_pos (by omega), mTx_at a (by omega) (by omega) k (by omega), Option.bind_some, hr]
  dsimp only
  rw [if_pos rfl, w64 (n := a + 1) (by omega) (by omega), if_pos rfl, w64 (n := a + 1 + 1) (by omega) (by omega), if_pos rfl, w64 (n := a + 1 + 1 + 1) (by omega) (by omega), show wrap64 ((i : Int) + 1) = ((i + 1 : Nat) : Int) by rw [w64 (by omega) (by omega)]; omega]
  exact ih (i + 1) (a + 1 + 1 + 1) (by omega) (by omega) c2 k (by omega)
def cntF : Int → List Nat → List S47
 | _, [] => []
 | a, n :: ns => (⟨a, cnt (a + 1) n⟩ : S47) :: cntF (a + 1 + n) ns
def endF : Int → List Nat → Int
 | a, [] => a
 | a, n :: ns => endF (a + 1 + n) ns
theorem cntF_len : ∀ (a : Int) (ns : List Nat), (cntF a ns).length = ns.length
 | _, [] => rfl
 | a, n :: ns => by rw [cntF, List.length_cons, List.length_cons, cntF_len]
theorem endF_le : ∀ (ns : List Nat) (a : Int), (∀ n ∈ ns, n ≤ 1048576) → a ≤ endF a ns ∧ endF a ns ≤ a + 1048577 * (ns.length : Int)
 | [], a, _ => by simp [endF]
 | n :: ns, a, h => by
  have := endF_le ns (a + 1 + n) (fun m hm => h m (List.mem_cons_of_mem _ hm))
  have h1 := h n (List.mem_cons_self ..)
  rw [endF, List.length_cons]
  omega
theorem markFDl (n : Nat) (hn : n ≤ 1048576) (d : Nat) : ∀ (i : Nat) (xs : List S47) (a : Int), xs.length = n → (∀ y ∈ xs, y.f1.length ≤ 1048576) → i + d = n → 0 ≤ a → a + 1048577 * (d : Int) ≤ 100000000000000000 → ∀ k, d + 1048577 < k → laws_markFactS.l0 k xs a i = some (endF a ((xs.drop i).map fun y => y.f1.length), xs.take i ++ cntF a ((xs.drop i).map fun y => y.f1.length)) := by
 induction d with
 | zero =>
  intro i xs a hx hg hd h0 _ k hk
  obtain ⟨k, rfl, hk⟩ := fuel hk
  rw [laws_markFactS.l0, if_neg (by omega), List.drop_eq_nil_of_le (by omega), List.take_of_length_le (by omega), List.map_nil, cntF, endF, List.append_nil]
 | succ d ih =>
  intro i xs a hx hg hd h0 h1 k hk
  obtain ⟨k, rfl, hk⟩ := fuel hk
  have he : rd_T47 xs (i : Int) = xs[i]'(by omega) := by unfold rd_T47; rw [Int.toNat_natCast, getD_lt _ _ i (by omega)]
  have hr : (xs[i]'(by omega)).f1.length ≤ 1048576 := hg _ (List.getElem_mem _)
  rw [laws_markFactS.l0, if_pos (by omega), if_pos (by omega), w64 (n := a + 1) (by omega) (by omega), he, markI _ hr _ (by omega) (by omega) k (by omega), Option.bind_some, show wrap64 ((i : Int) + 1) = ((i + 1 : Nat) : Int) by rw [w64 (by omega) (by omega)]; omega, Int.toNat_natCast]
  dsimp only
  rw [ih (i + 1) _ _ (by rw [List.length_set]; exact hx) (fun y hy => by
   rcases List.mem_or_eq_of_mem_set hy with h | h
   ·exact hg y h
   ·rw [h, cnt_len]; exact hr) (by omega) (by omega) (by push_cast at h1 ⊢; omega) k (by omega), take_set_succ xs i _ (by omega)]
  rw [show (xs.set i (⟨a, cnt (a + 1) (xs[i]'(by omega)).f1.length⟩ : S47)).drop (i + 1) = xs.drop (i + 1) by rw [List.drop_set_of_lt (by omega)]]
  rw [List.drop_eq_getElem_cons (i := i) (l := xs) (by omega), List.map_cons, cntF, endF, List.append_assoc]
  rfl
theorem heldFDl (ys : List S47) (hn : ys.length ≤ 1048576) : ∀ (ns : List Nat) (i : Nat) (a : Int), (∀ n ∈ ns, n ≤ 1048576) → i + ns.length = ys.length → ys.drop i = cntF a ns → 0 ≤ a → a + 1048577 * (ns.length : Int) ≤ 100000000000000000 → ∀ k, ns.length + 1048577 < k → laws_heldFactS.l0 k ys a i = some (endF a ns) := by
 intro ns
 induction ns with
 | nil =>
  intro i a _ hd _ _ _ k hk
  obtain ⟨k, rfl, hk⟩ := fuel hk
  rw [List.length_nil] at hd
  rw [laws_heldFactS.l0, if_neg (by omega), endF]
 | cons n ns ih =>
  intro i a hb hd hc h0 h1 k hk
  obtain ⟨k, rfl, hk⟩ := fuel hk
  rw [List.length_cons] at hd h1 hk
  have hnb := hb n (List.mem_cons_self ..)
  rw [cntF, List.drop_eq_getElem_cons (by omega)] at hc
  obtain ⟨c1, c2⟩ := List.cons.inj hc
  have hr : rd_T47 ys (i : Int) = (⟨a, cnt (a + 1) n⟩ : S47) := by unfold rd_T47; rw [Int.toNat_natCast, getD_lt _ _ i (by omega)]; exact c1
  rw [laws_heldFactS.l0, if_pos (by omega), if_pos (by omega), hr]
  dsimp only
  rw [if_pos rfl, w64 (n := a + 1) (by omega) (by omega), heldI n (a + 1) (by omega) (by omega) hnb k (by omega), Option.bind_some, if_neg (by omega), show wrap64 ((i : Int) + 1) = ((i + 1 : Nat) : Int) by rw [w64 (by omega) (by omega)]; omega, endF]
  exact ih (i + 1) (a + 1 + n) (fun m hm => hb m (List.mem_cons_of_mem _ hm)) (by omega) c2 (by omega) (by omega) k (by omega)
theorem markDD (l : List S42) (fs : List S47) (hl : l.length ≤ 1048576) (hf : fs.length ≤ 1048576) (hg : ∀ y ∈ fs, y.f1.length ≤ 1048576) : ∃ (m : Int) (ys : List S42) (zs : List S47), 0 ≤ m ∧ m ≤ 1000000000000000000 ∧ ys.length = l.length ∧ zs.length = fs.length ∧ ∀ k, 2097154 < k → laws_markDatabase.f k l fs 1 = some (m, ys, zs) ∧ laws_heldDatabase.f k ys zs 1 = some m := by
 have hns : ∀ n ∈ fs.map (fun y => y.f1.length), n ≤ 1048576 := by
  intro n hn
  obtain ⟨y, hy, rfl⟩ := List.mem_map.1 hn
  exact hg y hy
 have hnl : (fs.map (fun y => y.f1.length)).length = fs.length := by simp
 have he := endF_le (fs.map (fun y => y.f1.length)) (1 + 3 * l.length) hns
 rw [hnl] at he
 refine ⟨endF (1 + 3 * l.length) (fs.map (fun y => y.f1.length)), cntR 1 l.length, cntF (1 + 3 * l.length) (fs.map (fun y => y.f1.length)), by omega, by omega, cntR_len _ _, by rw [cntF_len, hnl], fun k hk => ?_⟩
 have a1 := markRDl l.length hl l.length 0 l 1 rfl (by omega) (by omega) (by omega) k (by omega)
 have a2 := markFDl fs.length hf fs.length 0 fs (1 + 3 * l.length) rfl hg (by omega) (by omega) (by omega) k (by omega)
 have a3 := heldRDl 1 l.length (by omega) (by omega) l.length 0 1 (by omega) (by omega) (by rw [List.drop_zero]) k (by omega)
 have a4 := heldFDl (cntF (1 + 3 * l.length) (fs.map (fun y => y.f1.length))) (by rw [cntF_len, hnl]; omega) (fs.map (fun y => y.f1.length)) 0 (1 + 3 * l.length) hns (by rw [cntF_len]; omega) (by rw [List.drop_zero]) (by omega) (by rw [hnl]; omega) k (by rw [hnl]; omega)
 rw [List.take_zero, List.nil_append] at a1 a2
 rw [List.drop_zero] at a2
 constructor
 ·unfold laws_markDatabase.f laws_markRelationS.f laws_markFactS.f
  rw [show (0 : Int) = ((0 : Nat) : Int) from rfl, a1, Option.bind_some]
  dsimp only
  rw [a2, Option.bind_some]
 ·unfold laws_heldDatabase.f laws_heldRelationS.f laws_heldFactS.f
  rw [show (0 : Int) = ((0 : Nat) : Int) from rfl, a3, Option.bind_some, if_neg (by omega), a4, Option.bind_some, if_neg (by omega)]
theorem FnExactParseDatabase : FnExactParseDatabasePure := by
 intro s hs
 by_cases hn : (s.size : Int) > 1048576
 ·refine ⟨0, ?_⟩
  unfold laws_FnExactParseDatabase.f
  rw [if_pos hn]
 have hs' : s.size ≤ 1048576 := by omega
 refine ⟨13000002, ?_⟩
 generalize hk : (13000002 : Nat) = k
 have hS : ∀ q, 12000000 < q → spec_ParseDatabase.f q s = some (pD s) := fun q hq => pdS s hs' q hq
 have hI : ∀ q, 12000000 < q → impl_ParseDatabase.f q s = some (pD s) := fun q hq => pdI s hs' q hq
 have ho := pD_ok s hs'
 generalize pD s = R at hS hI ho
 obtain ⟨l, fs, v⟩ := R
 dsimp only at ho
 obtain ⟨m, ys, zs, m0, m1, hy, hz, hm⟩ := markDD l fs ho.hl ho.hf ho.hg
 have heq : ∀ q, 2097154 < q → laws_eqDatabase.f q l fs l fs = some true := fun q hq => eqD l fs ho.hl ho.hf ho.hg q hq
 unfold laws_FnExactParseDatabase.f
 rw [if_neg hn, hS k (by omega), Option.bind_some, hI k (by omega), Option.bind_some]
 dsimp only
 rw [heq k (by omega), Option.bind_some, if_pos rfl, if_pos (by simp), (hm k (by omega)).1, Option.bind_some]
 dsimp only
 rw [(hm k (by omega)).2, Option.bind_some, if_neg (by omega), if_pos rfl]
end Go.Proofs.YtckpikfbhlhhjaaGreatDoor.Pure
