/- The law FnSelectFacts answers true for every code: both texts select the same facts, and all places select the database itself. -/
import Derived.Test.YtckpikfbhlhhjaaDoorGFnSelectFacts
import Derived.Test.YtckpikfbhlhhjaaDoorBase
import Derived.Lib.ItoaLen
namespace Go.Proofs.YtckpikfbhlhhjaaDoor.Pure
open Go.RowKit Go.Proofs.YtckpikfbhlhhjaaDoor.PFnSelectFacts Go.Proofs.YtckpikfbhlhhjaaDoorW.PrintWords Go.Proofs.YtckpikfbhlhhjaaDoorW.PrintLast Go.Proofs.YtckpikfbhlhhjaaDoorW.PrintMore Go.Proofs.YtckpikfbhlhhjaaDoor.Base
set_option linter.unusedVariables false
set_option linter.unusedSimpArgs false
theorem cmpSl (a b : List Int) (ha : a.length ≤ 1048576) (hb : b.length ≤ 1048576) (d : Nat) : ∀ (i : Nat), i + d = a.length → ∀ k, 2 * d + 1 < k → spec_l3Ints.l0 k a b i = some (cmpI (a.drop i) (b.drop i)) ∨ b.length < i := by
 induction d with
 | zero =>
  intro i hd k hk
  by_cases hbi : b.length < i
  ·exact .inr hbi
  left
  obtain ⟨k, rfl⟩ : ∃ z, k = z + 2 := ⟨k - 2, by omega⟩
  rw [spec_l3Ints.l0, if_neg (by omega), spec_l3Ints.j1, if_neg (by decide), cmpI_end (.inl (List.drop_of_length_le (by omega))), List.length_drop, List.length_drop]
  by_cases h1 : (a.length : Int) < (b.length : Int)
  ·rw [if_pos h1, if_pos (show a.length - i < b.length - i by omega)]
  ·rw [if_neg h1, if_neg (show ¬ (a.length : Int) > (b.length : Int) by omega), if_neg (show ¬ a.length - i < b.length - i by omega), if_neg (show ¬ a.length - i > b.length - i by omega)]
 | succ d ih =>
  intro i hd k hk
  by_cases hbi : b.length < i
  ·exact .inr hbi
  left
  obtain ⟨k, rfl⟩ : ∃ z, k = z + 2 := ⟨k - 2, by omega⟩
  rw [spec_l3Ints.l0, if_pos (by omega)]
  by_cases hlt : i < b.length
  ·have e1 : wrap64 ((i : Int) + 1) = ((i + 1 : Nat) : Int) := by rw [w64 (by omega) (by omega)]; omega
   have e2 : rd a (i : Int) = a[i] := by unfold rd; rw [Int.toNat_natCast, getD_lt a _ i (by omega)]
   have e3 : rd b (i : Int) = b[i] := by unfold rd; rw [Int.toNat_natCast, getD_lt b _ i (by omega)]
   rw [decide_eq_true (by omega), spec_l3Ints.j1, if_pos rfl, if_pos (by omega), if_pos (by omega), if_pos (by omega), e1, e2, e3]
   rw [List.drop_eq_getElem_cons (i := i) (l := a) (by omega), List.drop_eq_getElem_cons (i := i) (l := b) (by omega), cmpI]
   by_cases h1 : a[i] < b[i]
   ·rw [if_pos h1, if_pos h1]
   ·rw [if_neg h1, if_neg h1]
    by_cases h2 : a[i] > b[i]
    ·rw [if_pos h2, if_pos h2]
    ·rw [if_neg h2, if_neg h2]
     rcases ih (i + 1) (by omega) k (by omega) with h | h
     ·exact h
     ·omega
  ·rw [decide_eq_false (by omega), spec_l3Ints.j1, if_neg (by decide), cmpI_end (.inr (List.drop_of_length_le (by omega))), List.length_drop, List.length_drop]
   rw [if_neg (show ¬ (a.length : Int) < (b.length : Int) by omega), if_pos (show (a.length : Int) > (b.length : Int) by omega), if_neg (show ¬ a.length - i < b.length - i by omega), if_pos (show a.length - i > b.length - i by omega)]
theorem cmpS (a b : List Int) (ha : a.length ≤ 1048576) (hb : b.length ≤ 1048576) (k : Nat) (hk : 2 * a.length + 1 < k) : spec_l3Ints.f k a b = some (cmpI a b) := by
 rcases cmpSl a b ha hb a.length 0 (by omega) k hk with h | h
 ·exact h
 ·omega
theorem cmpFS (x : Int) (a : List Int) (y : Int) (b : List Int) (ha : a.length ≤ 1048576) (hb : b.length ≤ 1048576) (k : Nat) (hk : 2 * a.length + 1 < k) : spec_CompareFacts.f k x a y b = some (cmpF x a y b) := by
 unfold spec_CompareFacts.f cmpF
 by_cases h1 : x < y
 ·rw [if_pos h1, if_pos h1]
 ·rw [if_neg h1, if_neg h1]
  by_cases h2 : x > y
  ·rw [if_pos h2, if_pos h2]
  ·rw [if_neg h2, if_neg h2, cmpS a b ha hb k hk]
   rfl
theorem in1 (x a b : Int) : spec_l1In.f x a b = some (decide (a ≤ x ∧ x ≤ b)) := by
 unfold spec_l1In.f
 by_cases h : a ≤ x
 ·rw [if_pos h]; simp [h]
 ·rw [if_neg h]; simp [h]
theorem vFSl (a : Int) (vs : List Int) (hs : vs.length ≤ 1048576) (d : Nat) : ∀ (i : Nat), i + d = vs.length → ∀ k, d < k → spec_IsValidFact.l0 k i a vs = some (!(vs.drop i).any noVal) := by
 induction d with
 | zero =>
  intro i hd k hk
  obtain ⟨k, rfl, hk⟩ := fuel hk
  rw [spec_IsValidFact.l0, if_neg (by omega), List.drop_of_length_le (by omega)]
  rfl
 | succ d ih =>
  intro i hd k hk
  obtain ⟨k, rfl, hk⟩ := fuel hk
  rw [spec_IsValidFact.l0, if_pos (by omega), if_pos (by omega), in1, Option.bind_some, List.drop_eq_getElem_cons (i := i) (l := vs) (by omega), List.any_cons]
  rw [show wrap64 ((i : Int) + 1) = ((i + 1 : Nat) : Int) by rw [w64 (by omega) (by omega)]; omega, show rd vs (i : Int) = vs[i] by unfold rd; rw [Int.toNat_natCast, getD_lt vs _ i (by omega)]]
  by_cases h : 0 ≤ vs[i] ∧ vs[i] ≤ 9
  ·rw [if_pos (by simpa using h), ih (i + 1) (by omega) k (by omega)]
   have : noVal vs[i] = false := by simp [noVal, h]
   rw [this, Bool.false_or]
  ·rw [if_neg (by simpa using h)]
   have : noVal vs[i] = true := by
    unfold noVal
    by_cases h1 : 0 ≤ vs[i]
    ·have h2 : ¬ vs[i] ≤ 9 := fun h2 => h ⟨h1, h2⟩
     simp [h2]
    ·simp [h1]
   rw [this, Bool.true_or]
   rfl
theorem vFS (l : List S68) (hl : l.length ≤ 1048576) (a : Int) (vs : List Int) (hs : vs.length ≤ 1048576) (k : Nat) (hk : vs.length + 1 < k) : spec_IsValidFact.f k l a vs = some (vFact l a vs) := by
 obtain ⟨k, rfl⟩ : ∃ z, k = z + 1 := ⟨k - 1, by omega⟩
 unfold spec_IsValidFact.f spec_AreValidRelations.f vFact fits
 rw [Option.bind_some, in1, Option.bind_some, w64 (by omega) (by omega)]
 by_cases h0 : vRels l = true
 ·rw [if_pos h0]
  by_cases h1 : 0 ≤ a ∧ a < (l.length : Int)
  ·rw [if_pos (by simpa using (by omega : 0 ≤ a ∧ a ≤ (l.length : Int) - 1)), if_pos h1.1, if_pos h1.2, spec_IsValidFact.j0]
   by_cases h2 : (vs.length : Int) = (rd_T68 l a).f1
   ·rw [if_neg (by simpa using h2), show (0 : Int) = ((0 : Nat) : Int) from rfl, vFSl a vs hs vs.length 0 (by omega) k (by omega), h0, decide_eq_true (by exact ⟨h1.1, h1.2, h2⟩)]
    simp
   ·rw [if_pos (by simpa using h2), decide_eq_false (by intro h; exact h2 h.2.2)]
    simp
  ·rw [if_neg (by simpa using (by omega : 0 ≤ a → ¬ a ≤ (l.length : Int) - 1)), spec_IsValidFact.j0, if_pos rfl, decide_eq_false (by intro h; exact h1 ⟨h.1, h.2.1⟩)]
   simp
 ·rw [if_neg h0, spec_IsValidFact.j0, if_pos rfl]
  simp [h0]
theorem vFI (l : List S68) (hl : l.length ≤ 1048576) (a : Int) (vs : List Int) : impl_IsValidFact.f l a vs = some (vFact l a vs) := by
 unfold impl_IsValidFact.f impl_AreValidRelations.f vFact
 rw [Option.bind_some, fitI l (by omega), Option.bind_some]
 by_cases h0 : vRels l = true
 ·rw [if_pos h0, h0]; rfl
 ·rw [if_neg h0]; simp [h0]
theorem vDSl (l : List S68) (hl : l.length ≤ 1048576) (fs : List S39) (hf : fs.length ≤ 1048576) (hg : ∀ y ∈ fs, y.f1.length ≤ 1048576) (d : Nat) : ∀ (i : Nat), i + d = fs.length → ∀ k, d + 4000000 < k → spec_IsValidDatabase.l0 k i l fs = some (vRels l && decide (fs.length ≤ 14) && okFrom l fs d i) := by
 induction d with
 | zero =>
  intro i hd k hk
  obtain ⟨k, rfl, hk⟩ := fuel hk
  rw [spec_IsValidDatabase.l0, if_neg (by omega)]
  unfold spec_AreValidRelations.f
  rw [Option.bind_some]
  by_cases h : vRels l = true
  ·rw [if_pos h, h, okFrom]
   simp only [Bool.true_and, Bool.and_true]
   congr 2
   exact propext (by omega)
  ·rw [if_neg h]; simp [h]
 | succ d ih =>
  intro i hd k hk
  obtain ⟨k, rfl, hk⟩ := fuel hk
  have hy := hg _ (getD_mem fs z39 i (by omega))
  rw [spec_IsValidDatabase.l0, if_pos (by omega), if_pos (by omega)]
  unfold rd_T39
  rw [Int.toNat_natCast, vFS l hl _ _ hy k (by omega), Option.bind_some, okFrom]
  unfold vFact
  by_cases h0 : vRels l = true
  ·by_cases h1 : fits l (fs.getD i z39).f0 (fs.getD i z39).f1 = true
   ·rw [h0, h1, Bool.true_and, if_pos rfl]
    by_cases hi : i = 0
    ·rw [if_neg (by omega), show wrap64 ((i : Int) + 1) = ((i + 1 : Nat) : Int) by rw [w64 (by omega) (by omega)]; omega, ih (i + 1) (by omega) k (by omega), h0, decide_eq_true hi]
     simp
    ·have hy' := hg _ (getD_mem fs z39 (i - 1) (by omega))
     have ew : wrap64 ((i : Int) - 1) = ((i - 1 : Nat) : Int) := by rw [w64 (by omega) (by omega)]; omega
     rw [if_pos (by omega), ew, if_pos (by omega), if_pos (by omega), Int.toNat_natCast, cmpFS _ _ _ _ hy' hy k (by omega), Option.bind_some, decide_eq_false hi]
     by_cases hc : cmpF (fs.getD (i - 1) z39).f0 (fs.getD (i - 1) z39).f1 (fs.getD i z39).f0 (fs.getD i z39).f1 < 0
     ·rw [if_neg (by omega), show wrap64 ((i : Int) + 1) = ((i + 1 : Nat) : Int) by rw [w64 (by omega) (by omega)]; omega, ih (i + 1) (by omega) k (by omega), h0, decide_eq_true hc]
      simp
     ·rw [if_pos (by omega), decide_eq_false hc]
      simp
   ·rw [Bool.eq_false_iff.2 h1, Bool.and_false, if_neg (by decide)]
    simp
  ·rw [if_neg (by simp [h0])]
   simp [h0]
theorem vDS (l : List S68) (hl : l.length ≤ 1048576) (fs : List S39) (hf : fs.length ≤ 1048576) (hg : ∀ y ∈ fs, y.f1.length ≤ 1048576) (k : Nat) (hk : 6000000 < k) : spec_IsValidDatabase.f k l fs = some (vDb l fs) := by
 unfold spec_IsValidDatabase.f vDb
 exact vDSl l hl fs hf hg fs.length 0 (by omega) k (by omega)
theorem inB_iff (x a b : Int) : inB x a b = true ↔ a ≤ x ∧ x ≤ b := by unfold inB; exact decide_eq_true_iff
theorem vRelsFrom_at (l : List S68) : ∀ (d i : Nat), vRelsFrom l d i = true → ∀ j, i ≤ j → j < i + d → vRel (l.getD j z68) = true
 | 0, i, _, j, h1, h2 => by omega
 | d + 1, i, h, j, h1, h2 => by
  rw [vRelsFrom, Bool.and_eq_true, Bool.and_eq_true] at h
  by_cases hj : j = i
  ·subst hj
   exact h.1.1
  ·exact vRelsFrom_at l d (i + 1) h.2 j (by omega) (by omega)
theorem vRels_at (l : List S68) (h : vRels l = true) (a : Int) (h0 : 0 ≤ a) (h1 : a < (l.length : Int)) : vRel (rd_T68 l a) = true := by
 unfold rd_T68
 exact vRelsFrom_at l l.length 0 h a.toNat (by omega) (by omega)
theorem fits_iff (l : List S68) (a : Int) (vs : List Int) : fits l a vs = true ↔ (0 ≤ a ∧ a < (l.length : Int) ∧ (vs.length : Int) = (rd_T68 l a).f1) ∧ vs.any noVal = false := by
 unfold fits
 rw [Bool.and_eq_true, decide_eq_true_iff, Bool.not_eq_true']
theorem key_ok (l : List S68) (hr : vRels l = true) (a : Int) (vs : List Int) (h : fits l a vs = true) :
  0 ≤ a ∧ a < (l.length : Int) ∧ 0 ≤ (rd_T68 l a).f2 ∧ (rd_T68 l a).f2 ≤ (vs.length : Int) ∧ (vs.length : Int) = (rd_T68 l a).f1 ∧ vs.length ≤ 3 := by
 obtain ⟨⟨h0, h1, h2⟩, _⟩ := (fits_iff l a vs).1 h
 have hv := vRels_at l hr a h0 h1
 unfold vRel at hv
 rw [Bool.and_eq_true, Bool.and_eq_true, inB_iff, inB_iff] at hv
 exact ⟨h0, h1, by omega, by omega, h2, by omega⟩
def dig (u : Nat) : List UInt8 := if u = 0 then [] else Lib.decDigits u
theorem dig_step (u : Nat) (h : 0 < u) : dig u = dig (u / 10) ++ [UInt8.ofNat (48 + u % 10)] := by
 unfold dig
 rw [if_neg (by omega), Lib.decDigits]
 by_cases c : u < 10
 ·rw [dif_pos c, if_pos (by omega), List.nil_append, Nat.mod_eq_of_lt c]
 ·rw [dif_neg c, if_neg (by omega)]
theorem sn_cons (z : Int) (l : List UInt8) : strOfNums [z] ++ (⟨l.toArray⟩ : ByteArray) = ⟨(UInt8.ofNat z.toNat :: l).toArray⟩ := by
 apply ByteArray.ext
 apply Array.ext'
 rw [ByteArray.data_append, Array.toList_append, sn_toList]
 simp
theorem sz_mk (l : List UInt8) : (⟨l.toArray⟩ : ByteArray).size = l.length := by
 rw [show (⟨l.toArray⟩ : ByteArray).size = (⟨l.toArray⟩ : ByteArray).data.size from rfl]; simp
def fin (neg : Bool) (l : List UInt8) : ByteArray := if neg = true then ⟨(45 :: l).toArray⟩ else ⟨l.toArray⟩
theorem fil (d : Nat) : ∀ (u : Nat) (x : Int) (neg : Bool) (l : List UInt8), (x = u ∨ x = -(u : Int)) → u < 10 ^ d → u ≤ 9223372036854775808 → l.length + d ≤ 1000 → ∀ k, d < k → spec_FormatInt.l0 k x ⟨l.toArray⟩ neg = some (fin neg (dig u ++ l)) := by
 induction d with
 | zero =>
  intro u x neg l hx hu _ hl k hk
  obtain ⟨k, rfl, hk⟩ := fuel hk
  rw [Nat.pow_zero] at hu
  rw [spec_FormatInt.l0, if_pos (by omega), show u = 0 by omega]
  unfold fin dig
  rw [if_pos rfl, List.nil_append]
  by_cases h : neg = true
  ·rw [if_pos h, if_pos h, if_pos (by rw [sz_mk]; omega)]
   congr 1
  ·rw [if_neg h, if_neg h]
 | succ d ih =>
  intro u x neg l hx hu hb hl k hk
  obtain ⟨k, rfl, hk⟩ := fuel hk
  by_cases h0 : u = 0
  ·rw [spec_FormatInt.l0, if_pos (by omega), h0]
   unfold fin dig
   rw [if_pos rfl, List.nil_append]
   by_cases h : neg = true
   ·rw [if_pos h, if_pos h, if_pos (by rw [sz_mk]; omega)]
    congr 1
   ·rw [if_neg h, if_neg h]
  ·have hm : Int.tmod x 10 = (u % 10 : Nat) ∨ Int.tmod x 10 = -((u % 10 : Nat) : Int) := by
    rcases hx with rfl | rfl
    ·left; rw [Int.tmod_eq_emod_of_nonneg (by omega)]; omega
    ·right; rw [Int.neg_tmod, Int.tmod_eq_emod_of_nonneg (by omega)]; omega
   have hd : Int.tdiv x 10 = (u / 10 : Nat) ∨ Int.tdiv x 10 = -((u / 10 : Nat) : Int) := by
    rcases hx with rfl | rfl
    ·left; rw [Int.tdiv_eq_ediv_of_nonneg (by omega)]; omega
    ·right; rw [Int.neg_tdiv, Int.tdiv_eq_ediv_of_nonneg (by omega)]; omega
   have h1 : (strOfNums [((48 + u % 10 : Nat) : Int)]).size = 1 := by rw [sn_size]; rfl
   have hs := ih (u / 10) (Int.tdiv x 10) neg (UInt8.ofNat (48 + u % 10) :: l) hd (by rw [Nat.pow_succ] at hu; omega) (by omega) (by simp only [List.length_cons]; omega) k (by omega)
   have hz : wrap64 (Int.tdiv x 10) = Int.tdiv x 10 := w64 (by omega) (by omega)
   have hn : ∀ z : Int, z = ((u % 10 : Nat) : Int) → wrap64 (48 + z) % 256 = ((48 + u % 10 : Nat) : Int) := by
    intro z e
    rw [w64 (by omega) (by omega)]
    omega
   have hfin : spec_FormatInt.l0 k (wrap64 (Int.tdiv x 10)) (strOfNums [((48 + u % 10 : Nat) : Int)] ++ ⟨l.toArray⟩) neg = some (fin neg (dig u ++ l)) := by
    rw [hz, sn_cons, Int.toNat_natCast, hs, dig_step u (by omega), List.append_assoc]
    rfl
   rw [spec_FormatInt.l0, if_neg (by omega)]
   by_cases hc : Int.tmod x 10 < 0
   ·rw [if_pos hc, Option.bind_some, hn _ (by rw [w64 (by omega) (by omega)]; omega), if_pos (by rw [h1, sz_mk]; omega)]
    exact hfin
   ·rw [if_neg hc, Option.bind_some, hn _ (by omega), if_pos (by rw [h1, sz_mk]; omega)]
    exact hfin
theorem fiS (n : Int) (h0 : -9223372036854775808 ≤ n) (h1 : n ≤ 9223372036854775807) (k : Nat) (hk : 30 < k) : spec_FormatInt.f k n = some ⟨(Lib.itoa n).toArray⟩ := by
 unfold spec_FormatInt.f
 by_cases h : n = 0
 ·rw [if_pos h, h]
  unfold Lib.itoa
  rw [if_neg (by omega), show (0 : Int).toNat = 0 from rfl, Lib.decDigits, dif_pos (by omega)]
  rfl
 ·rw [if_neg h]
  have hp : (10 : Nat) ^ 20 = 100000000000000000000 := by decide
  have := fil 20 n.natAbs n (decide (n < 0)) [] (by omega) (by omega) (by omega) (by simp) k (by omega)
  rw [show (⟨#[]⟩ : ByteArray) = ⟨([] : List UInt8).toArray⟩ from rfl, this, List.append_nil]
  unfold fin dig Lib.itoa
  rw [if_neg (show ¬ n.natAbs = 0 by omega)]
  by_cases hn : n < 0
  ·rw [if_pos (decide_eq_true hn), if_pos hn]
  ·rw [if_neg (by simpa using hn), if_neg hn, show n.natAbs = n.toNat by omega]
theorem vRel_sz (x : S68) (h : vRel x = true) : x.f0.size ≤ 1048576 := by
 unfold vRel at h
 rw [Bool.and_eq_true, Bool.and_eq_true, decide_eq_true_iff] at h
 have := h.1.1.1
 omega
theorem fiI (n : Int) (h0 : -9223372036854775808 ≤ n) (h1 : n ≤ 9223372036854775807) : impl_FormatInt.f n = some ⟨(Lib.itoa n).toArray⟩ := by
 unfold impl_FormatInt.f strconv_Itoa_92.f
 rw [if_pos h0, if_pos h1, Option.bind_some]
def numB (v : Int) : ByteArray := ⟨(Lib.itoa v).toArray⟩
theorem numB_sz (v : Int) (h0 : -9223372036854775808 ≤ v) (h1 : v ≤ 9223372036854775807) : (numB v).size ≤ 21 := by
 unfold numB; rw [sz_mk]; exact Lib.itoa_length_le v h0 h1
def ffs (f2 : Nat) : Nat → List Int → ByteArray → ByteArray
 | _, [], s => s
 | i, v :: vs, s => ffs f2 (i + 1) vs ((if i = f2 then s ++ (⟨#[124]⟩ : ByteArray) else s) ++ numB v)
theorem ffSl (l : List S68) (a : Int) (ha : 0 ≤ a) (ha' : a < (l.length : Int)) (f2 : Nat) (h2 : (rd_T68 l a).f2 = f2) (vs : List Int) (hn : vs.length ≤ 3) (hb : ∀ v ∈ vs, -9223372036854775808 ≤ v ∧ v ≤ 9223372036854775807) (d : Nat) : ∀ (i : Nat) (s : ByteArray), i + d = vs.length → s.size + 30 * d ≤ 1000000000 → ∀ k, d + 40 < k → spec_FormatFact.l0 k l s i a vs = some (ffs f2 i (vs.drop i) s) := by
 induction d with
 | zero =>
  intro i s hd _ k hk
  obtain ⟨k, rfl, hk⟩ := fuel hk
  rw [spec_FormatFact.l0, if_neg (by omega), List.drop_eq_nil_of_le (by omega), ffs]
 | succ d ih =>
  intro i s hd hs k hk
  obtain ⟨k, rfl, hk⟩ := fuel hk
  have hv := hb vs[i] (List.getElem_mem _)
  have hz := numB_sz vs[i] hv.1 hv.2
  have hr : rd vs (i : Int) = vs[i] := by unfold rd; rw [Int.toNat_natCast, getD_lt _ _ i (by omega)]
  have l1 : (⟨#[124]⟩ : ByteArray).size = 1 := rfl
  have hf : spec_FormatInt.f k vs[i] = some (numB vs[i]) := fiS _ hv.1 hv.2 k (by omega)
  rw [spec_FormatFact.l0, if_pos (by omega), if_pos ha, if_pos ha', h2, hr, hf, List.drop_eq_getElem_cons (by omega), ffs, show wrap64 ((i : Int) + 1) = ((i + 1 : Nat) : Int) by rw [w64 (by omega) (by omega)]; omega]
  simp only [Option.bind_some]
  by_cases c : i = f2
  ·rw [if_pos (by omega), if_pos (by omega), if_pos (by omega), if_pos (by rw [ByteArray.size_append]; omega), if_pos c]
   exact ih (i + 1) _ (by omega) (by rw [ByteArray.size_append, ByteArray.size_append]; omega) k (by omega)
  ·rw [if_neg (by omega), if_pos (by omega), if_pos (by omega), if_neg c]
   exact ih (i + 1) _ (by omega) (by rw [ByteArray.size_append]; omega) k (by omega)
def bar (xs : List ByteArray) (f2 : Nat) : ByteArray := if (f2 : Int) < (xs.length : Int) then (⟨(Shelf.cat_ (xs.take f2)).toArray⟩ : ByteArray) ++ ((⟨#[124]⟩ : ByteArray) ++ (⟨(Shelf.cat_ (xs.drop f2)).toArray⟩ : ByteArray)) else (⟨(Shelf.cat_ (xs.take f2)).toArray⟩ : ByteArray)
theorem cat_sz : ∀ xs : List ByteArray, (∀ x ∈ xs, x.size ≤ 21) → (Shelf.cat_ xs).length ≤ 21 * xs.length
 | [], _ => by rw [Shelf.cat_]; simp
 | x :: xs, h => by
  have := cat_sz xs fun y hy => h y (List.mem_cons_of_mem _ hy)
  have hx := h x (List.mem_cons_self ..)
  have e : x.toList.length = x.size := by rw [tl_eq, Array.length_toList]; rfl
  rw [Shelf.cat_, List.length_append, List.length_cons, e]
  omega
theorem bar_sz (xs : List ByteArray) (f2 : Nat) (hn : xs.length ≤ 3) (h : ∀ x ∈ xs, x.size ≤ 21) : (bar xs f2).size ≤ 1000 := by
 have h1 := cat_sz xs h
 have h2 := Shelf.cat_len xs f2
 have l1 : (⟨#[124]⟩ : ByteArray).size = 1 := rfl
 unfold bar
 split
 ·rw [ByteArray.size_append, ByteArray.size_append, sz_mk, l1, sz_mk]; omega
 ·rw [sz_mk]; omega
theorem ffIl (l : List S68) (a : Int) (ha : 0 ≤ a) (ha' : a < (l.length : Int)) (f2 : Nat) (h2 : (rd_T68 l a).f2 = f2) (vs : List Int) (hn : vs.length ≤ 3) (hf : f2 ≤ vs.length) (hsz : (rd_T68 l a).f0.size ≤ 1048576) (hb : ∀ v ∈ vs, -9223372036854775808 ≤ v ∧ v ≤ 9223372036854775807) (d : Nat) : ∀ (i : Nat), i + d = vs.length → ∀ k, d < k → impl_FormatFact.l0 k l ((vs.take i).map numB) vs vs.length i a vs = some ((rd_T68 l a).f0 ++ bar (vs.map numB) f2) := by
 have hm : ∀ x ∈ vs.map numB, x.size ≤ 21 := by
  intro x hx
  obtain ⟨v, hv, rfl⟩ := List.mem_map.1 hx
  exact numB_sz v (hb v hv).1 (hb v hv).2
 have hml : (vs.map numB).length = vs.length := List.length_map ..
 induction d with
 | zero =>
  intro i hd k hk
  obtain ⟨k, rfl, hk⟩ := fuel hk
  have hc := cat_sz _ hm
  have hbz := bar_sz (vs.map numB) f2 (by omega) hm
  have hbr : impl_barred.f (vs.map numB) f2 = some (bar (vs.map numB) f2) := by
   unfold impl_barred.f bar
   rw [if_pos (by omega), if_pos (by omega), Int.toNat_natCast]
  rw [impl_FormatFact.l0, if_neg (by omega), if_pos ha, if_pos ha', h2, List.take_of_length_le (by omega), hbr, Option.bind_some, if_pos (by omega)]
 | succ d ih =>
  intro i hd k hk
  obtain ⟨k, rfl, hk⟩ := fuel hk
  have hv := hb vs[i] (List.getElem_mem _)
  have hr : rd vs (i : Int) = vs[i] := by unfold rd; rw [Int.toNat_natCast, getD_lt _ _ i (by omega)]
  have hfi : impl_FormatInt.f vs[i] = some (numB vs[i]) := fiI _ hv.1 hv.2
  rw [impl_FormatFact.l0, if_pos (by omega), if_pos (by omega), if_pos (by omega), hr, hfi, Option.bind_some, if_pos (by rw [List.length_map, List.length_take]; omega), show wrap64 ((i : Int) + 1) = ((i + 1 : Nat) : Int) by rw [w64 (by omega) (by omega)]; omega, show (vs.take i).map numB ++ [numB vs[i]] = (vs.take (i + 1)).map numB by rw [List.take_succ_eq_append_getElem (by omega), List.map_append]; rfl]
  exact ih (i + 1) (by omega) k (by omega)
theorem ba_app (s : ByteArray) (l m : List UInt8) : s ++ (⟨(l ++ m).toArray⟩ : ByteArray) = (s ++ (⟨l.toArray⟩ : ByteArray)) ++ (⟨m.toArray⟩ : ByteArray) := by
 apply ByteArray.ext
 apply Array.ext'
 simp [ByteArray.data_append]
theorem ba_num (s x : ByteArray) (l : List UInt8) : s ++ (⟨(x.toList ++ l).toArray⟩ : ByteArray) = (s ++ x) ++ (⟨l.toArray⟩ : ByteArray) := by
 rw [ba_app, tl_eq]
theorem ffs_past (f2 : Nat) : ∀ (vs : List Int) (i : Nat) (s : ByteArray), f2 < i → ffs f2 i vs s = s ++ (⟨(Shelf.cat_ (vs.map numB)).toArray⟩ : ByteArray)
 | [], i, s, _ => by
  rw [ffs, List.map_nil, Shelf.cat_]
  apply ByteArray.ext; apply Array.ext'; simp [ByteArray.data_append]
 | v :: vs, i, s, h => by rw [ffs, if_neg (by omega), ffs_past f2 vs (i + 1) _ (by omega), List.map_cons, Shelf.cat_, ba_num]
theorem ffs_bar : ∀ (vs : List Int) (i f2 : Nat) (s : ByteArray), i ≤ f2 → ffs f2 i vs s = s ++ bar (vs.map numB) (f2 - i)
 | [], i, f2, s, h => by
  rw [ffs, List.map_nil]
  unfold bar
  rw [if_neg (by simp), List.take_nil, Shelf.cat_]
  apply ByteArray.ext; apply Array.ext'; simp [ByteArray.data_append]
 | v :: vs, i, f2, s, h => by
  rw [ffs]
  by_cases c : i = f2
  ·rw [if_pos c, ffs_past f2 vs (i + 1) _ (by omega), show f2 - i = 0 by omega]
   unfold bar
   rw [if_pos (by simp), List.take_zero, List.drop_zero, List.map_cons, Shelf.cat_, Shelf.cat_, tl_eq]
   apply ByteArray.ext; apply Array.ext'; simp [ByteArray.data_append]
  ·rw [if_neg c, ffs_bar vs (i + 1) f2 _ (by omega), show f2 - i = (f2 - (i + 1)) + 1 by omega]
   unfold bar
   rw [List.map_cons, List.take_succ_cons, List.drop_succ_cons, List.length_cons, Shelf.cat_, tl_eq]
   by_cases q : ((f2 - (i + 1) : Nat) : Int) < ((vs.map numB).length : Int)
   ·rw [if_pos q, if_pos (by push_cast; omega)]
    apply ByteArray.ext; apply Array.ext'; simp [ByteArray.data_append]
   ·rw [if_neg q, if_neg (by push_cast; omega)]
    apply ByteArray.ext; apply Array.ext'; simp [ByteArray.data_append]
def ascFrom (xs : List Int) (n : Int) : Nat → Nat → Bool
 | 0, _ => true
 | d + 1, i => decide (0 ≤ xs.getD i 0 ∧ xs.getD i 0 ≤ n - 1) && (decide (i = 0) || decide (xs.getD (i - 1) 0 < xs.getD i 0)) && ascFrom xs n d (i + 1)
def asc (xs : List Int) (n : Int) : Bool := ascFrom xs n xs.length 0
def sel (fs : List S39) (xs : List Int) : List S39 := xs.map fun i => fs.getD i.toNat z39
theorem rdD (xs : List Int) (i : Nat) : rd xs (i : Int) = xs.getD i 0 := by unfold rd; rw [Int.toNat_natCast]
theorem ascFrom_at (xs : List Int) (n : Int) : ∀ (d i : Nat), ascFrom xs n d i = true → ∀ j, i ≤ j → j < i + d → (0 ≤ xs.getD j 0 ∧ xs.getD j 0 ≤ n - 1) ∧ (j = 0 ∨ xs.getD (j - 1) 0 < xs.getD j 0)
 | 0, i, _, j, h1, h2 => by omega
 | d + 1, i, h, j, h1, h2 => by
  rw [ascFrom, Bool.and_eq_true, Bool.and_eq_true, Bool.or_eq_true, decide_eq_true_iff, decide_eq_true_iff, decide_eq_true_iff] at h
  by_cases hj : j = i
  ·subst hj
   exact h.1
  ·exact ascFrom_at xs n d (i + 1) h.2 j (by omega) (by omega)
theorem asc_at (xs : List Int) (n : Int) (h : asc xs n = true) (j : Nat) (hj : j < xs.length) : (0 ≤ xs.getD j 0 ∧ xs.getD j 0 ≤ n - 1) ∧ (j = 0 ∨ xs.getD (j - 1) 0 < xs.getD j 0) :=
 ascFrom_at xs n xs.length 0 h j (by omega) (by omega)
theorem sel_g (fs : List S39) (hg : ∀ y ∈ fs, y.f1.length ≤ 1048576) (xs : List Int) : ∀ y ∈ sel fs xs, y.f1.length ≤ 1048576 := by
 intro y hy
 obtain ⟨i, _, rfl⟩ := List.mem_map.1 hy
 by_cases h : i.toNat < fs.length
 ·exact hg _ (getD_mem fs z39 _ h)
 ·rw [List.getD_eq_getElem?_getD, List.getElem?_eq_none (by omega)]
  show (z39).f1.length ≤ _
  simp [z39]
theorem sel_len (fs : List S39) (xs : List Int) : (sel fs xs).length = xs.length := by unfold sel; simp
theorem sel_take (fs : List S39) (xs : List Int) (i : Nat) (h : i < xs.length) : sel fs (xs.take (i + 1)) = sel fs (xs.take i) ++ [fs.getD (xs.getD i 0).toNat z39] := by
 unfold sel
 rw [List.take_succ_eq_append_getElem h, List.map_append, getD_lt xs 0 i h]
 rfl
theorem ascSl (l : List S68) (fs : List S39) (hf : fs.length ≤ 1048576) (xs : List Int) (hx : xs.length ≤ 1048576) (d : Nat) : ∀ (i : Nat), i + d = xs.length → ∀ k, d < k → spec_l4Set.l0 k xs i l fs = some (ascFrom xs fs.length d i) := by
 induction d with
 | zero =>
  intro i hd k hk
  obtain ⟨k, rfl, hk⟩ := fuel hk
  rw [spec_l4Set.l0, if_neg (by omega), ascFrom]
 | succ d ih =>
  intro i hd k hk
  obtain ⟨k, rfl, hk⟩ := fuel hk
  have e1 : wrap64 ((i : Int) + 1) = ((i + 1 : Nat) : Int) := by rw [w64 (by omega) (by omega)]; omega
  rw [spec_l4Set.l0, if_pos (by omega), if_pos (by omega), in1, Option.bind_some, w64 (by omega) (by omega), rdD, ascFrom, e1]
  by_cases h : 0 ≤ xs.getD i 0 ∧ xs.getD i 0 ≤ (fs.length : Int) - 1
  ·rw [decide_eq_true h, if_pos rfl]
   by_cases hi : i = 0
   ·rw [if_neg (by omega), ih (i + 1) (by omega) k (by omega), decide_eq_true hi]
    simp
   ·rw [if_pos (by omega), show wrap64 ((i : Int) - 1) = ((i - 1 : Nat) : Int) by rw [w64 (by omega) (by omega)]; omega, if_pos (by omega), if_pos (by omega), rdD, decide_eq_false hi]
    by_cases hc : xs.getD (i - 1) 0 < xs.getD i 0
    ·rw [if_neg (by omega), ih (i + 1) (by omega) k (by omega), decide_eq_true hc]
     simp
    ·rw [if_pos (by omega), decide_eq_false hc]
     simp
  ·rw [decide_eq_false h, if_neg (by decide)]
   simp
theorem ascS (l : List S68) (fs : List S39) (hf : fs.length ≤ 1048576) (xs : List Int) (hx : xs.length ≤ 1048576) (k : Nat) (hk : xs.length < k) : spec_l4Set.f k l fs xs = some (asc xs fs.length) := by
 unfold spec_l4Set.f asc
 exact ascSl l fs hf xs hx xs.length 0 (by omega) k hk
theorem selSl (l l2 : List S68) (fs : List S39) (hf : fs.length ≤ 1048576) (hg : ∀ y ∈ fs, y.f1.length ≤ 1048576) (xs : List Int) (hx : xs.length ≤ 1048576) (ha : asc xs fs.length = true) (d : Nat) : ∀ (i : Nat), i + d = xs.length → ∀ k, d < k → spec_SelectFacts.l0 k xs i l fs l2 (sel fs (xs.take i)) = some (l2, sel fs xs, true) := by
 induction d with
 | zero =>
  intro i hd k hk
  obtain ⟨k, rfl, hk⟩ := fuel hk
  rw [spec_SelectFacts.l0, if_neg (by omega), List.take_of_length_le (by omega)]
 | succ d ih =>
  intro i hd k hk
  obtain ⟨k, rfl, hk⟩ := fuel hk
  have hs := (asc_at xs fs.length ha i (by omega)).1
  have hy := hg _ (getD_mem fs z39 (xs.getD i 0).toNat (by omega))
  have hn := sel_len fs (xs.take i)
  rw [List.length_take] at hn
  rw [spec_SelectFacts.l0, if_pos (by omega), if_pos (by omega), rdD, if_pos (by omega), if_pos (by omega), Option.bind_some]
  unfold rd_T39
  rw [if_pos (by simp only [List.length_nil]; omega), if_pos (by omega), List.nil_append, show wrap64 ((i : Int) + 1) = ((i + 1 : Nat) : Int) by rw [w64 (by omega) (by omega)]; omega]
  have := sel_take fs xs i (by omega)
  rw [show sel fs (xs.take i) ++ [(⟨(fs.getD (xs.getD i 0).toNat z39).f0, (fs.getD (xs.getD i 0).toNat z39).f1⟩ : S39)] = sel fs (xs.take (i + 1)) from this.symm]
  exact ih (i + 1) (by omega) k (by omega)
theorem selS (l : List S68) (hl : l.length ≤ 1048576) (fs : List S39) (hf : fs.length ≤ 1048576) (hg : ∀ y ∈ fs, y.f1.length ≤ 1048576) (xs : List Int) (hx : xs.length ≤ 1048576) (k : Nat) (hk : 7000000 < k) :
  spec_SelectFacts.f k l fs xs = some (if vDb l fs = true ∧ asc xs fs.length = true then (l, sel fs xs, true) else ([], [], false)) := by
 obtain ⟨k, rfl⟩ : ∃ z, k = z + 1 := ⟨k - 1, by omega⟩
 unfold spec_SelectFacts.f
 rw [vDS l hl fs hf hg _ (by omega), Option.bind_some]
 by_cases h : vDb l fs = true
 ·rw [if_pos h, ascS l fs hf xs hx _ (by omega), Option.bind_some, spec_SelectFacts.j0]
  by_cases h2 : asc xs fs.length = true
  ·rw [if_neg (by rw [h2]; decide), Option.bind_some, if_pos (by simp only [List.length_nil]; omega), if_pos ⟨h, h2⟩, List.nil_append]
   exact selSl l l fs hf hg xs hx h2 xs.length 0 (by omega) k (by omega)
  ·rw [Bool.eq_false_iff.2 h2, if_pos (by decide), if_neg (by simp)]
 ·rw [if_neg h, spec_SelectFacts.j0, if_pos rfl, if_neg (by simp [h])]
theorem ascIl (xs : List Int) (n : Int) (h0 : 0 ≤ n) (hn : n ≤ 1048576) (hx : xs.length ≤ 1048576) (d : Nat) : ∀ (i : Nat), i + d = xs.length → ∀ k, d < k → impl_areIndices.l0 k xs n xs xs.length i = some (ascFrom xs n d i) := by
 induction d with
 | zero =>
  intro i hd k hk
  obtain ⟨k, rfl, hk⟩ := fuel hk
  rw [impl_areIndices.l0, if_neg (by omega), ascFrom]
 | succ d ih =>
  intro i hd k hk
  obtain ⟨k, rfl, hk⟩ := fuel hk
  have e1 : wrap64 ((i : Int) + 1) = ((i + 1 : Nat) : Int) := by rw [w64 (by omega) (by omega)]; omega
  rw [impl_areIndices.l0, if_pos (by omega), if_pos (by omega), if_pos (by omega), inI, Option.bind_some, w64 (by omega) (by omega), rdD, ascFrom, e1]
  unfold inB
  by_cases h : 0 ≤ xs.getD i 0 ∧ xs.getD i 0 ≤ n - 1
  ·rw [decide_eq_true h, if_pos rfl]
   by_cases hi : i = 0
   ·rw [if_neg (by omega), ih (i + 1) (by omega) k (by omega), decide_eq_true hi]
    simp
   ·rw [if_pos (by omega), show wrap64 ((i : Int) - 1) = ((i - 1 : Nat) : Int) by rw [w64 (by omega) (by omega)]; omega, if_pos (by omega), if_pos (by omega), rdD, decide_eq_false hi]
    by_cases hc : xs.getD (i - 1) 0 < xs.getD i 0
    ·rw [if_neg (by omega), ih (i + 1) (by omega) k (by omega), decide_eq_true hc]
     simp
    ·rw [if_pos (by omega), decide_eq_false hc]
     simp
  ·rw [decide_eq_false h, if_neg (by decide)]
   simp
theorem ascI (xs : List Int) (n : Int) (h0 : 0 ≤ n) (hn : n ≤ 1048576) (hx : xs.length ≤ 1048576) (k : Nat) (hk : xs.length < k) : impl_areIndices.f k xs n = some (asc xs n) := by
 unfold impl_areIndices.f asc
 exact ascIl xs n h0 hn hx xs.length 0 (by omega) k hk
theorem copyIl (l : List S68) (fs : List S39) (hf : fs.length ≤ 1048576) (hg : ∀ y ∈ fs, y.f1.length ≤ 1048576) (d : Nat) : ∀ (i : Nat), i + d = fs.length → ∀ k, d < k → impl_copyDatabase.l0 k fs fs.length i l (fs.take i) = some (l, fs) := by
 induction d with
 | zero =>
  intro i hd k hk
  obtain ⟨k, rfl, hk⟩ := fuel hk
  rw [impl_copyDatabase.l0, if_neg (by omega), List.take_of_length_le (by omega)]
 | succ d ih =>
  intro i hd k hk
  obtain ⟨k, rfl, hk⟩ := fuel hk
  have hy := hg _ (getD_mem fs z39 i (by omega))
  rw [impl_copyDatabase.l0, if_pos (by omega), if_pos (by omega), if_pos (by omega), Option.bind_some]
  unfold rd_T39
  rw [Int.toNat_natCast, if_pos (by simp only [List.length_nil]; omega), if_pos (by rw [List.length_take]; omega), List.nil_append, show wrap64 ((i : Int) + 1) = ((i + 1 : Nat) : Int) by rw [w64 (by omega) (by omega)]; omega]
  rw [show fs.take i ++ [(⟨(fs.getD i z39).f0, (fs.getD i z39).f1⟩ : S39)] = fs.take (i + 1) by rw [List.take_succ_eq_append_getElem (by omega), getD_lt fs _ i (by omega)]]
  exact ih (i + 1) (by omega) k (by omega)
theorem copyI (l : List S68) (hl : l.length ≤ 1048576) (fs : List S39) (hf : fs.length ≤ 1048576) (hg : ∀ y ∈ fs, y.f1.length ≤ 1048576) (k : Nat) (hk : fs.length < k) : impl_copyDatabase.f k l fs = some (l, fs) := by
 unfold impl_copyDatabase.f
 rw [Option.bind_some, if_pos (by simp only [List.length_nil]; omega), List.nil_append]
 exact copyIl l fs hf hg fs.length 0 (by omega) k hk
theorem selIl (l l2 : List S68) (fs : List S39) (hf : fs.length ≤ 1048576) (xs : List Int) (hx : xs.length ≤ 1048576) (ha : asc xs fs.length = true) (d : Nat) : ∀ (i : Nat), i + d = xs.length → ∀ k, d < k → impl_SelectFacts.l0 k xs xs.length i l fs l2 (sel fs (xs.take i)) = some (l2, sel fs xs, true) := by
 induction d with
 | zero =>
  intro i hd k hk
  obtain ⟨k, rfl, hk⟩ := fuel hk
  rw [impl_SelectFacts.l0, if_neg (by omega), List.take_of_length_le (by omega)]
 | succ d ih =>
  intro i hd k hk
  obtain ⟨k, rfl, hk⟩ := fuel hk
  have hs := (asc_at xs fs.length ha i (by omega)).1
  have hn := sel_len fs (xs.take i)
  rw [List.length_take] at hn
  rw [impl_SelectFacts.l0, if_pos (by omega), if_pos (by omega), if_pos (by omega), rdD, if_pos (by omega), if_pos (by omega)]
  unfold rd_T39
  rw [if_pos (by omega), show wrap64 ((i : Int) + 1) = ((i + 1 : Nat) : Int) by rw [w64 (by omega) (by omega)]; omega]
  have := sel_take fs xs i (by omega)
  rw [show sel fs (xs.take i) ++ [(⟨(fs.getD (xs.getD i 0).toNat z39).f0, (fs.getD (xs.getD i 0).toNat z39).f1⟩ : S39)] = sel fs (xs.take (i + 1)) from this.symm]
  exact ih (i + 1) (by omega) k (by omega)
theorem selI (l : List S68) (hl : l.length ≤ 1048576) (fs : List S39) (hf : fs.length ≤ 1048576) (hg : ∀ y ∈ fs, y.f1.length ≤ 1048576) (xs : List Int) (hx : xs.length ≤ 1048576) (k : Nat) (hk : 7000000 < k) :
  impl_SelectFacts.f k l fs xs = some (if vDb l fs = true ∧ asc xs fs.length = true then (l, sel fs xs, true) else ([], [], false)) := by
 obtain ⟨k, rfl⟩ : ∃ z, k = z + 1 := ⟨k - 1, by omega⟩
 unfold impl_SelectFacts.f
 rw [vDI l hl fs hf hg (k + 1) (by omega), Option.bind_some]
 by_cases h : vDb l fs = true
 ·rw [if_pos h, ascI xs _ (by omega) (by omega) hx _ (by omega), Option.bind_some, impl_SelectFacts.j0]
  by_cases h2 : asc xs fs.length = true
  ·rw [if_neg (by rw [h2]; decide), copyI l hl fs hf hg _ (by omega), Option.bind_some, if_pos ⟨h, h2⟩]
   exact selIl l l fs hf xs hx h2 xs.length 0 (by omega) k (by omega)
  ·rw [Bool.eq_false_iff.2 h2, if_pos (by decide), if_neg (by simp)]
 ·rw [if_neg h, impl_SelectFacts.j0, if_pos rfl, if_neg (by simp [h])]
def fTx (l : List S68) (a : Int) (vs : List Int) : ByteArray := if vFact l a vs = true then (rd_T68 l a).f0 ++ bar (vs.map numB) (rd_T68 l a).f2.toNat else (⟨#[]⟩ : ByteArray)
theorem fTx_sz (l : List S68) (a : Int) (vs : List Int) (hb : ∀ v ∈ vs, -9223372036854775808 ≤ v ∧ v ≤ 9223372036854775807) : (fTx l a vs).size ≤ 1049576 := by
 unfold fTx
 by_cases h : vFact l a vs = true
 ·have hv := h
  unfold vFact at hv
  rw [Bool.and_eq_true] at hv
  obtain ⟨h0, h1, h2, h3, h4, h5⟩ := key_ok l hv.1 a vs hv.2
  have hsz : (rd_T68 l a).f0.size ≤ 1048576 := vRel_sz _ (vRels_at l hv.1 a h0 h1)
  have hm : ∀ x ∈ vs.map numB, x.size ≤ 21 := by
   intro x hx
   obtain ⟨v, hv, rfl⟩ := List.mem_map.1 hx
   exact numB_sz v (hb v hv).1 (hb v hv).2
  have hbz := bar_sz (vs.map numB) (rd_T68 l a).f2.toNat (by rw [List.length_map]; exact h5) hm
  rw [if_pos h, ByteArray.size_append]
  omega
 ·rw [if_neg h]
  exact Nat.zero_le _
theorem ffB2 (l : List S68) (hl : l.length ≤ 1048576) (a : Int) (vs : List Int) (hs : vs.length ≤ 1048576) (hb : ∀ v ∈ vs, -9223372036854775808 ≤ v ∧ v ≤ 9223372036854775807) (k : Nat) (hk : 2000000 < k) : spec_FormatFact.f k l a vs = some (fTx l a vs) ∧ impl_FormatFact.f k l a vs = some (fTx l a vs) := by
 unfold spec_FormatFact.f impl_FormatFact.f fTx
 rw [vFS l hl a vs hs k (by omega), vFI l hl a vs, Option.bind_some, Option.bind_some]
 by_cases h : vFact l a vs = true
 ·have hv := h
  unfold vFact at hv
  rw [Bool.and_eq_true] at hv
  obtain ⟨h0, h1, h2, h3, h4, h5⟩ := key_ok l hv.1 a vs hv.2
  have hn := vRels_at l hv.1 a h0 h1
  have hsz : (rd_T68 l a).f0.size ≤ 1048576 := vRel_sz _ hn
  rw [if_pos h, if_pos h, if_pos h0, if_pos h1, if_pos h]
  have e1 := ffSl l a h0 h1 (rd_T68 l a).f2.toNat (by omega) vs h5 hb vs.length 0 (rd_T68 l a).f0 (by omega) (by omega) k (by omega)
  have e2 := ffIl l a h0 h1 (rd_T68 l a).f2.toNat (by omega) vs h5 (by omega) hsz hb vs.length 0 (by omega) k (by omega)
  rw [List.drop_zero, ffs_bar vs 0 _ _ (by omega), Nat.sub_zero] at e1
  exact ⟨e1, e2⟩
 ·rw [if_neg h, if_neg h, if_neg h]
  exact ⟨rfl, rfl⟩
def spj (b : ByteArray) : Nat → List ByteArray → ByteArray → ByteArray
 | _, [], s => s
 | i, x :: xs, s => spj b (i + 1) xs ((if 0 < i then s ++ b else s) ++ x)
theorem spj_tail (b : ByteArray) : ∀ (xs : List ByteArray) (i : Nat) (s : ByteArray), 0 < i → spj b i xs s = s ++ (⟨(Lib.joinTail b.data.toList (xs.map fun x => x.data.toList)).toArray⟩ : ByteArray)
 | [], i, s, _ => by
  rw [spj]
  apply ByteArray.ext; apply Array.ext'; simp [ByteArray.data_append, Lib.joinTail]
 | x :: xs, i, s, h => by
  rw [spj, if_pos h, spj_tail b xs (i + 1) _ (by omega)]
  apply ByteArray.ext; apply Array.ext'; simp [ByteArray.data_append, Lib.joinTail]
theorem spj_join (b : ByteArray) : ∀ (xs : List ByteArray), spj b 0 xs (⟨#[]⟩ : ByteArray) = (⟨(Shelf.jn_ xs b).toArray⟩ : ByteArray)
 | [] => by
  rw [spj]
  unfold Shelf.jn_
  rw [List.map_nil, Lib.join_nil]
 | x :: xs => by
  rw [spj, if_neg (by omega), spj_tail b xs 1 _ (by omega)]
  unfold Shelf.jn_
  rw [List.map_cons, Lib.join_cons]
  apply ByteArray.ext; apply Array.ext'; simp [ByteArray.data_append]
theorem spj_sz (b : ByteArray) (B : Nat) (hB : b.size ≤ 1) : ∀ (xs : List ByteArray) (i : Nat) (s : ByteArray), (∀ x ∈ xs, x.size ≤ B) → (spj b i xs s).size ≤ s.size + xs.length * (B + 1)
 | [], i, s, _ => by rw [spj]; simp
 | x :: xs, i, s, h => by
  have h1 := spj_sz b B hB xs (i + 1) ((if 0 < i then s ++ b else s) ++ x) fun y hy => h y (List.mem_cons_of_mem _ hy)
  have h2 := h x (List.mem_cons_self ..)
  rw [spj]
  have h3 : (if 0 < i then s ++ b else s).size ≤ s.size + 1 := by
   split
   ·rw [ByteArray.size_append]; omega
   ·omega
  rw [ByteArray.size_append] at h1
  rw [List.length_cons, Nat.succ_mul]
  omega
theorem asc_ge (xs : List Int) (n : Int) (h : asc xs n = true) : ∀ j, j < xs.length → (j : Int) ≤ xs.getD j 0
 | 0, hj => (asc_at xs n h 0 hj).1.1
 | j + 1, hj => by
  have h1 := asc_ge xs n h j (by omega)
  have h2 := (asc_at xs n h (j + 1) hj).2
  rw [show j + 1 - 1 = j from rfl] at h2
  omega
theorem asc_le (xs : List Int) (n : Nat) (h : asc xs n = true) : xs.length ≤ n := by
 by_cases h0 : xs.length = 0
 ·omega
 ·have h1 := asc_ge xs n h (xs.length - 1) (by omega)
  have h2 := (asc_at xs n h (xs.length - 1) (by omega)).1.2
  omega
def fTxs (l : List S68) (ys : List S39) : List ByteArray := ys.map fun y => fTx l y.f0 y.f1
theorem faIl (l : List S68) (hl : l.length ≤ 1048576) (ys : List S39) (hn : ys.length ≤ 14) (hg : ∀ y ∈ ys, y.f1.length ≤ 1048576) (hb : ∀ y ∈ ys, ∀ v ∈ y.f1, -9223372036854775808 ≤ v ∧ v ≤ 9223372036854775807) (d : Nat) : ∀ (i : Nat), i + d = ys.length → ∀ k, 2000100 + d < k → impl_formatAll.l0 k (fTxs l (ys.take i)) ys ys.length i l ys = some (⟨(Shelf.jn_ (fTxs l ys) (⟨#[32]⟩ : ByteArray)).toArray⟩ : ByteArray) := by
 have hz : ∀ x ∈ fTxs l ys, x.size ≤ 1049576 := by
  intro x hx
  obtain ⟨y, hy, rfl⟩ := List.mem_map.1 hx
  exact fTx_sz l y.f0 y.f1 (hb y hy)
 have hq := spj_sz (⟨#[32]⟩ : ByteArray) 1049576 (by decide) (fTxs l ys) 0 (⟨#[]⟩ : ByteArray) hz
 have hlen : (fTxs l ys).length = ys.length := by unfold fTxs; simp
 rw [spj_join, sz_mk, hlen, show (⟨#[]⟩ : ByteArray).size = 0 from rfl] at hq
 have hq' : (Shelf.jn_ (fTxs l ys) (⟨#[32]⟩ : ByteArray)).length ≤ 1000000000 := by omega
 induction d with
 | zero =>
  intro i hd k hk
  obtain ⟨k, rfl, hk⟩ := fuel hk
  rw [impl_formatAll.l0, if_neg (by omega), List.take_of_length_le (by omega)]
  unfold strings_Join.f
  rw [if_pos ⟨by omega, hq'⟩, Option.bind_some]
 | succ d ih =>
  intro i hd k hk
  obtain ⟨k, rfl, hk⟩ := fuel hk
  have hm := getD_mem ys z39 i (by omega)
  rw [impl_formatAll.l0, if_pos (by omega), if_pos (by omega), if_pos (by omega)]
  unfold rd_T39
  rw [Int.toNat_natCast, (ffB2 l hl _ _ (hg _ hm) (hb _ hm) k (by omega)).2, Option.bind_some, if_pos (by unfold fTxs; rw [List.length_map, List.length_take]; omega), show wrap64 ((i : Int) + 1) = ((i + 1 : Nat) : Int) by rw [w64 (by omega) (by omega)]; omega]
  rw [show fTxs l (ys.take i) ++ [fTx l (ys.getD i z39).f0 (ys.getD i z39).f1] = fTxs l (ys.take (i + 1)) by unfold fTxs; rw [List.take_succ_eq_append_getElem (by omega), List.map_append, getD_lt ys _ i (by omega)]; rfl]
  exact ih (i + 1) (by omega) k (by omega)
theorem faI (l : List S68) (hl : l.length ≤ 1048576) (ys : List S39) (hn : ys.length ≤ 14) (hg : ∀ y ∈ ys, y.f1.length ≤ 1048576) (hb : ∀ y ∈ ys, ∀ v ∈ y.f1, -9223372036854775808 ≤ v ∧ v ≤ 9223372036854775807) (k : Nat) (hk : 2000200 < k) : impl_formatAll.f k l ys = some (⟨(Shelf.jn_ (fTxs l ys) (⟨#[32]⟩ : ByteArray)).toArray⟩ : ByteArray) := by
 unfold impl_formatAll.f
 exact faIl l hl ys hn hg hb ys.length 0 (by omega) k (by omega)
theorem ffsSl (l : List S68) (hl : l.length ≤ 1048576) (fs : List S39) (hf : fs.length ≤ 1048576) (hg : ∀ y ∈ fs, y.f1.length ≤ 1048576) (hb : ∀ y ∈ fs, ∀ v ∈ y.f1, -9223372036854775808 ≤ v ∧ v ≤ 9223372036854775807) (xs : List Int) (hx : xs.length ≤ 14) (hv : vDb l fs = true) (ha : asc xs fs.length = true) (d : Nat) : ∀ (i : Nat) (s : ByteArray), i + d = xs.length → s.size + 2000000 * d ≤ 1000000000 → ∀ k, 7000000 + 2 * d < k → spec_FormatFacts.l0 k xs s i l fs = some (spj (⟨#[32]⟩ : ByteArray) i ((fTxs l (sel fs xs)).drop i) s) := by
 have hlen : (fTxs l (sel fs xs)).length = xs.length := by unfold fTxs sel; simp
 induction d with
 | zero =>
  intro i s hd _ k hk
  obtain ⟨k, rfl, hk⟩ := fuel hk
  obtain ⟨k, rfl⟩ : ∃ z, k = z + 1 := ⟨k - 1, by omega⟩
  rw [spec_FormatFacts.l0, if_neg (by omega), spec_FormatFacts.j1, if_neg (by decide), List.drop_eq_nil_of_le (by omega), spj]
 | succ d ih =>
  intro i s hd hs k hk
  obtain ⟨k, rfl, hk⟩ := fuel hk
  obtain ⟨k, rfl⟩ : ∃ z, k = z + 1 := ⟨k - 1, by omega⟩
  have hi := (asc_at xs fs.length ha i (by omega)).1
  have hm := getD_mem fs z39 (xs.getD i 0).toNat (by omega)
  have hz := fTx_sz l (fs.getD (xs.getD i 0).toNat z39).f0 (fs.getD (xs.getD i 0).toNat z39).f1 (hb _ hm)
  have l1 : (⟨#[32]⟩ : ByteArray).size = 1 := rfl
  have he : (fTxs l (sel fs xs)).drop i = fTx l (fs.getD (xs.getD i 0).toNat z39).f0 (fs.getD (xs.getD i 0).toNat z39).f1 :: (fTxs l (sel fs xs)).drop (i + 1) := by
   rw [List.drop_eq_getElem_cons (by omega)]
   congr 1
   unfold fTxs sel
   rw [List.getElem_map, List.getElem_map, getD_lt xs 0 i (by omega)]
  rw [spec_FormatFacts.l0, if_pos (by omega), vDS l hl fs hf hg _ (by omega), Option.bind_some, if_pos hv, ascS l fs hf xs (by omega) _ (by omega), Option.bind_some, ha, spec_FormatFacts.j1, if_pos rfl, he, spj, rdD, show wrap64 ((i : Int) + 1) = ((i + 1 : Nat) : Int) by rw [w64 (by omega) (by omega)]; omega]
  unfold rd_T39
  rw [(ffB2 l hl _ _ (hg _ hm) (hb _ hm) k (by omega)).1]
  simp only [Option.bind_some]
  by_cases h0 : i = 0
  ·rw [if_neg (by omega), if_pos (by omega), if_pos (by omega), if_pos (by omega), if_pos (by omega), if_pos (by omega), if_neg (by omega)]
   exact ih (i + 1) _ (by omega) (by rw [ByteArray.size_append]; omega) k (by omega)
  ·rw [if_pos (by omega), if_pos (by omega), if_pos (by omega), if_pos (by omega), if_pos (by omega), if_pos (by omega), if_pos (by rw [ByteArray.size_append]; omega), if_pos (by omega)]
   exact ih (i + 1) _ (by omega) (by rw [ByteArray.size_append, ByteArray.size_append]; omega) k (by omega)
theorem vDb_14 (l : List S68) (fs : List S39) (h : vDb l fs = true) : fs.length ≤ 14 := by
 unfold vDb at h
 rw [Bool.and_eq_true, Bool.and_eq_true] at h
 exact of_decide_eq_true h.1.2
theorem sel_b (fs : List S39) (hb : ∀ y ∈ fs, ∀ v ∈ y.f1, -9223372036854775808 ≤ v ∧ v ≤ 9223372036854775807) (xs : List Int) : ∀ y ∈ sel fs xs, ∀ v ∈ y.f1, -9223372036854775808 ≤ v ∧ v ≤ 9223372036854775807 := by
 intro y hy
 obtain ⟨i, _, rfl⟩ := List.mem_map.1 hy
 by_cases h : i.toNat < fs.length
 ·exact hb _ (getD_mem fs z39 _ h)
 ·rw [List.getD_eq_getElem?_getD, List.getElem?_eq_none (by omega)]
  intro v hv
  exact absurd hv (by simp [z39])
theorem ffsB (l : List S68) (hl : l.length ≤ 1048576) (fs : List S39) (hf : fs.length ≤ 1048576) (hg : ∀ y ∈ fs, y.f1.length ≤ 1048576) (hb : vDb l fs = true → ∀ y ∈ fs, ∀ v ∈ y.f1, -9223372036854775808 ≤ v ∧ v ≤ 9223372036854775807) (xs : List Int) (hx : xs.length ≤ 1048576) (k : Nat) (hk : 8000000 < k) : ∃ S, spec_FormatFacts.f k l fs xs = some S ∧ impl_FormatFacts.f k l fs xs = some S := by
 unfold spec_FormatFacts.f impl_FormatFacts.f
 rw [selI l hl fs hf hg xs hx k (by omega), Option.bind_some]
 by_cases h : vDb l fs = true ∧ asc xs fs.length = true
 ·have h14 := vDb_14 l fs h.1
  have hxl := asc_le xs fs.length h.2
  have e1 := ffsSl l hl fs hf hg (hb h.1) xs (by omega) h.1 h.2 xs.length 0 (⟨#[]⟩ : ByteArray) (by omega) (by rw [show (⟨#[]⟩ : ByteArray).size = 0 from rfl]; omega) k (by omega)
  rw [List.drop_zero, spj_join] at e1
  rw [if_pos h]
  refine ⟨_, e1, ?_⟩
  rw [if_pos rfl]
  rw [faI l hl (sel fs xs) (by rw [sel_len]; omega) (sel_g fs hg xs) (sel_b fs (hb h.1) xs) k (by omega), Option.bind_some]
 ·rw [if_neg h, if_neg (by decide)]
  obtain ⟨k, rfl⟩ : ∃ z, k = z + 1 := ⟨k - 1, by omega⟩
  obtain ⟨k, rfl⟩ : ∃ z, k = z + 1 := ⟨k - 1, by omega⟩
  refine ⟨_, ?_, rfl⟩
  rw [spec_FormatFacts.l0]
  by_cases hn : (0 : Int) < (xs.length : Int)
  ·rw [if_pos hn, vDS l hl fs hf hg _ (by omega), Option.bind_some]
   by_cases h1 : vDb l fs = true
   ·rw [if_pos h1, ascS l fs hf xs (by omega) _ (by omega), Option.bind_some, Bool.eq_false_iff.2 fun h2 => h ⟨h1, h2⟩, spec_FormatFacts.j1, if_neg (by decide)]
   ·rw [if_neg h1, spec_FormatFacts.j1, if_neg (by decide)]
  ·rw [if_neg hn, spec_FormatFacts.j1, if_neg (by decide)]
def rng (n : Nat) : List Int := (List.range n).map fun (i : Nat) => (i : Int)
theorem rng_len (n : Nat) : (rng n).length = n := by unfold rng; simp
theorem rng_at (n j : Nat) (h : j < n) : (rng n).getD j 0 = (j : Int) := by
 rw [getD_lt _ _ j (by rw [rng_len]; exact h)]
 unfold rng
 rw [List.getElem_map, List.getElem_range]
theorem rng_asc (n : Nat) : asc (rng n) n = true := by
 have go : ∀ (d i : Nat), i + d = n → ascFrom (rng n) n d i = true := by
  intro d
  induction d with
  | zero => intro i _; rfl
  | succ d ih =>
   intro i hd
   rw [ascFrom, ih (i + 1) (by omega), rng_at n i (by omega), Bool.and_true, Bool.and_eq_true, Bool.or_eq_true, decide_eq_true_iff, decide_eq_true_iff, decide_eq_true_iff]
   refine ⟨by omega, ?_⟩
   by_cases h : i = 0
   ·exact .inl h
   ·right
    rw [rng_at n (i - 1) (by omega)]
    omega
 have := go n 0 (by omega)
 unfold asc
 rw [rng_len]
 exact this
theorem rng_sel (fs : List S39) : sel fs (rng fs.length) = fs := by
 apply List.ext_getElem
 ·rw [sel_len, rng_len]
 ·intro i h1 h2
  simp only [sel, rng, List.getElem_map, List.getElem_range, Int.toNat_natCast]
  exact getD_lt fs _ i h2
theorem rng_succ (n : Nat) : rng n ++ [(n : Int)] = rng (n + 1) := by
 unfold rng
 rw [List.range_succ, List.map_append]
 rfl
theorem cmpI_trans : ∀ (x y z : List Int), cmpI x y < 0 → cmpI y z < 0 → cmpI x z < 0
 | [], _, [], _, h2 => by cases ‹List Int› <;> simp [cmpI] at h2
 | [], _, _ :: _, _, _ => by simp [cmpI]
 | _ :: _, [], _, h1, _ => by simp [cmpI] at h1
 | _ :: _, _ :: _, [], _, h2 => by simp [cmpI] at h2
 | x :: xs, y :: ys, z :: zs, h1, h2 => by
  rw [cmpI] at h1 h2 ⊢
  by_cases a1 : x < y
  ·by_cases a2 : y < z
   ·rw [if_pos (by omega)]; decide
   ·rw [if_neg a2] at h2
    by_cases a3 : y > z
    ·rw [if_pos a3] at h2; omega
    ·rw [if_pos (by omega)]; decide
  ·rw [if_neg a1] at h1
   by_cases a4 : x > y
   ·rw [if_pos a4] at h1; omega
   ·rw [if_neg a4] at h1
    by_cases a2 : y < z
    ·rw [if_pos (by omega)]; decide
    ·rw [if_neg a2] at h2
     by_cases a3 : y > z
     ·rw [if_pos a3] at h2; omega
     ·rw [if_neg a3] at h2
      rw [if_neg (by omega), if_neg (by omega)]
      exact cmpI_trans xs ys zs h1 h2
theorem cmpF_lt (a : Int) (x : List Int) (b : Int) (y : List Int) : cmpF a x b y < 0 ↔ a < b ∨ (a = b ∧ cmpI x y < 0) := by
 unfold cmpF
 by_cases h1 : a < b
 ·rw [if_pos h1]; simp [h1]
 ·rw [if_neg h1]
  by_cases h2 : a > b
  ·rw [if_pos h2]
   constructor
   ·intro h; omega
   ·intro h; omega
  ·rw [if_neg h2]
   constructor
   ·intro h; exact .inr ⟨by omega, h⟩
   ·intro h
    rcases h with h | h
    ·omega
    ·exact h.2
theorem cmpF_trans (a : Int) (x : List Int) (b : Int) (y : List Int) (c : Int) (z : List Int) (h1 : cmpF a x b y < 0) (h2 : cmpF b y c z < 0) : cmpF a x c z < 0 := by
 rw [cmpF_lt] at h1 h2 ⊢
 rcases h1 with h1 | ⟨h1, h1'⟩ <;> rcases h2 with h2 | ⟨h2, h2'⟩
 ·exact .inl (by omega)
 ·exact .inl (by omega)
 ·exact .inl (by omega)
 ·exact .inr ⟨by omega, cmpI_trans _ _ _ h1' h2'⟩
theorem okFrom_at (l : List S68) (fs : List S39) : ∀ (d i : Nat), okFrom l fs d i = true → ∀ j, i ≤ j → j < i + d → fits l (fs.getD j z39).f0 (fs.getD j z39).f1 = true ∧ (j = 0 ∨ cmpF (fs.getD (j - 1) z39).f0 (fs.getD (j - 1) z39).f1 (fs.getD j z39).f0 (fs.getD j z39).f1 < 0)
 | 0, i, _, j, h1, h2 => by omega
 | d + 1, i, h, j, h1, h2 => by
  rw [okFrom, Bool.and_eq_true, Bool.and_eq_true, Bool.or_eq_true, decide_eq_true_iff, decide_eq_true_iff] at h
  by_cases hj : j = i
  ·subst hj
   exact h.1
  ·exact okFrom_at l fs d (i + 1) h.2 j (by omega) (by omega)
theorem vDb_parts (l : List S68) (fs : List S39) (h : vDb l fs = true) : vRels l = true ∧ fs.length ≤ 14 ∧ (∀ j, j < fs.length → fits l (fs.getD j z39).f0 (fs.getD j z39).f1 = true) ∧ ∀ j, 0 < j → j < fs.length → cmpF (fs.getD (j - 1) z39).f0 (fs.getD (j - 1) z39).f1 (fs.getD j z39).f0 (fs.getD j z39).f1 < 0 := by
 unfold vDb at h
 rw [Bool.and_eq_true, Bool.and_eq_true, decide_eq_true_iff] at h
 refine ⟨h.1.1, h.1.2, fun j hj => (okFrom_at l fs _ 0 h.2 j (by omega) (by omega)).1, fun j h0 hj => ?_⟩
 rcases (okFrom_at l fs _ 0 h.2 j (by omega) (by omega)).2 with e | e
 ·omega
 ·exact e
theorem vDb_lt (l : List S68) (fs : List S39) (h : vDb l fs = true) (i : Nat) : ∀ (d : Nat), i + d + 1 < fs.length → cmpF (fs.getD i z39).f0 (fs.getD i z39).f1 (fs.getD (i + d + 1) z39).f0 (fs.getD (i + d + 1) z39).f1 < 0
 | 0, hd => (vDb_parts l fs h).2.2.2 (i + 1) (by omega) hd
 | d + 1, hd => cmpF_trans _ _ _ _ _ _ (vDb_lt l fs h i d (by omega)) ((vDb_parts l fs h).2.2.2 (i + (d + 1) + 1) (by omega) hd)
def at_ (xs : List Int) (i : Nat) : Nat := (xs.getD i 0).toNat
theorem sel_at (fs : List S39) (xs : List Int) (i : Nat) (h : i < xs.length) : (sel fs xs).getD i z39 = fs.getD (at_ xs i) z39 := by
 unfold sel at_
 exact getD_map _ xs 0 z39 i h
theorem at_lt (fs : List S39) (xs : List Int) (ha : asc xs fs.length = true) (i : Nat) (hi : i < xs.length) : at_ xs i < fs.length ∧ ((at_ xs i : Nat) : Int) = xs.getD i 0 := by
 have := (asc_at xs fs.length ha i hi).1
 unfold at_
 omega
theorem at_mono (fs : List S39) (xs : List Int) (ha : asc xs fs.length = true) (i : Nat) (hi : i + 1 < xs.length) : at_ xs i < at_ xs (i + 1) := by
 have h1 := at_lt fs xs ha i (by omega)
 have h2 := at_lt fs xs ha (i + 1) hi
 have := (asc_at xs fs.length ha (i + 1) hi).2
 rw [show i + 1 - 1 = i by omega] at this
 omega
theorem okFrom_of (l : List S68) (fs : List S39) (h : ∀ j, j < fs.length → fits l (fs.getD j z39).f0 (fs.getD j z39).f1 = true ∧ (j = 0 ∨ cmpF (fs.getD (j - 1) z39).f0 (fs.getD (j - 1) z39).f1 (fs.getD j z39).f0 (fs.getD j z39).f1 < 0)) : okFrom l fs fs.length 0 = true := by
 have hA : ∀ (d i : Nat), i + d = fs.length → okFrom l fs d i = true := by
  intro d
  induction d with
  | zero => intro i _; rfl
  | succ d ih =>
   intro i hd
   rw [okFrom, ih (i + 1) (by omega), Bool.and_true, Bool.and_eq_true, Bool.or_eq_true, decide_eq_true_iff, decide_eq_true_iff]
   exact h i (by omega)
 exact hA fs.length 0 (by omega)
theorem sel_vDb (l : List S68) (fs : List S39) (hv : vDb l fs = true) (xs : List Int) (hx : xs.length ≤ 14) (ha : asc xs fs.length = true) : vDb l (sel fs xs) = true := by
 obtain ⟨q1, q2, q3, q4⟩ := vDb_parts l fs hv
 unfold vDb
 rw [q1, sel_len, decide_eq_true hx]
 have : okFrom l (sel fs xs) (sel fs xs).length 0 = true := by
  refine okFrom_of l _ fun j hj => ?_
  rw [sel_len] at hj
  rw [sel_at fs xs j hj]
  refine ⟨q3 _ (at_lt fs xs ha j hj).1, ?_⟩
  rcases Nat.eq_zero_or_pos j with c | c
  ·exact .inl c
  ·right
   rw [sel_at fs xs (j - 1) (by omega)]
   have h1 := at_mono fs xs ha (j - 1) (by omega)
   have h2 := (at_lt fs xs ha j hj).1
   rw [show j - 1 + 1 = j by omega] at h1
   have := vDb_lt l fs hv (at_ xs (j - 1)) (at_ xs j - at_ xs (j - 1) - 1) (by omega)
   rw [show at_ xs (j - 1) + (at_ xs j - at_ xs (j - 1) - 1) + 1 = at_ xs j by omega] at this
   exact this
 rw [sel_len] at this
 rw [this]
 rfl
def factEq (x y : S39) : Bool := cmpF x.f0 x.f1 y.f0 y.f1 == 0
def relNe (x y : S68) : Bool := !(x.f0.toList == y.f0.toList) || (!(x.f1 == y.f1) || (!(x.f2 == y.f2)))
theorem eqFl (l m : List S68) (fs gs : List S39) (hf : fs.length ≤ 1048576) (hl : gs.length = fs.length) (hg : ∀ y ∈ fs, y.f1.length ≤ 1048576) (hh : ∀ y ∈ gs, y.f1.length ≤ 1048576) (d : Nat) : ∀ (i : Nat), i + d = fs.length → ∀ k, d + 2097160 < k → spec_EqualDatabases.l1 k i l fs m gs = some (eqW factEq (fs.drop i) (gs.drop i)) := by
 induction d with
 | zero =>
  intro i hd k hk
  obtain ⟨k, rfl, hk⟩ := fuel hk
  rw [spec_EqualDatabases.l1, if_neg (by omega), List.drop_of_length_le (by omega), List.drop_of_length_le (by omega)]
  rfl
 | succ d ih =>
  intro i hd k hk
  obtain ⟨k, rfl, hk⟩ := fuel hk
  have hx := hg _ (getD_mem fs z39 i (by omega))
  have hy := hh _ (getD_mem gs z39 i (by omega))
  rw [spec_EqualDatabases.l1, if_pos (by omega), if_pos (by omega), if_pos (by omega)]
  unfold rd_T39
  rw [Int.toNat_natCast, cmpFS _ _ _ _ hx hy k (by omega), Option.bind_some, List.drop_eq_getElem_cons (i := i) (l := fs) (by omega), List.drop_eq_getElem_cons (i := i) (l := gs) (by omega), eqW, getD_lt fs _ i (by omega), getD_lt gs _ i (by omega), show wrap64 ((i : Int) + 1) = ((i + 1 : Nat) : Int) by rw [w64 (by omega) (by omega)]; omega, ih (i + 1) (by omega) k (by omega)]
  by_cases h : cmpF fs[i].f0 fs[i].f1 gs[i].f0 gs[i].f1 = 0
  ·rw [if_pos h, show factEq fs[i] gs[i] = true by unfold factEq; rw [h]; rfl]
   rfl
  ·rw [if_neg h, show factEq fs[i] gs[i] = false by unfold factEq; rw [beq_eq_false_iff_ne]; exact h]
   rfl
theorem eqDl (l m : List S68) (fs gs : List S39) (hr : l.length ≤ 1048576) (hm : m.length = l.length) (hf : fs.length ≤ 1048576) (hl : gs.length = fs.length) (hg : ∀ y ∈ fs, y.f1.length ≤ 1048576) (hh : ∀ y ∈ gs, y.f1.length ≤ 1048576) (d : Nat) : ∀ (i : Nat), i + d = l.length → ∀ k, d + 4000000 < k → spec_EqualDatabases.l0 k i l fs m gs = some (eqW (fun a b => !relNe a b) (l.drop i) (m.drop i) && eqW factEq fs gs) := by
 induction d with
 | zero =>
  intro i hd k hk
  obtain ⟨k, rfl, hk⟩ := fuel hk
  rw [spec_EqualDatabases.l0, if_neg (by omega), List.drop_of_length_le (by omega), List.drop_of_length_le (by omega)]
  have := eqFl l m fs gs hf hl hg hh fs.length 0 (by omega) k (by omega)
  rw [show (0 : Int) = ((0 : Nat) : Int) from rfl, this]
  rfl
 | succ d ih =>
  intro i hd k hk
  obtain ⟨k, rfl, hk⟩ := fuel hk
  rw [spec_EqualDatabases.l0, if_pos (by omega), if_pos (by omega), if_pos (by omega), List.drop_eq_getElem_cons (i := i) (l := l) (by omega), List.drop_eq_getElem_cons (i := i) (l := m) (by omega), eqW]
  unfold rd_T68
  rw [Int.toNat_natCast, getD_lt l _ i (by omega), getD_lt m _ i (by omega), show wrap64 ((i : Int) + 1) = ((i + 1 : Nat) : Int) by rw [w64 (by omega) (by omega)]; omega, ih (i + 1) (by omega) k (by omega)]
  by_cases h : relNe l[i] m[i] = true
  ·have h' := h
   unfold relNe at h'
   rw [if_pos h', h]
   rfl
  ·have h' := h
   unfold relNe at h'
   rw [if_neg h', Bool.eq_false_iff.2 h]
   rfl
theorem eqdbS (l m : List S68) (fs gs : List S39) (hr : l.length ≤ 1048576) (hf : fs.length ≤ 1048576) (hg : ∀ y ∈ fs, y.f1.length ≤ 1048576) (hh : ∀ y ∈ gs, y.f1.length ≤ 1048576) (k : Nat) (hk : 8000000 < k) :
  spec_EqualDatabases.f k l fs m gs = some (eqW (fun a b => !relNe a b) l m && eqW factEq fs gs) := by
 obtain ⟨k, rfl⟩ : ∃ z, k = z + 1 := ⟨k - 1, by omega⟩
 unfold spec_EqualDatabases.f
 by_cases h : l.length = m.length
 ·rw [if_pos (by omega), spec_EqualDatabases.j0]
  by_cases h2 : fs.length = gs.length
  ·rw [if_neg (by simp [h2])]
   exact eqDl l m fs gs hr h.symm hf h2.symm hg hh l.length 0 (by omega) k (by omega)
  ·rw [if_pos (by simp; omega), eqW_len factEq _ _ h2, Bool.and_false]
 ·rw [if_neg (by omega), spec_EqualDatabases.j0, if_pos rfl, eqW_len _ _ _ h, Bool.false_and]
def factIs (b : Int) (lb : List Int) (x : S39) : Bool := cmpF x.f0 x.f1 b lb == 0
theorem fidxSl (l : List S68) (fs : List S39) (hf : fs.length ≤ 1048576) (hg : ∀ y ∈ fs, y.f1.length ≤ 1048576) (a : Int) (vs : List Int) (hv : vs.length ≤ 1048576) (d : Nat) : ∀ (i : Nat), i + d = fs.length → ∀ k, d + 2097160 < k → spec_FactIndex.l0 k i l fs a vs = some (idxW (factIs a vs) (fs.drop i) i) := by
 induction d with
 | zero =>
  intro i hd k hk
  obtain ⟨k, rfl, hk⟩ := fuel hk
  rw [spec_FactIndex.l0, if_neg (by omega), List.drop_of_length_le (by omega)]
  rfl
 | succ d ih =>
  intro i hd k hk
  obtain ⟨k, rfl, hk⟩ := fuel hk
  have hy := hg _ (getD_mem fs z39 i (by omega))
  have e1 : wrap64 ((i : Int) + 1) = ((i + 1 : Nat) : Int) := by rw [w64 (by omega) (by omega)]; omega
  rw [spec_FactIndex.l0, if_pos (by omega), if_pos (by omega), e1]
  unfold rd_T39
  rw [Int.toNat_natCast, cmpFS _ _ _ _ hy hv k (by omega), Option.bind_some, List.drop_eq_getElem_cons (by omega), idxW, getD_lt fs _ i (by omega)]
  unfold factIs
  by_cases h : cmpF fs[i].f0 fs[i].f1 a vs = 0
  ·rw [if_pos h, if_pos (by simpa using h)]
  ·rw [if_neg h, if_neg (by simpa using h), ih (i + 1) (by omega) k (by omega)]
   unfold factIs
   rfl
theorem fidxS (l : List S68) (fs : List S39) (hf : fs.length ≤ 1048576) (hg : ∀ y ∈ fs, y.f1.length ≤ 1048576) (a : Int) (vs : List Int) (hv : vs.length ≤ 1048576) (k : Nat) (hk : 4000000 < k) : spec_FactIndex.f k l fs a vs = some (idxW (factIs a vs) fs 0) := by
 unfold spec_FactIndex.f
 exact fidxSl l fs hf hg a vs hv fs.length 0 (by omega) k (by omega)
theorem hasS (l : List S68) (hl : l.length ≤ 1048576) (fs : List S39) (hf : fs.length ≤ 1048576) (hg : ∀ y ∈ fs, y.f1.length ≤ 1048576) (a : Int) (vs : List Int) (hv : vs.length ≤ 1048576) (k : Nat) (hk : 8000000 < k) : spec_ContainsFact.f k l fs a vs = some (vDb l fs && decide (idxW (factIs a vs) fs 0 ≥ 0)) := by
 unfold spec_ContainsFact.f
 rw [vDS l hl fs hf hg k (by omega), Option.bind_some]
 by_cases h : vDb l fs = true
 ·rw [if_pos h, fidxS l fs hf hg a vs hv k (by omega), Option.bind_some, h, Bool.true_and]
 ·rw [if_neg h, Bool.eq_false_iff.2 h, Bool.false_and]
def insAt (fs : List S39) (a : Int) (vs : List Int) : Nat → Nat → Nat
 | 0, i => i
 | d + 1, i => if cmpF (fs.getD i z39).f0 (fs.getD i z39).f1 a vs < 0 then insAt fs a vs d (i + 1) else i
theorem insAt_le (fs : List S39) (a : Int) (vs : List Int) : ∀ (d i : Nat), i ≤ insAt fs a vs d i ∧ insAt fs a vs d i ≤ i + d
 | 0, i => ⟨Nat.le_refl _, Nat.le_refl _⟩
 | d + 1, i => by
  rw [insAt]
  have := insAt_le fs a vs d (i + 1)
  split <;> omega
def insF (fs : List S39) (a : Int) (vs : List Int) : List S39 := fs.take (insAt fs a vs fs.length 0) ++ ⟨a, vs⟩ :: fs.drop (insAt fs a vs fs.length 0)
def mayIns (l : List S68) (fs : List S39) (a : Int) (vs : List Int) : Bool := vDb l fs && fits l a vs && decide (idxW (factIs a vs) fs 0 < 0) && decide (fs.length ≠ 14)
theorem insF_len (fs : List S39) (a : Int) (vs : List Int) : (insF fs a vs).length = fs.length + 1 := by
 have := insAt_le fs a vs fs.length 0
 unfold insF
 simp only [List.length_append, List.length_take, List.length_drop, List.length_cons]
 omega
theorem insF_mem (fs : List S39) (a : Int) (vs : List Int) (y : S39) : y ∈ insF fs a vs ↔ y ∈ fs ∨ y = ⟨a, vs⟩ := by
 unfold insF
 rw [List.mem_append, List.mem_cons]
 constructor
 ·rintro (h | h | h)
  ·exact .inl (List.mem_of_mem_take h)
  ·exact .inr h
  ·exact .inl (List.mem_of_mem_drop h)
 ·rintro (h | h)
  ·rw [← List.take_append_drop (insAt fs a vs fs.length 0) fs, List.mem_append] at h
   rcases h with h | h
   ·exact .inl h
   ·exact .inr (.inr h)
  ·exact .inr (.inl h)
theorem copySl (l l2 : List S68) (fs : List S39) (hf : fs.length ≤ 1048576) (hg : ∀ y ∈ fs, y.f1.length ≤ 1048576) (d : Nat) : ∀ (i : Nat), i + d = fs.length → ∀ k, d < k → spec_l4Copy.l0 k i l fs l2 (fs.take i) = some (l2, fs) := by
 induction d with
 | zero =>
  intro i hd k hk
  obtain ⟨k, rfl, hk⟩ := fuel hk
  rw [spec_l4Copy.l0, if_neg (by omega), List.take_of_length_le (by omega)]
 | succ d ih =>
  intro i hd k hk
  obtain ⟨k, rfl, hk⟩ := fuel hk
  have hy := hg _ (getD_mem fs z39 i (by omega))
  rw [spec_l4Copy.l0, if_pos (by omega), if_pos (by omega), Option.bind_some]
  unfold rd_T39
  rw [Int.toNat_natCast, if_pos (by simp only [List.length_nil]; omega), if_pos (by rw [List.length_take]; omega), List.nil_append, show wrap64 ((i : Int) + 1) = ((i + 1 : Nat) : Int) by rw [w64 (by omega) (by omega)]; omega]
  rw [show fs.take i ++ [(⟨(fs.getD i z39).f0, (fs.getD i z39).f1⟩ : S39)] = fs.take (i + 1) by rw [List.take_succ_eq_append_getElem (by omega), getD_lt fs _ i (by omega)]]
  exact ih (i + 1) (by omega) k (by omega)
theorem copyS (l : List S68) (hl : l.length ≤ 1048576) (fs : List S39) (hf : fs.length ≤ 1048576) (hg : ∀ y ∈ fs, y.f1.length ≤ 1048576) (k : Nat) (hk : fs.length < k) : spec_l4Copy.f k l fs = some (l, fs) := by
 unfold spec_l4Copy.f
 rw [Option.bind_some, if_pos (by simp only [List.length_nil]; omega), List.nil_append]
 exact copySl l l fs hf hg fs.length 0 (by omega) k hk
theorem insSl (l : List S68) (fs : List S39) (hf : fs.length ≤ 1048576) (hg : ∀ y ∈ fs, y.f1.length ≤ 1048576) (a : Int) (vs : List Int) (hv : vs.length ≤ 1048576) (d : Nat) : ∀ (i : Nat), i + d = fs.length → ∀ k, d + 2097160 < k → spec_InsertFact.l0 k i a vs l fs = some (l, fs.take (insAt fs a vs d i) ++ ⟨a, vs⟩ :: fs.drop (insAt fs a vs d i), true) := by
 induction d with
 | zero =>
  intro i hd k hk
  obtain ⟨k, rfl, hk⟩ := fuel hk
  rw [spec_InsertFact.l0, if_neg (by omega), insAt]
  simp only [Option.bind_some]
  rw [if_pos (by simp only [List.length_nil]; omega), if_pos (by omega), if_pos (by omega), if_pos (by simp only [List.length_cons, List.length_nil, List.length_drop]; omega), if_pos (by simp only [List.length_nil, List.length_take]; omega), if_pos (by simp only [List.nil_append, List.length_append, List.length_cons, List.length_nil, List.length_drop, List.length_take]; omega)]
  simp
 | succ d ih =>
  intro i hd k hk
  obtain ⟨k, rfl, hk⟩ := fuel hk
  have hy := hg _ (getD_mem fs z39 i (by omega))
  have e1 : wrap64 ((i : Int) + 1) = ((i + 1 : Nat) : Int) := by rw [w64 (by omega) (by omega)]; omega
  rw [spec_InsertFact.l0, if_pos (by omega), if_pos (by omega), e1]
  unfold rd_T39
  rw [Int.toNat_natCast, cmpFS _ _ _ _ hy hv k (by omega), Option.bind_some, insAt]
  by_cases c : cmpF (fs.getD i z39).f0 (fs.getD i z39).f1 a vs < 0
  ·rw [if_pos c, if_pos c]
   exact ih (i + 1) (by omega) k (by omega)
  ·rw [if_neg c, if_neg c]
   simp only [Option.bind_some]
   rw [if_pos (by simp only [List.length_nil]; omega), if_pos (by omega), if_pos (by simp only [List.length_cons, List.length_nil, List.length_drop]; omega), if_pos (by simp only [List.length_nil, List.length_take]; omega), if_pos (by simp only [List.nil_append, List.length_append, List.length_cons, List.length_nil, List.length_drop, List.length_take]; omega)]
   simp
theorem insS (l : List S68) (hl : l.length ≤ 1048576) (fs : List S39) (hf : fs.length ≤ 1048576) (hg : ∀ y ∈ fs, y.f1.length ≤ 1048576) (a : Int) (vs : List Int) (hv : vs.length ≤ 1048576) (k : Nat) (hk : 8000001 < k) :
  spec_InsertFact.f k l fs a vs = some (if mayIns l fs a vs = true then (l, insF fs a vs, true) else (l, fs, false)) := by
 obtain ⟨k, rfl⟩ : ∃ z, k = z + 1 := ⟨k - 1, by omega⟩
 unfold spec_InsertFact.f mayIns
 rw [copyS l hl fs hf hg _ (by omega), Option.bind_some, vDS l hl fs hf hg _ (by omega), Option.bind_some]
 by_cases h0 : vDb l fs = true
 ·obtain ⟨q1, q2, q3, q4⟩ := vDb_parts l fs h0
  rw [if_pos h0, vFS l hl a vs hv _ (by omega), Option.bind_some]
  unfold vFact
  rw [q1, Bool.true_and, h0, Bool.true_and]
  by_cases h1 : fits l a vs = true
  ·rw [if_pos h1, hasS l hl fs hf hg a vs hv _ (by omega), Option.bind_some, h0, h1]
   by_cases h2 : idxW (factIs a vs) fs 0 ≥ 0
   ·rw [if_pos (by simpa using h2), spec_InsertFact.j0, if_pos rfl, decide_eq_false (show ¬ idxW (factIs a vs) fs 0 < 0 by omega)]
    simp
   ·rw [if_neg (by simpa using h2), decide_eq_true (show idxW (factIs a vs) fs 0 < 0 by omega), spec_InsertFact.j0]
    by_cases h3 : fs.length = 14
    ·rw [if_pos (by rw [h3]; rfl), decide_eq_false (by omega)]
     simp
    ·rw [if_neg (by rw [beq_iff_eq]; omega), decide_eq_true h3, if_pos (by simp)]
     have := insSl l fs hf hg a vs hv fs.length 0 (by omega) k (by omega)
     exact this
  ·rw [if_neg h1, spec_InsertFact.j0, if_pos rfl, Bool.eq_false_iff.2 h1]
   simp
 ·rw [if_neg h0, spec_InsertFact.j0, if_pos rfl, Bool.eq_false_iff.2 h0]
  simp
theorem and255 (x : Int) : 0 ≤ Go.bits .and .i64 x 255 ∧ Go.bits .and .i64 x 255 ≤ 255 := by
 unfold Go.bits
 have h : (BitVec.ofInt IntKind.i64.bits x &&& BitVec.ofInt IntKind.i64.bits 255).toNat ≤ 255 := by
  rw [BitVec.toNat_and]
  exact Nat.le_trans Nat.and_le_right (by decide)
 simp only [IntKind.wrap_i64]
 omega
theorem l1ByteT (s : List Int) (hs : s.length ≤ 1048576) (i h : Int) (hi : 0 ≤ i) : ∃ x i' h', spec_l1Byte.f s i h = some (x, i', h') ∧ 0 ≤ x ∧ x ≤ 255 ∧ 0 ≤ i' := by
 unfold spec_l1Byte.f
 by_cases c : i < (s.length : Int)
 ·rw [if_pos c, if_pos hi]
  refine ⟨_, _, _, rfl, (and255 _).1, (and255 _).2, ?_⟩
  rw [w64 (by omega) (by omega)]
  omega
 ·rw [if_neg c]
  exact ⟨_, _, _, rfl, (and255 _).1, (and255 _).2, hi⟩
theorem l1BelowT (s : List Int) (hs : s.length ≤ 1048576) (i h n : Int) (hi : 0 ≤ i) : ∃ x i' h', spec_l1Below.f s i h n = some (x, i', h') ∧ 0 ≤ x ∧ (0 < n → x < n) ∧ (n ≤ 0 → x = 0) ∧ 0 ≤ i' := by
 unfold spec_l1Below.f
 by_cases c : n ≤ 0
 ·rw [if_pos c]
  exact ⟨_, _, _, rfl, by omega, by omega, fun _ => rfl, hi⟩
 ·rw [if_neg c]
  by_cases c2 : n ≤ 256
  ·obtain ⟨x, i1, h1, e1, a1, b1, d1⟩ := l1ByteT s hs i h hi
   rw [if_pos c2, e1, Option.bind_some, if_neg (by omega)]
   refine ⟨_, _, _, rfl, ?_, ?_, by omega, d1⟩
   ·rw [tm a1]; exact Int.emod_nonneg _ (by omega)
   ·intro _; rw [tm a1]; exact Int.emod_lt_of_pos _ (by omega)
  ·obtain ⟨x1, i1, h1, e1, a1, b1, d1⟩ := l1ByteT s hs i h hi
   obtain ⟨x2, i2, h2, e2, a2, b2, d2⟩ := l1ByteT s hs i1 h1 d1
   obtain ⟨x3, i3, h3, e3, a3, b3, d3⟩ := l1ByteT s hs i2 h2 d2
   obtain ⟨x4, i4, h4, e4, a4, b4, d4⟩ := l1ByteT s hs i3 h3 d3
   rw [if_neg c2, e1, Option.bind_some, e2, Option.bind_some, e3, Option.bind_some, e4, Option.bind_some, if_neg (by omega)]
   rw [w64 (n := x1 * 16777216) (by omega) (by omega), w64 (n := x2 * 65536) (by omega) (by omega), w64 (n := x3 * 256) (by omega) (by omega), w64 (n := x1 * 16777216 + x2 * 65536) (by omega) (by omega), w64 (n := x1 * 16777216 + x2 * 65536 + x3 * 256) (by omega) (by omega), w64 (n := x1 * 16777216 + x2 * 65536 + x3 * 256 + x4) (by omega) (by omega)]
   refine ⟨_, _, _, rfl, ?_, ?_, by omega, d4⟩
   ·rw [tm (by omega)]; exact Int.emod_nonneg _ (by omega)
   ·intro _; rw [tm (by omega)]; exact Int.emod_lt_of_pos _ (by omega)
theorem l1PickT (s : List Int) (hs : s.length ≤ 1048576) (i h : Int) (hi : 0 ≤ i) (l : List ByteArray) (hl : 0 < l.length) : ∃ x i' h', spec_l1Pick.f s i h l = some (x, i', h') ∧ x ∈ l ∧ 0 ≤ i' := by
 obtain ⟨x, i1, h1, e1, a1, b1, _, d1⟩ := l1BelowT s hs i h (l.length : Int) hi
 have := b1 (by omega)
 unfold spec_l1Pick.f
 rw [e1, Option.bind_some, if_pos a1, if_pos this]
 refine ⟨_, _, _, rfl, ?_, d1⟩
 unfold rdOf
 exact getD_mem l _ _ (by omega)
theorem l1PickIntT (s : List Int) (hs : s.length ≤ 1048576) (i h : Int) (hi : 0 ≤ i) (l : List Int) (hl : 0 < l.length) : ∃ x i' h', spec_l1PickInt.f s i h l = some (x, i', h') ∧ x ∈ l ∧ 0 ≤ i' := by
 obtain ⟨x, i1, h1, e1, a1, b1, _, d1⟩ := l1BelowT s hs i h (l.length : Int) hi
 have := b1 (by omega)
 unfold spec_l1PickInt.f
 rw [e1, Option.bind_some, if_pos a1, if_pos this]
 refine ⟨_, _, _, rfl, ?_, d1⟩
 unfold rd
 exact getD_mem l _ _ (by omega)
theorem l1NewL (s : List Int) (hs : s.length ≤ 1048576) (d : Nat) : ∀ (i : Nat) (h : Int), i + d = s.length → ∀ k, d < k → ∃ h', spec_l1New.l0 k s h i = some (s, 0, h') := by
 induction d with
 | zero =>
  intro i h hd k hk
  obtain ⟨k, rfl, hk⟩ := fuel hk
  rw [spec_l1New.l0, if_neg (by omega)]
  exact ⟨_, rfl⟩
 | succ d ih =>
  intro i h hd k hk
  obtain ⟨k, rfl, hk⟩ := fuel hk
  rw [spec_l1New.l0, if_pos (by omega)]
  by_cases c : (i : Int) < 4000
  ·rw [if_pos c, if_pos (by omega), show wrap64 ((i : Int) + 1) = ((i + 1 : Nat) : Int) by rw [w64 (by omega) (by omega)]; omega]
   exact ih (i + 1) _ (by omega) k (by omega)
  ·rw [if_neg c]
   exact ⟨_, rfl⟩
theorem l1NewT (s : List Int) (hs : s.length ≤ 1048576) (k : Nat) (hk : s.length < k) : ∃ h', spec_l1New.f k s = some (s, 0, h') := by
 unfold spec_l1New.f
 exact l1NewL s hs s.length 0 _ (by omega) k hk
def sigs (l : List S68) : Prop := l.length = 4 ∧ ∀ y ∈ l, 1 ≤ y.f1 ∧ y.f1 ≤ 3 ∧ y.f0.size ≤ 2
theorem l2SigsT (s : List Int) (hs : s.length ≤ 1048576) (i h : Int) (hi : 0 ≤ i) : ∃ l i' h', spec_l2Sigs.f s i h = some (l, i', h') ∧ sigs l ∧ 0 ≤ i' := by
 obtain ⟨x, i1, h1, e1, a1, d1⟩ := l1PickIntT s hs i h hi [1, 1, 2, 0] (by simp)
 obtain ⟨y, i2, h2, e2, a2, b2, _, d2⟩ := l1BelowT s hs i1 h1 2 d1
 unfold spec_l2Sigs.f
 rw [e1, Option.bind_some, e2, Option.bind_some]
 refine ⟨_, _, _, rfl, ⟨rfl, ?_⟩, d2⟩
 intro y hy
 simp only [List.mem_cons, List.not_mem_nil, or_false] at hy
 rcases hy with rfl | rfl | rfl | rfl
 ·exact ⟨by decide, by decide, by decide⟩
 ·exact ⟨by decide, by decide, by decide⟩
 ·exact ⟨by simp, by simp, by simp; decide⟩
 ·exact ⟨by simp, by simp, by simp; decide⟩
theorem l3FactL (s : List Int) (hs : s.length ≤ 1048576) (l : List S68) (v x : Int) (hv : 0 < v) (hx0 : 0 ≤ x) (hx1 : x < (l.length : Int)) (ha : (rd_T68 l x).f1 ≤ 3) (d : Nat) : ∀ (vs : List Int) (i h : Int), 0 ≤ i → vs.length + d = 4 → ∀ k, d < k → (∀ z ∈ vs, 0 ≤ z ∧ z < v) → ∃ ws i' h', spec_l3Fact.l0 k l v s i h x vs = some (x, ws, i', h') ∧ ws.length ≤ 4 ∧ ((vs.length : Int) ≤ (rd_T68 l x).f1 → (ws.length : Int) = (rd_T68 l x).f1) ∧ (∀ z ∈ ws, 0 ≤ z ∧ z < v) ∧ 0 ≤ i' := by
 induction d with
 | zero =>
  intro vs i h hi hd k hk hz
  obtain ⟨k, rfl, hk⟩ := fuel hk
  rw [spec_l3Fact.l0, if_pos hx0, if_pos hx1, if_neg (by omega)]
  exact ⟨_, _, _, rfl, by omega, by omega, hz, hi⟩
 | succ d ih =>
  intro vs i h hi hd k hk hz
  obtain ⟨k, rfl, hk⟩ := fuel hk
  rw [spec_l3Fact.l0, if_pos hx0, if_pos hx1]
  by_cases c : (vs.length : Int) < (rd_T68 l x).f1
  ·obtain ⟨y, i1, h1, e1, a1, b1, _, d1⟩ := l1BelowT s hs i h v hi
   rw [if_pos c, e1, Option.bind_some, if_pos (by omega)]
   obtain ⟨ws, i2, h2, g1, g2, g3, g4, g5⟩ := ih (vs ++ [y]) i1 h1 d1 (by simp; omega) k (by omega) (by
    intro z hz'
    rcases List.mem_append.1 hz' with hz' | hz'
    ·exact hz z hz'
    ·rw [List.mem_singleton] at hz'
     rw [hz']
     exact ⟨a1, b1 hv⟩)
   exact ⟨ws, i2, h2, g1, g2, fun _ => g3 (by simp; omega), g4, g5⟩
  ·rw [if_neg c]
   exact ⟨_, _, _, rfl, by omega, by omega, hz, hi⟩
theorem l3FactT (s : List Int) (hs : s.length ≤ 1048576) (i h : Int) (hi : 0 ≤ i) (l : List S68) (hl : 0 < l.length) (hl2 : l.length ≤ 1048576) (hg : ∀ y ∈ l, 0 ≤ y.f1 ∧ y.f1 ≤ 3) (v : Int) (hv : 0 < v) (k : Nat) (hk : 4 < k) : ∃ x ws i' h', spec_l3Fact.f k s i h l v = some (x, ws, i', h') ∧ 0 ≤ x ∧ x < (l.length : Int) ∧ ws.length ≤ 4 ∧ (ws.length : Int) = (rd_T68 l x).f1 ∧ (∀ z ∈ ws, 0 ≤ z ∧ z < v) ∧ 0 ≤ i' := by
 obtain ⟨x, i1, h1, e1, a1, b1, _, d1⟩ := l1BelowT s hs i h (l.length : Int) hi
 have hx := b1 (by omega)
 unfold spec_l3Fact.f
 rw [e1, Option.bind_some]
 have hm : (rd_T68 l x) ∈ l := by unfold rd_T68; exact getD_mem l _ _ (by omega)
 obtain ⟨ws, i2, h2, g1, g2, g3, g4, g5⟩ := l3FactL s hs l v x hv a1 hx (hg _ hm).2 4 [] i1 h1 d1 rfl k hk (fun z hz => by cases hz)
 exact ⟨x, ws, i2, h2, g1, a1, hx, g2, g3 (by have := (hg _ hm).1; simpa using this), g4, g5⟩
theorem l3AnyT (s : List Int) (hs : s.length ≤ 1048576) (i h : Int) (hi : 0 ≤ i) (l : List S68) (hl : 0 < l.length) (hl2 : l.length ≤ 1048576) (hg : ∀ y ∈ l, 1 ≤ y.f1 ∧ y.f1 ≤ 3) (k : Nat) (hk : 4 < k) : ∃ x ws i' h', spec_l3Any.f k s i h l = some (x, ws, i', h') ∧ ws.length ≤ 5 ∧ -1 ≤ x ∧ x ≤ 1048576 ∧ (∀ z ∈ ws, -1 ≤ z ∧ z ≤ 10) ∧ 0 ≤ i' := by
 obtain ⟨x, ws, i1, h1, e1, x0, x1, g2, g3, g4, g5⟩ := l3FactT s hs i h hi l hl hl2 (fun y hy => ⟨by have := (hg y hy).1; omega, (hg y hy).2⟩) 4 (by decide) k hk
 obtain ⟨y, i2, h2, e2, a2, b2, _, d2⟩ := l1BelowT s hs i1 h1 10 g5
 have hm : (rd_T68 l x) ∈ l := by unfold rd_T68; exact getD_mem l _ _ (by omega)
 have hw := (hg _ hm).1
 have hz : ∀ z ∈ ws, -1 ≤ z ∧ z ≤ 10 := fun z hz => by have := g4 z hz; omega
 unfold spec_l3Any.f
 rw [e1, Option.bind_some]
 dsimp only
 rw [e2, Option.bind_some]
 dsimp only
 by_cases c0 : y = 0
 ·obtain ⟨z, i3, h3, e3, a3, b3, _, d3⟩ := l1BelowT s hs i2 h2 6 d2
  have := b3 (by decide)
  rw [if_pos c0, e3, Option.bind_some]
  refine ⟨_, _, _, _, rfl, by omega, ?_, ?_, hz, d3⟩
  ·rw [w64 (by omega) (by omega)]; omega
  ·rw [w64 (by omega) (by omega)]; omega
 rw [if_neg c0]
 by_cases c1 : y = 1
 ·rw [if_pos c1, if_pos (by omega)]
  refine ⟨_, _, _, _, rfl, by simp; omega, by omega, by omega, ?_, d2⟩
  intro z hz'
  rcases List.mem_append.1 hz' with hz' | hz'
  ·exact hz z hz'
  ·rw [List.mem_singleton] at hz'
   omega
 rw [if_neg c1]
 by_cases c2 : y = 2
 ·obtain ⟨z, i3, h3, e3, a3, d3⟩ := l1PickIntT s hs i2 h2 d2 [-1, 10, 9] (by simp)
  rw [if_pos c2, e3, Option.bind_some, if_pos (by omega)]
  refine ⟨_, _, _, _, rfl, by rw [List.length_set]; omega, by omega, by omega, ?_, d3⟩
  intro u hu
  rcases List.mem_or_eq_of_mem_set hu with hu | hu
  ·exact hz u hu
  ·rw [hu]
   simp only [List.mem_cons, List.not_mem_nil, or_false] at a3
   rcases a3 with rfl | rfl | rfl <;> omega
 ·rw [if_neg c2]
  exact ⟨_, _, _, _, rfl, by omega, by omega, by omega, hz, d2⟩
def sm (fs : List S39) (n : Nat) : Prop := fs.length ≤ n ∧ ∀ y ∈ fs, y.f1.length ≤ 5
theorem l4DbL (s : List Int) (hs : s.length ≤ 1048576) (l : List S68) (hl : sigs l) (v : Int) (hv : 0 < v) (d : Nat) : ∀ (fs : List S39) (i h : Int), 0 ≤ i → d ≤ 20 → sm fs (40 - d) → ∀ k, 8000100 + d < k → ∃ gs i' h', spec_l4Db.l0 k v d s i h l fs = some (l, gs, i', h') ∧ sm gs 40 ∧ 0 ≤ i' := by
 induction d with
 | zero =>
  intro fs i h hi hd hf k hk
  obtain ⟨k, rfl⟩ : ∃ z, k = z + 1 := ⟨k - 1, by omega⟩
  rw [spec_l4Db.l0, if_neg (by omega)]
  exact ⟨_, _, _, rfl, hf, hi⟩
 | succ d ih =>
  intro fs i h hi hd hf k hk
  obtain ⟨k, rfl⟩ : ∃ z, k = z + 1 := ⟨k - 1, by omega⟩
  have hl0 := hl.1
  obtain ⟨x, ws, i1, h1, e1, x0, x1, g2, g3, g4, g5⟩ := l3FactT s hs i h hi l (by omega) (by omega) (fun y hy => ⟨by have := (hl.2 y hy).1; omega, (hl.2 y hy).2.1⟩) v hv k (by omega)
  rw [spec_l4Db.l0, if_pos (by omega), e1, Option.bind_some]
  dsimp only
  rw [insS l (by omega) fs (by have := hf.1; omega) (fun y hy => by have := hf.2 y hy; omega) x ws (by omega) k (by omega), Option.bind_some, show wrap64 (((d + 1 : Nat) : Int) - 1) = (d : Int) by rw [w64 (by omega) (by omega)]; omega]
  by_cases c : mayIns l fs x ws = true
  ·rw [if_pos c]
   refine ih _ _ _ g5 (by omega) ⟨?_, fun y hy => ?_⟩ k (by omega)
   ·have := hf.1; rw [insF_len]; omega
   ·rcases (insF_mem fs x ws y).1 hy with h | h
    ·exact hf.2 y h
    ·rw [h]; show ws.length ≤ 5; omega
  ·rw [if_neg c]
   exact ih _ _ _ g5 (by omega) ⟨by have := hf.1; omega, hf.2⟩ k (by omega)
theorem l4DbT (s : List Int) (hs : s.length ≤ 1048576) (i h : Int) (hi : 0 ≤ i) (k : Nat) (hk : 8000200 < k) : ∃ l fs i' h', spec_l4Db.f k s i h = some (l, fs, i', h') ∧ sigs l ∧ (∀ y ∈ l, 1 ≤ y.f1 ∧ y.f1 ≤ 3) ∧ sm fs 40 ∧ 0 ≤ i' := by
 obtain ⟨l, i1, h1, e1, a1, d1⟩ := l2SigsT s hs i h hi
 obtain ⟨v, i2, h2, e2, a2, d2⟩ := l1PickIntT s hs i1 h1 d1 [2, 2, 3, 3] (by simp)
 obtain ⟨n, i3, h3, e3, a3, b3, _, d3⟩ := l1BelowT s hs i2 h2 11 d2
 have hn := b3 (by decide)
 have hv : 0 < v := by
  simp only [List.mem_cons, List.not_mem_nil, or_false] at a2
  rcases a2 with rfl | rfl | rfl | rfl <;> decide
 have hz : ∀ y ∈ l, 1 ≤ y.f1 ∧ y.f1 ≤ 3 := fun y hy => ⟨(a1.2 y hy).1, (a1.2 y hy).2.1⟩
 unfold spec_l4Db.f
 rw [e1, Option.bind_some]
 dsimp only
 rw [e2, Option.bind_some]
 dsimp only
 rw [e3, Option.bind_some]
 dsimp only
 have ew : wrap64 (2 + n) = (((2 + n).toNat : Nat) : Int) := by rw [w64 (by omega) (by omega)]; omega
 rw [ew]
 obtain ⟨gs, i4, h4, e4, a4, d4⟩ := l4DbL s hs l a1 v hv (2 + n).toNat [] i3 h3 d3 (by omega) ⟨Nat.zero_le _, fun y hy => by cases hy⟩ k (by omega)
 exact ⟨l, gs, i4, h4, e4, a1, hz, a4, d4⟩
theorem l2AnyT (s : List Int) (hs : s.length ≤ 1048576) (i h : Int) (hi : 0 ≤ i) : ∃ n a b i' h', spec_l2Any.f s i h = some (n, a, b, i', h') ∧ n.size ≤ 2 ∧ -1 ≤ a ∧ a ≤ 5 ∧ -1 ≤ b ∧ b ≤ 5 ∧ 0 ≤ i' := by
 obtain ⟨x, i1, h1, e1, a1, d1⟩ := l1PickT s hs i h hi [(⟨#[114]⟩ : ByteArray), (⟨#[122]⟩ : ByteArray), (⟨#[97]⟩ : ByteArray), (⟨#[]⟩ : ByteArray), (⟨#[82]⟩ : ByteArray), (⟨#[97, 98]⟩ : ByteArray)] (by simp)
 obtain ⟨y, i2, h2, e2, a2, b2, _, d2⟩ := l1BelowT s hs i1 h1 6 d1
 obtain ⟨z, i3, h3, e3, a3, b3, _, d3⟩ := l1BelowT s hs i2 h2 5 d2
 have := b2 (by decide)
 have := b3 (by decide)
 unfold spec_l2Any.f
 rw [e1, Option.bind_some]
 dsimp only
 rw [e2, Option.bind_some]
 dsimp only
 rw [e3, Option.bind_some]
 refine ⟨_, _, _, _, _, rfl, ?_, ?_, ?_, ?_, ?_, d3⟩
 ·simp only [List.mem_cons, List.not_mem_nil, or_false] at a1
  rcases a1 with rfl | rfl | rfl | rfl | rfl | rfl <;> decide
 all_goals (rw [w64 (by omega) (by omega)]; omega)
theorem l4AnyT (s : List Int) (hs : s.length ≤ 1048576) (i h : Int) (hi : 0 ≤ i) (k : Nat) (hk : 8000200 < k) : ∃ l fs i' h', spec_l4Any.f k s i h = some (l, fs, i', h') ∧ l.length ≤ 4 ∧ (∀ y ∈ l, y.f0.size ≤ 2) ∧ sm fs 41 ∧ 0 ≤ i' := by
 obtain ⟨l, fs, i1, h1, e1, a1, hz, a3, d1⟩ := l4DbT s hs i h hi k hk
 obtain ⟨n, i2, h2, e2, a2, b2, _, d2⟩ := l1BelowT s hs i1 h1 14 d1
 have hl := a1.1
 have hn : ∀ y ∈ l, y.f0.size ≤ 2 := fun y hy => (a1.2 y hy).2.2
 have hf := a3.1
 have a4 : sm fs 41 := ⟨by omega, a3.2⟩
 unfold spec_l4Any.f
 rw [e1, Option.bind_some]
 dsimp only
 rw [e2, Option.bind_some]
 dsimp only
 by_cases c0 : n = 0
 ·obtain ⟨x, ws, i3, h3, e3, w1, _, _, _, d3⟩ := l3AnyT s hs i2 h2 d2 l (by omega) (by omega) hz k (by omega)
  rw [if_pos c0, e3, Option.bind_some, if_pos (by omega)]
  refine ⟨_, _, _, _, rfl, by omega, hn, ⟨by simp; omega, fun y hy => ?_⟩, d3⟩
  rcases List.mem_append.1 hy with hy | hy
  ·exact a3.2 y hy
  ·rw [List.mem_singleton] at hy
   rw [hy]
   exact w1
 rw [if_neg c0]
 by_cases c1 : n = 1
 ·obtain ⟨x, i3, h3, e3, x0, x1, _, d3⟩ := l1BelowT s hs i2 h2 4 d2
  have := x1 (by decide)
  rw [if_pos c1, e3, Option.bind_some, if_pos x0, if_pos (by omega)]
  exact ⟨_, _, _, _, rfl, by rw [List.length_take]; omega, fun y hy => hn y (List.mem_of_mem_take hy), a4, d3⟩
 rw [if_neg c1]
 by_cases c2 : n = 2
 ·obtain ⟨x, i3, h3, e3, x0, x1, _, d3⟩ := l1BelowT s hs i2 h2 4 d2
  obtain ⟨m, p, q, i4, h4, e4, m1, _, _, _, _, d4⟩ := l2AnyT s hs i3 h3 d3
  have := x1 (by decide)
  rw [if_pos c2, e3, Option.bind_some]
  dsimp only
  rw [e4, Option.bind_some, if_pos x0, if_pos (by omega)]
  refine ⟨_, _, _, _, rfl, by rw [List.length_set]; omega, fun y hy => ?_, a4, d4⟩
  rcases List.mem_or_eq_of_mem_set hy with hy | hy
  ·exact hn y hy
  ·rw [hy]
   exact m1
 ·rw [if_neg c2]
  exact ⟨_, _, _, _, rfl, by omega, hn, a4, d2⟩
theorem l1OnceT (s : List Int) (hs : s.length ≤ 1048576) (i h n : Int) (hi : 0 ≤ i) : ∃ b i' h', spec_l1Once.f s i h n = some (b, i', h') ∧ 0 ≤ i' := by
 obtain ⟨x, i1, h1, e1, _, _, _, d1⟩ := l1BelowT s hs i h n hi
 unfold spec_l1Once.f
 rw [e1, Option.bind_some]
 exact ⟨_, _, _, rfl, d1⟩
theorem l4PlacesL (s : List Int) (hs : s.length ≤ 1048576) (l : List S68) (fs : List S39) (hf : fs.length ≤ 1048576) (d : Nat) : ∀ (j : Nat) (xs : List Int) (i h : Int), 0 ≤ i → j + d = fs.length → xs.length ≤ j → ∀ k, d < k → ∃ ys i' h', spec_l4Places.l0 k xs j s i h l fs = some (ys, i', h') ∧ ys.length ≤ fs.length ∧ 0 ≤ i' := by
 induction d with
 | zero =>
  intro j xs i h hi hd hx k hk
  obtain ⟨k, rfl, hk⟩ := fuel hk
  rw [spec_l4Places.l0, if_neg (by omega)]
  by_cases c : (xs.length : Int) > 0
  ·obtain ⟨b, i1, h1, e1, d1⟩ := l1OnceT s hs i h 12 hi
   rw [if_pos c, e1, Option.bind_some]
   cases b with
   | false => exact ⟨_, _, _, rfl, by omega, d1⟩
   | true =>
    obtain ⟨y, i2, h2, e2, _, d2⟩ := l1PickIntT s hs i1 h1 d1 [-1, (fs.length : Int), 3] (by simp)
    rw [if_pos rfl, e2, Option.bind_some, if_pos (by omega)]
    exact ⟨_, _, _, rfl, by rw [List.length_set]; omega, d2⟩
  ·rw [if_neg c]
   exact ⟨_, _, _, rfl, by omega, hi⟩
 | succ d ih =>
  intro j xs i h hi hd hx k hk
  obtain ⟨k, rfl, hk⟩ := fuel hk
  obtain ⟨b, i1, h1, e1, d1⟩ := l1OnceT s hs i h 2 hi
  rw [spec_l4Places.l0, if_pos (by omega), e1, Option.bind_some]
  dsimp only
  rw [show wrap64 ((j : Int) + 1) = ((j + 1 : Nat) : Int) by rw [w64 (by omega) (by omega)]; omega]
  cases b with
  | true =>
   rw [if_pos rfl, if_pos (by omega)]
   exact ih (j + 1) _ _ _ d1 (by omega) (by simp; omega) k (by omega)
  | false =>
   rw [if_neg (by decide)]
   exact ih (j + 1) _ _ _ d1 (by omega) (by omega) k (by omega)
theorem l4PlacesT (s : List Int) (hs : s.length ≤ 1048576) (i h : Int) (hi : 0 ≤ i) (l : List S68) (fs : List S39) (hf : fs.length ≤ 1048576) (k : Nat) (hk : fs.length < k) : ∃ ys i' h', spec_l4Places.f k s i h l fs = some (ys, i', h') ∧ ys.length ≤ fs.length ∧ 0 ≤ i' := by
 unfold spec_l4Places.f
 exact l4PlacesL s hs l fs hf fs.length 0 [] i h hi (by omega) (by simp) k hk
theorem vDb_b (l : List S68) (fs : List S39) (h : vDb l fs = true) : ∀ y ∈ fs, ∀ v ∈ y.f1, -9223372036854775808 ≤ v ∧ v ≤ 9223372036854775807 := by
 intro y hy v hv
 obtain ⟨j, hj, rfl⟩ := List.mem_iff_getElem.1 hy
 have := (vDb_parts l fs h).2.2.1 j hj
 rw [getD_lt fs _ j hj] at this
 have hn := ((fits_iff l _ _).1 this).2
 rw [List.any_eq_false] at hn
 have hz := hn v hv
 unfold noVal at hz
 have h3 : (decide (0 ≤ v) && decide (v ≤ 9)) = true := by
  cases hq : (decide (0 ≤ v) && decide (v ≤ 9)) with
  | true => rfl
  | false => exact absurd (by rw [hq]; rfl) hz
 rw [Bool.and_eq_true, decide_eq_true_iff, decide_eq_true_iff] at h3
 omega
theorem cmpI_refl : ∀ xs : List Int, cmpI xs xs = 0
 | [] => rfl
 | x :: xs => by rw [cmpI, if_neg (by omega), if_neg (by omega), cmpI_refl xs]
theorem eqW_refl {α : Type} (p : α → α → Bool) (h : ∀ x, p x x = true) : ∀ xs, eqW p xs xs = true
 | [] => rfl
 | x :: xs => by rw [eqW, h x, eqW_refl p h xs]; rfl
theorem eqOwn (l : List S68) (hl : l.length ≤ 1048576) (fs : List S39) (hf : fs.length ≤ 1048576) (hg : ∀ y ∈ fs, y.f1.length ≤ 1048576) (k : Nat) (hk : 8000000 < k) : spec_EqualDatabases.f k l fs l fs = some true := by
 rw [eqdbS l l fs fs hl hf hg hg k hk, eqW_refl _ (fun x => by simp [relNe]) l, eqW_refl _ (fun x => by unfold factEq cmpF; rw [if_neg (by omega), if_neg (by omega), cmpI_refl]; rfl) fs]
 rfl
theorem drawSF (s : List Int) (hs : s.length ≤ 1048576) (k : Nat) (hk : 9000000 < k) : ∃ l fs xs, spec_DrawSelectFacts.f k s = some (l, fs, xs) ∧ l.length ≤ 4 ∧ sm fs 41 ∧ xs.length ≤ 41 := by
 obtain ⟨h, e⟩ := l1NewT s hs k (by omega)
 obtain ⟨l, fs, i1, h1, e1, hl, _, hf, d1⟩ := l4AnyT s hs 0 h (by omega) k (by omega)
 have := hf.1
 obtain ⟨xs, i2, h2, e2, hx, d2⟩ := l4PlacesT s hs i1 h1 d1 l fs (by omega) k (by omega)
 unfold spec_DrawSelectFacts.f
 rw [e, Option.bind_some]
 dsimp only
 rw [e1, Option.bind_some]
 dsimp only
 rw [e2, Option.bind_some]
 exact ⟨l, fs, xs, rfl, hl, hf, by omega⟩
theorem allL (l : List S68) (fs : List S39) (hf : fs.length ≤ 1048576) (xs : List Int) (b : Bool) (m : List S68) (gs : List S39) (d : Nat) : ∀ (i : Nat), i + d = fs.length → ∀ k, laws_FnSelectFacts.l0 (k + d + 1) xs b (rng i) i l fs m gs = laws_FnSelectFacts.l0 (k + 1) xs b (rng fs.length) fs.length l fs m gs := by
 induction d with
 | zero => intro i hd k; rw [show i = fs.length by omega]
 | succ d ih =>
  intro i hd k
  rw [show k + (d + 1) + 1 = (k + d + 1) + 1 by omega, laws_FnSelectFacts.l0, if_pos (by omega), if_pos (by rw [rng_len]; omega), rng_succ, show wrap64 ((i : Int) + 1) = ((i + 1 : Nat) : Int) by rw [w64 (by omega) (by omega)]; omega]
  exact ih (i + 1) (by omega) k
theorem FnSelectFacts : FnSelectFactsPure := by
 intro s hs
 by_cases hn : (s.length : Int) > 1048576
 ·refine ⟨0, ?_⟩
  unfold laws_FnSelectFacts.f laws_big.f
  rw [decide_eq_true hn, Option.bind_some, if_pos rfl]
 have hsl : s.length ≤ 1048576 := by omega
 refine ⟨9500001, ?_⟩
 generalize hk : (9500001 : Nat) = k
 obtain ⟨l, fs, xs, e1, hl, hsm, hx⟩ := drawSF s hsl k (by omega)
 have hf := hsm.1
 have hg : ∀ y ∈ fs, y.f1.length ≤ 1048576 := fun y hy => by have := hsm.2 y hy; omega
 obtain ⟨S, s1, s2⟩ := ffsB l (by omega) fs (by omega) hg (vDb_b l fs) xs (by omega) k (by omega)
 unfold laws_FnSelectFacts.f
 rw [show laws_big.f s = some false by unfold laws_big.f; rw [decide_eq_false hn], Option.bind_some, if_neg (by decide), e1, Option.bind_some]
 dsimp only
 rw [selI l (by omega) fs (by omega) hg xs (by omega) k (by omega), selS l (by omega) fs (by omega) hg xs (by omega) k (by omega), s1, s2, Option.bind_some, Option.bind_some, if_neg (by simp)]
 have hall : ∀ (b : Bool) (m : List S68) (gs : List S39), (b = true → vDb m gs = true ∧ gs.length = xs.length) → laws_FnSelectFacts.j0 k xs b false l fs m gs = some true := by
  intro b m gs hb
  obtain ⟨q, hq⟩ : ∃ q, k = (q + 1) + fs.length + 1 + 1 := ⟨k - fs.length - 3, by omega⟩
  rw [hq, laws_FnSelectFacts.j0, if_neg (by decide), show (([] : List Int)) = rng 0 from rfl, show (0 : Int) = ((0 : Nat) : Int) from rfl, allL l fs (by omega) xs b m gs fs.length 0 (by omega) (q + 1), laws_FnSelectFacts.l0, if_neg (by omega), selI l (by omega) fs (by omega) hg (rng fs.length) (by rw [rng_len]; omega) (q + 1) (by omega), vDS l (by omega) fs (by omega) hg (q + 1) (by omega), Option.bind_some, Option.bind_some]
  have tail : (if b = true then ((impl_IsValidDatabase.f m gs).bind fun t => if t = true then (some ((gs.length : Int) == (xs.length : Int))) else (some false)) else (some true)) = some true := by
   by_cases c : b = true
   ·obtain ⟨v, n⟩ := hb c
    rw [if_pos c, show impl_IsValidDatabase.f m gs = some true by unfold impl_IsValidDatabase.f; rw [v], Option.bind_some, if_pos rfl, n]
    simp
   ·rw [if_neg c]
  by_cases h : vDb l fs = true
  ·rw [if_pos (show vDb l fs = true ∧ asc (rng fs.length) (fs.length : Int) = true from ⟨h, rng_asc _⟩), rng_sel, h]
   dsimp only
   rw [if_pos (by decide), if_pos rfl, eqOwn l (by omega) fs (by omega) hg (q + 1) (by omega), Option.bind_some, if_pos rfl]
   exact tail
  ·rw [if_neg (show ¬ (vDb l fs = true ∧ asc (rng fs.length) (fs.length : Int) = true) from fun g => h g.1), Bool.eq_false_iff.2 h]
   dsimp only
   rw [if_pos (by decide), if_neg (by decide)]
   exact tail
 by_cases h : vDb l fs = true ∧ asc xs fs.length = true
 ·have h14 := vDb_14 l fs h.1
  have hxl := asc_le xs fs.length h.2
  rw [if_pos h]
  dsimp only
  rw [eqOwn l (by omega) (sel fs xs) (by rw [sel_len]; omega) (sel_g fs hg xs) k (by omega), Option.bind_some, if_pos rfl, Option.bind_some, Option.bind_some, show (S.toList != S.toList) = false by simp]
  exact hall true l (sel fs xs) fun _ => ⟨sel_vDb l fs h.1 xs (by omega) h.2, sel_len fs xs⟩
 ·rw [if_neg h]
  dsimp only
  rw [eqOwn [] (by simp) [] (by simp) (by simp) k (by omega), Option.bind_some, if_pos rfl, Option.bind_some, Option.bind_some, show (S.toList != S.toList) = false by simp]
  exact hall false [] [] fun c => absurd c (by decide)
end Go.Proofs.YtckpikfbhlhhjaaDoor.Pure
