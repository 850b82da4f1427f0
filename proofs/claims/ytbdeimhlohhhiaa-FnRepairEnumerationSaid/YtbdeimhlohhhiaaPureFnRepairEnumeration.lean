/- The law FnRepairEnumeration answers true for every row of bytes that the row admits: the repair of a number has that number for its rank, the next one is the one of the next number, and there are as many as the blocks' sizes tell. -/
import Derived.Test.YtbdeimhlohhhiaaPFnRepairEnumerationx22
import Derived.Test.YtbdeimhlohhhiaaBase
namespace Go.Proofs.Ytbdeimhlohhhiaa.Pure
open Go.RowKit Go.Proofs.Ytbdeimhlohhhiaa.PFnRepairEnumeration Go.Proofs.YtbdeimhlohhhiaaW.PrintWords Go.Proofs.YtbdeimhlohhhiaaW.PrintLast Go.Proofs.YtbdeimhlohhhiaaW.PrintMore Go.Proofs.Ytbdeimhlohhhiaa.Base
set_option linter.unusedVariables false
set_option linter.unusedSimpArgs false
theorem cmpSl (a b : List Int) (ha : a.length ≤ 1048576) (hb : b.length ≤ 1048576) (d : Nat) : ∀ (i : Nat), i + d = a.length → ∀ k, 2 * d + 1 < k → spec_l3Ints.l0 k a b i = some (cmpI (a.drop i) (b.drop i)) ∨ b.length < i := by
 induction d with
 | zero =>
  intro i hd k hk
  by_cases hbi : b.length < i
  ·exact .inr hbi
  left
  obtain ⟨k, rfl⟩ : ∃ z, k = z + 2 := ⟨k - 2, by omega⟩
  rw [spec_l3Ints.l0, if_neg (by omega), spec_l3Ints.j1, if_neg (by decide), cmpI_end (.inl (List.drop_of_length_le (by omega))), List.length_drop, List.length_drop]
  by_cases h1 : (a.length : Int) < (b.length : Int)
  ·rw [if_pos h1, if_pos (show a.length - i < b.length - i by omega)]
  ·rw [if_neg h1, if_neg (show ¬ (a.length : Int) > (b.length : Int) by omega), if_neg (show ¬ a.length - i < b.length - i by omega), if_neg (show ¬ a.length - i > b.length - i by omega)]
 | succ d ih =>
  intro i hd k hk
  by_cases hbi : b.length < i
  ·exact .inr hbi
  left
  obtain ⟨k, rfl⟩ : ∃ z, k = z + 2 := ⟨k - 2, by omega⟩
  rw [spec_l3Ints.l0, if_pos (by omega)]
  by_cases hlt : i < b.length
  ·have e1 : wrap64 ((i : Int) + 1) = ((i + 1 : Nat) : Int) := by rw [w64 (by omega) (by omega)]; omega
   have e2 : rd a (i : Int) = a[i] := by unfold rd; rw [Int.toNat_natCast, getD_lt a _ i (by omega)]
   have e3 : rd b (i : Int) = b[i] := by unfold rd; rw [Int.toNat_natCast, getD_lt b _ i (by omega)]
   rw [decide_eq_true (by omega), spec_l3Ints.j1, if_pos rfl, if_pos (by omega), if_pos (by omega), if_pos (by omega), e1, e2, e3]
   rw [List.drop_eq_getElem_cons (i := i) (l := a) (by omega), List.drop_eq_getElem_cons (i := i) (l := b) (by omega), cmpI]
   by_cases h1 : a[i] < b[i]
   ·rw [if_pos h1, if_pos h1]
   ·rw [if_neg h1, if_neg h1]
    by_cases h2 : a[i] > b[i]
    ·rw [if_pos h2, if_pos h2]
    ·rw [if_neg h2, if_neg h2]
     rcases ih (i + 1) (by omega) k (by omega) with h | h
     ·exact h
     ·omega
  ·rw [decide_eq_false (by omega), spec_l3Ints.j1, if_neg (by decide), cmpI_end (.inr (List.drop_of_length_le (by omega))), List.length_drop, List.length_drop]
   rw [if_neg (show ¬ (a.length : Int) < (b.length : Int) by omega), if_pos (show (a.length : Int) > (b.length : Int) by omega), if_neg (show ¬ a.length - i < b.length - i by omega), if_pos (show a.length - i > b.length - i by omega)]
theorem cmpS (a b : List Int) (ha : a.length ≤ 1048576) (hb : b.length ≤ 1048576) (k : Nat) (hk : 2 * a.length + 1 < k) : spec_l3Ints.f k a b = some (cmpI a b) := by
 rcases cmpSl a b ha hb a.length 0 (by omega) k hk with h | h
 ·exact h
 ·omega
theorem cmpFS (x : Int) (a : List Int) (y : Int) (b : List Int) (ha : a.length ≤ 1048576) (hb : b.length ≤ 1048576) (k : Nat) (hk : 2 * a.length + 1 < k) : spec_CompareFacts.f k x a y b = some (cmpF x a y b) := by
 unfold spec_CompareFacts.f cmpF
 by_cases h1 : x < y
 ·rw [if_pos h1, if_pos h1]
 ·rw [if_neg h1, if_neg h1]
  by_cases h2 : x > y
  ·rw [if_pos h2, if_pos h2]
  ·rw [if_neg h2, if_neg h2, cmpS a b ha hb k hk]
   rfl
theorem in1 (x a b : Int) : spec_l1In.f x a b = some (decide (a ≤ x ∧ x ≤ b)) := by
 unfold spec_l1In.f
 by_cases h : a ≤ x
 ·rw [if_pos h]; simp [h]
 ·rw [if_neg h]; simp [h]
theorem vFSl (a : Int) (vs : List Int) (hs : vs.length ≤ 1048576) (d : Nat) : ∀ (i : Nat), i + d = vs.length → ∀ k, d < k → spec_IsValidFact.l0 k i a vs = some (!(vs.drop i).any noVal) := by
 induction d with
 | zero =>
  intro i hd k hk
  obtain ⟨k, rfl, hk⟩ := fuel hk
  rw [spec_IsValidFact.l0, if_neg (by omega), List.drop_of_length_le (by omega)]
  rfl
 | succ d ih =>
  intro i hd k hk
  obtain ⟨k, rfl, hk⟩ := fuel hk
  rw [spec_IsValidFact.l0, if_pos (by omega), if_pos (by omega), in1, Option.bind_some, List.drop_eq_getElem_cons (i := i) (l := vs) (by omega), List.any_cons]
  rw [show wrap64 ((i : Int) + 1) = ((i + 1 : Nat) : Int) by rw [w64 (by omega) (by omega)]; omega, show rd vs (i : Int) = vs[i] by unfold rd; rw [Int.toNat_natCast, getD_lt vs _ i (by omega)]]
  by_cases h : 0 ≤ vs[i] ∧ vs[i] ≤ 9
  ·rw [if_pos (by simpa using h), ih (i + 1) (by omega) k (by omega)]
   have : noVal vs[i] = false := by simp [noVal, h]
   rw [this, Bool.false_or]
  ·rw [if_neg (by simpa using h)]
   have : noVal vs[i] = true := by
    unfold noVal
    by_cases h1 : 0 ≤ vs[i]
    ·have h2 : ¬ vs[i] ≤ 9 := fun h2 => h ⟨h1, h2⟩
     simp [h2]
    ·simp [h1]
   rw [this, Bool.true_or]
   rfl
theorem vFS (l : List S70) (hl : l.length ≤ 1048576) (a : Int) (vs : List Int) (hs : vs.length ≤ 1048576) (k : Nat) (hk : vs.length + 1 < k) : spec_IsValidFact.f k l a vs = some (vFact l a vs) := by
 obtain ⟨k, rfl⟩ : ∃ z, k = z + 1 := ⟨k - 1, by omega⟩
 unfold spec_IsValidFact.f spec_AreValidRelations.f vFact fits
 rw [Option.bind_some, in1, Option.bind_some, w64 (by omega) (by omega)]
 by_cases h0 : vRels l = true
 ·rw [if_pos h0]
  by_cases h1 : 0 ≤ a ∧ a < (l.length : Int)
  ·rw [if_pos (by simpa using (by omega : 0 ≤ a ∧ a ≤ (l.length : Int) - 1)), if_pos h1.1, if_pos h1.2, spec_IsValidFact.j0]
   by_cases h2 : (vs.length : Int) = (rd_T70 l a).f1
   ·rw [if_neg (by simpa using h2), show (0 : Int) = ((0 : Nat) : Int) from rfl, vFSl a vs hs vs.length 0 (by omega) k (by omega), h0, decide_eq_true (by exact ⟨h1.1, h1.2, h2⟩)]
    simp
   ·rw [if_pos (by simpa using h2), decide_eq_false (by intro h; exact h2 h.2.2)]
    simp
  ·rw [if_neg (by simpa using (by omega : 0 ≤ a → ¬ a ≤ (l.length : Int) - 1)), spec_IsValidFact.j0, if_pos rfl, decide_eq_false (by intro h; exact h1 ⟨h.1, h.2.1⟩)]
   simp
 ·rw [if_neg h0, spec_IsValidFact.j0, if_pos rfl]
  simp [h0]
theorem vDSl (l : List S70) (hl : l.length ≤ 1048576) (fs : List S35) (hf : fs.length ≤ 1048576) (hg : ∀ y ∈ fs, y.f1.length ≤ 1048576) (d : Nat) : ∀ (i : Nat), i + d = fs.length → ∀ k, d + 4000000 < k → spec_IsValidDatabase.l0 k i l fs = some (vRels l && decide (fs.length ≤ 14) && okFrom l fs d i) := by
 induction d with
 | zero =>
  intro i hd k hk
  obtain ⟨k, rfl, hk⟩ := fuel hk
  rw [spec_IsValidDatabase.l0, if_neg (by omega)]
  unfold spec_AreValidRelations.f
  rw [Option.bind_some]
  by_cases h : vRels l = true
  ·rw [if_pos h, h, okFrom]
   simp only [Bool.true_and, Bool.and_true]
   congr 2
   exact propext (by omega)
  ·rw [if_neg h]; simp [h]
 | succ d ih =>
  intro i hd k hk
  obtain ⟨k, rfl, hk⟩ := fuel hk
  have hy := hg _ (getD_mem fs z35 i (by omega))
  rw [spec_IsValidDatabase.l0, if_pos (by omega), if_pos (by omega)]
  unfold rd_T35
  rw [Int.toNat_natCast, vFS l hl _ _ hy k (by omega), Option.bind_some, okFrom]
  unfold vFact
  by_cases h0 : vRels l = true
  ·by_cases h1 : fits l (fs.getD i z35).f0 (fs.getD i z35).f1 = true
   ·rw [h0, h1, Bool.true_and, if_pos rfl]
    by_cases hi : i = 0
    ·rw [if_neg (by omega), show wrap64 ((i : Int) + 1) = ((i + 1 : Nat) : Int) by rw [w64 (by omega) (by omega)]; omega, ih (i + 1) (by omega) k (by omega), h0, decide_eq_true hi]
     simp
    ·have hy' := hg _ (getD_mem fs z35 (i - 1) (by omega))
     have ew : wrap64 ((i : Int) - 1) = ((i - 1 : Nat) : Int) := by rw [w64 (by omega) (by omega)]; omega
     rw [if_pos (by omega), ew, if_pos (by omega), if_pos (by omega), Int.toNat_natCast, cmpFS _ _ _ _ hy' hy k (by omega), Option.bind_some, decide_eq_false hi]
     by_cases hc : cmpF (fs.getD (i - 1) z35).f0 (fs.getD (i - 1) z35).f1 (fs.getD i z35).f0 (fs.getD i z35).f1 < 0
     ·rw [if_neg (by omega), show wrap64 ((i : Int) + 1) = ((i + 1 : Nat) : Int) by rw [w64 (by omega) (by omega)]; omega, ih (i + 1) (by omega) k (by omega), h0, decide_eq_true hc]
      simp
     ·rw [if_pos (by omega), decide_eq_false hc]
      simp
   ·rw [Bool.eq_false_iff.2 h1, Bool.and_false, if_neg (by decide)]
    simp
  ·rw [if_neg (by simp [h0])]
   simp [h0]
theorem vDS (l : List S70) (hl : l.length ≤ 1048576) (fs : List S35) (hf : fs.length ≤ 1048576) (hg : ∀ y ∈ fs, y.f1.length ≤ 1048576) (k : Nat) (hk : 6000000 < k) : spec_IsValidDatabase.f k l fs = some (vDb l fs) := by
 unfold spec_IsValidDatabase.f vDb
 exact vDSl l hl fs hf hg fs.length 0 (by omega) k (by omega)
theorem inB_iff (x a b : Int) : inB x a b = true ↔ a ≤ x ∧ x ≤ b := by unfold inB; exact decide_eq_true_iff
theorem vRelsFrom_at (l : List S70) : ∀ (d i : Nat), vRelsFrom l d i = true → ∀ j, i ≤ j → j < i + d → vRel (l.getD j z70) = true
 | 0, i, _, j, h1, h2 => by omega
 | d + 1, i, h, j, h1, h2 => by
  rw [vRelsFrom, Bool.and_eq_true, Bool.and_eq_true] at h
  by_cases hj : j = i
  ·subst hj
   exact h.1.1
  ·exact vRelsFrom_at l d (i + 1) h.2 j (by omega) (by omega)
theorem vRels_at (l : List S70) (h : vRels l = true) (a : Int) (h0 : 0 ≤ a) (h1 : a < (l.length : Int)) : vRel (rd_T70 l a) = true := by
 unfold rd_T70
 exact vRelsFrom_at l l.length 0 h a.toNat (by omega) (by omega)
theorem fits_iff (l : List S70) (a : Int) (vs : List Int) : fits l a vs = true ↔ (0 ≤ a ∧ a < (l.length : Int) ∧ (vs.length : Int) = (rd_T70 l a).f1) ∧ vs.any noVal = false := by
 unfold fits
 rw [Bool.and_eq_true, decide_eq_true_iff, Bool.not_eq_true']
theorem key_ok (l : List S70) (hr : vRels l = true) (a : Int) (vs : List Int) (h : fits l a vs = true) :
  0 ≤ a ∧ a < (l.length : Int) ∧ 0 ≤ (rd_T70 l a).f2 ∧ (rd_T70 l a).f2 ≤ (vs.length : Int) ∧ (vs.length : Int) = (rd_T70 l a).f1 ∧ vs.length ≤ 3 := by
 obtain ⟨⟨h0, h1, h2⟩, _⟩ := (fits_iff l a vs).1 h
 have hv := vRels_at l hr a h0 h1
 unfold vRel at hv
 rw [Bool.and_eq_true, Bool.and_eq_true, inB_iff, inB_iff] at hv
 exact ⟨h0, h1, by omega, by omega, h2, by omega⟩
theorem cmpI_zero : ∀ (x y : List Int), cmpI x y = 0 ↔ x = y
 | [], [] => by simp [cmpI]
 | [], _ :: _ => by simp [cmpI]
 | _ :: _, [] => by simp [cmpI]
 | x :: xs, y :: ys => by
  rw [cmpI]
  by_cases h1 : x < y
  ·rw [if_pos h1]
   constructor
   ·intro h; omega
   ·intro h; have := (List.cons.inj h).1; omega
  ·rw [if_neg h1]
   by_cases h2 : x > y
   ·rw [if_pos h2]
    constructor
    ·intro h; omega
    ·intro h; have := (List.cons.inj h).1; omega
   ·rw [if_neg h2, cmpI_zero xs ys]
    have : x = y := by omega
    subst this
    simp
def sameK (l : List S70) (a : Int) (x : List Int) (b : Int) (y : List Int) : Bool := decide (a = b) && decide (x.take ((rd_T70 l a).f2).toNat = y.take ((rd_T70 l a).f2).toNat)
def keyOf (l : List S70) (a : Int) (vs : List Int) : List Int := if vFact l a vs = true then vs.take ((rd_T70 l a).f2).toNat else []
theorem keyS (l : List S70) (hl : l.length ≤ 1048576) (a : Int) (vs : List Int) (hs : vs.length ≤ 1048576) (k : Nat) (hk : vs.length + 1 < k) : spec_KeyOf.f k l a vs = some (keyOf l a vs) := by
 unfold spec_KeyOf.f keyOf
 rw [vFS l hl a vs hs k hk, Option.bind_some]
 by_cases h : vFact l a vs = true
 ·have h' := h
  unfold vFact at h'
  rw [Bool.and_eq_true] at h'
  obtain ⟨h0, h1, h2, h3, h4, h5⟩ := key_ok l h'.1 a vs h'.2
  rw [if_pos h, if_pos h, Option.bind_some, if_pos h0, if_pos h1, if_pos h2, if_pos h3, if_pos (by simp only [List.length_nil, List.length_take]; omega), List.nil_append]
 ·rw [if_neg h, if_neg h]
theorem sameS (l : List S70) (hl : l.length ≤ 1048576) (a : Int) (x : List Int) (b : Int) (y : List Int) (hx : x.length ≤ 1048576) (hy : y.length ≤ 1048576) (k : Nat) (hk : 3000000 < k) :
  spec_HaveSameKey.f k l a x b y = some (vFact l a x && vFact l b y && sameK l a x b y) := by
 unfold spec_HaveSameKey.f sameK
 rw [vFS l hl a x hx k (by omega), Option.bind_some]
 by_cases h1 : vFact l a x = true
 ·rw [if_pos h1, vFS l hl b y hy k (by omega), Option.bind_some, h1]
  by_cases h2 : vFact l b y = true
  ·rw [if_pos h2, h2]
   by_cases h3 : a = b
   ·subst h3
    rw [if_pos rfl, keyS l hl a x hx k (by omega), Option.bind_some, keyS l hl a y hy k (by omega), Option.bind_some]
    unfold keyOf
    rw [if_pos h1, if_pos h2, cmpS _ _ (by rw [List.length_take]; omega) (by rw [List.length_take]; omega) k (by rw [List.length_take]; omega), Option.bind_some]
    simp only [Bool.true_and, decide_true]
    congr 1
    rw [Bool.eq_iff_iff, beq_iff_eq, cmpI_zero, decide_eq_true_iff]
   ·rw [if_neg h3]
    simp [h3]
  ·rw [if_neg h2]
   simp [h2]
 ·rw [if_neg h1]
  simp [h1]
theorem sameI (l : List S70) (hr : vRels l = true) (a : Int) (x : List Int) (b : Int) (y : List Int) (hx : fits l a x = true) (hy : fits l b y = true) : impl_sameKey.f l a x b y = some (sameK l a x b y) := by
 unfold impl_sameKey.f sameK
 by_cases h : a = b
 ·subst h
  obtain ⟨h0, h1, h2, h3, _⟩ := key_ok l hr a x hx
  obtain ⟨_, _, _, h4, _⟩ := key_ok l hr a y hy
  rw [if_pos rfl, if_pos ⟨h0, h1, h2, h3, h4⟩, decide_eq_true rfl, Bool.true_and]
 ·rw [if_neg h]
  simp [h]
theorem cmpI_trans : ∀ (x y z : List Int), cmpI x y < 0 → cmpI y z < 0 → cmpI x z < 0
 | [], _, [], _, h2 => by cases ‹List Int› <;> simp [cmpI] at h2
 | [], _, _ :: _, _, _ => by simp [cmpI]
 | _ :: _, [], _, h1, _ => by simp [cmpI] at h1
 | _ :: _, _ :: _, [], _, h2 => by simp [cmpI] at h2
 | x :: xs, y :: ys, z :: zs, h1, h2 => by
  rw [cmpI] at h1 h2 ⊢
  by_cases a1 : x < y
  ·by_cases a2 : y < z
   ·rw [if_pos (by omega)]; decide
   ·rw [if_neg a2] at h2
    by_cases a3 : y > z
    ·rw [if_pos a3] at h2; omega
    ·rw [if_pos (by omega)]; decide
  ·rw [if_neg a1] at h1
   by_cases a4 : x > y
   ·rw [if_pos a4] at h1; omega
   ·rw [if_neg a4] at h1
    by_cases a2 : y < z
    ·rw [if_pos (by omega)]; decide
    ·rw [if_neg a2] at h2
     by_cases a3 : y > z
     ·rw [if_pos a3] at h2; omega
     ·rw [if_neg a3] at h2
      rw [if_neg (by omega), if_neg (by omega)]
      exact cmpI_trans xs ys zs h1 h2
theorem cmpF_lt (a : Int) (x : List Int) (b : Int) (y : List Int) : cmpF a x b y < 0 ↔ a < b ∨ (a = b ∧ cmpI x y < 0) := by
 unfold cmpF
 by_cases h1 : a < b
 ·rw [if_pos h1]; simp [h1]
 ·rw [if_neg h1]
  by_cases h2 : a > b
  ·rw [if_pos h2]
   constructor
   ·intro h; omega
   ·intro h; omega
  ·rw [if_neg h2]
   constructor
   ·intro h; exact .inr ⟨by omega, h⟩
   ·intro h
    rcases h with h | h
    ·omega
    ·exact h.2
theorem cmpF_trans (a : Int) (x : List Int) (b : Int) (y : List Int) (c : Int) (z : List Int) (h1 : cmpF a x b y < 0) (h2 : cmpF b y c z < 0) : cmpF a x c z < 0 := by
 rw [cmpF_lt] at h1 h2 ⊢
 rcases h1 with h1 | ⟨h1, h1'⟩ <;> rcases h2 with h2 | ⟨h2, h2'⟩
 ·exact .inl (by omega)
 ·exact .inl (by omega)
 ·exact .inl (by omega)
 ·exact .inr ⟨by omega, cmpI_trans _ _ _ h1' h2'⟩
theorem take_mid : ∀ (m : Nat) (x y z : List Int), cmpI x y < 0 → cmpI y z < 0 → x.take m = z.take m → x.take m = y.take m
 | 0, _, _, _, _, _, _ => by simp
 | m + 1, [], y, z, h1, h2, h => by
  cases z with
  | nil => cases y <;> simp [cmpI] at h1 h2
  | cons z zs => simp at h
 | m + 1, x :: xs, [], z, h1, h2, h => by simp [cmpI] at h1
 | m + 1, x :: xs, y :: ys, [], h1, h2, h => by simp [cmpI] at h2
 | m + 1, x :: xs, y :: ys, z :: zs, h1, h2, h => by
  rw [List.take_succ_cons, List.take_succ_cons] at h
  obtain ⟨rfl, g⟩ := List.cons.inj h
  clear h
  rw [cmpI] at h1 h2
  have h1' : ¬ x > y := fun g => by rw [if_neg (by omega), if_pos g] at h1; omega
  have h2' : ¬ y > x := fun g => by rw [if_neg (by omega), if_pos g] at h2; omega
  rw [if_neg (by omega), if_neg (by omega)] at h1 h2
  have : x = y := by omega
  subst this
  rw [List.take_succ_cons, List.take_succ_cons, take_mid m xs ys zs h1 h2 g]
theorem okFrom_at (l : List S70) (fs : List S35) : ∀ (d i : Nat), okFrom l fs d i = true → ∀ j, i ≤ j → j < i + d → fits l (fs.getD j z35).f0 (fs.getD j z35).f1 = true ∧ (j = 0 ∨ cmpF (fs.getD (j - 1) z35).f0 (fs.getD (j - 1) z35).f1 (fs.getD j z35).f0 (fs.getD j z35).f1 < 0)
 | 0, i, _, j, h1, h2 => by omega
 | d + 1, i, h, j, h1, h2 => by
  rw [okFrom, Bool.and_eq_true, Bool.and_eq_true, Bool.or_eq_true, decide_eq_true_iff, decide_eq_true_iff] at h
  by_cases hj : j = i
  ·subst hj
   exact h.1
  ·exact okFrom_at l fs d (i + 1) h.2 j (by omega) (by omega)
theorem vDb_parts (l : List S70) (fs : List S35) (h : vDb l fs = true) : vRels l = true ∧ fs.length ≤ 14 ∧ (∀ j, j < fs.length → fits l (fs.getD j z35).f0 (fs.getD j z35).f1 = true) ∧ ∀ j, 0 < j → j < fs.length → cmpF (fs.getD (j - 1) z35).f0 (fs.getD (j - 1) z35).f1 (fs.getD j z35).f0 (fs.getD j z35).f1 < 0 := by
 unfold vDb at h
 rw [Bool.and_eq_true, Bool.and_eq_true, decide_eq_true_iff] at h
 refine ⟨h.1.1, h.1.2, fun j hj => (okFrom_at l fs _ 0 h.2 j (by omega) (by omega)).1, fun j h0 hj => ?_⟩
 rcases (okFrom_at l fs _ 0 h.2 j (by omega) (by omega)).2 with e | e
 ·omega
 ·exact e
theorem vDb_lt (l : List S70) (fs : List S35) (h : vDb l fs = true) (i : Nat) : ∀ (d : Nat), i + d + 1 < fs.length → cmpF (fs.getD i z35).f0 (fs.getD i z35).f1 (fs.getD (i + d + 1) z35).f0 (fs.getD (i + d + 1) z35).f1 < 0
 | 0, hd => (vDb_parts l fs h).2.2.2 (i + 1) (by omega) hd
 | d + 1, hd => cmpF_trans _ _ _ _ _ _ (vDb_lt l fs h i d (by omega)) ((vDb_parts l fs h).2.2.2 (i + (d + 1) + 1) (by omega) hd)
def skN (l : List S70) (fs : List S35) (i j : Nat) : Bool := sameK l (fs.getD i z35).f0 (fs.getD i z35).f1 (fs.getD j z35).f0 (fs.getD j z35).f1
theorem sk_iff (l : List S70) (fs : List S35) (i j : Nat) : skN l fs i j = true ↔ (fs.getD i z35).f0 = (fs.getD j z35).f0 ∧ (fs.getD i z35).f1.take ((rd_T70 l (fs.getD i z35).f0).f2).toNat = (fs.getD j z35).f1.take ((rd_T70 l (fs.getD i z35).f0).f2).toNat := by
 unfold skN sameK
 rw [Bool.and_eq_true, decide_eq_true_iff, decide_eq_true_iff]
theorem sk_refl (l : List S70) (fs : List S35) (i : Nat) : skN l fs i i = true := (sk_iff l fs i i).2 ⟨rfl, rfl⟩
theorem sk_symm (l : List S70) (fs : List S35) {i j : Nat} (h : skN l fs i j = true) : skN l fs j i = true := by
 obtain ⟨h1, h2⟩ := (sk_iff l fs i j).1 h
 refine (sk_iff l fs j i).2 ⟨h1.symm, ?_⟩
 rw [← h1]
 exact h2.symm
theorem sk_trans (l : List S70) (fs : List S35) {i j m : Nat} (h : skN l fs i j = true) (h' : skN l fs j m = true) : skN l fs i m = true := by
 obtain ⟨h1, h2⟩ := (sk_iff l fs i j).1 h
 obtain ⟨h3, h4⟩ := (sk_iff l fs j m).1 h'
 refine (sk_iff l fs i m).2 ⟨h1.trans h3, ?_⟩
 rw [← h1] at h4
 exact h2.trans h4
theorem sk_mid (l : List S70) (fs : List S35) (h : vDb l fs = true) {i j m : Nat} (h1 : i < j) (h2 : j < m) (h3 : m < fs.length) (hk : skN l fs i m = true) : skN l fs i j = true := by
 obtain ⟨e1, e2⟩ := (sk_iff l fs i m).1 hk
 have g1 := vDb_lt l fs h i (j - i - 1) (by omega)
 have g2 := vDb_lt l fs h j (m - j - 1) (by omega)
 rw [show i + (j - i - 1) + 1 = j by omega, cmpF_lt] at g1
 rw [show j + (m - j - 1) + 1 = m by omega, cmpF_lt] at g2
 refine (sk_iff l fs i j).2 ⟨by omega, take_mid _ _ _ _ ?_ ?_ e2⟩
 ·rcases g1 with g1 | g1
  ·omega
  ·exact g1.2
 ·rcases g2 with g2 | g2
  ·omega
  ·exact g2.2
theorem sk_step (l : List S70) (fs : List S35) (h : vDb l fs = true) {i j : Nat} (h1 : j < i) (h3 : i < fs.length) (hk : skN l fs j i = true) : skN l fs (i - 1) i = true := by
 by_cases e : j = i - 1
 ·rw [← e]; exact hk
 ·exact sk_trans l fs (sk_symm l fs (sk_mid l fs h (i := j) (j := i - 1) (m := i) (by omega) (by omega) h3 hk)) hk
def blk (l : List S70) (fs : List S35) (h m : Nat) : List Int := ((List.range m).filter (skN l fs h)).map (fun (j : Nat) => (j : Int))
theorem blk_succ (l : List S70) (fs : List S35) (h m : Nat) : blk l fs h (m + 1) = blk l fs h m ++ if skN l fs h m = true then [(m : Int)] else [] := by
 unfold blk
 rw [List.range_succ, List.filter_append, List.map_append]
 congr 1
 by_cases e : skN l fs h m = true
 ·rw [if_pos e, List.filter_cons_of_pos e]; rfl
 ·rw [if_neg e, List.filter_cons_of_neg e]; rfl
theorem blk_len (l : List S70) (fs : List S35) (h m : Nat) : (blk l fs h m).length ≤ m := by
 unfold blk
 rw [List.length_map]
 exact Nat.le_trans (List.length_filter_le _ _) (by simp)
theorem mem_blk (l : List S70) (fs : List S35) (h m : Nat) (x : Int) (hx : x ∈ blk l fs h m) : ∃ j : Nat, x = j ∧ j < m ∧ skN l fs h j = true := by
 unfold blk at hx
 obtain ⟨j, hj, rfl⟩ := List.mem_map.1 hx
 obtain ⟨h1, h2⟩ := List.mem_filter.1 hj
 exact ⟨j, rfl, by simpa using h1, h2⟩
def isHd (l : List S70) (fs : List S35) (h : Nat) : Bool := (List.range h).all fun j => !skN l fs h j
theorem isHd_iff (l : List S70) (fs : List S35) (h : Nat) : isHd l fs h = true ↔ ∀ j, j < h → skN l fs h j = false := by
 unfold isHd
 rw [List.all_eq_true]
 constructor
 ·intro g j hj
  have := g j (by simpa using hj)
  simpa using this
 ·intro g j hj
  rw [g j (by simpa using hj)]
  rfl
theorem filter_none (p : Nat → Bool) : ∀ (m : Nat), (∀ j, j < m → p j = false) → (List.range m).filter p = []
 | 0, _ => rfl
 | m + 1, h => by
  rw [List.range_succ, List.filter_append, filter_none p m fun j hj => h j (by omega), List.filter_cons_of_neg (by rw [h m (by omega)]; decide)]
  rfl
theorem blk_first (l : List S70) (fs : List S35) (h : Nat) (hh : isHd l fs h = true) : ∀ (d : Nat), ∃ r, blk l fs h (h + 1 + d) = (h : Int) :: r
 | 0 => ⟨[], by
  rw [Nat.add_zero, blk_succ, if_pos (sk_refl l fs h)]
  unfold blk
  rw [filter_none _ _ ((isHd_iff l fs h).1 hh)]
  rfl⟩
 | d + 1 => by
  obtain ⟨r, hr⟩ := blk_first l fs h hh d
  rw [show h + 1 + (d + 1) = (h + 1 + d) + 1 by omega, blk_succ, hr]
  exact ⟨_, rfl⟩
theorem blk_head (l : List S70) (fs : List S35) (h m : Nat) (hm : h < m) : ∃ j r, blk l fs h m = ((j : Nat) : Int) :: r ∧ j ≤ h ∧ skN l fs h j = true ∧ (isHd l fs h = true ↔ j = h) := by
 by_cases hh : isHd l fs h = true
 ·obtain ⟨r, hr⟩ := blk_first l fs h hh (m - (h + 1))
  rw [show h + 1 + (m - (h + 1)) = m by omega] at hr
  exact ⟨h, r, hr, Nat.le_refl _, sk_refl l fs h, by simp [hh]⟩
 ·have hne : ¬ ∀ j, j < h → skN l fs h j = false := fun g => hh ((isHd_iff l fs h).2 g)
  have hpre : blk l fs h m = blk l fs h h ++ (((List.range m).drop h).filter (skN l fs h)).map (fun (j : Nat) => (j : Int)) := by
   unfold blk
   rw [← List.map_append, ← List.filter_append]
   congr 2
   have : List.range h = (List.range m).take h := by
    rw [List.take_range, Nat.min_eq_left (by omega)]
   rw [this, List.take_append_drop]
  cases hb : blk l fs h h with
  | nil =>
   exfalso
   apply hne
   intro j hj
   cases hs : skN l fs h j with
   | false => rfl
   | true =>
    have : (j : Int) ∈ blk l fs h h := by
     unfold blk
     exact List.mem_map.2 ⟨j, List.mem_filter.2 ⟨by simpa using hj, hs⟩, rfl⟩
    rw [hb] at this
    cases this
  | cons x r =>
   obtain ⟨j, rfl, hj, hs⟩ := mem_blk l fs h h x (by rw [hb]; exact List.mem_cons_self)
   rw [hb] at hpre
   exact ⟨j, _, hpre, by omega, hs, by simp only [hh, Bool.false_eq_true, false_iff]; omega⟩
def heads (l : List S70) (fs : List S35) (m : Nat) : List Nat := (List.range m).filter (isHd l fs)
theorem heads_succ (l : List S70) (fs : List S35) (m : Nat) : heads l fs (m + 1) = heads l fs m ++ if isHd l fs m = true then [m] else [] := by
 unfold heads
 rw [List.range_succ, List.filter_append]
 congr 1
 by_cases e : isHd l fs m = true
 ·rw [if_pos e, List.filter_cons_of_pos e]; rfl
 ·rw [if_neg e, List.filter_cons_of_neg e]; rfl
theorem mem_heads (l : List S70) (fs : List S35) (m h : Nat) : h ∈ heads l fs m ↔ h < m ∧ isHd l fs h = true := by
 unfold heads
 rw [List.mem_filter, List.mem_range]
def bls (l : List S70) (fs : List S35) (m t : Nat) : List (List Int) := (heads l fs m).map fun h => blk l fs h t
theorem bls_len (l : List S70) (fs : List S35) (m t : Nat) : (bls l fs m t).length ≤ m := by
 unfold bls heads
 rw [List.length_map]
 exact Nat.le_trans (List.length_filter_le _ _) (by simp)
theorem heads_last (l : List S70) (fs : List S35) (hv : vDb l fs = true) : ∀ (m : Nat), m + 1 ≤ fs.length → ∃ hs h, heads l fs (m + 1) = hs ++ [h] ∧ h ≤ m ∧ isHd l fs h = true ∧ skN l fs h m = true ∧ ∀ g ∈ hs, g < h
 | 0, _ => ⟨[], 0, by rw [heads_succ, if_pos (by rfl)]; rfl, Nat.le_refl _, rfl, sk_refl l fs 0, fun g hg => by cases hg⟩
 | m + 1, hm => by
  obtain ⟨hs, h, e1, e2, e3, e4, e5⟩ := heads_last l fs hv m (by omega)
  rw [heads_succ]
  by_cases e : isHd l fs (m + 1) = true
  ·rw [if_pos e]
   refine ⟨heads l fs (m + 1), m + 1, rfl, Nat.le_refl _, e, sk_refl l fs _, fun g hg => ?_⟩
   exact ((mem_heads l fs _ _).1 hg).1
  ·rw [if_neg e, List.append_nil]
   refine ⟨hs, h, e1, by omega, e3, ?_, e5⟩
   have : ∃ j, j < m + 1 ∧ skN l fs (m + 1) j = true := by
    apply Classical.byContradiction
    intro hn
    apply e
    rw [isHd_iff]
    intro j hj
    cases hs : skN l fs (m + 1) j with
    | false => rfl
    | true => exact absurd ⟨j, hj, hs⟩ hn
   obtain ⟨j, hj, hs⟩ := this
   exact sk_trans l fs e4 (sk_step l fs hv hj (by omega) (sk_symm l fs hs))
theorem bls_step_new (l : List S70) (fs : List S35) (m : Nat) (hh : isHd l fs m = true) : bls l fs (m + 1) (m + 1) = bls l fs m m ++ [[(m : Int)]] := by
 unfold bls
 rw [heads_succ, if_pos hh, List.map_append]
 congr 1
 ·apply List.map_congr_left
  intro h hm
  have hlt := ((mem_heads l fs _ _).1 hm).1
  rw [blk_succ, if_neg, List.append_nil]
  intro e
  have := (isHd_iff l fs m).1 hh h hlt
  rw [sk_symm l fs e] at this
  cases this
 ·obtain ⟨r, hr⟩ := blk_first l fs m hh 0
  rw [Nat.add_zero] at hr
  show [blk l fs m (m + 1)] = _
  rw [blk_succ, if_pos (sk_refl l fs m)]
  unfold blk
  rw [filter_none _ _ ((isHd_iff l fs m).1 hh)]
  rfl
theorem bls_step_old (l : List S70) (fs : List S35) (m : Nat) (hs : List Nat) (h : Nat) (hh : heads l fs m = hs ++ [h]) (hm : isHd l fs m = false) (h1 : isHd l fs h = true) (hk : skN l fs h m = true) (hlt : ∀ g ∈ hs, g < h) :
  bls l fs (m + 1) (m + 1) = (hs.map fun g => blk l fs g m) ++ [blk l fs h m ++ [(m : Int)]] := by
 unfold bls
 rw [heads_succ, if_neg (by rw [hm]; decide), List.append_nil, hh, List.map_append]
 congr 1
 ·apply List.map_congr_left
  intro g hg
  rw [blk_succ, if_neg, List.append_nil]
  intro e
  have := (isHd_iff l fs h).1 h1 g (hlt g hg)
  rw [sk_trans l fs hk (sk_symm l fs e)] at this
  cases this
 ·show [blk l fs h (m + 1)] = _
  rw [blk_succ, if_pos hk]
theorem blkSl (l : List S70) (hl : l.length ≤ 1048576) (fs : List S35) (hv : vDb l fs = true) (hg : ∀ y ∈ fs, y.f1.length ≤ 1048576) (h : Nat) (hh : h < fs.length) (d : Nat) : ∀ (j : Nat), j + d = fs.length → ∀ k, 2 * d + 7000000 < k → spec_BlockOf.l0 k h (blk l fs h j) j l fs = some (blk l fs h fs.length) := by
 obtain ⟨q1, q2, q3, q4⟩ := vDb_parts l fs hv
 induction d with
 | zero =>
  intro j hd k hk
  obtain ⟨k, rfl⟩ : ∃ z, k = z + 2 := ⟨k - 2, by omega⟩
  rw [spec_BlockOf.l0, if_neg (by omega), spec_BlockOf.j1, if_neg (by decide), show j = fs.length by omega]
 | succ d ih =>
  intro j hd k hk
  obtain ⟨k, rfl⟩ : ∃ z, k = z + 2 := ⟨k - 2, by omega⟩
  have hyh := hg _ (getD_mem fs z35 h hh)
  have hyj := hg _ (getD_mem fs z35 j (by omega))
  rw [spec_BlockOf.l0, if_pos (by omega), vDS l hl fs (by omega) hg _ (by omega), Option.bind_some, hv, if_pos rfl, in1, Option.bind_some, w64 (by omega) (by omega), decide_eq_true (by omega), spec_BlockOf.j1, if_pos rfl, if_pos (by omega), if_pos (by omega), if_pos (by omega), if_pos (by omega)]
  unfold rd_T35
  rw [Int.toNat_natCast, Int.toNat_natCast, sameS l hl _ _ _ _ hyh hyj k (by omega), Option.bind_some]
  unfold vFact
  rw [q1, q3 h hh, q3 j (by omega), show wrap64 ((j : Int) + 1) = ((j + 1 : Nat) : Int) by rw [w64 (by omega) (by omega)]; omega]
  have hs := blk_succ l fs h j
  have hn := blk_len l fs h j
  unfold skN at hs
  by_cases e : sameK l (fs.getD h z35).f0 (fs.getD h z35).f1 (fs.getD j z35).f0 (fs.getD j z35).f1 = true
  ·rw [e, if_pos (by decide), if_pos (by omega)]
   rw [if_pos e] at hs
   rw [← hs]
   exact ih (j + 1) (by omega) k (by omega)
  ·rw [Bool.eq_false_iff.2 e, if_neg (by decide)]
   rw [if_neg e, List.append_nil] at hs
   rw [← hs]
   exact ih (j + 1) (by omega) k (by omega)
theorem blkS (l : List S70) (hl : l.length ≤ 1048576) (fs : List S35) (hf : fs.length ≤ 1048576) (hg : ∀ y ∈ fs, y.f1.length ≤ 1048576) (a : Int) (k : Nat) (hk : 7000100 < k) :
  spec_BlockOf.f k l fs a = some (if vDb l fs = true ∧ 0 ≤ a ∧ a < (fs.length : Int) then blk l fs a.toNat fs.length else []) := by
 unfold spec_BlockOf.f
 by_cases h : vDb l fs = true ∧ 0 ≤ a ∧ a < (fs.length : Int)
 ·obtain ⟨q1, q2, q3, q4⟩ := vDb_parts l fs h.1
  rw [if_pos h]
  have := blkSl l hl fs h.1 hg a.toNat (by omega) fs.length 0 (by omega) k (by omega)
  rw [show ((a.toNat : Nat) : Int) = a by omega] at this
  exact this
 ·rw [if_neg h]
  obtain ⟨k, rfl⟩ : ∃ z, k = z + 2 := ⟨k - 2, by omega⟩
  rw [spec_BlockOf.l0]
  by_cases h0 : (0 : Int) < fs.length
  ·rw [if_pos h0, vDS l hl fs hf hg _ (by omega), Option.bind_some]
   by_cases hv : vDb l fs = true
   ·rw [if_pos hv, in1, Option.bind_some, w64 (by omega) (by omega), decide_eq_false (by intro e; exact h ⟨hv, by omega, by omega⟩), spec_BlockOf.j1, if_neg (by decide)]
   ·rw [if_neg hv, spec_BlockOf.j1, if_neg (by decide)]
  ·rw [if_neg h0, spec_BlockOf.j1, if_neg (by decide)]
theorem blsSl (l : List S70) (hl : l.length ≤ 1048576) (fs : List S35) (hv : vDb l fs = true) (hg : ∀ y ∈ fs, y.f1.length ≤ 1048576) (d : Nat) : ∀ (i : Nat), i + d = fs.length → ∀ k, 2 * d + 8000000 < k → spec_Blocks.l0 k (bls l fs i fs.length) i l fs = some (bls l fs fs.length fs.length) := by
 obtain ⟨q1, q2, q3, q4⟩ := vDb_parts l fs hv
 induction d with
 | zero =>
  intro j hd k hk
  obtain ⟨k, rfl⟩ : ∃ z, k = z + 2 := ⟨k - 2, by omega⟩
  rw [spec_Blocks.l0, if_neg (by omega), spec_Blocks.j1, if_neg (by decide), show j = fs.length by omega]
 | succ d ih =>
  intro i hd k hk
  obtain ⟨k, rfl⟩ : ∃ z, k = z + 2 := ⟨k - 2, by omega⟩
  obtain ⟨j, r, e1, e2, e3, e4⟩ := blk_head l fs i fs.length (by omega)
  have hn := bls_len l fs i fs.length
  rw [spec_Blocks.l0, if_pos (by omega), vDS l hl fs (by omega) hg _ (by omega), Option.bind_some, hv, spec_Blocks.j1, if_pos rfl, blkS l hl fs (by omega) hg _ _ (by omega), if_pos ⟨hv, by omega, by omega⟩, Int.toNat_natCast, Option.bind_some, e1, if_pos (by simp only [List.length_cons]; omega), show rd (((j : Nat) : Int) :: r) 0 = j from rfl, show wrap64 ((i : Int) + 1) = ((i + 1 : Nat) : Int) by rw [w64 (by omega) (by omega)]; omega]
  have hs : bls l fs (i + 1) fs.length = bls l fs i fs.length ++ if isHd l fs i = true then [blk l fs i fs.length] else [] := by
   unfold bls
   rw [heads_succ, List.map_append]
   congr 1
   by_cases e : isHd l fs i = true
   ·rw [if_pos e, if_pos e]; rfl
   ·rw [if_neg e, if_neg e]; rfl
  by_cases e : isHd l fs i = true
  ·rw [if_pos e] at hs
   have := e4.1 e
   subst this
   rw [if_pos rfl, if_pos (by omega), ← e1, ← hs]
   exact ih (j + 1) (by omega) k (by omega)
  ·rw [if_neg e, List.append_nil] at hs
   have : ¬ j = i := fun h => e (e4.2 h)
   rw [if_neg (by omega), ← hs]
   exact ih (i + 1) (by omega) k (by omega)
theorem blsS (l : List S70) (hl : l.length ≤ 1048576) (fs : List S35) (hf : fs.length ≤ 1048576) (hg : ∀ y ∈ fs, y.f1.length ≤ 1048576) (k : Nat) (hk : 8000100 < k) :
  spec_Blocks.f k l fs = some (if vDb l fs = true then bls l fs fs.length fs.length else []) := by
 unfold spec_Blocks.f
 by_cases h : vDb l fs = true
 ·obtain ⟨q1, q2, q3, q4⟩ := vDb_parts l fs h
  rw [if_pos h]
  exact blsSl l hl fs h hg fs.length 0 (by omega) k (by omega)
 ·rw [if_neg h]
  obtain ⟨k, rfl⟩ : ∃ z, k = z + 2 := ⟨k - 2, by omega⟩
  rw [spec_Blocks.l0]
  by_cases h0 : (0 : Int) < fs.length
  ·rw [if_pos h0, vDS l hl fs hf hg _ (by omega), Option.bind_some, Bool.eq_false_iff.2 h, spec_Blocks.j1, if_neg (by decide)]
  ·rw [if_neg h0, spec_Blocks.j1, if_neg (by decide)]
theorem getD_mid {α : Type} (xs : List α) (y d : α) : (xs ++ [y]).getD xs.length d = y := by
 rw [List.getD_eq_getElem?_getD, List.getElem?_append_right (Nat.le_refl _), Nat.sub_self]
 rfl
theorem set_mid {α : Type} (xs : List α) (y z : α) : (xs ++ [y]).set xs.length z = xs ++ [z] := by
 rw [List.set_append_right _ _ (Nat.le_refl _), Nat.sub_self]
 rfl
theorem blsIl (l : List S70) (fs : List S35) (hv : vDb l fs = true) (d : Nat) : ∀ (i : Nat), i + d = fs.length → ∀ k, d < k → impl_blocks.l0 k (bls l fs i i) fs fs.length i l fs = some (bls l fs fs.length fs.length) := by
 obtain ⟨q1, q2, q3, q4⟩ := vDb_parts l fs hv
 induction d with
 | zero =>
  intro i hd k hk
  obtain ⟨k, rfl, hk⟩ := fuel hk
  rw [impl_blocks.l0, if_neg (by omega), show i = fs.length by omega]
 | succ d ih =>
  intro i hd k hk
  obtain ⟨k, rfl, hk⟩ := fuel hk
  have hn := bls_len l fs i i
  have e1 : wrap64 ((i : Int) + 1) = ((i + 1 : Nat) : Int) := by rw [w64 (by omega) (by omega)]; omega
  rw [impl_blocks.l0, if_pos (by omega), if_pos (by omega), if_pos (by omega), e1]
  cases i with
  | zero =>
   have e0 : bls l fs 0 0 = [] := rfl
   rw [e0, show wrap64 ((([] : List (List Int)).length : Int) - 1) = -1 by rw [w64 (by simp) (by simp)]; simp, if_neg (by decide), if_pos (by simp)]
   have := bls_step_new l fs 0 rfl
   rw [e0] at this
   rw [show ([] : List (List Int)) ++ [[((0 : Nat) : Int)]] = bls l fs (0 + 1) (0 + 1) from this.symm]
   exact ih (0 + 1) (by omega) k (by omega)
  | succ m =>
   obtain ⟨hs, h, g1, g2, g3, g4, g5⟩ := heads_last l fs hv m (by omega)
   have hx : bls l fs (m + 1) (m + 1) = (hs.map fun g => blk l fs g (m + 1)) ++ [blk l fs h (m + 1)] := by
    unfold bls
    rw [g1, List.map_append]
    rfl
   have hlen : (bls l fs (m + 1) (m + 1)).length = hs.length + 1 := by rw [hx]; simp
   have hml : (hs.map fun g => blk l fs g (m + 1)).length = hs.length := by simp
   have ew : wrap64 (((bls l fs (m + 1) (m + 1)).length : Int) - 1) = (hs.length : Int) := by rw [hlen, w64 (by omega) (by omega)]; omega
   obtain ⟨r, hr⟩ := blk_first l fs h g3 (m - h)
   rw [show h + 1 + (m - h) = m + 1 by omega] at hr
   have hb : rd_L4 (bls l fs (m + 1) (m + 1)) (hs.length : Int) = blk l fs h (m + 1) := by
    unfold rd_L4
    rw [Int.toNat_natCast, hx]
    have := getD_mid (hs.map fun g => blk l fs g (m + 1)) (blk l fs h (m + 1)) []
    rw [hml] at this
    exact this
   have hbl := blk_len l fs h (m + 1)
   rw [ew, if_pos (by omega), if_pos (by omega), if_pos (by rw [hlen]; omega), hb, if_pos (by rw [hr]; simp only [List.length_cons]; omega), show rd (blk l fs h (m + 1)) 0 = (h : Int) by rw [hr]; rfl, if_pos (by omega), if_pos (by omega)]
   unfold rd_T35
   rw [Int.toNat_natCast, Int.toNat_natCast, sameI l q1 _ _ _ _ (q3 h (by omega)) (q3 (m + 1) (by omega)), Option.bind_some]
   by_cases e : skN l fs h (m + 1) = true
   ·have hm : isHd l fs (m + 1) = false := by
     cases hq : isHd l fs (m + 1) with
     | false => rfl
     | true =>
      have := (isHd_iff l fs (m + 1)).1 hq h (by omega)
      rw [sk_symm l fs e] at this
      cases this
    have hst := bls_step_old l fs (m + 1) hs h g1 hm g3 e g5
    have he := e
    unfold skN at he
    rw [if_pos he, if_pos (by omega), Int.toNat_natCast, hx]
    have := set_mid (hs.map fun g => blk l fs g (m + 1)) (blk l fs h (m + 1)) (blk l fs h (m + 1) ++ [((m + 1 : Nat) : Int)])
    rw [hml] at this
    rw [this, ← hst]
    exact ih (m + 1 + 1) (by omega) k (by omega)
   ·have hm : isHd l fs (m + 1) = true := by
     apply Classical.byContradiction
     intro hq
     have : ∃ j, j < m + 1 ∧ skN l fs (m + 1) j = true := by
      apply Classical.byContradiction
      intro hn
      apply hq
      rw [isHd_iff]
      intro j hj
      cases hs : skN l fs (m + 1) j with
      | false => rfl
      | true => exact absurd ⟨j, hj, hs⟩ hn
     obtain ⟨j, hj, hs⟩ := this
     exact e (sk_trans l fs g4 (sk_step l fs hv hj (by omega) (sk_symm l fs hs)))
    have hst := bls_step_new l fs (m + 1) hm
    have he := e
    unfold skN at he
    rw [if_neg he, if_pos (by omega), ← hst]
    exact ih (m + 1 + 1) (by omega) k (by omega)
theorem blsI (l : List S70) (fs : List S35) (hv : vDb l fs = true) (k : Nat) (hk : 100 < k) : impl_blocks.f k l fs = some (bls l fs fs.length fs.length) := by
 unfold impl_blocks.f
 obtain ⟨q1, q2, q3, q4⟩ := vDb_parts l fs hv
 exact blsIl l fs hv fs.length 0 (by omega) k (by omega)
theorem consS (l : List S70) (hl : l.length ≤ 1048576) (fs : List S35) (hf : fs.length ≤ 1048576) (hg : ∀ y ∈ fs, y.f1.length ≤ 1048576) (k : Nat) (hk : 8000100 < k) :
  spec_IsConsistent.f k l fs = some (vDb l fs && ((bls l fs fs.length fs.length).length : Int) == (fs.length : Int)) := by
 unfold spec_IsConsistent.f
 rw [vDS l hl fs hf hg k (by omega), Option.bind_some]
 by_cases h : vDb l fs = true
 ·rw [if_pos h, blsS l hl fs hf hg k hk, if_pos h, Option.bind_some, h, Bool.true_and]
 ·rw [if_neg h, Bool.eq_false_iff.2 h, Bool.false_and]
theorem consI (l : List S70) (hl : l.length ≤ 1048576) (fs : List S35) (hf : fs.length ≤ 1048576) (hg : ∀ y ∈ fs, y.f1.length ≤ 1048576) (k : Nat) (hk : 8000100 < k) :
  impl_IsConsistent.f k l fs = some (vDb l fs && ((bls l fs fs.length fs.length).length : Int) == (fs.length : Int)) := by
 unfold impl_IsConsistent.f
 rw [vDI l hl fs hf hg k (by omega), Option.bind_some]
 by_cases h : vDb l fs = true
 ·rw [if_pos h, blsI l fs h k (by omega), Option.bind_some, h, Bool.true_and]
 ·rw [if_neg h, Bool.eq_false_iff.2 h, Bool.false_and]
def ascFrom (xs : List Int) (n : Int) : Nat → Nat → Bool
 | 0, _ => true
 | d + 1, i => decide (0 ≤ xs.getD i 0 ∧ xs.getD i 0 ≤ n - 1) && (decide (i = 0) || decide (xs.getD (i - 1) 0 < xs.getD i 0)) && ascFrom xs n d (i + 1)
def asc (xs : List Int) (n : Int) : Bool := ascFrom xs n xs.length 0
def sel (fs : List S35) (xs : List Int) : List S35 := xs.map fun i => fs.getD i.toNat z35
theorem rdD (xs : List Int) (i : Nat) : rd xs (i : Int) = xs.getD i 0 := by unfold rd; rw [Int.toNat_natCast]
theorem ascFrom_at (xs : List Int) (n : Int) : ∀ (d i : Nat), ascFrom xs n d i = true → ∀ j, i ≤ j → j < i + d → (0 ≤ xs.getD j 0 ∧ xs.getD j 0 ≤ n - 1) ∧ (j = 0 ∨ xs.getD (j - 1) 0 < xs.getD j 0)
 | 0, i, _, j, h1, h2 => by omega
 | d + 1, i, h, j, h1, h2 => by
  rw [ascFrom, Bool.and_eq_true, Bool.and_eq_true, Bool.or_eq_true, decide_eq_true_iff, decide_eq_true_iff, decide_eq_true_iff] at h
  by_cases hj : j = i
  ·subst hj
   exact h.1
  ·exact ascFrom_at xs n d (i + 1) h.2 j (by omega) (by omega)
theorem asc_at (xs : List Int) (n : Int) (h : asc xs n = true) (j : Nat) (hj : j < xs.length) : (0 ≤ xs.getD j 0 ∧ xs.getD j 0 ≤ n - 1) ∧ (j = 0 ∨ xs.getD (j - 1) 0 < xs.getD j 0) :=
 ascFrom_at xs n xs.length 0 h j (by omega) (by omega)
theorem sel_g (fs : List S35) (hg : ∀ y ∈ fs, y.f1.length ≤ 1048576) (xs : List Int) : ∀ y ∈ sel fs xs, y.f1.length ≤ 1048576 := by
 intro y hy
 obtain ⟨i, _, rfl⟩ := List.mem_map.1 hy
 by_cases h : i.toNat < fs.length
 ·exact hg _ (getD_mem fs z35 _ h)
 ·rw [List.getD_eq_getElem?_getD, List.getElem?_eq_none (by omega)]
  show (z35).f1.length ≤ _
  simp [z35]
theorem sel_len (fs : List S35) (xs : List Int) : (sel fs xs).length = xs.length := by unfold sel; simp
theorem sel_take (fs : List S35) (xs : List Int) (i : Nat) (h : i < xs.length) : sel fs (xs.take (i + 1)) = sel fs (xs.take i) ++ [fs.getD (xs.getD i 0).toNat z35] := by
 unfold sel
 rw [List.take_succ_eq_append_getElem h, List.map_append, getD_lt xs 0 i h]
 rfl
theorem ascIl (xs : List Int) (n : Int) (h0 : 0 ≤ n) (hn : n ≤ 1048576) (hx : xs.length ≤ 1048576) (d : Nat) : ∀ (i : Nat), i + d = xs.length → ∀ k, d < k → impl_areIndices.l0 k xs n xs xs.length i = some (ascFrom xs n d i) := by
 induction d with
 | zero =>
  intro i hd k hk
  obtain ⟨k, rfl, hk⟩ := fuel hk
  rw [impl_areIndices.l0, if_neg (by omega), ascFrom]
 | succ d ih =>
  intro i hd k hk
  obtain ⟨k, rfl, hk⟩ := fuel hk
  have e1 : wrap64 ((i : Int) + 1) = ((i + 1 : Nat) : Int) := by rw [w64 (by omega) (by omega)]; omega
  rw [impl_areIndices.l0, if_pos (by omega), if_pos (by omega), if_pos (by omega), inI, Option.bind_some, w64 (by omega) (by omega), rdD, ascFrom, e1]
  unfold inB
  by_cases h : 0 ≤ xs.getD i 0 ∧ xs.getD i 0 ≤ n - 1
  ·rw [decide_eq_true h, if_pos rfl]
   by_cases hi : i = 0
   ·rw [if_neg (by omega), ih (i + 1) (by omega) k (by omega), decide_eq_true hi]
    simp
   ·rw [if_pos (by omega), show wrap64 ((i : Int) - 1) = ((i - 1 : Nat) : Int) by rw [w64 (by omega) (by omega)]; omega, if_pos (by omega), if_pos (by omega), rdD, decide_eq_false hi]
    by_cases hc : xs.getD (i - 1) 0 < xs.getD i 0
    ·rw [if_neg (by omega), ih (i + 1) (by omega) k (by omega), decide_eq_true hc]
     simp
    ·rw [if_pos (by omega), decide_eq_false hc]
     simp
  ·rw [decide_eq_false h, if_neg (by decide)]
   simp
theorem ascI (xs : List Int) (n : Int) (h0 : 0 ≤ n) (hn : n ≤ 1048576) (hx : xs.length ≤ 1048576) (k : Nat) (hk : xs.length < k) : impl_areIndices.f k xs n = some (asc xs n) := by
 unfold impl_areIndices.f asc
 exact ascIl xs n h0 hn hx xs.length 0 (by omega) k hk
theorem copyIl (l : List S70) (fs : List S35) (hf : fs.length ≤ 1048576) (hg : ∀ y ∈ fs, y.f1.length ≤ 1048576) (d : Nat) : ∀ (i : Nat), i + d = fs.length → ∀ k, d < k → impl_copyDatabase.l0 k fs fs.length i l (fs.take i) = some (l, fs) := by
 induction d with
 | zero =>
  intro i hd k hk
  obtain ⟨k, rfl, hk⟩ := fuel hk
  rw [impl_copyDatabase.l0, if_neg (by omega), List.take_of_length_le (by omega)]
 | succ d ih =>
  intro i hd k hk
  obtain ⟨k, rfl, hk⟩ := fuel hk
  have hy := hg _ (getD_mem fs z35 i (by omega))
  rw [impl_copyDatabase.l0, if_pos (by omega), if_pos (by omega), if_pos (by omega), Option.bind_some]
  unfold rd_T35
  rw [Int.toNat_natCast, if_pos (by simp only [List.length_nil]; omega), if_pos (by rw [List.length_take]; omega), List.nil_append, show wrap64 ((i : Int) + 1) = ((i + 1 : Nat) : Int) by rw [w64 (by omega) (by omega)]; omega]
  rw [show fs.take i ++ [(⟨(fs.getD i z35).f0, (fs.getD i z35).f1⟩ : S35)] = fs.take (i + 1) by rw [List.take_succ_eq_append_getElem (by omega), getD_lt fs _ i (by omega)]]
  exact ih (i + 1) (by omega) k (by omega)
theorem copyI (l : List S70) (hl : l.length ≤ 1048576) (fs : List S35) (hf : fs.length ≤ 1048576) (hg : ∀ y ∈ fs, y.f1.length ≤ 1048576) (k : Nat) (hk : fs.length < k) : impl_copyDatabase.f k l fs = some (l, fs) := by
 unfold impl_copyDatabase.f
 rw [Option.bind_some, if_pos (by simp only [List.length_nil]; omega), List.nil_append]
 exact copyIl l fs hf hg fs.length 0 (by omega) k hk
theorem selIl (l l2 : List S70) (fs : List S35) (hf : fs.length ≤ 1048576) (xs : List Int) (hx : xs.length ≤ 1048576) (ha : asc xs fs.length = true) (d : Nat) : ∀ (i : Nat), i + d = xs.length → ∀ k, d < k → impl_SelectFacts.l0 k xs xs.length i l fs l2 (sel fs (xs.take i)) = some (l2, sel fs xs, true) := by
 induction d with
 | zero =>
  intro i hd k hk
  obtain ⟨k, rfl, hk⟩ := fuel hk
  rw [impl_SelectFacts.l0, if_neg (by omega), List.take_of_length_le (by omega)]
 | succ d ih =>
  intro i hd k hk
  obtain ⟨k, rfl, hk⟩ := fuel hk
  have hs := (asc_at xs fs.length ha i (by omega)).1
  have hn := sel_len fs (xs.take i)
  rw [List.length_take] at hn
  rw [impl_SelectFacts.l0, if_pos (by omega), if_pos (by omega), if_pos (by omega), rdD, if_pos (by omega), if_pos (by omega)]
  unfold rd_T35
  rw [if_pos (by omega), show wrap64 ((i : Int) + 1) = ((i + 1 : Nat) : Int) by rw [w64 (by omega) (by omega)]; omega]
  have := sel_take fs xs i (by omega)
  rw [show sel fs (xs.take i) ++ [(⟨(fs.getD (xs.getD i 0).toNat z35).f0, (fs.getD (xs.getD i 0).toNat z35).f1⟩ : S35)] = sel fs (xs.take (i + 1)) from this.symm]
  exact ih (i + 1) (by omega) k (by omega)
theorem selI (l : List S70) (hl : l.length ≤ 1048576) (fs : List S35) (hf : fs.length ≤ 1048576) (hg : ∀ y ∈ fs, y.f1.length ≤ 1048576) (xs : List Int) (hx : xs.length ≤ 1048576) (k : Nat) (hk : 7000000 < k) :
  impl_SelectFacts.f k l fs xs = some (if vDb l fs = true ∧ asc xs fs.length = true then (l, sel fs xs, true) else ([], [], false)) := by
 obtain ⟨k, rfl⟩ : ∃ z, k = z + 1 := ⟨k - 1, by omega⟩
 unfold impl_SelectFacts.f
 rw [vDI l hl fs hf hg (k + 1) (by omega), Option.bind_some]
 by_cases h : vDb l fs = true
 ·rw [if_pos h, ascI xs _ (by omega) (by omega) hx _ (by omega), Option.bind_some, impl_SelectFacts.j0]
  by_cases h2 : asc xs fs.length = true
  ·rw [if_neg (by rw [h2]; decide), copyI l hl fs hf hg _ (by omega), Option.bind_some, if_pos ⟨h, h2⟩]
   exact selIl l l fs hf xs hx h2 xs.length 0 (by omega) k (by omega)
  ·rw [Bool.eq_false_iff.2 h2, if_pos (by decide), if_neg (by simp)]
 ·rw [if_neg h, impl_SelectFacts.j0, if_pos rfl, if_neg (by simp [h])]
def partR (l : List S70) (fs : List S35) (xs : List Int) : Bool :=
 (vDb l fs && asc xs fs.length) && (vDb l (sel fs xs) && ((bls l (sel fs xs) (sel fs xs).length (sel fs xs).length).length : Int) == ((sel fs xs).length : Int))
theorem partI (l : List S70) (hl : l.length ≤ 1048576) (fs : List S35) (hf : fs.length ≤ 1048576) (hg : ∀ y ∈ fs, y.f1.length ≤ 1048576) (xs : List Int) (hx : xs.length ≤ 1048576) (k : Nat) (hk : 8000100 < k) :
  impl_IsPartialRepair.f k l fs xs = some (partR l fs xs) := by
 unfold impl_IsPartialRepair.f partR
 rw [selI l hl fs hf hg xs hx k (by omega), Option.bind_some]
 by_cases h : vDb l fs = true ∧ asc xs fs.length = true
 ·rw [if_pos h, if_pos rfl, consI l hl _ (by rw [sel_len]; exact hx) (sel_g fs hg xs) k hk, Option.bind_some, h.1, h.2]
  rfl
 ·rw [if_neg h, if_neg (by decide)]
  rw [show (vDb l fs && asc xs fs.length) = false by rw [Bool.eq_false_iff, ne_eq, Bool.and_eq_true]; exact h]
  rfl
def repR (l : List S70) (fs : List S35) (xs : List Int) : Bool := partR l fs xs && ((xs.length : Int) == ((bls l fs fs.length fs.length).length : Int))
theorem partR_v (l : List S70) (fs : List S35) (xs : List Int) (h : partR l fs xs = true) : vDb l fs = true ∧ asc xs fs.length = true := by
 unfold partR at h
 rw [Bool.and_eq_true, Bool.and_eq_true] at h
 exact h.1
theorem repI (l : List S70) (hl : l.length ≤ 1048576) (fs : List S35) (hf : fs.length ≤ 1048576) (hg : ∀ y ∈ fs, y.f1.length ≤ 1048576) (xs : List Int) (hx : xs.length ≤ 1048576) (k : Nat) (hk : 8000100 < k) :
  impl_IsRepair.f k l fs xs = some (repR l fs xs) := by
 unfold impl_IsRepair.f repR impl_Blocks.f
 rw [partI l hl fs hf hg xs hx k hk, Option.bind_some]
 by_cases h : partR l fs xs = true
 ·have hv := (partR_v l fs xs h).1
  rw [if_pos h, vDI l hl fs hf hg k (by omega), Option.bind_some, if_pos hv, blsI l fs hv k (by omega), Option.bind_some, Option.bind_some, h, Bool.true_and]
 ·rw [if_neg h, Bool.eq_false_iff.2 h, Bool.false_and]
def at_ (xs : List Int) (i : Nat) : Nat := (xs.getD i 0).toNat
theorem sel_at (fs : List S35) (xs : List Int) (i : Nat) (h : i < xs.length) : (sel fs xs).getD i z35 = fs.getD (at_ xs i) z35 := by
 unfold sel at_
 exact getD_map _ xs 0 z35 i h
theorem at_lt (fs : List S35) (xs : List Int) (ha : asc xs fs.length = true) (i : Nat) (hi : i < xs.length) : at_ xs i < fs.length ∧ ((at_ xs i : Nat) : Int) = xs.getD i 0 := by
 have := (asc_at xs fs.length ha i hi).1
 unfold at_
 omega
theorem at_mono (fs : List S35) (xs : List Int) (ha : asc xs fs.length = true) (i : Nat) (hi : i + 1 < xs.length) : at_ xs i < at_ xs (i + 1) := by
 have h1 := at_lt fs xs ha i (by omega)
 have h2 := at_lt fs xs ha (i + 1) hi
 have := (asc_at xs fs.length ha (i + 1) hi).2
 rw [show i + 1 - 1 = i by omega] at this
 omega
theorem blk_nodup (l : List S70) (fs : List S35) (h m : Nat) : (blk l fs h m).Nodup := by
 unfold blk
 refine List.Pairwise.map _ (fun a b hab => ?_) (List.Pairwise.filter _ List.nodup_range)
 intro e
 exact hab (by omega)
theorem ixl (b : List Int) (x : Int) (hb : b.length ≤ 1048576) (p : Nat) (hp : p < b.length) (h : ∀ q, q < b.length → (b.getD q 0 = x ↔ q = p)) (d : Nat) : ∀ (j : Nat), j + d = p → ∀ k, d < k → slices_Index_int_int.l0 k b x b.length j = some (p : Int) := by
 induction d with
 | zero =>
  intro j hd k hk
  obtain ⟨k, rfl, hk⟩ := fuel hk
  rw [slices_Index_int_int.l0, if_pos (by omega), if_pos (by omega), if_pos (by omega), rdD, if_pos ((h j (by omega)).2 (by omega)).symm, show j = p by omega]
 | succ d ih =>
  intro j hd k hk
  obtain ⟨k, rfl, hk⟩ := fuel hk
  rw [slices_Index_int_int.l0, if_pos (by omega), if_pos (by omega), if_pos (by omega), rdD, if_neg (fun e => by have := (h j (by omega)).1 e.symm; omega), show wrap64 ((j : Int) + 1) = ((j + 1 : Nat) : Int) by rw [w64 (by omega) (by omega)]; omega]
  exact ih (j + 1) (by omega) k (by omega)
def szB (bs : List (List Int)) : List Int := bs.map fun b => (b.length : Int)
def prodB : Int → List (List Int) → Int
 | n, [] => n
 | n, b :: bs => prodB (wrap64 (n * (b.length : Int))) bs
theorem rdL_lt (bs : List (List Int)) (i : Nat) (h : i < bs.length) : rd_L4 bs (i : Int) = bs[i] := by
 unfold rd_L4
 rw [Int.toNat_natCast, getD_lt bs _ i h]
theorem sizesSl (bs : List (List Int)) (hb : bs.length ≤ 1048576) (d : Nat) : ∀ (i : Nat), i + d = bs.length → ∀ k, d < k → spec_BlockSizes.l0 k (szB (bs.take i)) bs i = some (szB bs) := by
 induction d with
 | zero =>
  intro i hd k hk
  obtain ⟨k, rfl, hk⟩ := fuel hk
  rw [spec_BlockSizes.l0, if_neg (by omega), List.take_of_length_le (by omega)]
 | succ d ih =>
  intro i hd k hk
  obtain ⟨k, rfl, hk⟩ := fuel hk
  rw [spec_BlockSizes.l0, if_pos (by omega), if_pos (by omega), if_pos (by unfold szB; rw [List.length_map, List.length_take]; omega), show wrap64 ((i : Int) + 1) = ((i + 1 : Nat) : Int) by rw [w64 (by omega) (by omega)]; omega, rdL_lt bs i (by omega)]
  have : szB (bs.take i) ++ [((bs[i].length : Nat) : Int)] = szB (bs.take (i + 1)) := by
   unfold szB
   rw [List.take_succ_eq_append_getElem (by omega), List.map_append]
   rfl
  rw [this]
  exact ih (i + 1) (by omega) k (by omega)
theorem countSl (bs : List (List Int)) (hb : bs.length ≤ 1048576) (d : Nat) : ∀ (i : Nat) (n : Int), i + d = bs.length → ∀ k, d < k → spec_CountRepairs.l0 k n (szB bs) i = some (prodB n (bs.drop i)) := by
 induction d with
 | zero =>
  intro i n hd k hk
  obtain ⟨k, rfl, hk⟩ := fuel hk
  have hz : (szB bs).length = bs.length := by unfold szB; simp
  rw [spec_CountRepairs.l0, if_neg (by omega), List.drop_of_length_le (by omega)]
  rfl
 | succ d ih =>
  intro i n hd k hk
  obtain ⟨k, rfl, hk⟩ := fuel hk
  have hz : (szB bs).length = bs.length := by unfold szB; simp
  have hr : rd (szB bs) (i : Int) = ((bs[i].length : Nat) : Int) := by
   unfold rd szB
   rw [Int.toNat_natCast, getD_lt _ _ i (by simp; omega)]
   simp
  rw [spec_CountRepairs.l0, if_pos (by omega), if_pos (by omega), hr, show wrap64 ((i : Int) + 1) = ((i + 1 : Nat) : Int) by rw [w64 (by omega) (by omega)]; omega, List.drop_eq_getElem_cons (by omega), prodB]
  exact ih (i + 1) _ (by omega) k (by omega)
theorem countIl (bs : List (List Int)) (hb : bs.length ≤ 1048576) (d : Nat) : ∀ (i : Nat) (n : Int), i + d = bs.length → ∀ k, d < k → impl_countRepairs.l0 k n bs bs.length i = some (prodB n (bs.drop i)) := by
 induction d with
 | zero =>
  intro i n hd k hk
  obtain ⟨k, rfl, hk⟩ := fuel hk
  rw [impl_countRepairs.l0, if_neg (by omega), List.drop_of_length_le (by omega)]
  rfl
 | succ d ih =>
  intro i n hd k hk
  obtain ⟨k, rfl, hk⟩ := fuel hk
  rw [impl_countRepairs.l0, if_pos (by omega), if_pos (by omega), if_pos (by omega), rdL_lt bs i (by omega), show wrap64 ((i : Int) + 1) = ((i + 1 : Nat) : Int) by rw [w64 (by omega) (by omega)]; omega, List.drop_eq_getElem_cons (by omega), prodB]
  exact ih (i + 1) _ (by omega) k (by omega)
def cntR (l : List S70) (fs : List S35) : Int := if vDb l fs = true then prodB 1 (bls l fs fs.length fs.length) else 0
theorem sizesS (l : List S70) (hl : l.length ≤ 1048576) (fs : List S35) (hf : fs.length ≤ 1048576) (hg : ∀ y ∈ fs, y.f1.length ≤ 1048576) (k : Nat) (hk : 8000100 < k) :
  spec_BlockSizes.f k l fs = some (szB (if vDb l fs = true then bls l fs fs.length fs.length else [])) := by
 unfold spec_BlockSizes.f
 rw [blsS l hl fs hf hg k hk, Option.bind_some]
 have hn := bls_len l fs fs.length fs.length
 by_cases h : vDb l fs = true
 ·rw [if_pos h]
  exact sizesSl (bls l fs fs.length fs.length) (by omega) (bls l fs fs.length fs.length).length 0 (by omega) k (by omega)
 ·rw [if_neg h]
  exact sizesSl [] (by simp) 0 0 (by simp) k (by omega)
theorem countS (l : List S70) (hl : l.length ≤ 1048576) (fs : List S35) (hf : fs.length ≤ 1048576) (hg : ∀ y ∈ fs, y.f1.length ≤ 1048576) (k : Nat) (hk : 8000100 < k) :
  spec_CountRepairs.f k l fs = some (cntR l fs) := by
 unfold spec_CountRepairs.f cntR
 rw [vDS l hl fs hf hg k (by omega), Option.bind_some]
 have hn := bls_len l fs fs.length fs.length
 by_cases h : vDb l fs = true
 ·rw [if_pos h, if_pos h, sizesS l hl fs hf hg k hk, if_pos h, Option.bind_some]
  exact countSl (bls l fs fs.length fs.length) (by omega) (bls l fs fs.length fs.length).length 0 1 (by omega) k (by omega)
 ·rw [if_neg h, if_neg h]
theorem countI (l : List S70) (hl : l.length ≤ 1048576) (fs : List S35) (hf : fs.length ≤ 1048576) (hg : ∀ y ∈ fs, y.f1.length ≤ 1048576) (k : Nat) (hk : 8000100 < k) :
  impl_CountRepairs.f k l fs = some (cntR l fs) := by
 unfold impl_CountRepairs.f cntR
 rw [vDI l hl fs hf hg k (by omega), Option.bind_some]
 have hn := bls_len l fs fs.length fs.length
 by_cases h : vDb l fs = true
 ·rw [if_pos h, if_pos h, blsI l fs h k (by omega), Option.bind_some]
  unfold impl_countRepairs.f
  have hc := countIl (bls l fs fs.length fs.length) (by omega) (bls l fs fs.length fs.length).length 0 1 (by omega) k (by omega)
  rw [show (0 : Int) = ((0 : Nat) : Int) from rfl, hc]
  rfl
 ·rw [if_neg h, if_neg h]
theorem ex_head (l : List S70) (fs : List S35) (j : Nat) : ∃ h, h ≤ j ∧ isHd l fs h = true ∧ skN l fs h j = true := by
 induction j using Nat.strongRecOn with
 | ind j ih =>
  by_cases hj : isHd l fs j = true
  ·exact ⟨j, Nat.le_refl _, hj, sk_refl l fs j⟩
  ·have : ¬ ∀ i, i < j → skN l fs j i = false := fun h => hj ((isHd_iff l fs j).2 h)
   have : ∃ i, i < j ∧ skN l fs j i = true := by
    refine Classical.byContradiction fun hn => this fun i hi => ?_
    refine Bool.eq_false_iff.2 fun e => hn ⟨i, hi, e⟩
   obtain ⟨i, hi, he⟩ := this
   obtain ⟨h, h1, h2, h3⟩ := ih i hi
   exact ⟨h, by omega, h2, sk_trans l fs h3 (sk_symm l fs he)⟩
theorem blk_mem (l : List S70) (fs : List S35) (h j m : Nat) (hj : j < m) (hk : skN l fs h j = true) : (j : Int) ∈ blk l fs h m := by
 unfold blk
 exact List.mem_map.2 ⟨j, List.mem_filter.2 ⟨List.mem_range.2 hj, hk⟩, rfl⟩
def plc (v : Int) (out : List Int) : Nat → Nat
 | 0 => 0
 | j + 1 => if out.getD j 0 > v then plc v out j else j + 1
theorem plc_le (v : Int) (out : List Int) : ∀ (j : Nat), plc v out j ≤ j
 | 0 => Nat.le_refl _
 | j + 1 => by
  rw [plc]
  have := plc_le v out j
  split <;> omega
def insV (out : List Int) (v : Int) : List Int := out.take (plc v out out.length) ++ [v] ++ out.drop (plc v out out.length)
def srt (l : List Int) : List Int := l.foldl insV []
theorem insV_len (out : List Int) (v : Int) : (insV out v).length = out.length + 1 := by
 have := plc_le v out out.length
 unfold insV
 simp only [List.length_append, List.length_take, List.length_drop, List.length_cons, List.length_nil]
 omega
theorem srt_snoc (l : List Int) (v : Int) : srt (l ++ [v]) = insV (srt l) v := by
 unfold srt
 rw [List.foldl_append]
 rfl
theorem srt_len (l : List Int) : (srt l).length = l.length := by
 have h : ∀ (l acc : List Int), (l.foldl insV acc).length = acc.length + l.length := by
  intro l
  induction l with
  | nil => intro acc; simp
  | cons v l ih => intro acc; rw [List.foldl_cons, ih, insV_len, List.length_cons]; omega
 rw [srt, h]
 simp
theorem asc_ext : ∀ (xs ys : List Int), xs.Pairwise (· < ·) → ys.Pairwise (· < ·) → (∀ x, x ∈ xs ↔ x ∈ ys) → xs = ys
 | [], [], _, _, _ => rfl
 | [], y :: ys, _, _, h => absurd ((h y).2 List.mem_cons_self) (by simp)
 | x :: xs, [], _, _, h => absurd ((h x).1 List.mem_cons_self) (by simp)
 | x :: xs, y :: ys, hx, hy, h => by
  rw [List.pairwise_cons] at hx hy
  have e : x = y := by
   have h1 := (h x).1 List.mem_cons_self
   have h2 := (h y).2 List.mem_cons_self
   rcases List.mem_cons.1 h1 with h1 | h1
   ·exact h1
   ·rcases List.mem_cons.1 h2 with h2 | h2
    ·exact h2.symm
    ·have := hx.1 y h2
     have := hy.1 x h1
     omega
  subst e
  refine congrArg (x :: ·) (asc_ext xs ys hx.2 hy.2 fun z => ⟨fun hz => ?_, fun hz => ?_⟩)
  ·have hl := hx.1 z hz
   rcases List.mem_cons.1 ((h z).1 (List.mem_cons_of_mem _ hz)) with e | e
   ·omega
   ·exact e
  ·have hl := hy.1 z hz
   rcases List.mem_cons.1 ((h z).2 (List.mem_cons_of_mem _ hz)) with e | e
   ·omega
   ·exact e
theorem plc_hi (v : Int) (out : List Int) : ∀ (j t : Nat), plc v out j ≤ t → t < j → v < out.getD t 0
 | 0, t, _, h => by omega
 | j + 1, t, h1, h2 => by
  rw [plc] at h1
  by_cases c : out.getD j 0 > v
  ·rw [if_pos c] at h1
   by_cases e : t = j
   ·rw [e]; exact c
   ·exact plc_hi v out j t h1 (by omega)
  ·rw [if_neg c] at h1
   omega
theorem plc_lo (v : Int) (out : List Int) : ∀ (j : Nat), 0 < plc v out j → out.getD (plc v out j - 1) 0 ≤ v
 | 0, h => by rw [plc] at h; omega
 | j + 1, h => by
  rw [plc] at h ⊢
  by_cases c : out.getD j 0 > v
  ·rw [if_pos c] at h ⊢
   exact plc_lo v out j h
  ·rw [if_neg c] at h ⊢
   rw [Nat.add_sub_cancel]
   omega
theorem insV_mem (out : List Int) (v x : Int) : x ∈ insV out v ↔ x ∈ out ∨ x = v := by
 unfold insV
 rw [List.mem_append, List.mem_append, List.mem_singleton]
 constructor
 ·rintro ((h | h) | h)
  ·exact .inl (List.mem_of_mem_take h)
  ·exact .inr h
  ·exact .inl (List.mem_of_mem_drop h)
 ·rintro (h | h)
  ·rw [← List.take_append_drop (plc v out out.length) out, List.mem_append] at h
   rcases h with h | h
   ·exact .inl (.inl h)
   ·exact .inr h
  ·exact .inl (.inr h)
theorem insV_asc (out : List Int) (v : Int) (ha : out.Pairwise (· < ·)) (hv : v ∉ out) : (insV out v).Pairwise (· < ·) := by
 have hp := plc_le v out out.length
 have hg := List.pairwise_iff_getElem.1 ha
 have hlo : ∀ x ∈ out.take (plc v out out.length), x < v := by
  intro x hx
  obtain ⟨i, hi, rfl⟩ := List.getElem_of_mem hx
  rw [List.length_take] at hi
  rw [List.getElem_take]
  have h1 := plc_lo v out out.length (by omega)
  rw [getD_lt out 0 _ (by omega)] at h1
  have h2 : out[i] ≤ out[plc v out out.length - 1] := by
   by_cases e : i = plc v out out.length - 1
   ·simp only [e]; exact Int.le_refl _
   ·have := hg i (plc v out out.length - 1) (by omega) (by omega) (by omega)
    omega
  have h3 : out[i] ≠ v := fun e => hv (e ▸ List.getElem_mem _)
  omega
 have hhi : ∀ x ∈ out.drop (plc v out out.length), v < x := by
  intro x hx
  obtain ⟨i, hi, rfl⟩ := List.getElem_of_mem hx
  rw [List.length_drop] at hi
  rw [List.getElem_drop]
  have h1 := plc_hi v out out.length (plc v out out.length + i) (by omega) (by omega)
  rw [getD_lt out 0 _ (by omega)] at h1
  exact h1
 unfold insV
 rw [List.append_assoc, List.pairwise_append]
 refine ⟨ha.sublist (List.take_sublist _ _), ?_, fun x hx y hy => ?_⟩
 ·rw [List.singleton_append, List.pairwise_cons]
  exact ⟨hhi, ha.sublist (List.drop_sublist _ _)⟩
 ·rcases List.mem_append.1 hy with hy | hy
  ·rw [List.mem_singleton] at hy
   rw [hy]
   exact hlo x hx
  ·have := hlo x hx
   have := hhi y hy
   omega
theorem srt_both : ∀ (l acc : List Int), acc.Pairwise (· < ·) → l.Nodup → (∀ x ∈ l, x ∉ acc) → (l.foldl insV acc).Pairwise (· < ·) ∧ ∀ x, x ∈ l.foldl insV acc ↔ x ∈ acc ∨ x ∈ l
 | [], acc, ha, _, _ => ⟨ha, fun x => by simp⟩
 | v :: l, acc, ha, hn, hd => by
  rw [List.nodup_cons] at hn
  have h1 := hd v List.mem_cons_self
  obtain ⟨g1, g2⟩ := srt_both l (insV acc v) (insV_asc acc v ha h1) hn.2 fun x hx hm => by
   rcases (insV_mem acc v x).1 hm with h | h
   ·exact hd x (List.mem_cons_of_mem _ hx) h
   ·exact hn.1 (h ▸ hx)
  refine ⟨g1, fun x => ?_⟩
  rw [List.foldl_cons, g2, insV_mem, List.mem_cons, or_assoc]
theorem srt_eq (l ys : List Int) (hn : l.Nodup) (ha : ys.Pairwise (· < ·)) (hm : ∀ x, x ∈ l ↔ x ∈ ys) : srt l = ys := by
 obtain ⟨g1, g2⟩ := srt_both l [] List.Pairwise.nil hn (fun x _ h => by cases h)
 exact asc_ext _ _ g1 ha fun x => by unfold srt; rw [g2]; simp [hm x]
theorem srtIn (l out : List Int) (ho : out.length ≤ 1000) (i : Nat) (hi : i < l.length) (hl : l.length ≤ 1000) (R : List Int) (K : Nat) : ∀ (j : Nat), (∀ k, K < k → spec_l7Sorted.l0 k l (out.take (plc (l.getD i 0) out j) ++ [l.getD i 0] ++ out.drop (plc (l.getD i 0) out j)) ((i + 1 : Nat) : Int) = some R) → j ≤ out.length → ∀ k, K + j + 1 < k → spec_l7Sorted.l1 k l out i j = some R
 | 0, hR, hj, k, hk => by
  obtain ⟨k, rfl⟩ : ∃ z, k = z + 1 := ⟨k - 1, by omega⟩
  have := hR k (by omega)
  rw [plc] at this
  rw [spec_l7Sorted.l1, if_neg (by omega)]
  simp only [Option.bind_some]
  rw [if_pos (by omega), if_pos (by omega), if_pos (by simp), if_pos (by omega), if_pos (by omega), if_pos (by simp), if_pos (by simp; omega), rdD, List.nil_append, show wrap64 ((i : Int) + 1) = ((i + 1 : Nat) : Int) by rw [w64 (by omega) (by omega)]; omega]
  exact this
 | j + 1, hR, hj, k, hk => by
  obtain ⟨k, rfl⟩ : ∃ z, k = z + 1 := ⟨k - 1, by omega⟩
  rw [plc] at hR
  have e0 : wrap64 (((j + 1 : Nat) : Int) - 1) = (j : Int) := by rw [w64 (by omega) (by omega)]; omega
  rw [spec_l7Sorted.l1, if_pos (by omega), e0, if_pos (by omega), if_pos (by omega), if_pos (by omega), if_pos (by omega), rdD, rdD]
  by_cases c : out.getD j 0 > l.getD i 0
  ·rw [if_pos c] at hR
   rw [if_pos c]
   exact srtIn l out ho i hi hl R K j hR (by omega) k (by omega)
  ·rw [if_neg c] at hR
   rw [if_neg c]
   simp only [Option.bind_some]
   have := hR k (by omega)
   have hm : (out.take (j + 1)).length ≤ 1000 := by rw [List.length_take]; omega
   rw [if_pos (by omega), if_pos (by omega), if_pos (by simp only [List.length_nil, Int.toNat_natCast]; omega), if_pos (by simp only [List.nil_append, List.length_cons, List.length_nil, Int.toNat_natCast]; omega), if_pos (by simp only [List.nil_append, List.length_append, List.length_drop, List.length_cons, List.length_nil, Int.toNat_natCast]; omega), List.nil_append, Int.toNat_natCast, show wrap64 ((i : Int) + 1) = ((i + 1 : Nat) : Int) by rw [w64 (by omega) (by omega)]; omega]
   exact this
theorem srtOut (l : List Int) (hl : l.length ≤ 1000) (d : Nat) : ∀ (i : Nat), i + d = l.length → ∀ k, 1002 * d < k → spec_l7Sorted.l0 k l (srt (l.take i)) i = some (srt l) := by
 induction d with
 | zero =>
  intro i hd k hk
  obtain ⟨k, rfl⟩ : ∃ z, k = z + 1 := ⟨k - 1, by omega⟩
  rw [spec_l7Sorted.l0, if_neg (by omega), List.take_of_length_le (by omega)]
 | succ d ih =>
  intro i hd k hk
  obtain ⟨k, rfl⟩ : ∃ z, k = z + 1 := ⟨k - 1, by omega⟩
  have hn := srt_len (l.take i)
  rw [List.length_take] at hn
  rw [spec_l7Sorted.l0, if_pos (by omega)]
  refine srtIn l (srt (l.take i)) (by omega) i (by omega) hl (srt l) (1002 * d) _ (fun k' hk' => ?_) (Nat.le_refl _) k (by omega)
  have := ih (i + 1) (by omega) k' hk'
  rw [List.take_succ_eq_append_getElem (by omega), srt_snoc, ← getD_lt l 0 i (by omega)] at this
  exact this
theorem srtS (l : List Int) (hl : l.length ≤ 1000) (k : Nat) (hk : 1002 * l.length < k) : spec_l7Sorted.f k l = some (srt l) := by
 unfold spec_l7Sorted.f
 have := srtOut l hl l.length 0 (by omega) k hk
 exact this
theorem bls_pw (l : List S70) (fs : List S35) (hv : vDb l fs = true) : (bls l fs fs.length fs.length).Pairwise (fun b c => ∀ x ∈ b, ∀ y ∈ c, x < y) := by
 unfold bls heads
 rw [List.pairwise_map]
 have hp : ((List.range fs.length).filter (isHd l fs)).Pairwise (· < ·) := List.Pairwise.filter _ List.pairwise_lt_range
 refine List.Pairwise.imp_of_mem (fun {g h} hg hh hlt x hx y hy => ?_) hp
 obtain ⟨i, rfl, hi, hsi⟩ := mem_blk l fs g fs.length x hx
 obtain ⟨j, rfl, hj, hsj⟩ := mem_blk l fs h fs.length y hy
 have hh2 := (List.mem_filter.1 hh).2
 have hhl := List.mem_range.1 (List.mem_filter.1 hh).1
 have hj2 : h ≤ j := by
  rcases Nat.lt_or_ge j h with c | c
  ·have := (isHd_iff l fs h).1 hh2 j c
   rw [hsj] at this
   cases this
  ·exact c
 rcases Nat.lt_or_ge i j with c | c
 ·omega
 ·exfalso
  have : skN l fs g h = true := by
   rcases Nat.lt_or_ge h i with c2 | c2
   ·exact sk_mid l fs hv hlt c2 hi hsi
   ·have : i = h := by omega
    rw [← this]
    exact hsi
  have h3 := (isHd_iff l fs h).1 hh2 g hlt
  rw [sk_symm l fs this] at h3
  cases h3
theorem bls_ne (l : List S70) (fs : List S35) (b : List Int) (hb : b ∈ bls l fs fs.length fs.length) : 0 < b.length ∧ b.length ≤ fs.length := by
 unfold bls at hb
 obtain ⟨h, hh, rfl⟩ := List.mem_map.1 hb
 have hl := ((mem_heads l fs _ _).1 hh).1
 have := blk_mem l fs h h fs.length hl (sk_refl l fs h)
 exact ⟨List.length_pos_of_mem this, blk_len l fs h fs.length⟩
def nr : List (List Int) → Int → List Int
 | [], _ => []
 | b :: bs, k => rd b (Int.tmod k b.length) :: nr bs (wrap64 (Int.tdiv k b.length))
theorem nr_len : ∀ (bs : List (List Int)) (k : Int), (nr bs k).length = bs.length
 | [], _ => rfl
 | b :: bs, k => by rw [nr, List.length_cons, List.length_cons, nr_len bs]
theorem dv (k : Int) (n : Nat) (h0 : 0 ≤ k) (h1 : k ≤ 9223372036854775807) (hn : 0 < n) : 0 ≤ Int.tmod k n ∧ Int.tmod k n < n ∧ 0 ≤ wrap64 (Int.tdiv k n) ∧ wrap64 (Int.tdiv k n) ≤ 9223372036854775807 := by
 have h2 : (0 : Int) < n := by omega
 have h3 := Int.emod_nonneg k (show (n : Int) ≠ 0 by omega)
 have h4 := Int.emod_lt_of_pos k h2
 have h5 := Int.ediv_nonneg h0 (Int.le_of_lt h2)
 have h6 : k / n ≤ k := Int.ediv_le_self _ h0
 rw [tm h0, td h0, w64 (by omega) (by omega)]
 exact ⟨h3, h4, h5, by omega⟩
theorem nr_mem : ∀ (bs : List (List Int)) (k : Int), (∀ b ∈ bs, 0 < b.length) → 0 ≤ k → k ≤ 9223372036854775807 → ∀ x ∈ nr bs k, ∃ b ∈ bs, x ∈ b
 | [], _, _, _, _, x, hx => by cases hx
 | b :: bs, k, hb, h0, h1, x, hx => by
  have hbl := hb b List.mem_cons_self
  obtain ⟨d1, d2, d3, d4⟩ := dv k b.length h0 h1 hbl
  rw [nr] at hx
  rcases List.mem_cons.1 hx with e | e
  ·refine ⟨b, List.mem_cons_self, ?_⟩
   rw [e]
   unfold rd
   exact getD_mem b 0 _ (by omega)
  ·obtain ⟨c, hc, hxc⟩ := nr_mem bs _ (fun c hc => hb c (List.mem_cons_of_mem _ hc)) d3 d4 x e
   exact ⟨c, List.mem_cons_of_mem _ hc, hxc⟩
theorem nr_pw : ∀ (bs : List (List Int)) (k : Int), (∀ b ∈ bs, 0 < b.length) → 0 ≤ k → k ≤ 9223372036854775807 → bs.Pairwise (fun b c => ∀ x ∈ b, ∀ y ∈ c, y < x) → (nr bs k).Pairwise (fun x y => y < x)
 | [], _, _, _, _, _ => List.Pairwise.nil
 | b :: bs, k, hb, h0, h1, hp => by
  have hbl := hb b List.mem_cons_self
  obtain ⟨d1, d2, d3, d4⟩ := dv k b.length h0 h1 hbl
  rw [List.pairwise_cons] at hp
  rw [nr, List.pairwise_cons]
  refine ⟨fun y hy => ?_, nr_pw bs _ (fun c hc => hb c (List.mem_cons_of_mem _ hc)) d3 d4 hp.2⟩
  obtain ⟨c, hc, hyc⟩ := nr_mem bs _ (fun c hc => hb c (List.mem_cons_of_mem _ hc)) d3 d4 y hy
  refine hp.1 c hc _ ?_ y hyc
  unfold rd
  exact getD_mem b 0 _ (by omega)
theorem nthSl (B : List (List Int)) (hB : B.length ≤ 14) (hb : ∀ b ∈ B, 0 < b.length) (m : Nat) : ∀ (K : Int) (out : List Int), m ≤ B.length → out.length + m ≤ 20 → 0 ≤ K → K ≤ 9223372036854775807 → ∀ k, 20100 + m < k → spec_NthRepair.l0 k K B out ((m : Int) - 1) = some (srt (out ++ nr (B.take m).reverse K), true) := by
 induction m with
 | zero =>
  intro K out hm ho h0 h1 k hk
  obtain ⟨k, rfl⟩ : ∃ z, k = z + 1 := ⟨k - 1, by omega⟩
  rw [spec_NthRepair.l0, if_neg (by omega), srtS out (by omega) k (by omega)]
  simp [nr]
 | succ m ih =>
  intro K out hm ho h0 h1 k hk
  obtain ⟨k, rfl⟩ : ∃ z, k = z + 1 := ⟨k - 1, by omega⟩
  have hbl := hb B[m] (List.getElem_mem _)
  obtain ⟨d1, d2, d3, d4⟩ := dv K B[m].length h0 h1 hbl
  rw [spec_NthRepair.l0, show ((m + 1 : Nat) : Int) - 1 = (m : Int) by omega, if_pos (by omega), if_pos (by omega), if_pos (by omega), rdL_lt B m (by omega), if_neg (by omega), if_pos d1, if_pos d2, if_pos (by omega), show wrap64 ((m : Int) - 1) = (m : Int) - 1 by rw [w64 (by omega) (by omega)], ih _ _ (by omega) (by simp; omega) d3 d4 k (by omega), List.append_assoc, List.take_succ_eq_append_getElem (by omega), List.reverse_append]
  rfl
theorem nthIl (B : List (List Int)) (hB : B.length ≤ 14) (hb : ∀ b ∈ B, 0 < b.length) (m : Nat) : ∀ (K : Int) (out : List Int), m ≤ B.length → out.length = B.length → 0 ≤ K → K ≤ 9223372036854775807 → ∀ k, m < k → impl_nthRepair.l0 k B K out ((m : Int) - 1) = some ((nr (B.take m).reverse K).reverse ++ out.drop m) := by
 induction m with
 | zero =>
  intro K out hm ho h0 h1 k hk
  obtain ⟨k, rfl⟩ : ∃ z, k = z + 1 := ⟨k - 1, by omega⟩
  rw [impl_nthRepair.l0, if_neg (by omega)]
  simp [nr]
 | succ m ih =>
  intro K out hm ho h0 h1 k hk
  obtain ⟨k, rfl⟩ : ∃ z, k = z + 1 := ⟨k - 1, by omega⟩
  have hbl := hb B[m] (List.getElem_mem _)
  obtain ⟨d1, d2, d3, d4⟩ := dv K B[m].length h0 h1 hbl
  rw [impl_nthRepair.l0, show ((m + 1 : Nat) : Int) - 1 = (m : Int) by omega, if_pos (by omega), if_pos (by omega), if_pos (by omega), rdL_lt B m (by omega), if_neg (by omega), if_pos d1, if_pos d2, if_pos (by omega), show wrap64 ((m : Int) - 1) = (m : Int) - 1 by rw [w64 (by omega) (by omega)], ih _ _ (by omega) (by simpa using ho) d3 d4 k (by omega), List.take_succ_eq_append_getElem (by omega), List.reverse_append, Int.toNat_natCast]
  rw [List.drop_eq_getElem_cons (by simp; omega), List.getElem_set_self, List.drop_set_of_lt (by omega)]
  simp [nr]
def nthV (l : List S70) (fs : List S35) (a : Int) : List Int × Bool := if 0 ≤ a ∧ a ≤ wrap64 (cntR l fs - 1) then ((nr (bls l fs fs.length fs.length).reverse a).reverse, true) else ([], false)
theorem nthX (l : List S70) (hl : l.length ≤ 1048576) (fs : List S35) (hf : fs.length ≤ 1048576) (hg : ∀ y ∈ fs, y.f1.length ≤ 1048576) (a : Int) (ha : a ≤ 9223372036854775807) (k : Nat) (hk : 8000100 < k) :
  spec_NthRepair.f k l fs a = some (nthV l fs a) ∧ impl_NthRepair.f k l fs a = some (nthV l fs a) := by
 unfold spec_NthRepair.f impl_NthRepair.f nthV
 rw [countS l hl fs hf hg k hk, countI l hl fs hf hg k hk, Option.bind_some, Option.bind_some, in1, inI, Option.bind_some, Option.bind_some]
 unfold inB
 by_cases h : 0 ≤ a ∧ a ≤ wrap64 (cntR l fs - 1)
 ·rw [decide_eq_true h, if_pos rfl, if_pos rfl, if_pos h]
  have hv : vDb l fs = true := by
   cases e : vDb l fs with
   | true => rfl
   | false =>
    have : cntR l fs = 0 := by unfold cntR; rw [e]; rfl
    rw [this, w64 (by omega) (by omega)] at h
    omega
  obtain ⟨q1, q2, q3, q4⟩ := vDb_parts l fs hv
  have hn := bls_len l fs fs.length fs.length
  have hne : ∀ b ∈ bls l fs fs.length fs.length, 0 < b.length := fun b hb => (bls_ne l fs b hb).1
  rw [blsS l hl fs hf hg k hk, if_pos hv, blsI l fs hv k (by omega), Option.bind_some, Option.bind_some]
  have hpw := bls_pw l fs hv
  generalize bls l fs fs.length fs.length = B at hn hne hpw ⊢
  have e1 : wrap64 ((B.length : Int) - 1) = (B.length : Int) - 1 := w64 (by omega) (by omega)
  have h1 := nthSl B (by omega) hne B.length a [] (Nat.le_refl _) (by simp; omega) h.1 ha k (by omega)
  have h2 := nthIl B (by omega) hne B.length a (List.replicate B.length 0) (Nat.le_refl _) (by simp) h.1 ha k (by omega)
  rw [List.take_length, List.nil_append] at h1
  rw [List.take_length, List.drop_of_length_le (by simp), List.append_nil] at h2
  have hp2 : (nr B.reverse a).Pairwise (fun x y => y < x) := by
   refine nr_pw B.reverse a (fun b hb => hne b (List.mem_reverse.1 hb)) h.1 ha ?_
   rw [List.pairwise_reverse]
   exact hpw.imp (fun hbc y hy x hx => hbc x hx y hy)
  have hs : srt (nr B.reverse a) = (nr B.reverse a).reverse := by
   refine srt_eq _ _ ?_ ?_ (fun x => by simp)
   ·exact hp2.imp (fun hxy => by omega)
   ·rw [List.pairwise_reverse]
    exact hp2
  refine ⟨?_, ?_⟩
  ·rw [e1, h1, hs]
  ·unfold impl_nthRepair.f
   rw [if_pos (by omega), Int.toNat_natCast, if_pos (by omega), e1, h2]
   rfl
 ·rw [decide_eq_false h, if_neg h, if_neg Bool.false_ne_true, if_neg Bool.false_ne_true]
  exact ⟨rfl, rfl⟩
theorem asc_of (xs : List Int) (n : Int) (h : ∀ j, j < xs.length → (0 ≤ xs.getD j 0 ∧ xs.getD j 0 ≤ n - 1) ∧ (j = 0 ∨ xs.getD (j - 1) 0 < xs.getD j 0)) : asc xs n = true := by
 have hA : ∀ (d i : Nat), i + d = xs.length → ascFrom xs n d i = true := by
  intro d
  induction d with
  | zero => intro i _; rfl
  | succ d ih =>
   intro i hd
   rw [ascFrom, ih (i + 1) (by omega), Bool.and_true, Bool.and_eq_true, Bool.or_eq_true, decide_eq_true_iff, decide_eq_true_iff, decide_eq_true_iff]
   exact h i (by omega)
 exact hA xs.length 0 (by omega)
theorem okFrom_of (l : List S70) (fs : List S35) (h : ∀ j, j < fs.length → fits l (fs.getD j z35).f0 (fs.getD j z35).f1 = true ∧ (j = 0 ∨ cmpF (fs.getD (j - 1) z35).f0 (fs.getD (j - 1) z35).f1 (fs.getD j z35).f0 (fs.getD j z35).f1 < 0)) : okFrom l fs fs.length 0 = true := by
 have hA : ∀ (d i : Nat), i + d = fs.length → okFrom l fs d i = true := by
  intro d
  induction d with
  | zero => intro i _; rfl
  | succ d ih =>
   intro i hd
   rw [okFrom, ih (i + 1) (by omega), Bool.and_true, Bool.and_eq_true, Bool.or_eq_true, decide_eq_true_iff, decide_eq_true_iff]
   exact h i (by omega)
 exact hA fs.length 0 (by omega)
theorem sel_vDb (l : List S70) (fs : List S35) (hv : vDb l fs = true) (xs : List Int) (hx : xs.length ≤ 14) (ha : asc xs fs.length = true) : vDb l (sel fs xs) = true := by
 obtain ⟨q1, q2, q3, q4⟩ := vDb_parts l fs hv
 unfold vDb
 rw [q1, sel_len, decide_eq_true hx]
 have : okFrom l (sel fs xs) (sel fs xs).length 0 = true := by
  refine okFrom_of l _ fun j hj => ?_
  rw [sel_len] at hj
  rw [sel_at fs xs j hj]
  refine ⟨q3 _ (at_lt fs xs ha j hj).1, ?_⟩
  rcases Nat.eq_zero_or_pos j with c | c
  ·exact .inl c
  ·right
   rw [sel_at fs xs (j - 1) (by omega)]
   have h1 := at_mono fs xs ha (j - 1) (by omega)
   have h2 := (at_lt fs xs ha j hj).1
   rw [show j - 1 + 1 = j by omega] at h1
   have := vDb_lt l fs hv (at_ xs (j - 1)) (at_ xs j - at_ xs (j - 1) - 1) (by omega)
   rw [show at_ xs (j - 1) + (at_ xs j - at_ xs (j - 1) - 1) + 1 = at_ xs j by omega] at this
   exact this
 rw [sel_len] at this
 rw [this]
 rfl
theorem part_of (l : List S70) (fs : List S35) (hv : vDb l fs = true) (xs : List Int) (hx : xs.length ≤ 14) (ha : asc xs fs.length = true) (hap : ∀ i j, i < j → j < xs.length → skN l fs (at_ xs i) (at_ xs j) = false) : partR l fs xs = true := by
 have hs := sel_vDb l fs hv xs hx ha
 unfold partR
 rw [hv, ha, hs, Bool.true_and, Bool.true_and, Bool.true_and, beq_iff_eq]
 unfold bls heads
 rw [List.length_map]
 have : (List.range (sel fs xs).length).filter (isHd l (sel fs xs)) = List.range (sel fs xs).length := by
  rw [List.filter_eq_self]
  intro j hj
  rw [List.mem_range, sel_len] at hj
  rw [isHd_iff]
  intro i hi
  have h1 := hap i j hi hj
  cases hq : skN l (sel fs xs) j i with
  | false => rfl
  | true =>
   have := sk_symm l (sel fs xs) hq
   unfold skN at this h1
   rw [sel_at fs xs i (by omega), sel_at fs xs j hj, h1] at this
   cases this
 rw [this, List.length_range]
theorem pick_rep (l : List S70) (fs : List S35) (hv : vDb l fs = true) (xs : List Int) (hl : xs.length = (bls l fs fs.length fs.length).length) (hin : ∀ i, i < xs.length → xs.getD i 0 ∈ (bls l fs fs.length fs.length).getD i []) : repR l fs xs = true := by
 obtain ⟨q1, q2, q3, q4⟩ := vDb_parts l fs hv
 have hn := bls_len l fs fs.length fs.length
 have hpw := List.pairwise_iff_getElem.1 (bls_pw l fs hv)
 have hlt : ∀ i j, i < j → j < xs.length → ∀ x ∈ (bls l fs fs.length fs.length).getD i [], ∀ y ∈ (bls l fs fs.length fs.length).getD j [], x < y := by
  intro i j hij hj x hx y hy
  rw [getD_lt _ [] i (by omega)] at hx
  rw [getD_lt _ [] j (by omega)] at hy
  exact hpw i j (by omega) (by omega) hij x hx y hy
 have hb : ∀ i, i < xs.length → ∃ g, (bls l fs fs.length fs.length).getD i [] = blk l fs g fs.length := by
  intro i hi
  have := getD_mem (bls l fs fs.length fs.length) [] i (by omega)
  obtain ⟨g, _, e⟩ := List.mem_map.1 this
  exact ⟨g, e.symm⟩
 have hat : ∀ i, i < xs.length → ∃ g, (bls l fs fs.length fs.length).getD i [] = blk l fs g fs.length ∧ 0 ≤ xs.getD i 0 ∧ xs.getD i 0 < (fs.length : Int) ∧ skN l fs g (at_ xs i) = true := by
  intro i hi
  obtain ⟨g, e⟩ := hb i hi
  have h1 := hin i hi
  rw [e] at h1
  obtain ⟨y, ey, hy, hs⟩ := mem_blk l fs g fs.length _ h1
  refine ⟨g, e, by omega, by omega, ?_⟩
  unfold at_
  rw [ey, Int.toNat_natCast]
  exact hs
 have ha : asc xs fs.length = true := by
  refine asc_of xs _ fun j hj => ?_
  obtain ⟨g, e, h1, h2, h3⟩ := hat j hj
  refine ⟨⟨h1, by omega⟩, ?_⟩
  rcases Nat.eq_zero_or_pos j with c | c
  ·exact .inl c
  ·exact .inr (hlt (j - 1) j (by omega) hj _ (hin _ (by omega)) _ (hin _ hj))
 unfold repR
 rw [part_of l fs hv xs (by omega) ha, Bool.true_and, beq_iff_eq, hl]
 intro i j hij hj
 cases hq : skN l fs (at_ xs i) (at_ xs j) with
 | false => rfl
 | true =>
  obtain ⟨g, e, h1, h2, h3⟩ := hat i (by omega)
  obtain ⟨_, _, h4, h5, _⟩ := hat j hj
  have := blk_mem l fs g (at_ xs j) fs.length (by unfold at_; omega) (sk_trans l fs h3 hq)
  rw [← e] at this
  have h6 := hlt i j hij hj _ this _ (hin j hj)
  unfold at_ at h6
  omega
def prodN : List (List Int) → Nat
 | [] => 1
 | b :: bs => b.length * prodN bs
theorem prodN_pos : ∀ (bs : List (List Int)), (∀ b ∈ bs, 0 < b.length) → 1 ≤ prodN bs
 | [], _ => Nat.le_refl _
 | b :: bs, h => by
  have h1 := h b List.mem_cons_self
  have h2 := prodN_pos bs fun c hc => h c (List.mem_cons_of_mem _ hc)
  rw [prodN]
  exact Nat.mul_le_mul h1 h2
theorem prodN_le : ∀ (bs : List (List Int)), prodN bs ≤ 2 ^ bs.flatten.length
 | [] => Nat.le_refl _
 | b :: bs => by
  rw [prodN, List.flatten_cons, List.length_append, Nat.pow_add]
  exact Nat.mul_le_mul (Nat.le_of_lt Nat.lt_two_pow_self) (prodN_le bs)
theorem prodB_eq : ∀ (bs : List (List Int)) (n : Nat), (∀ b ∈ bs, 0 < b.length) → n * prodN bs ≤ 1000000 → prodB (n : Int) bs = ((n * prodN bs : Nat) : Int)
 | [], n, _, _ => by rw [prodB, prodN, Nat.mul_one]
 | b :: bs, n, h, hn => by
  have h2 := prodN_pos bs fun c hc => h c (List.mem_cons_of_mem _ hc)
  rw [prodN, ← Nat.mul_assoc] at hn ⊢
  have h3 : n * b.length ≤ n * b.length * prodN bs := Nat.le_mul_of_pos_right _ h2
  rw [prodB, show wrap64 ((n : Int) * (b.length : Int)) = ((n * b.length : Nat) : Int) by rw [w64 (by rw [← Int.natCast_mul]; omega) (by rw [← Int.natCast_mul]; omega), Int.natCast_mul]]
  exact prodB_eq bs (n * b.length) (fun c hc => h c (List.mem_cons_of_mem _ hc)) hn
def kr : List (List Int) → Int → Int
 | [], K => K
 | b :: bs, K => kr bs (wrap64 (Int.tdiv K b.length))
def kd : List (List Int) → Int → Int
 | [], K => K
 | b :: bs, K => kd bs K / (b.length : Int)
def dg : List (List Int) → Int → List Int
 | [], _ => []
 | b :: bs, K => rd b (kd bs K % (b.length : Int)) :: dg bs K
theorem kd_bd : ∀ (bs : List (List Int)) (K : Int), 0 ≤ K → 0 ≤ kd bs K ∧ kd bs K ≤ K
 | [], K, h => ⟨h, Int.le_refl _⟩
 | b :: bs, K, h => by
  obtain ⟨h1, h2⟩ := kd_bd bs K h
  rw [kd]
  exact ⟨Int.ediv_nonneg h1 (Int.natCast_nonneg _), Int.le_trans (Int.ediv_le_self _ h1) h2⟩
theorem kr_snoc : ∀ (xs : List (List Int)) (b : List Int) (K : Int), kr (xs ++ [b]) K = wrap64 (Int.tdiv (kr xs K) b.length)
 | [], b, K => rfl
 | x :: xs, b, K => by rw [List.cons_append, kr, kr_snoc xs b, kr]
theorem nr_snoc : ∀ (xs : List (List Int)) (b : List Int) (K : Int), nr (xs ++ [b]) K = nr xs K ++ [rd b (Int.tmod (kr xs K) b.length)]
 | [], b, K => rfl
 | x :: xs, b, K => by rw [List.cons_append, nr, nr_snoc xs b, nr, kr, List.cons_append]
theorem kr_kd : ∀ (bs : List (List Int)) (K : Int), 0 ≤ K → K ≤ 1000000 → kr bs.reverse K = kd bs K
 | [], K, _, _ => rfl
 | b :: bs, K, h, h1 => by
  obtain ⟨a, c⟩ := kd_bd bs K h
  obtain ⟨a2, c2⟩ := kd_bd (b :: bs) K h
  rw [kd] at a2 c2
  rw [List.reverse_cons, kr_snoc, kr_kd bs K h h1, kd, td a, w64 (by omega) (by omega)]
theorem nr_dg : ∀ (bs : List (List Int)) (K : Int), 0 ≤ K → K ≤ 1000000 → (nr bs.reverse K).reverse = dg bs K
 | [], K, _, _ => rfl
 | b :: bs, K, h, h1 => by
  obtain ⟨a, c⟩ := kd_bd bs K h
  rw [List.reverse_cons, nr_snoc, List.reverse_append, nr_dg bs K h h1, kr_kd bs K h h1, dg, tm a]
  rfl
theorem kd_lt : ∀ (bs : List (List Int)) (K : Int) (n : Nat), (∀ b ∈ bs, 0 < b.length) → K < ((n * prodN bs : Nat) : Int) → kd bs K < n
 | [], K, n, _, h => by rw [prodN, Nat.mul_one] at h; exact h
 | b :: bs, K, n, hb, h => by
  have h1 := hb b List.mem_cons_self
  rw [prodN, ← Nat.mul_assoc] at h
  have := kd_lt bs K (n * b.length) (fun c hc => hb c (List.mem_cons_of_mem _ hc)) h
  rw [kd]
  refine Int.ediv_lt_of_lt_mul (by omega) ?_
  rw [Int.natCast_mul] at this
  exact this
theorem dg_len : ∀ (bs : List (List Int)) (K : Int), (dg bs K).length = bs.length
 | [], _ => rfl
 | b :: bs, K => by rw [dg, List.length_cons, List.length_cons, dg_len bs]
theorem dg_get : ∀ (bs : List (List Int)) (K : Int) (i : Nat), i < bs.length → (dg bs K).getD i 0 = rd (bs.getD i []) (kd (bs.drop (i + 1)) K % ((bs.getD i []).length : Int))
 | [], _, i, h => absurd h (Nat.not_lt_zero _)
 | b :: bs, K, 0, _ => rfl
 | b :: bs, K, i + 1, h => by
  rw [dg, List.getD_cons_succ, List.getD_cons_succ, List.drop_succ_cons]
  exact dg_get bs K i (by simpa using h)
theorem dg_mem (bs : List (List Int)) (K : Int) (h0 : 0 ≤ K) (hb : ∀ b ∈ bs, 0 < b.length) (i : Nat) (h : i < bs.length) : (dg bs K).getD i 0 ∈ bs.getD i [] := by
 rw [dg_get bs K i h]
 have h1 := hb _ (getD_mem bs [] i h)
 have h2 := Int.emod_nonneg (kd (bs.drop (i + 1)) K) (show ((bs.getD i []).length : Int) ≠ 0 by omega)
 have h3 := Int.emod_lt_of_pos (kd (bs.drop (i + 1)) K) (show 0 < ((bs.getD i []).length : Int) by omega)
 unfold rd
 exact getD_mem _ 0 _ (by omega)
theorem rkVal (B : List (List Int)) (hB : B.length ≤ 14) (hbl : ∀ b ∈ B, 0 < b.length ∧ b.length ≤ 14 ∧ b.Nodup) (K : Int) (h0 : 0 ≤ K) (h1 : K ≤ 1000000) (d : Nat) : ∀ (i : Nat), i + d = B.length → ∀ k, d + 20 < k → impl_RepairRank.l0 k (dg B K) (kd (B.drop i) K) B B.length i = some (K, true) := by
 have hn := dg_len B K
 induction d with
 | zero =>
  intro i hd k hk
  obtain ⟨k, rfl⟩ : ∃ z, k = z + 1 := ⟨k - 1, by omega⟩
  rw [impl_RepairRank.l0, if_neg (by omega), List.drop_of_length_le (by omega), kd]
 | succ d ih =>
  intro i hd k hk
  obtain ⟨k, rfl⟩ : ∃ z, k = z + 1 := ⟨k - 1, by omega⟩
  have hm := getD_mem B [] i (by omega)
  have hg := dg_get B K i (by omega)
  have hdr : B.drop i = B.getD i [] :: B.drop (i + 1) := by rw [List.drop_eq_getElem_cons (by omega), getD_lt B [] i (by omega)]
  have hrl : rd_L4 B (i : Int) = B.getD i [] := by unfold rd_L4; rw [Int.toNat_natCast]
  have hr := ih (i + 1) (by omega) k (by omega)
  obtain ⟨q1, q2⟩ := kd_bd (B.drop (i + 1)) K h0
  obtain ⟨b1, b2, b3⟩ := hbl _ hm
  generalize B.getD i [] = b at hm hg hdr hrl b1 b2 b3
  have e2 := Int.emod_nonneg (kd (B.drop (i + 1)) K) (show (b.length : Int) ≠ 0 by omega)
  have e3 := Int.emod_lt_of_pos (kd (B.drop (i + 1)) K) (show 0 < (b.length : Int) by omega)
  have e4 := Int.mul_ediv_add_emod (kd (B.drop (i + 1)) K) (b.length : Int)
  have e5 : 0 ≤ (b.length : Int) * (kd (B.drop (i + 1)) K / (b.length : Int)) := Int.mul_nonneg (Int.natCast_nonneg _) (Int.ediv_nonneg q1 (Int.natCast_nonneg _))
  generalize hp : kd (B.drop (i + 1)) K % (b.length : Int) = p at hg e2 e3 e4
  have hone : ∀ q, q < b.length → (b.getD q 0 = (dg B K).getD i 0 ↔ q = p.toNat) := fun q hq => by
   rw [hg]
   unfold rd
   rw [getD_lt b 0 q hq, getD_lt b 0 p.toNat (by omega)]
   have hpw := List.pairwise_iff_getElem.1 b3
   constructor
   ·intro e
    rcases Nat.lt_trichotomy q p.toNat with c | c | c
    ·exact absurd e (hpw q p.toNat hq (by omega) c)
    ·exact c
    ·exact absurd e.symm (hpw p.toNat q (by omega) hq c)
   ·intro e
    subst e
    rfl
  have hix := ixl b ((dg B K).getD i 0) (by omega) p.toNat (by omega) hone p.toNat 0 (by omega) k (by omega)
  rw [impl_RepairRank.l0, if_pos (by omega), if_pos (by omega), if_pos (by omega), if_pos (by omega), hrl, rdD]
  unfold slices_Index_int_int.f
  rw [show slices_Index_int_int.l0 k b ((dg B K).getD i 0) (b.length : Int) 0 = some ((p.toNat : Nat) : Int) from hix, Option.bind_some, show wrap64 ((i : Int) + 1) = ((i + 1 : Nat) : Int) by rw [w64 (by omega) (by omega)]; omega, hdr, kd]
  rw [Int.mul_comm] at e4 e5
  rw [w64 (n := kd (B.drop (i + 1)) K / (b.length : Int) * (b.length : Int)) (by omega) (by omega), show ((p.toNat : Nat) : Int) = p by omega, e4, w64 (by omega) (by omega)]
  exact hr
def factIs (b : Int) (lb : List Int) (x : S35) : Bool := cmpF x.f0 x.f1 b lb == 0
theorem fidxSl (l : List S70) (fs : List S35) (hf : fs.length ≤ 1048576) (hg : ∀ y ∈ fs, y.f1.length ≤ 1048576) (a : Int) (vs : List Int) (hv : vs.length ≤ 1048576) (d : Nat) : ∀ (i : Nat), i + d = fs.length → ∀ k, d + 2097160 < k → spec_FactIndex.l0 k i l fs a vs = some (idxW (factIs a vs) (fs.drop i) i) := by
 induction d with
 | zero =>
  intro i hd k hk
  obtain ⟨k, rfl, hk⟩ := fuel hk
  rw [spec_FactIndex.l0, if_neg (by omega), List.drop_of_length_le (by omega)]
  rfl
 | succ d ih =>
  intro i hd k hk
  obtain ⟨k, rfl, hk⟩ := fuel hk
  have hy := hg _ (getD_mem fs z35 i (by omega))
  have e1 : wrap64 ((i : Int) + 1) = ((i + 1 : Nat) : Int) := by rw [w64 (by omega) (by omega)]; omega
  rw [spec_FactIndex.l0, if_pos (by omega), if_pos (by omega), e1]
  unfold rd_T35
  rw [Int.toNat_natCast, cmpFS _ _ _ _ hy hv k (by omega), Option.bind_some, List.drop_eq_getElem_cons (by omega), idxW, getD_lt fs _ i (by omega)]
  unfold factIs
  by_cases h : cmpF fs[i].f0 fs[i].f1 a vs = 0
  ·rw [if_pos h, if_pos (by simpa using h)]
  ·rw [if_neg h, if_neg (by simpa using h), ih (i + 1) (by omega) k (by omega)]
   unfold factIs
   rfl
theorem fidxS (l : List S70) (fs : List S35) (hf : fs.length ≤ 1048576) (hg : ∀ y ∈ fs, y.f1.length ≤ 1048576) (a : Int) (vs : List Int) (hv : vs.length ≤ 1048576) (k : Nat) (hk : 4000000 < k) : spec_FactIndex.f k l fs a vs = some (idxW (factIs a vs) fs 0) := by
 unfold spec_FactIndex.f
 exact fidxSl l fs hf hg a vs hv fs.length 0 (by omega) k (by omega)
theorem hasS (l : List S70) (hl : l.length ≤ 1048576) (fs : List S35) (hf : fs.length ≤ 1048576) (hg : ∀ y ∈ fs, y.f1.length ≤ 1048576) (a : Int) (vs : List Int) (hv : vs.length ≤ 1048576) (k : Nat) (hk : 8000000 < k) : spec_ContainsFact.f k l fs a vs = some (vDb l fs && decide (idxW (factIs a vs) fs 0 ≥ 0)) := by
 unfold spec_ContainsFact.f
 rw [vDS l hl fs hf hg k (by omega), Option.bind_some]
 by_cases h : vDb l fs = true
 ·rw [if_pos h, fidxS l fs hf hg a vs hv k (by omega), Option.bind_some, h, Bool.true_and]
 ·rw [if_neg h, Bool.eq_false_iff.2 h, Bool.false_and]
def insAt (fs : List S35) (a : Int) (vs : List Int) : Nat → Nat → Nat
 | 0, i => i
 | d + 1, i => if cmpF (fs.getD i z35).f0 (fs.getD i z35).f1 a vs < 0 then insAt fs a vs d (i + 1) else i
theorem insAt_le (fs : List S35) (a : Int) (vs : List Int) : ∀ (d i : Nat), i ≤ insAt fs a vs d i ∧ insAt fs a vs d i ≤ i + d
 | 0, i => ⟨Nat.le_refl _, Nat.le_refl _⟩
 | d + 1, i => by
  rw [insAt]
  have := insAt_le fs a vs d (i + 1)
  split <;> omega
def insF (fs : List S35) (a : Int) (vs : List Int) : List S35 := fs.take (insAt fs a vs fs.length 0) ++ ⟨a, vs⟩ :: fs.drop (insAt fs a vs fs.length 0)
def mayIns (l : List S70) (fs : List S35) (a : Int) (vs : List Int) : Bool := vDb l fs && fits l a vs && decide (idxW (factIs a vs) fs 0 < 0) && decide (fs.length ≠ 14)
theorem insF_len (fs : List S35) (a : Int) (vs : List Int) : (insF fs a vs).length = fs.length + 1 := by
 have := insAt_le fs a vs fs.length 0
 unfold insF
 simp only [List.length_append, List.length_take, List.length_drop, List.length_cons]
 omega
theorem insF_mem (fs : List S35) (a : Int) (vs : List Int) (y : S35) : y ∈ insF fs a vs ↔ y ∈ fs ∨ y = ⟨a, vs⟩ := by
 unfold insF
 rw [List.mem_append, List.mem_cons]
 constructor
 ·rintro (h | h | h)
  ·exact .inl (List.mem_of_mem_take h)
  ·exact .inr h
  ·exact .inl (List.mem_of_mem_drop h)
 ·rintro (h | h)
  ·rw [← List.take_append_drop (insAt fs a vs fs.length 0) fs, List.mem_append] at h
   rcases h with h | h
   ·exact .inl h
   ·exact .inr (.inr h)
  ·exact .inr (.inl h)
theorem copySl (l l2 : List S70) (fs : List S35) (hf : fs.length ≤ 1048576) (hg : ∀ y ∈ fs, y.f1.length ≤ 1048576) (d : Nat) : ∀ (i : Nat), i + d = fs.length → ∀ k, d < k → spec_l4Copy.l0 k i l fs l2 (fs.take i) = some (l2, fs) := by
 induction d with
 | zero =>
  intro i hd k hk
  obtain ⟨k, rfl, hk⟩ := fuel hk
  rw [spec_l4Copy.l0, if_neg (by omega), List.take_of_length_le (by omega)]
 | succ d ih =>
  intro i hd k hk
  obtain ⟨k, rfl, hk⟩ := fuel hk
  have hy := hg _ (getD_mem fs z35 i (by omega))
  rw [spec_l4Copy.l0, if_pos (by omega), if_pos (by omega), Option.bind_some]
  unfold rd_T35
  rw [Int.toNat_natCast, if_pos (by simp only [List.length_nil]; omega), if_pos (by rw [List.length_take]; omega), List.nil_append, show wrap64 ((i : Int) + 1) = ((i + 1 : Nat) : Int) by rw [w64 (by omega) (by omega)]; omega]
  rw [show fs.take i ++ [(⟨(fs.getD i z35).f0, (fs.getD i z35).f1⟩ : S35)] = fs.take (i + 1) by rw [List.take_succ_eq_append_getElem (by omega), getD_lt fs _ i (by omega)]]
  exact ih (i + 1) (by omega) k (by omega)
theorem copyS (l : List S70) (hl : l.length ≤ 1048576) (fs : List S35) (hf : fs.length ≤ 1048576) (hg : ∀ y ∈ fs, y.f1.length ≤ 1048576) (k : Nat) (hk : fs.length < k) : spec_l4Copy.f k l fs = some (l, fs) := by
 unfold spec_l4Copy.f
 rw [Option.bind_some, if_pos (by simp only [List.length_nil]; omega), List.nil_append]
 exact copySl l l fs hf hg fs.length 0 (by omega) k hk
theorem insSl (l : List S70) (fs : List S35) (hf : fs.length ≤ 1048576) (hg : ∀ y ∈ fs, y.f1.length ≤ 1048576) (a : Int) (vs : List Int) (hv : vs.length ≤ 1048576) (d : Nat) : ∀ (i : Nat), i + d = fs.length → ∀ k, d + 2097160 < k → spec_InsertFact.l0 k i a vs l fs = some (l, fs.take (insAt fs a vs d i) ++ ⟨a, vs⟩ :: fs.drop (insAt fs a vs d i), true) := by
 induction d with
 | zero =>
  intro i hd k hk
  obtain ⟨k, rfl, hk⟩ := fuel hk
  rw [spec_InsertFact.l0, if_neg (by omega), insAt]
  simp only [Option.bind_some]
  rw [if_pos (by simp only [List.length_nil]; omega), if_pos (by omega), if_pos (by omega), if_pos (by simp only [List.length_cons, List.length_nil, List.length_drop]; omega), if_pos (by simp only [List.length_nil, List.length_take]; omega), if_pos (by simp only [List.nil_append, List.length_append, List.length_cons, List.length_nil, List.length_drop, List.length_take]; omega)]
  simp
 | succ d ih =>
  intro i hd k hk
  obtain ⟨k, rfl, hk⟩ := fuel hk
  have hy := hg _ (getD_mem fs z35 i (by omega))
  have e1 : wrap64 ((i : Int) + 1) = ((i + 1 : Nat) : Int) := by rw [w64 (by omega) (by omega)]; omega
  rw [spec_InsertFact.l0, if_pos (by omega), if_pos (by omega), e1]
  unfold rd_T35
  rw [Int.toNat_natCast, cmpFS _ _ _ _ hy hv k (by omega), Option.bind_some, insAt]
  by_cases c : cmpF (fs.getD i z35).f0 (fs.getD i z35).f1 a vs < 0
  ·rw [if_pos c, if_pos c]
   exact ih (i + 1) (by omega) k (by omega)
  ·rw [if_neg c, if_neg c]
   simp only [Option.bind_some]
   rw [if_pos (by simp only [List.length_nil]; omega), if_pos (by omega), if_pos (by simp only [List.length_cons, List.length_nil, List.length_drop]; omega), if_pos (by simp only [List.length_nil, List.length_take]; omega), if_pos (by simp only [List.nil_append, List.length_append, List.length_cons, List.length_nil, List.length_drop, List.length_take]; omega)]
   simp
theorem insS (l : List S70) (hl : l.length ≤ 1048576) (fs : List S35) (hf : fs.length ≤ 1048576) (hg : ∀ y ∈ fs, y.f1.length ≤ 1048576) (a : Int) (vs : List Int) (hv : vs.length ≤ 1048576) (k : Nat) (hk : 8000001 < k) :
  spec_InsertFact.f k l fs a vs = some (if mayIns l fs a vs = true then (l, insF fs a vs, true) else (l, fs, false)) := by
 obtain ⟨k, rfl⟩ : ∃ z, k = z + 1 := ⟨k - 1, by omega⟩
 unfold spec_InsertFact.f mayIns
 rw [copyS l hl fs hf hg _ (by omega), Option.bind_some, vDS l hl fs hf hg _ (by omega), Option.bind_some]
 by_cases h0 : vDb l fs = true
 ·obtain ⟨q1, q2, q3, q4⟩ := vDb_parts l fs h0
  rw [if_pos h0, vFS l hl a vs hv _ (by omega), Option.bind_some]
  unfold vFact
  rw [q1, Bool.true_and, h0, Bool.true_and]
  by_cases h1 : fits l a vs = true
  ·rw [if_pos h1, hasS l hl fs hf hg a vs hv _ (by omega), Option.bind_some, h0, h1]
   by_cases h2 : idxW (factIs a vs) fs 0 ≥ 0
   ·rw [if_pos (by simpa using h2), spec_InsertFact.j0, if_pos rfl, decide_eq_false (show ¬ idxW (factIs a vs) fs 0 < 0 by omega)]
    simp
   ·rw [if_neg (by simpa using h2), decide_eq_true (show idxW (factIs a vs) fs 0 < 0 by omega), spec_InsertFact.j0]
    by_cases h3 : fs.length = 14
    ·rw [if_pos (by rw [h3]; rfl), decide_eq_false (by omega)]
     simp
    ·rw [if_neg (by rw [beq_iff_eq]; omega), decide_eq_true h3, if_pos (by simp)]
     have := insSl l fs hf hg a vs hv fs.length 0 (by omega) k (by omega)
     exact this
  ·rw [if_neg h1, spec_InsertFact.j0, if_pos rfl, Bool.eq_false_iff.2 h1]
   simp
 ·rw [if_neg h0, spec_InsertFact.j0, if_pos rfl, Bool.eq_false_iff.2 h0]
  simp
theorem and255 (x : Int) : 0 ≤ Go.bits .and .i64 x 255 ∧ Go.bits .and .i64 x 255 ≤ 255 := by
 unfold Go.bits
 have h : (BitVec.ofInt IntKind.i64.bits x &&& BitVec.ofInt IntKind.i64.bits 255).toNat ≤ 255 := by
  rw [BitVec.toNat_and]
  exact Nat.le_trans Nat.and_le_right (by decide)
 simp only [IntKind.wrap_i64]
 omega
theorem l1ByteT (s : List Int) (hs : s.length ≤ 1048576) (i h : Int) (hi : 0 ≤ i) : ∃ x i' h', spec_l1Byte.f s i h = some (x, i', h') ∧ 0 ≤ x ∧ x ≤ 255 ∧ 0 ≤ i' := by
 unfold spec_l1Byte.f
 by_cases c : i < (s.length : Int)
 ·rw [if_pos c, if_pos hi]
  refine ⟨_, _, _, rfl, (and255 _).1, (and255 _).2, ?_⟩
  rw [w64 (by omega) (by omega)]
  omega
 ·rw [if_neg c]
  exact ⟨_, _, _, rfl, (and255 _).1, (and255 _).2, hi⟩
theorem l1BelowT (s : List Int) (hs : s.length ≤ 1048576) (i h n : Int) (hi : 0 ≤ i) : ∃ x i' h', spec_l1Below.f s i h n = some (x, i', h') ∧ 0 ≤ x ∧ (0 < n → x < n) ∧ (n ≤ 0 → x = 0) ∧ 0 ≤ i' := by
 unfold spec_l1Below.f
 by_cases c : n ≤ 0
 ·rw [if_pos c]
  exact ⟨_, _, _, rfl, by omega, by omega, fun _ => rfl, hi⟩
 ·rw [if_neg c]
  by_cases c2 : n ≤ 256
  ·obtain ⟨x, i1, h1, e1, a1, b1, d1⟩ := l1ByteT s hs i h hi
   rw [if_pos c2, e1, Option.bind_some, if_neg (by omega)]
   refine ⟨_, _, _, rfl, ?_, ?_, by omega, d1⟩
   ·rw [tm a1]; exact Int.emod_nonneg _ (by omega)
   ·intro _; rw [tm a1]; exact Int.emod_lt_of_pos _ (by omega)
  ·obtain ⟨x1, i1, h1, e1, a1, b1, d1⟩ := l1ByteT s hs i h hi
   obtain ⟨x2, i2, h2, e2, a2, b2, d2⟩ := l1ByteT s hs i1 h1 d1
   obtain ⟨x3, i3, h3, e3, a3, b3, d3⟩ := l1ByteT s hs i2 h2 d2
   obtain ⟨x4, i4, h4, e4, a4, b4, d4⟩ := l1ByteT s hs i3 h3 d3
   rw [if_neg c2, e1, Option.bind_some, e2, Option.bind_some, e3, Option.bind_some, e4, Option.bind_some, if_neg (by omega)]
   rw [w64 (n := x1 * 16777216) (by omega) (by omega), w64 (n := x2 * 65536) (by omega) (by omega), w64 (n := x3 * 256) (by omega) (by omega), w64 (n := x1 * 16777216 + x2 * 65536) (by omega) (by omega), w64 (n := x1 * 16777216 + x2 * 65536 + x3 * 256) (by omega) (by omega), w64 (n := x1 * 16777216 + x2 * 65536 + x3 * 256 + x4) (by omega) (by omega)]
   refine ⟨_, _, _, rfl, ?_, ?_, by omega, d4⟩
   ·rw [tm (by omega)]; exact Int.emod_nonneg _ (by omega)
   ·intro _; rw [tm (by omega)]; exact Int.emod_lt_of_pos _ (by omega)
theorem l1PickT (s : List Int) (hs : s.length ≤ 1048576) (i h : Int) (hi : 0 ≤ i) (l : List ByteArray) (hl : 0 < l.length) : ∃ x i' h', spec_l1Pick.f s i h l = some (x, i', h') ∧ x ∈ l ∧ 0 ≤ i' := by
 obtain ⟨x, i1, h1, e1, a1, b1, _, d1⟩ := l1BelowT s hs i h (l.length : Int) hi
 have := b1 (by omega)
 unfold spec_l1Pick.f
 rw [e1, Option.bind_some, if_pos a1, if_pos this]
 refine ⟨_, _, _, rfl, ?_, d1⟩
 unfold rdOf
 exact getD_mem l _ _ (by omega)
theorem l1PickIntT (s : List Int) (hs : s.length ≤ 1048576) (i h : Int) (hi : 0 ≤ i) (l : List Int) (hl : 0 < l.length) : ∃ x i' h', spec_l1PickInt.f s i h l = some (x, i', h') ∧ x ∈ l ∧ 0 ≤ i' := by
 obtain ⟨x, i1, h1, e1, a1, b1, _, d1⟩ := l1BelowT s hs i h (l.length : Int) hi
 have := b1 (by omega)
 unfold spec_l1PickInt.f
 rw [e1, Option.bind_some, if_pos a1, if_pos this]
 refine ⟨_, _, _, rfl, ?_, d1⟩
 unfold rd
 exact getD_mem l _ _ (by omega)
theorem l1NewL (s : List Int) (hs : s.length ≤ 1048576) (d : Nat) : ∀ (i : Nat) (h : Int), i + d = s.length → ∀ k, d < k → ∃ h', spec_l1New.l0 k s h i = some (s, 0, h') := by
 induction d with
 | zero =>
  intro i h hd k hk
  obtain ⟨k, rfl, hk⟩ := fuel hk
  rw [spec_l1New.l0, if_neg (by omega)]
  exact ⟨_, rfl⟩
 | succ d ih =>
  intro i h hd k hk
  obtain ⟨k, rfl, hk⟩ := fuel hk
  rw [spec_l1New.l0, if_pos (by omega)]
  by_cases c : (i : Int) < 4000
  ·rw [if_pos c, if_pos (by omega), show wrap64 ((i : Int) + 1) = ((i + 1 : Nat) : Int) by rw [w64 (by omega) (by omega)]; omega]
   exact ih (i + 1) _ (by omega) k (by omega)
  ·rw [if_neg c]
   exact ⟨_, rfl⟩
theorem l1NewT (s : List Int) (hs : s.length ≤ 1048576) (k : Nat) (hk : s.length < k) : ∃ h', spec_l1New.f k s = some (s, 0, h') := by
 unfold spec_l1New.f
 exact l1NewL s hs s.length 0 _ (by omega) k hk
def sigs (l : List S70) : Prop := l.length = 4 ∧ ∀ y ∈ l, 1 ≤ y.f1 ∧ y.f1 ≤ 3 ∧ y.f0.size ≤ 2
theorem l2SigsT (s : List Int) (hs : s.length ≤ 1048576) (i h : Int) (hi : 0 ≤ i) : ∃ l i' h', spec_l2Sigs.f s i h = some (l, i', h') ∧ sigs l ∧ 0 ≤ i' := by
 obtain ⟨x, i1, h1, e1, a1, d1⟩ := l1PickIntT s hs i h hi [1, 1, 2, 0] (by simp)
 obtain ⟨y, i2, h2, e2, a2, b2, _, d2⟩ := l1BelowT s hs i1 h1 2 d1
 unfold spec_l2Sigs.f
 rw [e1, Option.bind_some, e2, Option.bind_some]
 refine ⟨_, _, _, rfl, ⟨rfl, ?_⟩, d2⟩
 intro y hy
 simp only [List.mem_cons, List.not_mem_nil, or_false] at hy
 rcases hy with rfl | rfl | rfl | rfl
 ·exact ⟨by decide, by decide, by decide⟩
 ·exact ⟨by decide, by decide, by decide⟩
 ·exact ⟨by simp, by simp, by simp; decide⟩
 ·exact ⟨by simp, by simp, by simp; decide⟩
theorem l3FactL (s : List Int) (hs : s.length ≤ 1048576) (l : List S70) (v x : Int) (hv : 0 < v) (hx0 : 0 ≤ x) (hx1 : x < (l.length : Int)) (ha : (rd_T70 l x).f1 ≤ 3) (d : Nat) : ∀ (vs : List Int) (i h : Int), 0 ≤ i → vs.length + d = 4 → ∀ k, d < k → (∀ z ∈ vs, 0 ≤ z ∧ z < v) → ∃ ws i' h', spec_l3Fact.l0 k l v s i h x vs = some (x, ws, i', h') ∧ ws.length ≤ 4 ∧ ((vs.length : Int) ≤ (rd_T70 l x).f1 → (ws.length : Int) = (rd_T70 l x).f1) ∧ (∀ z ∈ ws, 0 ≤ z ∧ z < v) ∧ 0 ≤ i' := by
 induction d with
 | zero =>
  intro vs i h hi hd k hk hz
  obtain ⟨k, rfl, hk⟩ := fuel hk
  rw [spec_l3Fact.l0, if_pos hx0, if_pos hx1, if_neg (by omega)]
  exact ⟨_, _, _, rfl, by omega, by omega, hz, hi⟩
 | succ d ih =>
  intro vs i h hi hd k hk hz
  obtain ⟨k, rfl, hk⟩ := fuel hk
  rw [spec_l3Fact.l0, if_pos hx0, if_pos hx1]
  by_cases c : (vs.length : Int) < (rd_T70 l x).f1
  ·obtain ⟨y, i1, h1, e1, a1, b1, _, d1⟩ := l1BelowT s hs i h v hi
   rw [if_pos c, e1, Option.bind_some, if_pos (by omega)]
   obtain ⟨ws, i2, h2, g1, g2, g3, g4, g5⟩ := ih (vs ++ [y]) i1 h1 d1 (by simp; omega) k (by omega) (by
    intro z hz'
    rcases List.mem_append.1 hz' with hz' | hz'
    ·exact hz z hz'
    ·rw [List.mem_singleton] at hz'
     rw [hz']
     exact ⟨a1, b1 hv⟩)
   exact ⟨ws, i2, h2, g1, g2, fun _ => g3 (by simp; omega), g4, g5⟩
  ·rw [if_neg c]
   exact ⟨_, _, _, rfl, by omega, by omega, hz, hi⟩
theorem l3FactT (s : List Int) (hs : s.length ≤ 1048576) (i h : Int) (hi : 0 ≤ i) (l : List S70) (hl : 0 < l.length) (hl2 : l.length ≤ 1048576) (hg : ∀ y ∈ l, 0 ≤ y.f1 ∧ y.f1 ≤ 3) (v : Int) (hv : 0 < v) (k : Nat) (hk : 4 < k) : ∃ x ws i' h', spec_l3Fact.f k s i h l v = some (x, ws, i', h') ∧ 0 ≤ x ∧ x < (l.length : Int) ∧ ws.length ≤ 4 ∧ (ws.length : Int) = (rd_T70 l x).f1 ∧ (∀ z ∈ ws, 0 ≤ z ∧ z < v) ∧ 0 ≤ i' := by
 obtain ⟨x, i1, h1, e1, a1, b1, _, d1⟩ := l1BelowT s hs i h (l.length : Int) hi
 have hx := b1 (by omega)
 unfold spec_l3Fact.f
 rw [e1, Option.bind_some]
 have hm : (rd_T70 l x) ∈ l := by unfold rd_T70; exact getD_mem l _ _ (by omega)
 obtain ⟨ws, i2, h2, g1, g2, g3, g4, g5⟩ := l3FactL s hs l v x hv a1 hx (hg _ hm).2 4 [] i1 h1 d1 rfl k hk (fun z hz => by cases hz)
 exact ⟨x, ws, i2, h2, g1, a1, hx, g2, g3 (by have := (hg _ hm).1; simpa using this), g4, g5⟩
theorem l3AnyT (s : List Int) (hs : s.length ≤ 1048576) (i h : Int) (hi : 0 ≤ i) (l : List S70) (hl : 0 < l.length) (hl2 : l.length ≤ 1048576) (hg : ∀ y ∈ l, 1 ≤ y.f1 ∧ y.f1 ≤ 3) (k : Nat) (hk : 4 < k) : ∃ x ws i' h', spec_l3Any.f k s i h l = some (x, ws, i', h') ∧ ws.length ≤ 5 ∧ -1 ≤ x ∧ x ≤ 1048576 ∧ (∀ z ∈ ws, -1 ≤ z ∧ z ≤ 10) ∧ 0 ≤ i' := by
 obtain ⟨x, ws, i1, h1, e1, x0, x1, g2, g3, g4, g5⟩ := l3FactT s hs i h hi l hl hl2 (fun y hy => ⟨by have := (hg y hy).1; omega, (hg y hy).2⟩) 4 (by decide) k hk
 obtain ⟨y, i2, h2, e2, a2, b2, _, d2⟩ := l1BelowT s hs i1 h1 10 g5
 have hm : (rd_T70 l x) ∈ l := by unfold rd_T70; exact getD_mem l _ _ (by omega)
 have hw := (hg _ hm).1
 have hz : ∀ z ∈ ws, -1 ≤ z ∧ z ≤ 10 := fun z hz => by have := g4 z hz; omega
 unfold spec_l3Any.f
 rw [e1, Option.bind_some]
 dsimp only
 rw [e2, Option.bind_some]
 dsimp only
 by_cases c0 : y = 0
 ·obtain ⟨z, i3, h3, e3, a3, b3, _, d3⟩ := l1BelowT s hs i2 h2 6 d2
  have := b3 (by decide)
  rw [if_pos c0, e3, Option.bind_some]
  refine ⟨_, _, _, _, rfl, by omega, ?_, ?_, hz, d3⟩
  ·rw [w64 (by omega) (by omega)]; omega
  ·rw [w64 (by omega) (by omega)]; omega
 rw [if_neg c0]
 by_cases c1 : y = 1
 ·rw [if_pos c1, if_pos (by omega)]
  refine ⟨_, _, _, _, rfl, by simp; omega, by omega, by omega, ?_, d2⟩
  intro z hz'
  rcases List.mem_append.1 hz' with hz' | hz'
  ·exact hz z hz'
  ·rw [List.mem_singleton] at hz'
   omega
 rw [if_neg c1]
 by_cases c2 : y = 2
 ·obtain ⟨z, i3, h3, e3, a3, d3⟩ := l1PickIntT s hs i2 h2 d2 [-1, 10, 9] (by simp)
  rw [if_pos c2, e3, Option.bind_some, if_pos (by omega)]
  refine ⟨_, _, _, _, rfl, by rw [List.length_set]; omega, by omega, by omega, ?_, d3⟩
  intro u hu
  rcases List.mem_or_eq_of_mem_set hu with hu | hu
  ·exact hz u hu
  ·rw [hu]
   simp only [List.mem_cons, List.not_mem_nil, or_false] at a3
   rcases a3 with rfl | rfl | rfl <;> omega
 ·rw [if_neg c2]
  exact ⟨_, _, _, _, rfl, by omega, by omega, by omega, hz, d2⟩
def sm (fs : List S35) (n : Nat) : Prop := fs.length ≤ n ∧ ∀ y ∈ fs, y.f1.length ≤ 5
theorem l4DbL (s : List Int) (hs : s.length ≤ 1048576) (l : List S70) (hl : sigs l) (v : Int) (hv : 0 < v) (d : Nat) : ∀ (fs : List S35) (i h : Int), 0 ≤ i → d ≤ 20 → sm fs (40 - d) → ∀ k, 8000100 + d < k → ∃ gs i' h', spec_l4Db.l0 k v d s i h l fs = some (l, gs, i', h') ∧ sm gs 40 ∧ 0 ≤ i' := by
 induction d with
 | zero =>
  intro fs i h hi hd hf k hk
  obtain ⟨k, rfl⟩ : ∃ z, k = z + 1 := ⟨k - 1, by omega⟩
  rw [spec_l4Db.l0, if_neg (by omega)]
  exact ⟨_, _, _, rfl, hf, hi⟩
 | succ d ih =>
  intro fs i h hi hd hf k hk
  obtain ⟨k, rfl⟩ : ∃ z, k = z + 1 := ⟨k - 1, by omega⟩
  have hl0 := hl.1
  obtain ⟨x, ws, i1, h1, e1, x0, x1, g2, g3, g4, g5⟩ := l3FactT s hs i h hi l (by omega) (by omega) (fun y hy => ⟨by have := (hl.2 y hy).1; omega, (hl.2 y hy).2.1⟩) v hv k (by omega)
  rw [spec_l4Db.l0, if_pos (by omega), e1, Option.bind_some]
  dsimp only
  rw [insS l (by omega) fs (by have := hf.1; omega) (fun y hy => by have := hf.2 y hy; omega) x ws (by omega) k (by omega), Option.bind_some, show wrap64 (((d + 1 : Nat) : Int) - 1) = (d : Int) by rw [w64 (by omega) (by omega)]; omega]
  by_cases c : mayIns l fs x ws = true
  ·rw [if_pos c]
   refine ih _ _ _ g5 (by omega) ⟨?_, fun y hy => ?_⟩ k (by omega)
   ·have := hf.1; rw [insF_len]; omega
   ·rcases (insF_mem fs x ws y).1 hy with h | h
    ·exact hf.2 y h
    ·rw [h]; show ws.length ≤ 5; omega
  ·rw [if_neg c]
   exact ih _ _ _ g5 (by omega) ⟨by have := hf.1; omega, hf.2⟩ k (by omega)
theorem l4DbT (s : List Int) (hs : s.length ≤ 1048576) (i h : Int) (hi : 0 ≤ i) (k : Nat) (hk : 8000200 < k) : ∃ l fs i' h', spec_l4Db.f k s i h = some (l, fs, i', h') ∧ sigs l ∧ (∀ y ∈ l, 1 ≤ y.f1 ∧ y.f1 ≤ 3) ∧ sm fs 40 ∧ 0 ≤ i' := by
 obtain ⟨l, i1, h1, e1, a1, d1⟩ := l2SigsT s hs i h hi
 obtain ⟨v, i2, h2, e2, a2, d2⟩ := l1PickIntT s hs i1 h1 d1 [2, 2, 3, 3] (by simp)
 obtain ⟨n, i3, h3, e3, a3, b3, _, d3⟩ := l1BelowT s hs i2 h2 11 d2
 have hn := b3 (by decide)
 have hv : 0 < v := by
  simp only [List.mem_cons, List.not_mem_nil, or_false] at a2
  rcases a2 with rfl | rfl | rfl | rfl <;> decide
 have hz : ∀ y ∈ l, 1 ≤ y.f1 ∧ y.f1 ≤ 3 := fun y hy => ⟨(a1.2 y hy).1, (a1.2 y hy).2.1⟩
 unfold spec_l4Db.f
 rw [e1, Option.bind_some]
 dsimp only
 rw [e2, Option.bind_some]
 dsimp only
 rw [e3, Option.bind_some]
 dsimp only
 have ew : wrap64 (2 + n) = (((2 + n).toNat : Nat) : Int) := by rw [w64 (by omega) (by omega)]; omega
 rw [ew]
 obtain ⟨gs, i4, h4, e4, a4, d4⟩ := l4DbL s hs l a1 v hv (2 + n).toNat [] i3 h3 d3 (by omega) ⟨Nat.zero_le _, fun y hy => by cases hy⟩ k (by omega)
 exact ⟨l, gs, i4, h4, e4, a1, hz, a4, d4⟩
theorem l2AnyT (s : List Int) (hs : s.length ≤ 1048576) (i h : Int) (hi : 0 ≤ i) : ∃ n a b i' h', spec_l2Any.f s i h = some (n, a, b, i', h') ∧ n.size ≤ 2 ∧ -1 ≤ a ∧ a ≤ 5 ∧ -1 ≤ b ∧ b ≤ 5 ∧ 0 ≤ i' := by
 obtain ⟨x, i1, h1, e1, a1, d1⟩ := l1PickT s hs i h hi [(⟨#[114]⟩ : ByteArray), (⟨#[122]⟩ : ByteArray), (⟨#[97]⟩ : ByteArray), (⟨#[]⟩ : ByteArray), (⟨#[82]⟩ : ByteArray), (⟨#[97, 98]⟩ : ByteArray)] (by simp)
 obtain ⟨y, i2, h2, e2, a2, b2, _, d2⟩ := l1BelowT s hs i1 h1 6 d1
 obtain ⟨z, i3, h3, e3, a3, b3, _, d3⟩ := l1BelowT s hs i2 h2 5 d2
 have := b2 (by decide)
 have := b3 (by decide)
 unfold spec_l2Any.f
 rw [e1, Option.bind_some]
 dsimp only
 rw [e2, Option.bind_some]
 dsimp only
 rw [e3, Option.bind_some]
 refine ⟨_, _, _, _, _, rfl, ?_, ?_, ?_, ?_, ?_, d3⟩
 ·simp only [List.mem_cons, List.not_mem_nil, or_false] at a1
  rcases a1 with rfl | rfl | rfl | rfl | rfl | rfl <;> decide
 all_goals (rw [w64 (by omega) (by omega)]; omega)
theorem l4AnyT (s : List Int) (hs : s.length ≤ 1048576) (i h : Int) (hi : 0 ≤ i) (k : Nat) (hk : 8000200 < k) : ∃ l fs i' h', spec_l4Any.f k s i h = some (l, fs, i', h') ∧ l.length ≤ 4 ∧ (∀ y ∈ l, y.f0.size ≤ 2) ∧ sm fs 41 ∧ 0 ≤ i' := by
 obtain ⟨l, fs, i1, h1, e1, a1, hz, a3, d1⟩ := l4DbT s hs i h hi k hk
 obtain ⟨n, i2, h2, e2, a2, b2, _, d2⟩ := l1BelowT s hs i1 h1 14 d1
 have hl := a1.1
 have hn : ∀ y ∈ l, y.f0.size ≤ 2 := fun y hy => (a1.2 y hy).2.2
 have hf := a3.1
 have a4 : sm fs 41 := ⟨by omega, a3.2⟩
 unfold spec_l4Any.f
 rw [e1, Option.bind_some]
 dsimp only
 rw [e2, Option.bind_some]
 dsimp only
 by_cases c0 : n = 0
 ·obtain ⟨x, ws, i3, h3, e3, w1, _, _, _, d3⟩ := l3AnyT s hs i2 h2 d2 l (by omega) (by omega) hz k (by omega)
  rw [if_pos c0, e3, Option.bind_some, if_pos (by omega)]
  refine ⟨_, _, _, _, rfl, by omega, hn, ⟨by simp; omega, fun y hy => ?_⟩, d3⟩
  rcases List.mem_append.1 hy with hy | hy
  ·exact a3.2 y hy
  ·rw [List.mem_singleton] at hy
   rw [hy]
   exact w1
 rw [if_neg c0]
 by_cases c1 : n = 1
 ·obtain ⟨x, i3, h3, e3, x0, x1, _, d3⟩ := l1BelowT s hs i2 h2 4 d2
  have := x1 (by decide)
  rw [if_pos c1, e3, Option.bind_some, if_pos x0, if_pos (by omega)]
  exact ⟨_, _, _, _, rfl, by rw [List.length_take]; omega, fun y hy => hn y (List.mem_of_mem_take hy), a4, d3⟩
 rw [if_neg c1]
 by_cases c2 : n = 2
 ·obtain ⟨x, i3, h3, e3, x0, x1, _, d3⟩ := l1BelowT s hs i2 h2 4 d2
  obtain ⟨m, p, q, i4, h4, e4, m1, _, _, _, _, d4⟩ := l2AnyT s hs i3 h3 d3
  have := x1 (by decide)
  rw [if_pos c2, e3, Option.bind_some]
  dsimp only
  rw [e4, Option.bind_some, if_pos x0, if_pos (by omega)]
  refine ⟨_, _, _, _, rfl, by rw [List.length_set]; omega, fun y hy => ?_, a4, d4⟩
  rcases List.mem_or_eq_of_mem_set hy with hy | hy
  ·exact hn y hy
  ·rw [hy]
   exact m1
 ·rw [if_neg c2]
  exact ⟨_, _, _, _, rfl, by omega, hn, a4, d2⟩
theorem drNth (s : List Int) (hs : s.length ≤ 1048576) (k : Nat) (hk : 8000200 < k) : ∃ l fs a, spec_DrawNthRepair.f k s = some (l, fs, a) ∧ l.length ≤ 4 ∧ (∀ y ∈ l, y.f0.size ≤ 2) ∧ sm fs 41 ∧ -1 ≤ a ∧ a ≤ 1000 := by
 obtain ⟨h1, e1⟩ := l1NewT s hs k (by omega)
 obtain ⟨l, fs, i2, h2, e2, a1, a2, a3, d2⟩ := l4AnyT s hs 0 h1 (by decide) k hk
 have hf := a3.1
 unfold spec_DrawNthRepair.f
 rw [e1, Option.bind_some]
 dsimp only
 rw [e2, Option.bind_some]
 dsimp only
 rw [countS l (by omega) fs (by omega) (fun y hy => by have := a3.2 y hy; omega) k (by omega), Option.bind_some]
 obtain ⟨x, i3, h3, e3, x0, x1, x2, d3⟩ := l1BelowT s hs i2 h2 (mn 200 (wrap64 (cntR l fs + 2))) d2
 have hx : x ≤ 200 := by
  by_cases c : 0 < mn 200 (wrap64 (cntR l fs + 2))
  ·have h := x1 c
   have : mn 200 (wrap64 (cntR l fs + 2)) ≤ 200 := by
    unfold mn
    split <;> omega
   exact Int.le_of_lt (Int.lt_of_lt_of_le h this)
  ·rw [x2 (by omega)]
   decide
 rw [e3, Option.bind_some]
 clear x1 x2 e3 e2 e1
 refine ⟨_, _, _, rfl, a1, a2, a3, ?_, ?_⟩
 ·rw [w64 (by omega) (by omega)]; omega
 ·rw [w64 (by omega) (by omega)]; omega
theorem bigT (s : List Int) : laws_big.f s = some (decide ((s.length : Int) > 1048576)) := by unfold laws_big.f; rfl
theorem smIl (b : List Int) (hb : b.length ≤ 1048576) (d : Nat) : ∀ (i : Nat), i + d = b.length → ∀ k, d < k → laws_sameInts.l0 k b b i = some true := by
 induction d with
 | zero =>
  intro i hd k hk
  obtain ⟨k, rfl, hk⟩ := fuel hk
  rw [laws_sameInts.l0, if_neg (by omega)]
 | succ d ih =>
  intro i hd k hk
  obtain ⟨k, rfl, hk⟩ := fuel hk
  rw [laws_sameInts.l0, if_pos (by omega), if_pos (by omega), if_pos (by omega), if_pos rfl, show wrap64 ((i : Int) + 1) = ((i + 1 : Nat) : Int) by rw [w64 (by omega) (by omega)]; omega]
  exact ih (i + 1) (by omega) k (by omega)
theorem smI (b : List Int) (hb : b.length ≤ 1048576) (k : Nat) (hk : b.length < k) : laws_sameInts.f k b b = some true := by
 unfold laws_sameInts.f
 rw [if_pos rfl]
 exact smIl b hb b.length 0 (by omega) k hk
theorem bls_flat (l : List S70) (fs : List S35) (hv : vDb l fs = true) : ∀ (m : Nat), m ≤ fs.length → (bls l fs m m).flatten = (List.range m).map (fun (j : Nat) => (j : Int))
 | 0, _ => rfl
 | m + 1, hm => by
  have ih := bls_flat l fs hv m (by omega)
  rw [List.range_succ, List.map_append, ← ih]
  by_cases h : isHd l fs m = true
  ·rw [bls_step_new l fs m h, List.flatten_append]; simp
  ·have hf : isHd l fs m = false := Bool.eq_false_iff.2 h
   obtain ⟨m', rfl⟩ : ∃ m', m = m' + 1 := by
    cases m with
    | zero => exact absurd rfl h
    | succ m' => exact ⟨m', rfl⟩
   obtain ⟨hs, g, e1, e2, e3, e4, e5⟩ := heads_last l fs hv m' (by omega)
   obtain ⟨j, j1, j2, j3⟩ := ex_head l fs (m' + 1)
   have hj : j < m' + 1 := by
    rcases Nat.lt_or_ge j (m' + 1) with c | c
    ·exact c
    ·rw [show j = m' + 1 by omega] at j2; exact absurd j2 h
   have hk := sk_trans l fs e4 (sk_step l fs hv hj (by omega) j3)
   rw [bls_step_old l fs (m' + 1) hs g e1 hf e3 hk e5, List.flatten_append]
   unfold bls
   rw [e1, List.map_append, List.flatten_append]
   simp
theorem cnt_val (l : List S70) (fs : List S35) (hv : vDb l fs = true) : cntR l fs = (prodN (bls l fs fs.length fs.length) : Nat) ∧ 1 ≤ prodN (bls l fs fs.length fs.length) ∧ prodN (bls l fs fs.length fs.length) ≤ 16384 := by
 obtain ⟨q1, q2, q3, q4⟩ := vDb_parts l fs hv
 have hne := bls_ne l fs
 have h1 := prodN_pos (bls l fs fs.length fs.length) fun b hb => (hne b hb).1
 have h2 := prodN_le (bls l fs fs.length fs.length)
 rw [bls_flat l fs hv _ (Nat.le_refl _), List.length_map, List.length_range] at h2
 have h3 : 2 ^ fs.length ≤ 2 ^ 14 := Nat.pow_le_pow_right (by decide) q2
 have h4 : (2 : Nat) ^ 14 = 16384 := by decide
 have h5 := prodB_eq (bls l fs fs.length fs.length) 1 (fun b hb => (hne b hb).1) (by omega)
 rw [Nat.one_mul] at h5
 refine ⟨?_, h1, by omega⟩
 unfold cntR
 rw [if_pos hv]
 exact h5
theorem cnt_no (l : List S70) (fs : List S35) (hv : ¬ vDb l fs = true) : cntR l fs = 0 := by unfold cntR; rw [if_neg hv]
theorem nthV_flag (l : List S70) (fs : List S35) (a : Int) : (nthV l fs a).2 = decide (0 ≤ a ∧ a < cntR l fs) ∧ 0 ≤ cntR l fs ∧ cntR l fs ≤ 16384 ∧ (nthV l fs a).1.length ≤ 1048576 := by
 by_cases hv : vDb l fs = true
 ·obtain ⟨h1, h2, h3⟩ := cnt_val l fs hv
  obtain ⟨q1, q2, q3, q4⟩ := vDb_parts l fs hv
  have hn := bls_len l fs fs.length fs.length
  have ew : wrap64 (cntR l fs - 1) = cntR l fs - 1 := w64 (by omega) (by omega)
  refine ⟨?_, by omega, by omega, ?_⟩
  ·unfold nthV
   rw [ew]
   by_cases c : 0 ≤ a ∧ a ≤ cntR l fs - 1
   ·rw [if_pos c, decide_eq_true (show 0 ≤ a ∧ a < cntR l fs from ⟨c.1, Int.lt_of_le_sub_one c.2⟩)]
   ·rw [if_neg c, decide_eq_false (show ¬ (0 ≤ a ∧ a < cntR l fs) from fun e => c ⟨e.1, Int.le_sub_one_of_lt e.2⟩)]
  ·unfold nthV
   split
   ·simp only [List.length_reverse, nr_len]
    omega
   ·exact Nat.zero_le _
 ·rw [cnt_no l fs hv]
  have ew : wrap64 ((0 : Int) - 1) = -1 := by rw [w64 (by omega) (by omega)]; rfl
  refine ⟨?_, by decide, by decide, ?_⟩
  ·unfold nthV
   rw [cnt_no l fs hv, ew, if_neg (by omega), decide_eq_false (by omega)]
  ·unfold nthV
   rw [cnt_no l fs hv, ew, if_neg (by omega)]
   exact Nat.zero_le _
theorem lawK (l : List S70) (hl : l.length ≤ 1048576) (fs : List S35) (hf : fs.length ≤ 1048576) (hg : ∀ y ∈ fs, y.f1.length ≤ 1048576) (a : Int) (ha : -1 ≤ a) (ha1 : a ≤ 1000) (k : Nat) (hk : 8000200 < k) :
  laws_FnRepairEnumeration.j0 (k + 1) a (cntR l fs) (nthV l fs a).1 (nthV l fs a).2 false l fs = some true := by
 obtain ⟨f1, f2, f3, f4⟩ := nthV_flag l fs a
 rw [laws_FnRepairEnumeration.j0, if_neg (by decide)]
 by_cases c : 0 ≤ a ∧ a < cntR l fs
 ·rw [f1, decide_eq_true c, if_pos rfl]
  have hv : vDb l fs = true := by
   cases e : vDb l fs with
   | true => rfl
   | false =>
    have := cnt_no l fs (by rw [e]; decide)
    omega
  obtain ⟨q1, q2, q3, q4⟩ := vDb_parts l fs hv
  obtain ⟨c1, c2, c3⟩ := cnt_val l fs hv
  have hn := bls_len l fs fs.length fs.length
  have hne := bls_ne l fs
  have hr : (nthV l fs a).1 = dg (bls l fs fs.length fs.length) a := by
   unfold nthV
   rw [if_pos ⟨c.1, by rw [w64 (by omega) (by omega)]; exact Int.le_sub_one_of_lt c.2⟩]
   exact nr_dg _ a c.1 (by omega)
  have hlen := dg_len (bls l fs fs.length fs.length) a
  have hrep := pick_rep l fs hv (dg (bls l fs fs.length fs.length) a) hlen fun i hi => dg_mem _ a c.1 (fun b hb => (hne b hb).1) i (by omega)
  have hrk : impl_RepairRank.f k l fs (dg (bls l fs fs.length fs.length) a) = some (a, true) := by
   unfold impl_RepairRank.f
   rw [repI l hl fs hf hg _ (by omega) k (by omega), Option.bind_some, if_pos hrep, blsI l fs hv k (by omega), Option.bind_some]
   have hz : kd (bls l fs fs.length fs.length) a = 0 := by
    have h1 := kd_lt (bls l fs fs.length fs.length) a 1 (fun b hb => (hne b hb).1) (by rw [Nat.one_mul]; omega)
    have h2 := (kd_bd (bls l fs fs.length fs.length) a c.1).1
    omega
   have := rkVal (bls l fs fs.length fs.length) (by omega) (fun b hb => ⟨(hne b hb).1, by have := (hne b hb).2; omega, by obtain ⟨g, _, rfl⟩ := List.mem_map.1 hb; exact blk_nodup l fs g fs.length⟩) a c.1 (by omega) (bls l fs fs.length fs.length).length 0 (by omega) k (by omega)
   rw [List.drop_zero, hz] at this
   exact this
  have ew : wrap64 (a + 1) = a + 1 := w64 (by omega) (by omega)
  obtain ⟨n1, n2⟩ := nthX l hl fs hf hg (a + 1) (by omega) k (by omega)
  obtain ⟨g1, g2, g3, g4⟩ := nthV_flag l fs (a + 1)
  have hnx : impl_NextRepair.f k l fs (dg (bls l fs fs.length fs.length) a) = some (nthV l fs (a + 1)) := by
   unfold impl_NextRepair.f
   rw [hrk, Option.bind_some]
   dsimp only
   rw [if_pos rfl, ew, n2]
   rfl
  have hp : partR l fs (dg (bls l fs fs.length fs.length) a) = true := by unfold repR at hrep; rw [Bool.and_eq_true] at hrep; exact hrep.1
  have hp2 := hp
  unfold partR at hp2
  rw [Bool.and_eq_true, Bool.and_eq_true] at hp2
  have hsg := sel_g fs hg (dg (bls l fs fs.length fs.length) a)
  rw [hr, hrk, Option.bind_some, hnx, Option.bind_some, ew, n1, Option.bind_some, selI l hl fs hf hg _ (by omega) k (by omega), Option.bind_some, if_pos hp2.1, repI l hl fs hf hg _ (by omega) k (by omega), Option.bind_some, if_pos hrep]
  dsimp only
  rw [consS l hl _ (by rw [sel_len]; omega) hsg k (by omega), Option.bind_some, if_pos hp2.2, if_pos rfl, if_pos rfl, g1, if_pos ?_, smI _ g4 k (by omega), Option.bind_some]
  rw [beq_iff_eq]
  exact decide_eq_decide.2 ⟨fun e => e.2, fun e => ⟨by omega, e⟩⟩
 ·rw [f1, decide_eq_false c, if_neg (by decide)]
  have : (nthV l fs a).1 = [] := by
   have h2 := f1
   rw [decide_eq_false c] at h2
   unfold nthV at h2 ⊢
   split at h2
   ·cases h2
   ·rw [if_neg (by assumption)]
  rw [this]
  rfl
theorem lawF (s : List Int) (k : Nat) (hk : 8000300 < k) : laws_FnRepairEnumeration.f (k + 1) s = some true := by
 unfold laws_FnRepairEnumeration.f
 rw [bigT, Option.bind_some]
 by_cases c : (s.length : Int) > 1048576
 ·rw [decide_eq_true c, if_pos rfl]
 rw [decide_eq_false c, if_neg (by decide)]
 obtain ⟨l, fs, a, e1, a1, a2, a3, a4, a5⟩ := drNth s (by omega) (k + 1) (by omega)
 have hf := a3.1
 have hg : ∀ y ∈ fs, y.f1.length ≤ 1048576 := fun y hy => by have := a3.2 y hy; omega
 obtain ⟨n1, n2⟩ := nthX l (by omega) fs (by omega) hg a (by omega) (k + 1) (by omega)
 obtain ⟨f1, f2, f3, f4⟩ := nthV_flag l fs a
 rw [e1, Option.bind_some]
 dsimp only
 rw [countI l (by omega) fs (by omega) hg _ (by omega), Option.bind_some, n2, Option.bind_some, n1, Option.bind_some, countS l (by omega) fs (by omega) hg _ (by omega), Option.bind_some, if_pos rfl, if_neg (by simp), smI _ f4 _ (by omega), Option.bind_some, if_pos rfl]
 have hK := lawK l (by omega) fs (by omega) hg a a4 a5 k (by omega)
 by_cases d : a ≥ 0
 ·rw [if_pos d, show ((nthV l fs a).2 != decide (a < cntR l fs)) = false by
   rw [f1, bne_eq_false_iff_eq]
   exact decide_eq_decide.2 ⟨fun e => e.2, fun e => ⟨d, e⟩⟩]
  exact hK
 ·rw [if_neg d, show ((nthV l fs a).2 != false) = false by
   rw [f1, bne_eq_false_iff_eq]
   exact decide_eq_false fun e => d e.1]
  exact hK
theorem FnRepairEnumeration : laws_FnRepairEnumeration.Pure := by
 intro s hs1 hs2 hs3
 exact ⟨9000000 + 1, lawF s 9000000 (by omega)⟩
end Go.Proofs.Ytbdeimhlohhhiaa.Pure
