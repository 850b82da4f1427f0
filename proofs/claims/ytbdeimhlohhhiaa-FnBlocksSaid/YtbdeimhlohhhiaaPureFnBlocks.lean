/- The law FnBlocks answers true for every row of bytes that the row admits: every fact of a valid drawn database lies in one block of its key, and the sizes and the conflicts are those of the blocks. -/
import Derived.Test.YtbdeimhlohhhiaaPFnBlocksx16
import Derived.Test.YtbdeimhlohhhiaaBase
namespace Go.Proofs.Ytbdeimhlohhhiaa.Pure
open Go.RowKit Go.Proofs.Ytbdeimhlohhhiaa.PFnBlocks Go.Proofs.YtbdeimhlohhhiaaW.PrintWords Go.Proofs.YtbdeimhlohhhiaaW.PrintLast Go.Proofs.YtbdeimhlohhhiaaW.PrintMore Go.Proofs.Ytbdeimhlohhhiaa.Base
set_option linter.unusedVariables false
set_option linter.unusedSimpArgs false

/-! ### the order of facts: a plain function, and that both texts compute it -/
theorem cmpSl (a b : List Int) (ha : a.length ≤ 1048576) (hb : b.length ≤ 1048576) (d : Nat) : ∀ (i : Nat), i + d = a.length → ∀ k, 2 * d + 1 < k → spec_l3Ints.l0 k a b i = some (cmpI (a.drop i) (b.drop i)) ∨ b.length < i := by
  induction d with
  | zero =>
    intro i hd k hk
    by_cases hbi : b.length < i
    · exact .inr hbi
    left
    obtain ⟨k, rfl⟩ : ∃ z, k = z + 2 := ⟨k - 2, by omega⟩
    rw [spec_l3Ints.l0, if_neg (by omega), spec_l3Ints.j1, if_neg (by decide), cmpI_end (.inl (List.drop_of_length_le (by omega))), List.length_drop, List.length_drop]
    by_cases h1 : (a.length : Int) < (b.length : Int)
    · rw [if_pos h1, if_pos (show a.length - i < b.length - i by omega)]
    · rw [if_neg h1, if_neg (show ¬ (a.length : Int) > (b.length : Int) by omega), if_neg (show ¬ a.length - i < b.length - i by omega), if_neg (show ¬ a.length - i > b.length - i by omega)]
  | succ d ih =>
    intro i hd k hk
    by_cases hbi : b.length < i
    · exact .inr hbi
    left
    obtain ⟨k, rfl⟩ : ∃ z, k = z + 2 := ⟨k - 2, by omega⟩
    rw [spec_l3Ints.l0, if_pos (by omega)]
    by_cases hlt : i < b.length
    · have e1 : wrap64 ((i : Int) + 1) = ((i + 1 : Nat) : Int) := by rw [w64 (by omega) (by omega)]; omega
      have e2 : rd a (i : Int) = a[i] := by unfold rd; rw [Int.toNat_natCast, getD_lt a _ i (by omega)]
      have e3 : rd b (i : Int) = b[i] := by unfold rd; rw [Int.toNat_natCast, getD_lt b _ i (by omega)]
      rw [decide_eq_true (by omega), spec_l3Ints.j1, if_pos rfl, if_pos (by omega), if_pos (by omega), if_pos (by omega), e1, e2, e3]
      rw [List.drop_eq_getElem_cons (i := i) (l := a) (by omega), List.drop_eq_getElem_cons (i := i) (l := b) (by omega), cmpI]
      by_cases h1 : a[i] < b[i]
      · rw [if_pos h1, if_pos h1]
      · rw [if_neg h1, if_neg h1]
        by_cases h2 : a[i] > b[i]
        · rw [if_pos h2, if_pos h2]
        · rw [if_neg h2, if_neg h2]
          rcases ih (i + 1) (by omega) k (by omega) with h | h
          · exact h
          · omega
    · rw [decide_eq_false (by omega), spec_l3Ints.j1, if_neg (by decide), cmpI_end (.inr (List.drop_of_length_le (by omega))), List.length_drop, List.length_drop]
      rw [if_neg (show ¬ (a.length : Int) < (b.length : Int) by omega), if_pos (show (a.length : Int) > (b.length : Int) by omega), if_neg (show ¬ a.length - i < b.length - i by omega), if_pos (show a.length - i > b.length - i by omega)]
theorem cmpS (a b : List Int) (ha : a.length ≤ 1048576) (hb : b.length ≤ 1048576) (k : Nat) (hk : 2 * a.length + 1 < k) : spec_l3Ints.f k a b = some (cmpI a b) := by
  rcases cmpSl a b ha hb a.length 0 (by omega) k hk with h | h
  · exact h
  · omega
theorem cmpFS (x : Int) (a : List Int) (y : Int) (b : List Int) (ha : a.length ≤ 1048576) (hb : b.length ≤ 1048576) (k : Nat) (hk : 2 * a.length + 1 < k) : spec_CompareFacts.f k x a y b = some (cmpF x a y b) := by
  unfold spec_CompareFacts.f cmpF
  by_cases h1 : x < y
  · rw [if_pos h1, if_pos h1]
  · rw [if_neg h1, if_neg h1]
    by_cases h2 : x > y
    · rw [if_pos h2, if_pos h2]
    · rw [if_neg h2, if_neg h2, cmpS a b ha hb k hk]
      rfl


/-! ### valid facts -/

theorem in1 (x a b : Int) : spec_l1In.f x a b = some (decide (a ≤ x ∧ x ≤ b)) := by
  unfold spec_l1In.f
  by_cases h : a ≤ x
  · rw [if_pos h]; simp [h]
  · rw [if_neg h]; simp [h]
theorem vFSl (a : Int) (vs : List Int) (hs : vs.length ≤ 1048576) (d : Nat) : ∀ (i : Nat), i + d = vs.length → ∀ k, d < k → spec_IsValidFact.l0 k i a vs = some (!(vs.drop i).any noVal) := by
  induction d with
  | zero =>
    intro i hd k hk
    obtain ⟨k, rfl, hk⟩ := fuel hk
    rw [spec_IsValidFact.l0, if_neg (by omega), List.drop_of_length_le (by omega)]
    rfl
  | succ d ih =>
    intro i hd k hk
    obtain ⟨k, rfl, hk⟩ := fuel hk
    rw [spec_IsValidFact.l0, if_pos (by omega), if_pos (by omega), in1, Option.bind_some, List.drop_eq_getElem_cons (i := i) (l := vs) (by omega), List.any_cons]
    rw [show wrap64 ((i : Int) + 1) = ((i + 1 : Nat) : Int) by rw [w64 (by omega) (by omega)]; omega, show rd vs (i : Int) = vs[i] by unfold rd; rw [Int.toNat_natCast, getD_lt vs _ i (by omega)]]
    by_cases h : 0 ≤ vs[i] ∧ vs[i] ≤ 9
    · rw [if_pos (by simpa using h), ih (i + 1) (by omega) k (by omega)]
      have : noVal vs[i] = false := by simp [noVal, h]
      rw [this, Bool.false_or]
    · rw [if_neg (by simpa using h)]
      have : noVal vs[i] = true := by
        unfold noVal
        by_cases h1 : 0 ≤ vs[i]
        · have h2 : ¬ vs[i] ≤ 9 := fun h2 => h ⟨h1, h2⟩
          simp [h2]
        · simp [h1]
      rw [this, Bool.true_or]
      rfl
theorem vFS (l : List S70) (hl : l.length ≤ 1048576) (a : Int) (vs : List Int) (hs : vs.length ≤ 1048576) (k : Nat) (hk : vs.length + 1 < k) : spec_IsValidFact.f k l a vs = some (vFact l a vs) := by
  obtain ⟨k, rfl⟩ : ∃ z, k = z + 1 := ⟨k - 1, by omega⟩
  unfold spec_IsValidFact.f spec_AreValidRelations.f vFact fits
  rw [Option.bind_some, in1, Option.bind_some, w64 (by omega) (by omega)]
  by_cases h0 : vRels l = true
  · rw [if_pos h0]
    by_cases h1 : 0 ≤ a ∧ a < (l.length : Int)
    · rw [if_pos (by simpa using (by omega : 0 ≤ a ∧ a ≤ (l.length : Int) - 1)), if_pos h1.1, if_pos h1.2, spec_IsValidFact.j0]
      by_cases h2 : (vs.length : Int) = (rd_T70 l a).f1
      · rw [if_neg (by simpa using h2), show (0 : Int) = ((0 : Nat) : Int) from rfl, vFSl a vs hs vs.length 0 (by omega) k (by omega), h0, decide_eq_true (by exact ⟨h1.1, h1.2, h2⟩)]
        simp
      · rw [if_pos (by simpa using h2), decide_eq_false (by intro h; exact h2 h.2.2)]
        simp
    · rw [if_neg (by simpa using (by omega : 0 ≤ a → ¬ a ≤ (l.length : Int) - 1)), spec_IsValidFact.j0, if_pos rfl, decide_eq_false (by intro h; exact h1 ⟨h.1, h.2.1⟩)]
      simp
  · rw [if_neg h0, spec_IsValidFact.j0, if_pos rfl]
    simp [h0]


/-! ### valid databases -/

theorem vDSl (l : List S70) (hl : l.length ≤ 1048576) (fs : List S35) (hf : fs.length ≤ 1048576) (hg : ∀ y ∈ fs, y.f1.length ≤ 1048576) (d : Nat) : ∀ (i : Nat), i + d = fs.length → ∀ k, d + 4000000 < k → spec_IsValidDatabase.l0 k i l fs = some (vRels l && decide (fs.length ≤ 14) && okFrom l fs d i) := by
  induction d with
  | zero =>
    intro i hd k hk
    obtain ⟨k, rfl, hk⟩ := fuel hk
    rw [spec_IsValidDatabase.l0, if_neg (by omega)]
    unfold spec_AreValidRelations.f
    rw [Option.bind_some]
    by_cases h : vRels l = true
    · rw [if_pos h, h, okFrom]
      simp only [Bool.true_and, Bool.and_true]
      congr 2
      exact propext (by omega)
    · rw [if_neg h]; simp [h]
  | succ d ih =>
    intro i hd k hk
    obtain ⟨k, rfl, hk⟩ := fuel hk
    have hy := hg _ (getD_mem fs z35 i (by omega))
    rw [spec_IsValidDatabase.l0, if_pos (by omega), if_pos (by omega)]
    unfold rd_T35
    rw [Int.toNat_natCast, vFS l hl _ _ hy k (by omega), Option.bind_some, okFrom]
    unfold vFact
    by_cases h0 : vRels l = true
    · by_cases h1 : fits l (fs.getD i z35).f0 (fs.getD i z35).f1 = true
      · rw [h0, h1, Bool.true_and, if_pos rfl]
        by_cases hi : i = 0
        · rw [if_neg (by omega), show wrap64 ((i : Int) + 1) = ((i + 1 : Nat) : Int) by rw [w64 (by omega) (by omega)]; omega, ih (i + 1) (by omega) k (by omega), h0, decide_eq_true hi]
          simp
        · have hy' := hg _ (getD_mem fs z35 (i - 1) (by omega))
          have ew : wrap64 ((i : Int) - 1) = ((i - 1 : Nat) : Int) := by rw [w64 (by omega) (by omega)]; omega
          rw [if_pos (by omega), ew, if_pos (by omega), if_pos (by omega), Int.toNat_natCast, cmpFS _ _ _ _ hy' hy k (by omega), Option.bind_some, decide_eq_false hi]
          by_cases hc : cmpF (fs.getD (i - 1) z35).f0 (fs.getD (i - 1) z35).f1 (fs.getD i z35).f0 (fs.getD i z35).f1 < 0
          · rw [if_neg (by omega), show wrap64 ((i : Int) + 1) = ((i + 1 : Nat) : Int) by rw [w64 (by omega) (by omega)]; omega, ih (i + 1) (by omega) k (by omega), h0, decide_eq_true hc]
            simp
          · rw [if_pos (by omega), decide_eq_false hc]
            simp
      · rw [Bool.eq_false_iff.2 h1, Bool.and_false, if_neg (by decide)]
        simp
    · rw [if_neg (by simp [h0])]
      simp [h0]
theorem vDS (l : List S70) (hl : l.length ≤ 1048576) (fs : List S35) (hf : fs.length ≤ 1048576) (hg : ∀ y ∈ fs, y.f1.length ≤ 1048576) (k : Nat) (hk : 6000000 < k) : spec_IsValidDatabase.f k l fs = some (vDb l fs) := by
  unfold spec_IsValidDatabase.f vDb
  exact vDSl l hl fs hf hg fs.length 0 (by omega) k (by omega)


/-! ### keys -/
theorem inB_iff (x a b : Int) : inB x a b = true ↔ a ≤ x ∧ x ≤ b := by unfold inB; exact decide_eq_true_iff
theorem vRelsFrom_at (l : List S70) : ∀ (d i : Nat), vRelsFrom l d i = true → ∀ j, i ≤ j → j < i + d → vRel (l.getD j z70) = true
  | 0, i, _, j, h1, h2 => by omega
  | d + 1, i, h, j, h1, h2 => by
    rw [vRelsFrom, Bool.and_eq_true, Bool.and_eq_true] at h
    by_cases hj : j = i
    · subst hj
      exact h.1.1
    · exact vRelsFrom_at l d (i + 1) h.2 j (by omega) (by omega)
theorem vRels_at (l : List S70) (h : vRels l = true) (a : Int) (h0 : 0 ≤ a) (h1 : a < (l.length : Int)) : vRel (rd_T70 l a) = true := by
  unfold rd_T70
  exact vRelsFrom_at l l.length 0 h a.toNat (by omega) (by omega)
theorem fits_iff (l : List S70) (a : Int) (vs : List Int) : fits l a vs = true ↔ (0 ≤ a ∧ a < (l.length : Int) ∧ (vs.length : Int) = (rd_T70 l a).f1) ∧ vs.any noVal = false := by
  unfold fits
  rw [Bool.and_eq_true, decide_eq_true_iff, Bool.not_eq_true']
theorem key_ok (l : List S70) (hr : vRels l = true) (a : Int) (vs : List Int) (h : fits l a vs = true) :
    0 ≤ a ∧ a < (l.length : Int) ∧ 0 ≤ (rd_T70 l a).f2 ∧ (rd_T70 l a).f2 ≤ (vs.length : Int) ∧ (vs.length : Int) = (rd_T70 l a).f1 ∧ vs.length ≤ 3 := by
  obtain ⟨⟨h0, h1, h2⟩, _⟩ := (fits_iff l a vs).1 h
  have hv := vRels_at l hr a h0 h1
  unfold vRel at hv
  rw [Bool.and_eq_true, Bool.and_eq_true, inB_iff, inB_iff] at hv
  exact ⟨h0, h1, by omega, by omega, h2, by omega⟩
theorem cmpI_zero : ∀ (x y : List Int), cmpI x y = 0 ↔ x = y
  | [], [] => by simp [cmpI]
  | [], _ :: _ => by simp [cmpI]
  | _ :: _, [] => by simp [cmpI]
  | x :: xs, y :: ys => by
    rw [cmpI]
    by_cases h1 : x < y
    · rw [if_pos h1]
      constructor
      · intro h; omega
      · intro h; have := (List.cons.inj h).1; omega
    · rw [if_neg h1]
      by_cases h2 : x > y
      · rw [if_pos h2]
        constructor
        · intro h; omega
        · intro h; have := (List.cons.inj h).1; omega
      · rw [if_neg h2, cmpI_zero xs ys]
        have : x = y := by omega
        subst this
        simp
/-- The two facts have one key. -/
def sameK (l : List S70) (a : Int) (x : List Int) (b : Int) (y : List Int) : Bool := decide (a = b) && decide (x.take ((rd_T70 l a).f2).toNat = y.take ((rd_T70 l a).f2).toNat)
def keyOf (l : List S70) (a : Int) (vs : List Int) : List Int := if vFact l a vs = true then vs.take ((rd_T70 l a).f2).toNat else []
theorem keyS (l : List S70) (hl : l.length ≤ 1048576) (a : Int) (vs : List Int) (hs : vs.length ≤ 1048576) (k : Nat) (hk : vs.length + 1 < k) : spec_KeyOf.f k l a vs = some (keyOf l a vs) := by
  unfold spec_KeyOf.f keyOf
  rw [vFS l hl a vs hs k hk, Option.bind_some]
  by_cases h : vFact l a vs = true
  · have h' := h
    unfold vFact at h'
    rw [Bool.and_eq_true] at h'
    obtain ⟨h0, h1, h2, h3, h4, h5⟩ := key_ok l h'.1 a vs h'.2
    rw [if_pos h, if_pos h, Option.bind_some, if_pos h0, if_pos h1, if_pos h2, if_pos h3, if_pos (by simp only [List.length_nil, List.length_take]; omega), List.nil_append]
  · rw [if_neg h, if_neg h]

/-! ### one key: both texts' question -/
theorem sameS (l : List S70) (hl : l.length ≤ 1048576) (a : Int) (x : List Int) (b : Int) (y : List Int) (hx : x.length ≤ 1048576) (hy : y.length ≤ 1048576) (k : Nat) (hk : 3000000 < k) :
    spec_HaveSameKey.f k l a x b y = some (vFact l a x && vFact l b y && sameK l a x b y) := by
  unfold spec_HaveSameKey.f sameK
  rw [vFS l hl a x hx k (by omega), Option.bind_some]
  by_cases h1 : vFact l a x = true
  · rw [if_pos h1, vFS l hl b y hy k (by omega), Option.bind_some, h1]
    by_cases h2 : vFact l b y = true
    · rw [if_pos h2, h2]
      by_cases h3 : a = b
      · subst h3
        rw [if_pos rfl, keyS l hl a x hx k (by omega), Option.bind_some, keyS l hl a y hy k (by omega), Option.bind_some]
        unfold keyOf
        rw [if_pos h1, if_pos h2, cmpS _ _ (by rw [List.length_take]; omega) (by rw [List.length_take]; omega) k (by rw [List.length_take]; omega), Option.bind_some]
        simp only [Bool.true_and, decide_true]
        congr 1
        rw [Bool.eq_iff_iff, beq_iff_eq, cmpI_zero, decide_eq_true_iff]
      · rw [if_neg h3]
        simp [h3]
    · rw [if_neg h2]
      simp [h2]
  · rw [if_neg h1]
    simp [h1]
theorem sameI (l : List S70) (hr : vRels l = true) (a : Int) (x : List Int) (b : Int) (y : List Int) (hx : fits l a x = true) (hy : fits l b y = true) : impl_sameKey.f l a x b y = some (sameK l a x b y) := by
  unfold impl_sameKey.f sameK
  by_cases h : a = b
  · subst h
    obtain ⟨h0, h1, h2, h3, _⟩ := key_ok l hr a x hx
    obtain ⟨_, _, _, h4, _⟩ := key_ok l hr a y hy
    rw [if_pos rfl, if_pos ⟨h0, h1, h2, h3, h4⟩, decide_eq_true rfl, Bool.true_and]
  · rw [if_neg h]
    simp [h]

/-! ### order and blocks -/
theorem cmpI_trans : ∀ (x y z : List Int), cmpI x y < 0 → cmpI y z < 0 → cmpI x z < 0
  | [], _, [], _, h2 => by cases ‹List Int› <;> simp [cmpI] at h2
  | [], _, _ :: _, _, _ => by simp [cmpI]
  | _ :: _, [], _, h1, _ => by simp [cmpI] at h1
  | _ :: _, _ :: _, [], _, h2 => by simp [cmpI] at h2
  | x :: xs, y :: ys, z :: zs, h1, h2 => by
    rw [cmpI] at h1 h2 ⊢
    by_cases a1 : x < y
    · by_cases a2 : y < z
      · rw [if_pos (by omega)]; decide
      · rw [if_neg a2] at h2
        by_cases a3 : y > z
        · rw [if_pos a3] at h2; omega
        · rw [if_pos (by omega)]; decide
    · rw [if_neg a1] at h1
      by_cases a4 : x > y
      · rw [if_pos a4] at h1; omega
      · rw [if_neg a4] at h1
        by_cases a2 : y < z
        · rw [if_pos (by omega)]; decide
        · rw [if_neg a2] at h2
          by_cases a3 : y > z
          · rw [if_pos a3] at h2; omega
          · rw [if_neg a3] at h2
            rw [if_neg (by omega), if_neg (by omega)]
            exact cmpI_trans xs ys zs h1 h2
theorem cmpF_lt (a : Int) (x : List Int) (b : Int) (y : List Int) : cmpF a x b y < 0 ↔ a < b ∨ (a = b ∧ cmpI x y < 0) := by
  unfold cmpF
  by_cases h1 : a < b
  · rw [if_pos h1]; simp [h1]
  · rw [if_neg h1]
    by_cases h2 : a > b
    · rw [if_pos h2]
      constructor
      · intro h; omega
      · intro h; omega
    · rw [if_neg h2]
      constructor
      · intro h; exact .inr ⟨by omega, h⟩
      · intro h
        rcases h with h | h
        · omega
        · exact h.2
theorem cmpF_trans (a : Int) (x : List Int) (b : Int) (y : List Int) (c : Int) (z : List Int) (h1 : cmpF a x b y < 0) (h2 : cmpF b y c z < 0) : cmpF a x c z < 0 := by
  rw [cmpF_lt] at h1 h2 ⊢
  rcases h1 with h1 | ⟨h1, h1'⟩ <;> rcases h2 with h2 | ⟨h2, h2'⟩
  · exact .inl (by omega)
  · exact .inl (by omega)
  · exact .inl (by omega)
  · exact .inr ⟨by omega, cmpI_trans _ _ _ h1' h2'⟩
theorem take_mid : ∀ (m : Nat) (x y z : List Int), cmpI x y < 0 → cmpI y z < 0 → x.take m = z.take m → x.take m = y.take m
  | 0, _, _, _, _, _, _ => by simp
  | m + 1, [], y, z, h1, h2, h => by
    cases z with
    | nil => cases y <;> simp [cmpI] at h1 h2
    | cons z zs => simp at h
  | m + 1, x :: xs, [], z, h1, h2, h => by simp [cmpI] at h1
  | m + 1, x :: xs, y :: ys, [], h1, h2, h => by simp [cmpI] at h2
  | m + 1, x :: xs, y :: ys, z :: zs, h1, h2, h => by
    rw [List.take_succ_cons, List.take_succ_cons] at h
    obtain ⟨rfl, g⟩ := List.cons.inj h
    clear h
    rw [cmpI] at h1 h2
    have h1' : ¬ x > y := fun g => by rw [if_neg (by omega), if_pos g] at h1; omega
    have h2' : ¬ y > x := fun g => by rw [if_neg (by omega), if_pos g] at h2; omega
    rw [if_neg (by omega), if_neg (by omega)] at h1 h2
    have : x = y := by omega
    subst this
    rw [List.take_succ_cons, List.take_succ_cons, take_mid m xs ys zs h1 h2 g]
theorem okFrom_at (l : List S70) (fs : List S35) : ∀ (d i : Nat), okFrom l fs d i = true → ∀ j, i ≤ j → j < i + d → fits l (fs.getD j z35).f0 (fs.getD j z35).f1 = true ∧ (j = 0 ∨ cmpF (fs.getD (j - 1) z35).f0 (fs.getD (j - 1) z35).f1 (fs.getD j z35).f0 (fs.getD j z35).f1 < 0)
  | 0, i, _, j, h1, h2 => by omega
  | d + 1, i, h, j, h1, h2 => by
    rw [okFrom, Bool.and_eq_true, Bool.and_eq_true, Bool.or_eq_true, decide_eq_true_iff, decide_eq_true_iff] at h
    by_cases hj : j = i
    · subst hj
      exact h.1
    · exact okFrom_at l fs d (i + 1) h.2 j (by omega) (by omega)
theorem vDb_parts (l : List S70) (fs : List S35) (h : vDb l fs = true) : vRels l = true ∧ fs.length ≤ 14 ∧ (∀ j, j < fs.length → fits l (fs.getD j z35).f0 (fs.getD j z35).f1 = true) ∧ ∀ j, 0 < j → j < fs.length → cmpF (fs.getD (j - 1) z35).f0 (fs.getD (j - 1) z35).f1 (fs.getD j z35).f0 (fs.getD j z35).f1 < 0 := by
  unfold vDb at h
  rw [Bool.and_eq_true, Bool.and_eq_true, decide_eq_true_iff] at h
  refine ⟨h.1.1, h.1.2, fun j hj => (okFrom_at l fs _ 0 h.2 j (by omega) (by omega)).1, fun j h0 hj => ?_⟩
  rcases (okFrom_at l fs _ 0 h.2 j (by omega) (by omega)).2 with e | e
  · omega
  · exact e
theorem vDb_lt (l : List S70) (fs : List S35) (h : vDb l fs = true) (i : Nat) : ∀ (d : Nat), i + d + 1 < fs.length → cmpF (fs.getD i z35).f0 (fs.getD i z35).f1 (fs.getD (i + d + 1) z35).f0 (fs.getD (i + d + 1) z35).f1 < 0
  | 0, hd => (vDb_parts l fs h).2.2.2 (i + 1) (by omega) hd
  | d + 1, hd => cmpF_trans _ _ _ _ _ _ (vDb_lt l fs h i d (by omega)) ((vDb_parts l fs h).2.2.2 (i + (d + 1) + 1) (by omega) hd)
/-- Facts i and j have one key. -/
def skN (l : List S70) (fs : List S35) (i j : Nat) : Bool := sameK l (fs.getD i z35).f0 (fs.getD i z35).f1 (fs.getD j z35).f0 (fs.getD j z35).f1
theorem sk_iff (l : List S70) (fs : List S35) (i j : Nat) : skN l fs i j = true ↔ (fs.getD i z35).f0 = (fs.getD j z35).f0 ∧ (fs.getD i z35).f1.take ((rd_T70 l (fs.getD i z35).f0).f2).toNat = (fs.getD j z35).f1.take ((rd_T70 l (fs.getD i z35).f0).f2).toNat := by
  unfold skN sameK
  rw [Bool.and_eq_true, decide_eq_true_iff, decide_eq_true_iff]
theorem sk_refl (l : List S70) (fs : List S35) (i : Nat) : skN l fs i i = true := (sk_iff l fs i i).2 ⟨rfl, rfl⟩
theorem sk_symm (l : List S70) (fs : List S35) {i j : Nat} (h : skN l fs i j = true) : skN l fs j i = true := by
  obtain ⟨h1, h2⟩ := (sk_iff l fs i j).1 h
  refine (sk_iff l fs j i).2 ⟨h1.symm, ?_⟩
  rw [← h1]
  exact h2.symm
theorem sk_trans (l : List S70) (fs : List S35) {i j m : Nat} (h : skN l fs i j = true) (h' : skN l fs j m = true) : skN l fs i m = true := by
  obtain ⟨h1, h2⟩ := (sk_iff l fs i j).1 h
  obtain ⟨h3, h4⟩ := (sk_iff l fs j m).1 h'
  refine (sk_iff l fs i m).2 ⟨h1.trans h3, ?_⟩
  rw [← h1] at h4
  exact h2.trans h4
theorem sk_mid (l : List S70) (fs : List S35) (h : vDb l fs = true) {i j m : Nat} (h1 : i < j) (h2 : j < m) (h3 : m < fs.length) (hk : skN l fs i m = true) : skN l fs i j = true := by
  obtain ⟨e1, e2⟩ := (sk_iff l fs i m).1 hk
  have g1 := vDb_lt l fs h i (j - i - 1) (by omega)
  have g2 := vDb_lt l fs h j (m - j - 1) (by omega)
  rw [show i + (j - i - 1) + 1 = j by omega, cmpF_lt] at g1
  rw [show j + (m - j - 1) + 1 = m by omega, cmpF_lt] at g2
  refine (sk_iff l fs i j).2 ⟨by omega, take_mid _ _ _ _ ?_ ?_ e2⟩
  · rcases g1 with g1 | g1
    · omega
    · exact g1.2
  · rcases g2 with g2 | g2
    · omega
    · exact g2.2
theorem sk_step (l : List S70) (fs : List S35) (h : vDb l fs = true) {i j : Nat} (h1 : j < i) (h3 : i < fs.length) (hk : skN l fs j i = true) : skN l fs (i - 1) i = true := by
  by_cases e : j = i - 1
  · rw [← e]; exact hk
  · exact sk_trans l fs (sk_symm l fs (sk_mid l fs h (i := j) (j := i - 1) (m := i) (by omega) (by omega) h3 hk)) hk
/-- The facts below m that have fact h's key. -/
def blk (l : List S70) (fs : List S35) (h m : Nat) : List Int := ((List.range m).filter (skN l fs h)).map (fun (j : Nat) => (j : Int))
theorem blk_succ (l : List S70) (fs : List S35) (h m : Nat) : blk l fs h (m + 1) = blk l fs h m ++ if skN l fs h m = true then [(m : Int)] else [] := by
  unfold blk
  rw [List.range_succ, List.filter_append, List.map_append]
  congr 1
  by_cases e : skN l fs h m = true
  · rw [if_pos e, List.filter_cons_of_pos e]; rfl
  · rw [if_neg e, List.filter_cons_of_neg e]; rfl
theorem blk_len (l : List S70) (fs : List S35) (h m : Nat) : (blk l fs h m).length ≤ m := by
  unfold blk
  rw [List.length_map]
  exact Nat.le_trans (List.length_filter_le _ _) (by simp)
theorem mem_blk (l : List S70) (fs : List S35) (h m : Nat) (x : Int) (hx : x ∈ blk l fs h m) : ∃ j : Nat, x = j ∧ j < m ∧ skN l fs h j = true := by
  unfold blk at hx
  obtain ⟨j, hj, rfl⟩ := List.mem_map.1 hx
  obtain ⟨h1, h2⟩ := List.mem_filter.1 hj
  exact ⟨j, rfl, by simpa using h1, h2⟩
/-- No fact ahead has this one's key. -/
def isHd (l : List S70) (fs : List S35) (h : Nat) : Bool := (List.range h).all fun j => !skN l fs h j
theorem isHd_iff (l : List S70) (fs : List S35) (h : Nat) : isHd l fs h = true ↔ ∀ j, j < h → skN l fs h j = false := by
  unfold isHd
  rw [List.all_eq_true]
  constructor
  · intro g j hj
    have := g j (by simpa using hj)
    simpa using this
  · intro g j hj
    rw [g j (by simpa using hj)]
    rfl
theorem filter_none (p : Nat → Bool) : ∀ (m : Nat), (∀ j, j < m → p j = false) → (List.range m).filter p = []
  | 0, _ => rfl
  | m + 1, h => by
    rw [List.range_succ, List.filter_append, filter_none p m fun j hj => h j (by omega), List.filter_cons_of_neg (by rw [h m (by omega)]; decide)]
    rfl
theorem blk_first (l : List S70) (fs : List S35) (h : Nat) (hh : isHd l fs h = true) : ∀ (d : Nat), ∃ r, blk l fs h (h + 1 + d) = (h : Int) :: r
  | 0 => ⟨[], by
    rw [Nat.add_zero, blk_succ, if_pos (sk_refl l fs h)]
    unfold blk
    rw [filter_none _ _ ((isHd_iff l fs h).1 hh)]
    rfl⟩
  | d + 1 => by
    obtain ⟨r, hr⟩ := blk_first l fs h hh d
    rw [show h + 1 + (d + 1) = (h + 1 + d) + 1 by omega, blk_succ, hr]
    exact ⟨_, rfl⟩
theorem blk_head (l : List S70) (fs : List S35) (h m : Nat) (hm : h < m) : ∃ j r, blk l fs h m = ((j : Nat) : Int) :: r ∧ j ≤ h ∧ skN l fs h j = true ∧ (isHd l fs h = true ↔ j = h) := by
  by_cases hh : isHd l fs h = true
  · obtain ⟨r, hr⟩ := blk_first l fs h hh (m - (h + 1))
    rw [show h + 1 + (m - (h + 1)) = m by omega] at hr
    exact ⟨h, r, hr, Nat.le_refl _, sk_refl l fs h, by simp [hh]⟩
  · have hne : ¬ ∀ j, j < h → skN l fs h j = false := fun g => hh ((isHd_iff l fs h).2 g)
    have hpre : blk l fs h m = blk l fs h h ++ (((List.range m).drop h).filter (skN l fs h)).map (fun (j : Nat) => (j : Int)) := by
      unfold blk
      rw [← List.map_append, ← List.filter_append]
      congr 2
      have : List.range h = (List.range m).take h := by
        rw [List.take_range, Nat.min_eq_left (by omega)]
      rw [this, List.take_append_drop]
    cases hb : blk l fs h h with
    | nil =>
      exfalso
      apply hne
      intro j hj
      cases hs : skN l fs h j with
      | false => rfl
      | true =>
        have : (j : Int) ∈ blk l fs h h := by
          unfold blk
          exact List.mem_map.2 ⟨j, List.mem_filter.2 ⟨by simpa using hj, hs⟩, rfl⟩
        rw [hb] at this
        cases this
    | cons x r =>
      obtain ⟨j, rfl, hj, hs⟩ := mem_blk l fs h h x (by rw [hb]; exact List.mem_cons_self)
      rw [hb] at hpre
      exact ⟨j, _, hpre, by omega, hs, by simp only [hh, Bool.false_eq_true, false_iff]; omega⟩
def heads (l : List S70) (fs : List S35) (m : Nat) : List Nat := (List.range m).filter (isHd l fs)
theorem heads_succ (l : List S70) (fs : List S35) (m : Nat) : heads l fs (m + 1) = heads l fs m ++ if isHd l fs m = true then [m] else [] := by
  unfold heads
  rw [List.range_succ, List.filter_append]
  congr 1
  by_cases e : isHd l fs m = true
  · rw [if_pos e, List.filter_cons_of_pos e]; rfl
  · rw [if_neg e, List.filter_cons_of_neg e]; rfl
theorem mem_heads (l : List S70) (fs : List S35) (m h : Nat) : h ∈ heads l fs m ↔ h < m ∧ isHd l fs h = true := by
  unfold heads
  rw [List.mem_filter, List.mem_range]
/-- The blocks of the facts below m: for each first fact below m, the facts below t with its key. -/
def bls (l : List S70) (fs : List S35) (m t : Nat) : List (List Int) := (heads l fs m).map fun h => blk l fs h t
theorem bls_len (l : List S70) (fs : List S35) (m t : Nat) : (bls l fs m t).length ≤ m := by
  unfold bls heads
  rw [List.length_map]
  exact Nat.le_trans (List.length_filter_le _ _) (by simp)
theorem heads_last (l : List S70) (fs : List S35) (hv : vDb l fs = true) : ∀ (m : Nat), m + 1 ≤ fs.length → ∃ hs h, heads l fs (m + 1) = hs ++ [h] ∧ h ≤ m ∧ isHd l fs h = true ∧ skN l fs h m = true ∧ ∀ g ∈ hs, g < h
  | 0, _ => ⟨[], 0, by rw [heads_succ, if_pos (by rfl)]; rfl, Nat.le_refl _, rfl, sk_refl l fs 0, fun g hg => by cases hg⟩
  | m + 1, hm => by
    obtain ⟨hs, h, e1, e2, e3, e4, e5⟩ := heads_last l fs hv m (by omega)
    rw [heads_succ]
    by_cases e : isHd l fs (m + 1) = true
    · rw [if_pos e]
      refine ⟨heads l fs (m + 1), m + 1, rfl, Nat.le_refl _, e, sk_refl l fs _, fun g hg => ?_⟩
      exact ((mem_heads l fs _ _).1 hg).1
    · rw [if_neg e, List.append_nil]
      refine ⟨hs, h, e1, by omega, e3, ?_, e5⟩
      have : ∃ j, j < m + 1 ∧ skN l fs (m + 1) j = true := by
        apply Classical.byContradiction
        intro hn
        apply e
        rw [isHd_iff]
        intro j hj
        cases hs : skN l fs (m + 1) j with
        | false => rfl
        | true => exact absurd ⟨j, hj, hs⟩ hn
      obtain ⟨j, hj, hs⟩ := this
      exact sk_trans l fs e4 (sk_step l fs hv hj (by omega) (sk_symm l fs hs))
theorem bls_step_new (l : List S70) (fs : List S35) (m : Nat) (hh : isHd l fs m = true) : bls l fs (m + 1) (m + 1) = bls l fs m m ++ [[(m : Int)]] := by
  unfold bls
  rw [heads_succ, if_pos hh, List.map_append]
  congr 1
  · apply List.map_congr_left
    intro h hm
    have hlt := ((mem_heads l fs _ _).1 hm).1
    rw [blk_succ, if_neg, List.append_nil]
    intro e
    have := (isHd_iff l fs m).1 hh h hlt
    rw [sk_symm l fs e] at this
    cases this
  · obtain ⟨r, hr⟩ := blk_first l fs m hh 0
    rw [Nat.add_zero] at hr
    show [blk l fs m (m + 1)] = _
    rw [blk_succ, if_pos (sk_refl l fs m)]
    unfold blk
    rw [filter_none _ _ ((isHd_iff l fs m).1 hh)]
    rfl
theorem bls_step_old (l : List S70) (fs : List S35) (m : Nat) (hs : List Nat) (h : Nat) (hh : heads l fs m = hs ++ [h]) (hm : isHd l fs m = false) (h1 : isHd l fs h = true) (hk : skN l fs h m = true) (hlt : ∀ g ∈ hs, g < h) :
    bls l fs (m + 1) (m + 1) = (hs.map fun g => blk l fs g m) ++ [blk l fs h m ++ [(m : Int)]] := by
  unfold bls
  rw [heads_succ, if_neg (by rw [hm]; decide), List.append_nil, hh, List.map_append]
  congr 1
  · apply List.map_congr_left
    intro g hg
    rw [blk_succ, if_neg, List.append_nil]
    intro e
    have := (isHd_iff l fs h).1 h1 g (hlt g hg)
    rw [sk_trans l fs hk (sk_symm l fs e)] at this
    cases this
  · show [blk l fs h (m + 1)] = _
    rw [blk_succ, if_pos hk]

/-! ### the program's blocks -/
theorem getD_mid {α : Type} (xs : List α) (y d : α) : (xs ++ [y]).getD xs.length d = y := by
  rw [List.getD_eq_getElem?_getD, List.getElem?_append_right (Nat.le_refl _), Nat.sub_self]
  rfl
theorem set_mid {α : Type} (xs : List α) (y z : α) : (xs ++ [y]).set xs.length z = xs ++ [z] := by
  rw [List.set_append_right _ _ (Nat.le_refl _), Nat.sub_self]
  rfl
theorem blsIl (l : List S70) (fs : List S35) (hv : vDb l fs = true) (d : Nat) : ∀ (i : Nat), i + d = fs.length → ∀ k, d < k → impl_blocks.l0 k (bls l fs i i) fs fs.length i l fs = some (bls l fs fs.length fs.length) := by
  obtain ⟨q1, q2, q3, q4⟩ := vDb_parts l fs hv
  induction d with
  | zero =>
    intro i hd k hk
    obtain ⟨k, rfl, hk⟩ := fuel hk
    rw [impl_blocks.l0, if_neg (by omega), show i = fs.length by omega]
  | succ d ih =>
    intro i hd k hk
    obtain ⟨k, rfl, hk⟩ := fuel hk
    have hn := bls_len l fs i i
    have e1 : wrap64 ((i : Int) + 1) = ((i + 1 : Nat) : Int) := by rw [w64 (by omega) (by omega)]; omega
    rw [impl_blocks.l0, if_pos (by omega), if_pos (by omega), if_pos (by omega), e1]
    cases i with
    | zero =>
      have e0 : bls l fs 0 0 = [] := rfl
      rw [e0, show wrap64 ((([] : List (List Int)).length : Int) - 1) = -1 by rw [w64 (by simp) (by simp)]; simp, if_neg (by decide), if_pos (by simp)]
      have := bls_step_new l fs 0 rfl
      rw [e0] at this
      rw [show ([] : List (List Int)) ++ [[((0 : Nat) : Int)]] = bls l fs (0 + 1) (0 + 1) from this.symm]
      exact ih (0 + 1) (by omega) k (by omega)
    | succ m =>
      obtain ⟨hs, h, g1, g2, g3, g4, g5⟩ := heads_last l fs hv m (by omega)
      have hx : bls l fs (m + 1) (m + 1) = (hs.map fun g => blk l fs g (m + 1)) ++ [blk l fs h (m + 1)] := by
        unfold bls
        rw [g1, List.map_append]
        rfl
      have hlen : (bls l fs (m + 1) (m + 1)).length = hs.length + 1 := by rw [hx]; simp
      have hml : (hs.map fun g => blk l fs g (m + 1)).length = hs.length := by simp
      have ew : wrap64 (((bls l fs (m + 1) (m + 1)).length : Int) - 1) = (hs.length : Int) := by rw [hlen, w64 (by omega) (by omega)]; omega
      obtain ⟨r, hr⟩ := blk_first l fs h g3 (m - h)
      rw [show h + 1 + (m - h) = m + 1 by omega] at hr
      have hb : rd_L4 (bls l fs (m + 1) (m + 1)) (hs.length : Int) = blk l fs h (m + 1) := by
        unfold rd_L4
        rw [Int.toNat_natCast, hx]
        have := getD_mid (hs.map fun g => blk l fs g (m + 1)) (blk l fs h (m + 1)) []
        rw [hml] at this
        exact this
      have hbl := blk_len l fs h (m + 1)
      rw [ew, if_pos (by omega), if_pos (by omega), if_pos (by rw [hlen]; omega), hb, if_pos (by rw [hr]; simp only [List.length_cons]; omega), show rd (blk l fs h (m + 1)) 0 = (h : Int) by rw [hr]; rfl, if_pos (by omega), if_pos (by omega)]
      unfold rd_T35
      rw [Int.toNat_natCast, Int.toNat_natCast, sameI l q1 _ _ _ _ (q3 h (by omega)) (q3 (m + 1) (by omega)), Option.bind_some]
      by_cases e : skN l fs h (m + 1) = true
      · have hm : isHd l fs (m + 1) = false := by
          cases hq : isHd l fs (m + 1) with
          | false => rfl
          | true =>
            have := (isHd_iff l fs (m + 1)).1 hq h (by omega)
            rw [sk_symm l fs e] at this
            cases this
        have hst := bls_step_old l fs (m + 1) hs h g1 hm g3 e g5
        have he := e
        unfold skN at he
        rw [if_pos he, if_pos (by omega), Int.toNat_natCast, hx]
        have := set_mid (hs.map fun g => blk l fs g (m + 1)) (blk l fs h (m + 1)) (blk l fs h (m + 1) ++ [((m + 1 : Nat) : Int)])
        rw [hml] at this
        rw [this, ← hst]
        exact ih (m + 1 + 1) (by omega) k (by omega)
      · have hm : isHd l fs (m + 1) = true := by
          apply Classical.byContradiction
          intro hq
          have : ∃ j, j < m + 1 ∧ skN l fs (m + 1) j = true := by
            apply Classical.byContradiction
            intro hn
            apply hq
            rw [isHd_iff]
            intro j hj
            cases hs : skN l fs (m + 1) j with
            | false => rfl
            | true => exact absurd ⟨j, hj, hs⟩ hn
          obtain ⟨j, hj, hs⟩ := this
          exact e (sk_trans l fs g4 (sk_step l fs hv hj (by omega) (sk_symm l fs hs)))
        have hst := bls_step_new l fs (m + 1) hm
        have he := e
        unfold skN at he
        rw [if_neg he, if_pos (by omega), ← hst]
        exact ih (m + 1 + 1) (by omega) k (by omega)
theorem blsI (l : List S70) (fs : List S35) (hv : vDb l fs = true) (k : Nat) (hk : 100 < k) : impl_blocks.f k l fs = some (bls l fs fs.length fs.length) := by
  unfold impl_blocks.f
  obtain ⟨q1, q2, q3, q4⟩ := vDb_parts l fs hv
  exact blsIl l fs hv fs.length 0 (by omega) k (by omega)

theorem rdD (xs : List Int) (i : Nat) : rd xs (i : Int) = xs.getD i 0 := by unfold rd; rw [Int.toNat_natCast]

theorem rdL_lt (bs : List (List Int)) (i : Nat) (h : i < bs.length) : rd_L4 bs (i : Int) = bs[i] := by
  unfold rd_L4
  rw [Int.toNat_natCast, getD_lt bs _ i h]

/-! ### the implementation's blocks, as asked from outside -/
theorem BlsI (l : List S70) (hl : l.length ≤ 1048576) (fs : List S35) (hf : fs.length ≤ 1048576) (hg : ∀ y ∈ fs, y.f1.length ≤ 1048576) (k : Nat) (hk : 8000100 < k) :
    impl_Blocks.f k l fs = some (if vDb l fs = true then bls l fs fs.length fs.length else []) := by
  unfold impl_Blocks.f
  rw [vDI l hl fs hf hg k (by omega), Option.bind_some]
  by_cases h : vDb l fs = true
  · rw [if_pos h, if_pos h, blsI l fs h k (by omega), Option.bind_some]
  · rw [if_neg h, if_neg h]
theorem BlsN (l : List S70) (fs : List S35) (hf : fs.length ≤ 1048576) : (if vDb l fs = true then bls l fs fs.length fs.length else []).length ≤ 1048576 := by
  have hn := bls_len l fs fs.length fs.length
  by_cases h : vDb l fs = true
  · rw [if_pos h]; omega
  · rw [if_neg h]; exact Nat.zero_le _

theorem ex_head (l : List S70) (fs : List S35) (j : Nat) : ∃ h, h ≤ j ∧ isHd l fs h = true ∧ skN l fs h j = true := by
  induction j using Nat.strongRecOn with
  | ind j ih =>
    by_cases hj : isHd l fs j = true
    · exact ⟨j, Nat.le_refl _, hj, sk_refl l fs j⟩
    · have : ¬ ∀ i, i < j → skN l fs j i = false := fun h => hj ((isHd_iff l fs j).2 h)
      have : ∃ i, i < j ∧ skN l fs j i = true := by
        refine Classical.byContradiction fun hn => this fun i hi => ?_
        refine Bool.eq_false_iff.2 fun e => hn ⟨i, hi, e⟩
      obtain ⟨i, hi, he⟩ := this
      obtain ⟨h, h1, h2, h3⟩ := ih i hi
      exact ⟨h, by omega, h2, sk_trans l fs h3 (sk_symm l fs he)⟩
theorem blk_eq (l : List S70) (fs : List S35) (h j m : Nat) (hk : skN l fs h j = true) : blk l fs h m = blk l fs j m := by
  unfold blk
  congr 1
  apply List.filter_congr
  intro i _
  apply Bool.eq_iff_iff.2
  exact ⟨fun e => sk_trans l fs (sk_symm l fs hk) e, fun e => sk_trans l fs hk e⟩
theorem blk_mem (l : List S70) (fs : List S35) (h j m : Nat) (hj : j < m) (hk : skN l fs h j = true) : (j : Int) ∈ blk l fs h m := by
  unfold blk
  exact List.mem_map.2 ⟨j, List.mem_filter.2 ⟨List.mem_range.2 hj, hk⟩, rfl⟩
theorem blk_self (l : List S70) (fs : List S35) (h m : Nat) (x : Int) (hx : x ∈ blk l fs h m) : blk l fs x.toNat m = blk l fs h m ∧ 0 ≤ x ∧ x < m := by
  obtain ⟨j, rfl, hj, hk⟩ := mem_blk l fs h m x hx
  exact ⟨by rw [Int.toNat_natCast]; exact (blk_eq l fs h j m hk).symm, by omega, by omega⟩
theorem bls_mem_len (l : List S70) (fs : List S35) (m t : Nat) (b : List Int) (hb : b ∈ bls l fs m t) : b.length ≤ t := by
  obtain ⟨g, _, rfl⟩ := List.mem_map.1 hb
  exact blk_len l fs g t

/-! ### the block of a fact, looked up in the list of blocks -/
theorem ixCl (b : List Int) (x : Int) (hb : b.length ≤ 1048576) (d : Nat) : ∀ (j : Nat), j + d = b.length → ∀ k, d < k → ∃ t, slices_Index_int_int.l0 k b x b.length j = some t ∧ (0 ≤ t ↔ x ∈ b.drop j) := by
  induction d with
  | zero =>
    intro j hd k hk
    obtain ⟨k, rfl, hk⟩ := fuel hk
    refine ⟨-1, ?_, ?_⟩
    · rw [slices_Index_int_int.l0, if_neg (by omega)]
    · rw [List.drop_eq_nil_of_le (by omega)]; simp
  | succ d ih =>
    intro j hd k hk
    obtain ⟨k, rfl, hk⟩ := fuel hk
    have hr : rd b (j : Int) = b[j] := by unfold rd; rw [Int.toNat_natCast, getD_lt _ _ j (by omega)]
    rw [slices_Index_int_int.l0, if_pos (by omega), if_pos (by omega), if_pos (by omega), hr, List.drop_eq_getElem_cons (by omega)]
    by_cases h : x = b[j]
    · rw [if_pos h]
      exact ⟨(j : Int), rfl, by rw [← h]; simp⟩
    · rw [if_neg h, show wrap64 ((j : Int) + 1) = ((j + 1 : Nat) : Int) by rw [w64 (by omega) (by omega)]; omega]
      obtain ⟨t, h1, h2⟩ := ih (j + 1) (by omega) k (by omega)
      exact ⟨t, h1, by rw [h2, List.mem_cons]; simp [h]⟩
theorem ctI (b : List Int) (x : Int) (hb : b.length ≤ 1048576) (k : Nat) (hk : b.length < k) : slices_Contains_int_int.f k b x = some (decide (x ∈ b)) := by
  unfold slices_Contains_int_int.f slices_Index_int_int.f
  obtain ⟨t, h1, h2⟩ := ixCl b x hb b.length 0 (by omega) k hk
  rw [show (0 : Int) = ((0 : Nat) : Int) from rfl, h1, Option.bind_some]
  rw [List.drop_zero] at h2
  congr 1
  exact decide_eq_decide.2 h2

theorem boIl (a : Int) (bs : List (List Int)) (hb : bs.length ≤ 1048576) (hg : ∀ b ∈ bs, b.length ≤ 1048576) (d : Nat) : ∀ (i : Nat), i + d = bs.length → ∀ k, d + 1048577 < k → impl_BlockOf.l0 k a bs bs.length i = some (((bs.drop i).find? fun b => decide (a ∈ b)).getD []) := by
  induction d with
  | zero =>
    intro i hd k hk
    obtain ⟨k, rfl, hk⟩ := fuel hk
    rw [impl_BlockOf.l0, if_neg (by omega), List.drop_eq_nil_of_le (by omega)]
    rfl
  | succ d ih =>
    intro i hd k hk
    obtain ⟨k, rfl, hk⟩ := fuel hk
    have hm : bs[i].length ≤ 1048576 := hg _ (List.getElem_mem _)
    rw [impl_BlockOf.l0, if_pos (by omega), if_pos (by omega), if_pos (by omega), rdL_lt bs i (by omega), ctI _ a hm k (by omega), Option.bind_some, List.drop_eq_getElem_cons (by omega), List.find?_cons]
    by_cases h : a ∈ bs[i]
    · rw [decide_eq_true h, if_pos rfl]
      rfl
    · rw [decide_eq_false h, if_neg (by decide), show wrap64 ((i : Int) + 1) = ((i + 1 : Nat) : Int) by rw [w64 (by omega) (by omega)]; omega]
      exact ih (i + 1) (by omega) k (by omega)
theorem bls_find (l : List S70) (fs : List S35) (a : Int) (m : Nat) : ((bls l fs m m).find? fun b => decide (a ∈ b)).getD [] = if 0 ≤ a ∧ a < (m : Int) then blk l fs a.toNat m else [] := by
  by_cases h : 0 ≤ a ∧ a < (m : Int)
  · rw [if_pos h]
    cases hf : (bls l fs m m).find? fun b => decide (a ∈ b) with
    | none =>
      obtain ⟨g, g1, g2, g3⟩ := ex_head l fs a.toNat
      have hm : blk l fs g m ∈ bls l fs m m := List.mem_map.2 ⟨g, (mem_heads l fs m g).2 ⟨by omega, g2⟩, rfl⟩
      have := List.find?_eq_none.1 hf _ hm
      have hq := blk_mem l fs g a.toNat m (by omega) g3
      rw [show ((a.toNat : Nat) : Int) = a by omega] at hq
      exact absurd (decide_eq_true hq) this
    | some b =>
      have h1 := List.mem_of_find?_eq_some hf
      have h2 := of_decide_eq_true (show decide (a ∈ b) = true from @List.find?_some _ (fun b => decide (a ∈ b)) _ _ hf)
      obtain ⟨g, _, rfl⟩ := List.mem_map.1 h1
      exact (blk_self l fs g m a h2).1.symm
  · rw [if_neg h]
    cases hf : (bls l fs m m).find? fun b => decide (a ∈ b) with
    | none => rfl
    | some b =>
      have h1 := List.mem_of_find?_eq_some hf
      have h2 := of_decide_eq_true (show decide (a ∈ b) = true from @List.find?_some _ (fun b => decide (a ∈ b)) _ _ hf)
      obtain ⟨g, _, rfl⟩ := List.mem_map.1 h1
      exact absurd (blk_self l fs g m a h2).2 h
theorem boI (l : List S70) (hl : l.length ≤ 1048576) (fs : List S35) (hf : fs.length ≤ 1048576) (hg : ∀ y ∈ fs, y.f1.length ≤ 1048576) (a : Int) (k : Nat) (hk : 8000100 < k) :
    impl_BlockOf.f k l fs a = some (if vDb l fs = true ∧ 0 ≤ a ∧ a < (fs.length : Int) then blk l fs a.toNat fs.length else []) := by
  unfold impl_BlockOf.f
  rw [BlsI l hl fs hf hg k hk, Option.bind_some]
  have hn := BlsN l fs hf
  by_cases h : vDb l fs = true
  · rw [if_pos h] at hn ⊢
    have := boIl a (bls l fs fs.length fs.length) hn (fun b hb => by have := bls_mem_len l fs _ _ b hb; omega) _ 0 (Nat.zero_add _) k (by omega)
    rw [show (0 : Int) = ((0 : Nat) : Int) from rfl, this, List.drop_zero, bls_find]
    simp [h]
  · rw [if_neg h, if_neg (fun e => h e.1)]
    have := boIl a [] (by simp) (by simp) 0 0 (by simp) k (by omega)
    exact this

/-! ### the facts that conflict -/
def big (l : List S70) (fs : List S35) (i : Nat) : Bool := decide (((blk l fs i fs.length).length : Int) > 1)
def cfs (l : List S70) (fs : List S35) (m : Nat) : List Int := ((List.range m).filter (big l fs)).map (fun (j : Nat) => (j : Int))
theorem cfs_succ (l : List S70) (fs : List S35) (m : Nat) : cfs l fs (m + 1) = cfs l fs m ++ if big l fs m = true then [(m : Int)] else [] := by
  unfold cfs
  rw [List.range_succ, List.filter_append, List.map_append]
  congr 1
  by_cases h : big l fs m = true
  · rw [if_pos h, List.filter_cons_of_pos h]; rfl
  · rw [if_neg h, List.filter_cons_of_neg h]; rfl
theorem cfs_len (l : List S70) (fs : List S35) (m : Nat) : (cfs l fs m).length ≤ m := by
  unfold cfs
  rw [List.length_map]
  exact Nat.le_trans (List.length_filter_le _ _) (by rw [List.length_range]; exact Nat.le_refl _)
theorem cfIl (bs : List (List Int)) (hb : bs.length ≤ 1048576) (d : Nat) : ∀ (i : Nat) (xs : List Int), i + d = bs.length → xs.length + (bs.drop i).flatten.length ≤ 1048576 → ∀ k, d < k → impl_ConflictingFacts.l0 k xs bs bs.length i = some (xs ++ ((bs.drop i).filter fun b => decide ((b.length : Int) > 1)).flatten) := by
  induction d with
  | zero =>
    intro i xs hd _ k hk
    obtain ⟨k, rfl, hk⟩ := fuel hk
    rw [impl_ConflictingFacts.l0, if_neg (by omega), List.drop_eq_nil_of_le (by omega)]
    simp
  | succ d ih =>
    intro i xs hd hx k hk
    obtain ⟨k, rfl, hk⟩ := fuel hk
    rw [List.drop_eq_getElem_cons (by omega), List.flatten_cons, List.length_append] at hx
    rw [impl_ConflictingFacts.l0, if_pos (by omega), if_pos (by omega), if_pos (by omega), rdL_lt bs i (by omega), show wrap64 ((i : Int) + 1) = ((i + 1 : Nat) : Int) by rw [w64 (by omega) (by omega)]; omega, List.drop_eq_getElem_cons (by omega)]
    by_cases h : (bs[i].length : Int) > 1
    · rw [if_pos h, if_pos (by omega), ih (i + 1) _ (by omega) (by rw [List.length_append]; omega) k (by omega), List.filter_cons_of_pos (by exact decide_eq_true h), List.flatten_cons, List.append_assoc]
    · rw [if_neg h, ih (i + 1) _ (by omega) (by omega) k (by omega), List.filter_cons_of_neg (by rw [decide_eq_false h]; decide)]
theorem filt_flat (p : Int → Bool) (q : List Int → Bool) : ∀ (bs : List (List Int)), (∀ b ∈ bs, ∀ x ∈ b, p x = q b) → bs.flatten.filter p = (bs.filter q).flatten
  | [], _ => rfl
  | b :: bs, h => by
    have ih := filt_flat p q bs fun c hc => h c (List.mem_cons_of_mem _ hc)
    rw [List.flatten_cons, List.filter_append, ih]
    by_cases hb : q b = true
    · rw [List.filter_cons_of_pos hb, List.flatten_cons]
      congr 1
      exact List.filter_eq_self.2 fun x hx => by rw [h b (List.mem_cons_self ..) x hx]; exact hb
    · rw [List.filter_cons_of_neg hb]
      have : b.filter p = [] := List.filter_eq_nil_iff.2 fun x hx => by rw [h b (List.mem_cons_self ..) x hx]; exact hb
      rw [this, List.nil_append]
theorem bls_flat (l : List S70) (fs : List S35) (hv : vDb l fs = true) : ∀ (m : Nat), m ≤ fs.length → (bls l fs m m).flatten = (List.range m).map (fun (j : Nat) => (j : Int))
  | 0, _ => rfl
  | m + 1, hm => by
    have ih := bls_flat l fs hv m (by omega)
    rw [List.range_succ, List.map_append, ← ih]
    by_cases h : isHd l fs m = true
    · rw [bls_step_new l fs m h, List.flatten_append]; simp
    · have hf : isHd l fs m = false := Bool.eq_false_iff.2 h
      obtain ⟨m', rfl⟩ : ∃ m', m = m' + 1 := by
        cases m with
        | zero => exact absurd rfl h
        | succ m' => exact ⟨m', rfl⟩
      obtain ⟨hs, g, e1, e2, e3, e4, e5⟩ := heads_last l fs hv m' (by omega)
      obtain ⟨j, j1, j2, j3⟩ := ex_head l fs (m' + 1)
      have hj : j < m' + 1 := by
        rcases Nat.lt_or_ge j (m' + 1) with c | c
        · exact c
        · rw [show j = m' + 1 by omega] at j2; exact absurd j2 h
      have hk := sk_trans l fs e4 (sk_step l fs hv hj (by omega) j3)
      rw [bls_step_old l fs (m' + 1) hs g e1 hf e3 hk e5, List.flatten_append]
      unfold bls
      rw [e1, List.map_append, List.flatten_append]
      simp

theorem cfs_flat (l : List S70) (fs : List S35) (hv : vDb l fs = true) : ((bls l fs fs.length fs.length).filter fun b => decide ((b.length : Int) > 1)).flatten = cfs l fs fs.length := by
  rw [← filt_flat (fun x => big l fs x.toNat) _ _ ?_, bls_flat l fs hv _ (Nat.le_refl _)]
  · unfold cfs
    rw [List.filter_map]
    congr 1
  · intro b hb x hx
    obtain ⟨g, _, rfl⟩ := List.mem_map.1 hb
    unfold big
    rw [(blk_self l fs g _ x hx).1]
theorem cfI (l : List S70) (hl : l.length ≤ 1048576) (fs : List S35) (hf : fs.length ≤ 1048576) (hg : ∀ y ∈ fs, y.f1.length ≤ 1048576) (k : Nat) (hk : 8000200 < k) :
    impl_ConflictingFacts.f k l fs = some (if vDb l fs = true then cfs l fs fs.length else []) := by
  unfold impl_ConflictingFacts.f
  rw [BlsI l hl fs hf hg k (by omega), Option.bind_some]
  have hn := BlsN l fs hf
  by_cases h : vDb l fs = true
  · rw [if_pos h] at hn ⊢
    have hl := congrArg List.length (bls_flat l fs h _ (Nat.le_refl _))
    rw [List.length_map, List.length_range] at hl
    have := cfIl (bls l fs fs.length fs.length) hn _ 0 [] (Nat.zero_add _) (by rw [List.drop_zero, hl]; simpa using hf) k (by omega)
    rw [show (0 : Int) = ((0 : Nat) : Int) from rfl, this, List.drop_zero, cfs_flat l fs h, if_pos h, List.nil_append]
  · rw [if_neg h, if_neg h]
    exact cfIl [] (by simp) 0 0 [] (by simp) (by simp) k (by omega)

def szB (bs : List (List Int)) : List Int := bs.map fun b => (b.length : Int)

/-! ### the implementation's list of sizes -/
theorem sizesIl (bs : List (List Int)) (hb : bs.length ≤ 1048576) (d : Nat) : ∀ (i : Nat), i + d = bs.length → ∀ k, d < k → impl_BlockSizes.l0 k (szB (bs.take i)) bs bs.length i = some (szB bs) := by
  induction d with
  | zero =>
    intro i hd k hk
    obtain ⟨k, rfl, hk⟩ := fuel hk
    rw [impl_BlockSizes.l0, if_neg (by omega), List.take_of_length_le (by omega)]
  | succ d ih =>
    intro i hd k hk
    obtain ⟨k, rfl, hk⟩ := fuel hk
    rw [impl_BlockSizes.l0, if_pos (by omega), if_pos (by omega), if_pos (by omega), if_pos (by unfold szB; rw [List.length_map, List.length_take]; omega), show wrap64 ((i : Int) + 1) = ((i + 1 : Nat) : Int) by rw [w64 (by omega) (by omega)]; omega, rdL_lt bs i (by omega)]
    have : szB (bs.take i) ++ [((bs[i].length : Nat) : Int)] = szB (bs.take (i + 1)) := by
      unfold szB
      rw [List.take_succ_eq_append_getElem (by omega), List.map_append]
      rfl
    rw [this]
    exact ih (i + 1) (by omega) k (by omega)

theorem consI (l : List S70) (hl : l.length ≤ 1048576) (fs : List S35) (hf : fs.length ≤ 1048576) (hg : ∀ y ∈ fs, y.f1.length ≤ 1048576) (k : Nat) (hk : 8000100 < k) :
    impl_IsConsistent.f k l fs = some (vDb l fs && ((bls l fs fs.length fs.length).length : Int) == (fs.length : Int)) := by
  unfold impl_IsConsistent.f
  rw [vDI l hl fs hf hg k (by omega), Option.bind_some]
  by_cases h : vDb l fs = true
  · rw [if_pos h, blsI l fs h k (by omega), Option.bind_some, h, Bool.true_and]
  · rw [if_neg h, Bool.eq_false_iff.2 h, Bool.false_and]

def factIs (b : Int) (lb : List Int) (x : S35) : Bool := cmpF x.f0 x.f1 b lb == 0

/-! ### the place of a fact -/
theorem fidxSl (l : List S70) (fs : List S35) (hf : fs.length ≤ 1048576) (hg : ∀ y ∈ fs, y.f1.length ≤ 1048576) (a : Int) (vs : List Int) (hv : vs.length ≤ 1048576) (d : Nat) : ∀ (i : Nat), i + d = fs.length → ∀ k, d + 2097160 < k → spec_FactIndex.l0 k i l fs a vs = some (idxW (factIs a vs) (fs.drop i) i) := by
  induction d with
  | zero =>
    intro i hd k hk
    obtain ⟨k, rfl, hk⟩ := fuel hk
    rw [spec_FactIndex.l0, if_neg (by omega), List.drop_of_length_le (by omega)]
    rfl
  | succ d ih =>
    intro i hd k hk
    obtain ⟨k, rfl, hk⟩ := fuel hk
    have hy := hg _ (getD_mem fs z35 i (by omega))
    have e1 : wrap64 ((i : Int) + 1) = ((i + 1 : Nat) : Int) := by rw [w64 (by omega) (by omega)]; omega
    rw [spec_FactIndex.l0, if_pos (by omega), if_pos (by omega), e1]
    unfold rd_T35
    rw [Int.toNat_natCast, cmpFS _ _ _ _ hy hv k (by omega), Option.bind_some, List.drop_eq_getElem_cons (by omega), idxW, getD_lt fs _ i (by omega)]
    unfold factIs
    by_cases h : cmpF fs[i].f0 fs[i].f1 a vs = 0
    · rw [if_pos h, if_pos (by simpa using h)]
    · rw [if_neg h, if_neg (by simpa using h), ih (i + 1) (by omega) k (by omega)]
      unfold factIs
      rfl
theorem fidxS (l : List S70) (fs : List S35) (hf : fs.length ≤ 1048576) (hg : ∀ y ∈ fs, y.f1.length ≤ 1048576) (a : Int) (vs : List Int) (hv : vs.length ≤ 1048576) (k : Nat) (hk : 4000000 < k) : spec_FactIndex.f k l fs a vs = some (idxW (factIs a vs) fs 0) := by
  unfold spec_FactIndex.f
  exact fidxSl l fs hf hg a vs hv fs.length 0 (by omega) k (by omega)

theorem hasS (l : List S70) (hl : l.length ≤ 1048576) (fs : List S35) (hf : fs.length ≤ 1048576) (hg : ∀ y ∈ fs, y.f1.length ≤ 1048576) (a : Int) (vs : List Int) (hv : vs.length ≤ 1048576) (k : Nat) (hk : 8000000 < k) : spec_ContainsFact.f k l fs a vs = some (vDb l fs && decide (idxW (factIs a vs) fs 0 ≥ 0)) := by
  unfold spec_ContainsFact.f
  rw [vDS l hl fs hf hg k (by omega), Option.bind_some]
  by_cases h : vDb l fs = true
  · rw [if_pos h, fidxS l fs hf hg a vs hv k (by omega), Option.bind_some, h, Bool.true_and]
  · rw [if_neg h, Bool.eq_false_iff.2 h, Bool.false_and]

/-! ### a fact inserted: what the reference comes to -/
def insAt (fs : List S35) (a : Int) (vs : List Int) : Nat → Nat → Nat
  | 0, i => i
  | d + 1, i => if cmpF (fs.getD i z35).f0 (fs.getD i z35).f1 a vs < 0 then insAt fs a vs d (i + 1) else i
theorem insAt_le (fs : List S35) (a : Int) (vs : List Int) : ∀ (d i : Nat), i ≤ insAt fs a vs d i ∧ insAt fs a vs d i ≤ i + d
  | 0, i => ⟨Nat.le_refl _, Nat.le_refl _⟩
  | d + 1, i => by
    rw [insAt]
    have := insAt_le fs a vs d (i + 1)
    split <;> omega
def insF (fs : List S35) (a : Int) (vs : List Int) : List S35 := fs.take (insAt fs a vs fs.length 0) ++ ⟨a, vs⟩ :: fs.drop (insAt fs a vs fs.length 0)
/-- The fact may be inserted. -/
def mayIns (l : List S70) (fs : List S35) (a : Int) (vs : List Int) : Bool := vDb l fs && fits l a vs && decide (idxW (factIs a vs) fs 0 < 0) && decide (fs.length ≠ 14)
theorem insF_len (fs : List S35) (a : Int) (vs : List Int) : (insF fs a vs).length = fs.length + 1 := by
  have := insAt_le fs a vs fs.length 0
  unfold insF
  simp only [List.length_append, List.length_take, List.length_drop, List.length_cons]
  omega
theorem insF_mem (fs : List S35) (a : Int) (vs : List Int) (y : S35) : y ∈ insF fs a vs ↔ y ∈ fs ∨ y = ⟨a, vs⟩ := by
  unfold insF
  rw [List.mem_append, List.mem_cons]
  constructor
  · rintro (h | h | h)
    · exact .inl (List.mem_of_mem_take h)
    · exact .inr h
    · exact .inl (List.mem_of_mem_drop h)
  · rintro (h | h)
    · rw [← List.take_append_drop (insAt fs a vs fs.length 0) fs, List.mem_append] at h
      rcases h with h | h
      · exact .inl h
      · exact .inr (.inr h)
    · exact .inr (.inl h)
theorem copySl (l l2 : List S70) (fs : List S35) (hf : fs.length ≤ 1048576) (hg : ∀ y ∈ fs, y.f1.length ≤ 1048576) (d : Nat) : ∀ (i : Nat), i + d = fs.length → ∀ k, d < k → spec_l4Copy.l0 k i l fs l2 (fs.take i) = some (l2, fs) := by
  induction d with
  | zero =>
    intro i hd k hk
    obtain ⟨k, rfl, hk⟩ := fuel hk
    rw [spec_l4Copy.l0, if_neg (by omega), List.take_of_length_le (by omega)]
  | succ d ih =>
    intro i hd k hk
    obtain ⟨k, rfl, hk⟩ := fuel hk
    have hy := hg _ (getD_mem fs z35 i (by omega))
    rw [spec_l4Copy.l0, if_pos (by omega), if_pos (by omega), Option.bind_some]
    unfold rd_T35
    rw [Int.toNat_natCast, if_pos (by simp only [List.length_nil]; omega), if_pos (by rw [List.length_take]; omega), List.nil_append, show wrap64 ((i : Int) + 1) = ((i + 1 : Nat) : Int) by rw [w64 (by omega) (by omega)]; omega]
    rw [show fs.take i ++ [(⟨(fs.getD i z35).f0, (fs.getD i z35).f1⟩ : S35)] = fs.take (i + 1) by rw [List.take_succ_eq_append_getElem (by omega), getD_lt fs _ i (by omega)]]
    exact ih (i + 1) (by omega) k (by omega)
theorem copyS (l : List S70) (hl : l.length ≤ 1048576) (fs : List S35) (hf : fs.length ≤ 1048576) (hg : ∀ y ∈ fs, y.f1.length ≤ 1048576) (k : Nat) (hk : fs.length < k) : spec_l4Copy.f k l fs = some (l, fs) := by
  unfold spec_l4Copy.f
  rw [Option.bind_some, if_pos (by simp only [List.length_nil]; omega), List.nil_append]
  exact copySl l l fs hf hg fs.length 0 (by omega) k hk
theorem insSl (l : List S70) (fs : List S35) (hf : fs.length ≤ 1048576) (hg : ∀ y ∈ fs, y.f1.length ≤ 1048576) (a : Int) (vs : List Int) (hv : vs.length ≤ 1048576) (d : Nat) : ∀ (i : Nat), i + d = fs.length → ∀ k, d + 2097160 < k → spec_InsertFact.l0 k i a vs l fs = some (l, fs.take (insAt fs a vs d i) ++ ⟨a, vs⟩ :: fs.drop (insAt fs a vs d i), true) := by
  induction d with
  | zero =>
    intro i hd k hk
    obtain ⟨k, rfl, hk⟩ := fuel hk
    rw [spec_InsertFact.l0, if_neg (by omega), insAt]
    simp only [Option.bind_some]
    rw [if_pos (by simp only [List.length_nil]; omega), if_pos (by omega), if_pos (by omega), if_pos (by simp only [List.length_cons, List.length_nil, List.length_drop]; omega), if_pos (by simp only [List.length_nil, List.length_take]; omega), if_pos (by simp only [List.nil_append, List.length_append, List.length_cons, List.length_nil, List.length_drop, List.length_take]; omega)]
    simp
  | succ d ih =>
    intro i hd k hk
    obtain ⟨k, rfl, hk⟩ := fuel hk
    have hy := hg _ (getD_mem fs z35 i (by omega))
    have e1 : wrap64 ((i : Int) + 1) = ((i + 1 : Nat) : Int) := by rw [w64 (by omega) (by omega)]; omega
    rw [spec_InsertFact.l0, if_pos (by omega), if_pos (by omega), e1]
    unfold rd_T35
    rw [Int.toNat_natCast, cmpFS _ _ _ _ hy hv k (by omega), Option.bind_some, insAt]
    by_cases c : cmpF (fs.getD i z35).f0 (fs.getD i z35).f1 a vs < 0
    · rw [if_pos c, if_pos c]
      exact ih (i + 1) (by omega) k (by omega)
    · rw [if_neg c, if_neg c]
      simp only [Option.bind_some]
      rw [if_pos (by simp only [List.length_nil]; omega), if_pos (by omega), if_pos (by simp only [List.length_cons, List.length_nil, List.length_drop]; omega), if_pos (by simp only [List.length_nil, List.length_take]; omega), if_pos (by simp only [List.nil_append, List.length_append, List.length_cons, List.length_nil, List.length_drop, List.length_take]; omega)]
      simp
theorem insS (l : List S70) (hl : l.length ≤ 1048576) (fs : List S35) (hf : fs.length ≤ 1048576) (hg : ∀ y ∈ fs, y.f1.length ≤ 1048576) (a : Int) (vs : List Int) (hv : vs.length ≤ 1048576) (k : Nat) (hk : 8000001 < k) :
    spec_InsertFact.f k l fs a vs = some (if mayIns l fs a vs = true then (l, insF fs a vs, true) else (l, fs, false)) := by
  obtain ⟨k, rfl⟩ : ∃ z, k = z + 1 := ⟨k - 1, by omega⟩
  unfold spec_InsertFact.f mayIns
  rw [copyS l hl fs hf hg _ (by omega), Option.bind_some, vDS l hl fs hf hg _ (by omega), Option.bind_some]
  by_cases h0 : vDb l fs = true
  · obtain ⟨q1, q2, q3, q4⟩ := vDb_parts l fs h0
    rw [if_pos h0, vFS l hl a vs hv _ (by omega), Option.bind_some]
    unfold vFact
    rw [q1, Bool.true_and, h0, Bool.true_and]
    by_cases h1 : fits l a vs = true
    · rw [if_pos h1, hasS l hl fs hf hg a vs hv _ (by omega), Option.bind_some, h0, h1]
      by_cases h2 : idxW (factIs a vs) fs 0 ≥ 0
      · rw [if_pos (by simpa using h2), spec_InsertFact.j0, if_pos rfl, decide_eq_false (show ¬ idxW (factIs a vs) fs 0 < 0 by omega)]
        simp
      · rw [if_neg (by simpa using h2), decide_eq_true (show idxW (factIs a vs) fs 0 < 0 by omega), spec_InsertFact.j0]
        by_cases h3 : fs.length = 14
        · rw [if_pos (by rw [h3]; rfl), decide_eq_false (by omega)]
          simp
        · rw [if_neg (by rw [beq_iff_eq]; omega), decide_eq_true h3, if_pos (by simp)]
          have := insSl l fs hf hg a vs hv fs.length 0 (by omega) k (by omega)
          exact this
    · rw [if_neg h1, spec_InsertFact.j0, if_pos rfl, Bool.eq_false_iff.2 h1]
      simp
  · rw [if_neg h0, spec_InsertFact.j0, if_pos rfl, Bool.eq_false_iff.2 h0]
    simp

/-! ### draws: each comes to something, and how large it is -/
theorem and255 (x : Int) : 0 ≤ Go.bits .and .i64 x 255 ∧ Go.bits .and .i64 x 255 ≤ 255 := by
  unfold Go.bits
  have h : (BitVec.ofInt IntKind.i64.bits x &&& BitVec.ofInt IntKind.i64.bits 255).toNat ≤ 255 := by
    rw [BitVec.toNat_and]
    exact Nat.le_trans Nat.and_le_right (by decide)
  simp only [IntKind.wrap_i64]
  omega
theorem l1ByteT (s : List Int) (hs : s.length ≤ 1048576) (i h : Int) (hi : 0 ≤ i) : ∃ x i' h', spec_l1Byte.f s i h = some (x, i', h') ∧ 0 ≤ x ∧ x ≤ 255 ∧ 0 ≤ i' := by
  unfold spec_l1Byte.f
  by_cases c : i < (s.length : Int)
  · rw [if_pos c, if_pos hi]
    refine ⟨_, _, _, rfl, (and255 _).1, (and255 _).2, ?_⟩
    rw [w64 (by omega) (by omega)]
    omega
  · rw [if_neg c]
    exact ⟨_, _, _, rfl, (and255 _).1, (and255 _).2, hi⟩
theorem l1BelowT (s : List Int) (hs : s.length ≤ 1048576) (i h n : Int) (hi : 0 ≤ i) : ∃ x i' h', spec_l1Below.f s i h n = some (x, i', h') ∧ 0 ≤ x ∧ (0 < n → x < n) ∧ (n ≤ 0 → x = 0) ∧ 0 ≤ i' := by
  unfold spec_l1Below.f
  by_cases c : n ≤ 0
  · rw [if_pos c]
    exact ⟨_, _, _, rfl, by omega, by omega, fun _ => rfl, hi⟩
  · rw [if_neg c]
    by_cases c2 : n ≤ 256
    · obtain ⟨x, i1, h1, e1, a1, b1, d1⟩ := l1ByteT s hs i h hi
      rw [if_pos c2, e1, Option.bind_some, if_neg (by omega)]
      refine ⟨_, _, _, rfl, ?_, ?_, by omega, d1⟩
      · rw [tm a1]; exact Int.emod_nonneg _ (by omega)
      · intro _; rw [tm a1]; exact Int.emod_lt_of_pos _ (by omega)
    · obtain ⟨x1, i1, h1, e1, a1, b1, d1⟩ := l1ByteT s hs i h hi
      obtain ⟨x2, i2, h2, e2, a2, b2, d2⟩ := l1ByteT s hs i1 h1 d1
      obtain ⟨x3, i3, h3, e3, a3, b3, d3⟩ := l1ByteT s hs i2 h2 d2
      obtain ⟨x4, i4, h4, e4, a4, b4, d4⟩ := l1ByteT s hs i3 h3 d3
      rw [if_neg c2, e1, Option.bind_some, e2, Option.bind_some, e3, Option.bind_some, e4, Option.bind_some, if_neg (by omega)]
      rw [w64 (n := x1 * 16777216) (by omega) (by omega), w64 (n := x2 * 65536) (by omega) (by omega), w64 (n := x3 * 256) (by omega) (by omega), w64 (n := x1 * 16777216 + x2 * 65536) (by omega) (by omega), w64 (n := x1 * 16777216 + x2 * 65536 + x3 * 256) (by omega) (by omega), w64 (n := x1 * 16777216 + x2 * 65536 + x3 * 256 + x4) (by omega) (by omega)]
      refine ⟨_, _, _, rfl, ?_, ?_, by omega, d4⟩
      · rw [tm (by omega)]; exact Int.emod_nonneg _ (by omega)
      · intro _; rw [tm (by omega)]; exact Int.emod_lt_of_pos _ (by omega)

theorem l1PickT (s : List Int) (hs : s.length ≤ 1048576) (i h : Int) (hi : 0 ≤ i) (l : List ByteArray) (hl : 0 < l.length) : ∃ x i' h', spec_l1Pick.f s i h l = some (x, i', h') ∧ x ∈ l ∧ 0 ≤ i' := by
  obtain ⟨x, i1, h1, e1, a1, b1, _, d1⟩ := l1BelowT s hs i h (l.length : Int) hi
  have := b1 (by omega)
  unfold spec_l1Pick.f
  rw [e1, Option.bind_some, if_pos a1, if_pos this]
  refine ⟨_, _, _, rfl, ?_, d1⟩
  unfold rdOf
  exact getD_mem l _ _ (by omega)

theorem l1PickIntT (s : List Int) (hs : s.length ≤ 1048576) (i h : Int) (hi : 0 ≤ i) (l : List Int) (hl : 0 < l.length) : ∃ x i' h', spec_l1PickInt.f s i h l = some (x, i', h') ∧ x ∈ l ∧ 0 ≤ i' := by
  obtain ⟨x, i1, h1, e1, a1, b1, _, d1⟩ := l1BelowT s hs i h (l.length : Int) hi
  have := b1 (by omega)
  unfold spec_l1PickInt.f
  rw [e1, Option.bind_some, if_pos a1, if_pos this]
  refine ⟨_, _, _, rfl, ?_, d1⟩
  unfold rd
  exact getD_mem l _ _ (by omega)

theorem l1NewL (s : List Int) (hs : s.length ≤ 1048576) (d : Nat) : ∀ (i : Nat) (h : Int), i + d = s.length → ∀ k, d < k → ∃ h', spec_l1New.l0 k s h i = some (s, 0, h') := by
  induction d with
  | zero =>
    intro i h hd k hk
    obtain ⟨k, rfl, hk⟩ := fuel hk
    rw [spec_l1New.l0, if_neg (by omega)]
    exact ⟨_, rfl⟩
  | succ d ih =>
    intro i h hd k hk
    obtain ⟨k, rfl, hk⟩ := fuel hk
    rw [spec_l1New.l0, if_pos (by omega)]
    by_cases c : (i : Int) < 4000
    · rw [if_pos c, if_pos (by omega), show wrap64 ((i : Int) + 1) = ((i + 1 : Nat) : Int) by rw [w64 (by omega) (by omega)]; omega]
      exact ih (i + 1) _ (by omega) k (by omega)
    · rw [if_neg c]
      exact ⟨_, rfl⟩
theorem l1NewT (s : List Int) (hs : s.length ≤ 1048576) (k : Nat) (hk : s.length < k) : ∃ h', spec_l1New.f k s = some (s, 0, h') := by
  unfold spec_l1New.f
  exact l1NewL s hs s.length 0 _ (by omega) k hk

/-- Relations as the draws make them: four, of arity two or three. -/
def sigs (l : List S70) : Prop := l.length = 4 ∧ ∀ y ∈ l, 1 ≤ y.f1 ∧ y.f1 ≤ 3 ∧ y.f0.size ≤ 2
theorem l2SigsT (s : List Int) (hs : s.length ≤ 1048576) (i h : Int) (hi : 0 ≤ i) : ∃ l i' h', spec_l2Sigs.f s i h = some (l, i', h') ∧ sigs l ∧ 0 ≤ i' := by
  obtain ⟨x, i1, h1, e1, a1, d1⟩ := l1PickIntT s hs i h hi [1, 1, 2, 0] (by simp)
  obtain ⟨y, i2, h2, e2, a2, b2, _, d2⟩ := l1BelowT s hs i1 h1 2 d1
  unfold spec_l2Sigs.f
  rw [e1, Option.bind_some, e2, Option.bind_some]
  refine ⟨_, _, _, rfl, ⟨rfl, ?_⟩, d2⟩
  intro y hy
  simp only [List.mem_cons, List.not_mem_nil, or_false] at hy
  rcases hy with rfl | rfl | rfl | rfl
  · exact ⟨by decide, by decide, by decide⟩
  · exact ⟨by decide, by decide, by decide⟩
  · exact ⟨by simp, by simp, by simp; decide⟩
  · exact ⟨by simp, by simp, by simp; decide⟩
theorem l3FactL (s : List Int) (hs : s.length ≤ 1048576) (l : List S70) (v x : Int) (hv : 0 < v) (hx0 : 0 ≤ x) (hx1 : x < (l.length : Int)) (ha : (rd_T70 l x).f1 ≤ 3) (d : Nat) : ∀ (vs : List Int) (i h : Int), 0 ≤ i → vs.length + d = 4 → ∀ k, d < k → (∀ z ∈ vs, 0 ≤ z ∧ z < v) → ∃ ws i' h', spec_l3Fact.l0 k l v s i h x vs = some (x, ws, i', h') ∧ ws.length ≤ 4 ∧ ((vs.length : Int) ≤ (rd_T70 l x).f1 → (ws.length : Int) = (rd_T70 l x).f1) ∧ (∀ z ∈ ws, 0 ≤ z ∧ z < v) ∧ 0 ≤ i' := by
  induction d with
  | zero =>
    intro vs i h hi hd k hk hz
    obtain ⟨k, rfl, hk⟩ := fuel hk
    rw [spec_l3Fact.l0, if_pos hx0, if_pos hx1, if_neg (by omega)]
    exact ⟨_, _, _, rfl, by omega, by omega, hz, hi⟩
  | succ d ih =>
    intro vs i h hi hd k hk hz
    obtain ⟨k, rfl, hk⟩ := fuel hk
    rw [spec_l3Fact.l0, if_pos hx0, if_pos hx1]
    by_cases c : (vs.length : Int) < (rd_T70 l x).f1
    · obtain ⟨y, i1, h1, e1, a1, b1, _, d1⟩ := l1BelowT s hs i h v hi
      rw [if_pos c, e1, Option.bind_some, if_pos (by omega)]
      obtain ⟨ws, i2, h2, g1, g2, g3, g4, g5⟩ := ih (vs ++ [y]) i1 h1 d1 (by simp; omega) k (by omega) (by
        intro z hz'
        rcases List.mem_append.1 hz' with hz' | hz'
        · exact hz z hz'
        · rw [List.mem_singleton] at hz'
          rw [hz']
          exact ⟨a1, b1 hv⟩)
      exact ⟨ws, i2, h2, g1, g2, fun _ => g3 (by simp; omega), g4, g5⟩
    · rw [if_neg c]
      exact ⟨_, _, _, rfl, by omega, by omega, hz, hi⟩
theorem l3FactT (s : List Int) (hs : s.length ≤ 1048576) (i h : Int) (hi : 0 ≤ i) (l : List S70) (hl : 0 < l.length) (hl2 : l.length ≤ 1048576) (hg : ∀ y ∈ l, 0 ≤ y.f1 ∧ y.f1 ≤ 3) (v : Int) (hv : 0 < v) (k : Nat) (hk : 4 < k) : ∃ x ws i' h', spec_l3Fact.f k s i h l v = some (x, ws, i', h') ∧ 0 ≤ x ∧ x < (l.length : Int) ∧ ws.length ≤ 4 ∧ (ws.length : Int) = (rd_T70 l x).f1 ∧ (∀ z ∈ ws, 0 ≤ z ∧ z < v) ∧ 0 ≤ i' := by
  obtain ⟨x, i1, h1, e1, a1, b1, _, d1⟩ := l1BelowT s hs i h (l.length : Int) hi
  have hx := b1 (by omega)
  unfold spec_l3Fact.f
  rw [e1, Option.bind_some]
  have hm : (rd_T70 l x) ∈ l := by unfold rd_T70; exact getD_mem l _ _ (by omega)
  obtain ⟨ws, i2, h2, g1, g2, g3, g4, g5⟩ := l3FactL s hs l v x hv a1 hx (hg _ hm).2 4 [] i1 h1 d1 rfl k hk (fun z hz => by cases hz)
  exact ⟨x, ws, i2, h2, g1, a1, hx, g2, g3 (by have := (hg _ hm).1; simpa using this), g4, g5⟩
theorem l3AnyT (s : List Int) (hs : s.length ≤ 1048576) (i h : Int) (hi : 0 ≤ i) (l : List S70) (hl : 0 < l.length) (hl2 : l.length ≤ 1048576) (hg : ∀ y ∈ l, 1 ≤ y.f1 ∧ y.f1 ≤ 3) (k : Nat) (hk : 4 < k) : ∃ x ws i' h', spec_l3Any.f k s i h l = some (x, ws, i', h') ∧ ws.length ≤ 5 ∧ -1 ≤ x ∧ x ≤ 1048576 ∧ (∀ z ∈ ws, -1 ≤ z ∧ z ≤ 10) ∧ 0 ≤ i' := by
  obtain ⟨x, ws, i1, h1, e1, x0, x1, g2, g3, g4, g5⟩ := l3FactT s hs i h hi l hl hl2 (fun y hy => ⟨by have := (hg y hy).1; omega, (hg y hy).2⟩) 4 (by decide) k hk
  obtain ⟨y, i2, h2, e2, a2, b2, _, d2⟩ := l1BelowT s hs i1 h1 10 g5
  have hm : (rd_T70 l x) ∈ l := by unfold rd_T70; exact getD_mem l _ _ (by omega)
  have hw := (hg _ hm).1
  have hz : ∀ z ∈ ws, -1 ≤ z ∧ z ≤ 10 := fun z hz => by have := g4 z hz; omega
  unfold spec_l3Any.f
  rw [e1, Option.bind_some]
  dsimp only
  rw [e2, Option.bind_some]
  dsimp only
  by_cases c0 : y = 0
  · obtain ⟨z, i3, h3, e3, a3, b3, _, d3⟩ := l1BelowT s hs i2 h2 6 d2
    have := b3 (by decide)
    rw [if_pos c0, e3, Option.bind_some]
    refine ⟨_, _, _, _, rfl, by omega, ?_, ?_, hz, d3⟩
    · rw [w64 (by omega) (by omega)]; omega
    · rw [w64 (by omega) (by omega)]; omega
  rw [if_neg c0]
  by_cases c1 : y = 1
  · rw [if_pos c1, if_pos (by omega)]
    refine ⟨_, _, _, _, rfl, by simp; omega, by omega, by omega, ?_, d2⟩
    intro z hz'
    rcases List.mem_append.1 hz' with hz' | hz'
    · exact hz z hz'
    · rw [List.mem_singleton] at hz'
      omega
  rw [if_neg c1]
  by_cases c2 : y = 2
  · obtain ⟨z, i3, h3, e3, a3, d3⟩ := l1PickIntT s hs i2 h2 d2 [-1, 10, 9] (by simp)
    rw [if_pos c2, e3, Option.bind_some, if_pos (by omega)]
    refine ⟨_, _, _, _, rfl, by rw [List.length_set]; omega, by omega, by omega, ?_, d3⟩
    intro u hu
    rcases List.mem_or_eq_of_mem_set hu with hu | hu
    · exact hz u hu
    · rw [hu]
      simp only [List.mem_cons, List.not_mem_nil, or_false] at a3
      rcases a3 with rfl | rfl | rfl <;> omega
  · rw [if_neg c2]
    exact ⟨_, _, _, _, rfl, by omega, by omega, by omega, hz, d2⟩

/-! ### databases as the draws make them -/
def sm (fs : List S35) (n : Nat) : Prop := fs.length ≤ n ∧ ∀ y ∈ fs, y.f1.length ≤ 5
theorem l4DbL (s : List Int) (hs : s.length ≤ 1048576) (l : List S70) (hl : sigs l) (v : Int) (hv : 0 < v) (d : Nat) : ∀ (fs : List S35) (i h : Int), 0 ≤ i → d ≤ 20 → sm fs (40 - d) → ∀ k, 8000100 + d < k → ∃ gs i' h', spec_l4Db.l0 k v d s i h l fs = some (l, gs, i', h') ∧ sm gs 40 ∧ 0 ≤ i' := by
  induction d with
  | zero =>
    intro fs i h hi hd hf k hk
    obtain ⟨k, rfl⟩ : ∃ z, k = z + 1 := ⟨k - 1, by omega⟩
    rw [spec_l4Db.l0, if_neg (by omega)]
    exact ⟨_, _, _, rfl, hf, hi⟩
  | succ d ih =>
    intro fs i h hi hd hf k hk
    obtain ⟨k, rfl⟩ : ∃ z, k = z + 1 := ⟨k - 1, by omega⟩
    have hl0 := hl.1
    obtain ⟨x, ws, i1, h1, e1, x0, x1, g2, g3, g4, g5⟩ := l3FactT s hs i h hi l (by omega) (by omega) (fun y hy => ⟨by have := (hl.2 y hy).1; omega, (hl.2 y hy).2.1⟩) v hv k (by omega)
    rw [spec_l4Db.l0, if_pos (by omega), e1, Option.bind_some]
    dsimp only
    rw [insS l (by omega) fs (by have := hf.1; omega) (fun y hy => by have := hf.2 y hy; omega) x ws (by omega) k (by omega), Option.bind_some, show wrap64 (((d + 1 : Nat) : Int) - 1) = (d : Int) by rw [w64 (by omega) (by omega)]; omega]
    by_cases c : mayIns l fs x ws = true
    · rw [if_pos c]
      refine ih _ _ _ g5 (by omega) ⟨?_, fun y hy => ?_⟩ k (by omega)
      · have := hf.1; rw [insF_len]; omega
      · rcases (insF_mem fs x ws y).1 hy with h | h
        · exact hf.2 y h
        · rw [h]; show ws.length ≤ 5; omega
    · rw [if_neg c]
      exact ih _ _ _ g5 (by omega) ⟨by have := hf.1; omega, hf.2⟩ k (by omega)
theorem l4DbT (s : List Int) (hs : s.length ≤ 1048576) (i h : Int) (hi : 0 ≤ i) (k : Nat) (hk : 8000200 < k) : ∃ l fs i' h', spec_l4Db.f k s i h = some (l, fs, i', h') ∧ sigs l ∧ (∀ y ∈ l, 1 ≤ y.f1 ∧ y.f1 ≤ 3) ∧ sm fs 40 ∧ 0 ≤ i' := by
  obtain ⟨l, i1, h1, e1, a1, d1⟩ := l2SigsT s hs i h hi
  obtain ⟨v, i2, h2, e2, a2, d2⟩ := l1PickIntT s hs i1 h1 d1 [2, 2, 3, 3] (by simp)
  obtain ⟨n, i3, h3, e3, a3, b3, _, d3⟩ := l1BelowT s hs i2 h2 11 d2
  have hn := b3 (by decide)
  have hv : 0 < v := by
    simp only [List.mem_cons, List.not_mem_nil, or_false] at a2
    rcases a2 with rfl | rfl | rfl | rfl <;> decide
  have hz : ∀ y ∈ l, 1 ≤ y.f1 ∧ y.f1 ≤ 3 := fun y hy => ⟨(a1.2 y hy).1, (a1.2 y hy).2.1⟩
  unfold spec_l4Db.f
  rw [e1, Option.bind_some]
  dsimp only
  rw [e2, Option.bind_some]
  dsimp only
  rw [e3, Option.bind_some]
  dsimp only
  have ew : wrap64 (2 + n) = (((2 + n).toNat : Nat) : Int) := by rw [w64 (by omega) (by omega)]; omega
  rw [ew]
  obtain ⟨gs, i4, h4, e4, a4, d4⟩ := l4DbL s hs l a1 v hv (2 + n).toNat [] i3 h3 d3 (by omega) ⟨Nat.zero_le _, fun y hy => by cases hy⟩ k (by omega)
  exact ⟨l, gs, i4, h4, e4, a1, hz, a4, d4⟩
theorem l2AnyT (s : List Int) (hs : s.length ≤ 1048576) (i h : Int) (hi : 0 ≤ i) : ∃ n a b i' h', spec_l2Any.f s i h = some (n, a, b, i', h') ∧ n.size ≤ 2 ∧ -1 ≤ a ∧ a ≤ 5 ∧ -1 ≤ b ∧ b ≤ 5 ∧ 0 ≤ i' := by
  obtain ⟨x, i1, h1, e1, a1, d1⟩ := l1PickT s hs i h hi [(⟨#[114]⟩ : ByteArray), (⟨#[122]⟩ : ByteArray), (⟨#[97]⟩ : ByteArray), (⟨#[]⟩ : ByteArray), (⟨#[82]⟩ : ByteArray), (⟨#[97, 98]⟩ : ByteArray)] (by simp)
  obtain ⟨y, i2, h2, e2, a2, b2, _, d2⟩ := l1BelowT s hs i1 h1 6 d1
  obtain ⟨z, i3, h3, e3, a3, b3, _, d3⟩ := l1BelowT s hs i2 h2 5 d2
  have := b2 (by decide)
  have := b3 (by decide)
  unfold spec_l2Any.f
  rw [e1, Option.bind_some]
  dsimp only
  rw [e2, Option.bind_some]
  dsimp only
  rw [e3, Option.bind_some]
  refine ⟨_, _, _, _, _, rfl, ?_, ?_, ?_, ?_, ?_, d3⟩
  · simp only [List.mem_cons, List.not_mem_nil, or_false] at a1
    rcases a1 with rfl | rfl | rfl | rfl | rfl | rfl <;> decide
  all_goals (rw [w64 (by omega) (by omega)]; omega)
theorem l4AnyT (s : List Int) (hs : s.length ≤ 1048576) (i h : Int) (hi : 0 ≤ i) (k : Nat) (hk : 8000200 < k) : ∃ l fs i' h', spec_l4Any.f k s i h = some (l, fs, i', h') ∧ l.length ≤ 4 ∧ (∀ y ∈ l, y.f0.size ≤ 2) ∧ sm fs 41 ∧ 0 ≤ i' := by
  obtain ⟨l, fs, i1, h1, e1, a1, hz, a3, d1⟩ := l4DbT s hs i h hi k hk
  obtain ⟨n, i2, h2, e2, a2, b2, _, d2⟩ := l1BelowT s hs i1 h1 14 d1
  have hl := a1.1
  have hn : ∀ y ∈ l, y.f0.size ≤ 2 := fun y hy => (a1.2 y hy).2.2
  have hf := a3.1
  have a4 : sm fs 41 := ⟨by omega, a3.2⟩
  unfold spec_l4Any.f
  rw [e1, Option.bind_some]
  dsimp only
  rw [e2, Option.bind_some]
  dsimp only
  by_cases c0 : n = 0
  · obtain ⟨x, ws, i3, h3, e3, w1, _, _, _, d3⟩ := l3AnyT s hs i2 h2 d2 l (by omega) (by omega) hz k (by omega)
    rw [if_pos c0, e3, Option.bind_some, if_pos (by omega)]
    refine ⟨_, _, _, _, rfl, by omega, hn, ⟨by simp; omega, fun y hy => ?_⟩, d3⟩
    rcases List.mem_append.1 hy with hy | hy
    · exact a3.2 y hy
    · rw [List.mem_singleton] at hy
      rw [hy]
      exact w1
  rw [if_neg c0]
  by_cases c1 : n = 1
  · obtain ⟨x, i3, h3, e3, x0, x1, _, d3⟩ := l1BelowT s hs i2 h2 4 d2
    have := x1 (by decide)
    rw [if_pos c1, e3, Option.bind_some, if_pos x0, if_pos (by omega)]
    exact ⟨_, _, _, _, rfl, by rw [List.length_take]; omega, fun y hy => hn y (List.mem_of_mem_take hy), a4, d3⟩
  rw [if_neg c1]
  by_cases c2 : n = 2
  · obtain ⟨x, i3, h3, e3, x0, x1, _, d3⟩ := l1BelowT s hs i2 h2 4 d2
    obtain ⟨m, p, q, i4, h4, e4, m1, _, _, _, _, d4⟩ := l2AnyT s hs i3 h3 d3
    have := x1 (by decide)
    rw [if_pos c2, e3, Option.bind_some]
    dsimp only
    rw [e4, Option.bind_some, if_pos x0, if_pos (by omega)]
    refine ⟨_, _, _, _, rfl, by rw [List.length_set]; omega, fun y hy => ?_, a4, d4⟩
    rcases List.mem_or_eq_of_mem_set hy with hy | hy
    · exact hn y hy
    · rw [hy]
      exact m1
  · rw [if_neg c2]
    exact ⟨_, _, _, _, rfl, by omega, hn, a4, d2⟩

theorem drBlocks (s : List Int) (hs : s.length ≤ 1048576) (k : Nat) (hk : 8000200 < k) : ∃ l fs, spec_DrawBlocks.f k s = some (l, fs) ∧ l.length ≤ 4 ∧ (∀ y ∈ l, y.f0.size ≤ 2) ∧ sm fs 41 := by
  obtain ⟨h1, e1⟩ := l1NewT s hs k (by omega)
  obtain ⟨l, fs, i2, h2, e2, a1, a2, a3, _⟩ := l4AnyT s hs 0 h1 (by decide) k hk
  unfold spec_DrawBlocks.f
  rw [e1, Option.bind_some]
  dsimp only
  rw [e2, Option.bind_some]
  exact ⟨l, fs, rfl, a1, a2, a3⟩
theorem bigT (s : List Int) : laws_big.f s = some (decide ((s.length : Int) > 1048576)) := by unfold laws_big.f; rfl

theorem smIl (b : List Int) (hb : b.length ≤ 1048576) (d : Nat) : ∀ (i : Nat), i + d = b.length → ∀ k, d < k → laws_sameInts.l0 k b b i = some true := by
  induction d with
  | zero =>
    intro i hd k hk
    obtain ⟨k, rfl, hk⟩ := fuel hk
    rw [laws_sameInts.l0, if_neg (by omega)]
  | succ d ih =>
    intro i hd k hk
    obtain ⟨k, rfl, hk⟩ := fuel hk
    rw [laws_sameInts.l0, if_pos (by omega), if_pos (by omega), if_pos (by omega), if_pos rfl, show wrap64 ((i : Int) + 1) = ((i + 1 : Nat) : Int) by rw [w64 (by omega) (by omega)]; omega]
    exact ih (i + 1) (by omega) k (by omega)
theorem smI (b : List Int) (hb : b.length ≤ 1048576) (k : Nat) (hk : b.length < k) : laws_sameInts.f k b b = some true := by
  unfold laws_sameInts.f
  rw [if_pos rfl]
  exact smIl b hb b.length 0 (by omega) k hk


theorem many_iff : ∀ (bs : List (List Int)), (∀ b ∈ bs, 0 < b.length) → bs.length ≤ bs.flatten.length ∧ ((bs.filter fun b => decide ((b.length : Int) > 1)).flatten.length = 0 ↔ bs.length = bs.flatten.length)
  | [], _ => ⟨by simp, by simp⟩
  | b :: bs, h => by
    obtain ⟨h1, h2⟩ := many_iff bs fun c hc => h c (List.mem_cons_of_mem _ hc)
    have hb := h b List.mem_cons_self
    rw [List.flatten_cons, List.length_append, List.length_cons]
    refine ⟨by omega, ?_⟩
    by_cases c : (b.length : Int) > 1
    · rw [List.filter_cons_of_pos (by exact decide_eq_true c), List.flatten_cons, List.length_append]
      omega
    · rw [List.filter_cons_of_neg (by rw [decide_eq_false c]; decide), h2]
      omega
theorem lawIn (l : List S70) (hl : l.length ≤ 1048576) (fs : List S35) (hf : fs.length ≤ 1048576) (hg : ∀ y ∈ fs, y.f1.length ≤ 1048576) (hv : vDb l fs = true) (B : List (List Int)) (hB : bls l fs fs.length fs.length = B) (i : Nat) (hi : i < B.length) (n m : Int) (R : Bool) (K : Nat) (hK : 8000200 ≤ K) (hR : ∀ k, K < k → laws_FnBlocks.l0 k B n m ((i + 1 : Nat) : Int) l fs = some R) (d : Nat) :
    ∀ (j : Nat), j + d = (B.getD i []).length → ∀ k, K + d + 1 < k → laws_FnBlocks.l1 k B n m i j l fs = some R := by
  obtain ⟨q1, q2, q3, q4⟩ := vDb_parts l fs hv
  have hrl : rd_L4 B (i : Int) = B.getD i [] := by unfold rd_L4; rw [Int.toNat_natCast]
  have hm : B.getD i [] ∈ bls l fs fs.length fs.length := by rw [hB]; exact getD_mem B [] i hi
  obtain ⟨g, hg1, hg2⟩ := List.mem_map.1 hm
  have hBl : B.length ≤ fs.length := by rw [← hB]; exact bls_len l fs fs.length fs.length
  have hbl := bls_mem_len l fs fs.length fs.length _ hm
  have hin : ∀ q, q < (B.getD i []).length → 0 ≤ (B.getD i []).getD q 0 ∧ (B.getD i []).getD q 0 < (fs.length : Int) ∧ blk l fs ((B.getD i []).getD q 0).toNat fs.length = B.getD i [] ∧ skN l fs g ((B.getD i []).getD q 0).toNat = true := by
    intro q hq
    have hx := getD_mem (B.getD i []) 0 q hq
    rw [← hg2] at hx
    obtain ⟨e1, e2, e3⟩ := blk_self l fs g fs.length _ hx
    obtain ⟨y, ey, _, es⟩ := mem_blk l fs g fs.length _ hx
    rw [← hg2]
    refine ⟨e2, e3, e1, ?_⟩
    rw [ey, Int.toNat_natCast]
    exact es
  induction d with
  | zero =>
    intro j hd k hk
    obtain ⟨k, rfl⟩ : ∃ z, k = z + 1 := ⟨k - 1, by omega⟩
    rw [laws_FnBlocks.l1, if_pos (by omega), if_pos (by omega), hrl, if_neg (by omega), show wrap64 ((i : Int) + 1) = ((i + 1 : Nat) : Int) by rw [w64 (by omega) (by omega)]; omega]
    exact hR k (by omega)
  | succ d ih =>
    intro j hd k hk
    obtain ⟨k, rfl⟩ : ∃ z, k = z + 1 := ⟨k - 1, by omega⟩
    obtain ⟨a1, a2, a3, a4⟩ := hin j (by omega)
    obtain ⟨b1, b2, b3, b4⟩ := hin 0 (by omega)
    have e0 : rd (B.getD i []) 0 = (B.getD i []).getD 0 0 := by
      have := rdD (B.getD i []) 0
      exact this
    rw [laws_FnBlocks.l1, if_pos (by omega), if_pos (by omega), hrl, if_pos (by omega), if_pos (by omega), rdD, if_neg (by omega), if_neg (by omega), if_pos (by omega), e0, if_pos b1, if_pos b2, if_pos a1, if_pos a2]
    have hk1 := sk_trans l fs (sk_symm l fs b4) a4
    have hs := sameS l hl (fs.getD ((B.getD i []).getD 0 0).toNat z35).f0 (fs.getD ((B.getD i []).getD 0 0).toNat z35).f1 (fs.getD ((B.getD i []).getD j 0).toNat z35).f0 (fs.getD ((B.getD i []).getD j 0).toNat z35).f1 (hg _ (getD_mem fs _ _ (by omega))) (hg _ (getD_mem fs _ _ (by omega))) k (by omega)
    unfold skN at hk1
    unfold vFact at hs
    rw [hk1, q1, q3 _ (by omega), q3 _ (by omega)] at hs
    unfold rd_T35
    rw [hs, Option.bind_some, if_pos (by decide), boI l hl fs hf hg _ k (by omega), if_pos ⟨hv, a1, a2⟩, Option.bind_some, a3, smI _ (by omega) k (by omega), Option.bind_some, if_pos rfl, show wrap64 ((j : Int) + 1) = ((j + 1 : Nat) : Int) by rw [w64 (by omega) (by omega)]; omega]
    exact ih (j + 1) (by omega) k (by omega)
theorem lawOut (l : List S70) (hl : l.length ≤ 1048576) (fs : List S35) (hf : fs.length ≤ 1048576) (hg : ∀ y ∈ fs, y.f1.length ≤ 1048576) (hv : vDb l fs = true) (B : List (List Int)) (hB : bls l fs fs.length fs.length = B) (d : Nat) :
    ∀ (i : Nat), i + d = B.length → ∀ k, 8000300 + 20 * d < k → laws_FnBlocks.l0 k B ((B.take i).flatten.length : Int) (((B.take i).filter fun b => decide ((b.length : Int) > 1)).flatten.length : Int) i l fs = some true := by
  obtain ⟨q1, q2, q3, q4⟩ := vDb_parts l fs hv
  have hBl : B.length ≤ fs.length := by rw [← hB]; exact bls_len l fs fs.length fs.length
  have hfl : B.flatten.length = fs.length := by rw [← hB, bls_flat l fs hv _ (Nat.le_refl _), List.length_map, List.length_range]
  have hcf : ((B.filter fun b => decide ((b.length : Int) > 1)).flatten) = cfs l fs fs.length := by rw [← hB]; exact cfs_flat l fs hv
  have hpos : ∀ b ∈ B, 0 < b.length := by
    intro b hb
    rw [← hB] at hb
    obtain ⟨g, hg1, rfl⟩ := List.mem_map.1 hb
    have := blk_mem l fs g g fs.length ((mem_heads l fs _ _).1 hg1).1 (sk_refl l fs g)
    exact List.length_pos_of_mem this
  have hcl := cfs_len l fs fs.length
  induction d with
  | zero =>
    intro i hd k hk
    obtain ⟨k, rfl⟩ : ∃ z, k = z + 1 := ⟨k - 1, by omega⟩
    rw [laws_FnBlocks.l0, if_neg (by omega), List.take_of_length_le (by omega)]
    have hz := sizesIl B (by omega) B.length 0 (by omega) k (by omega)
    have hbs : impl_BlockSizes.f k l fs = some (szB B) := by
      unfold impl_BlockSizes.f
      rw [BlsI l hl fs hf hg k (by omega), if_pos hv, hB]
      simp only [Option.bind_some]
      exact hz
    rw [hbs, Option.bind_some, if_pos (by rw [hfl]), if_pos (by unfold szB; rw [List.length_map]), cfI l hl fs hf hg k (by omega), if_pos hv, Option.bind_some, if_pos (by rw [hcf]), consI l hl fs hf hg k (by omega), Option.bind_some, hv, Bool.true_and, hB]
    have hm := (many_iff B hpos).2
    rw [hfl] at hm
    by_cases c : B.length = fs.length
    · rw [hm.2 c, c]
      simp
    · have : ¬ ((B.filter fun b => decide ((b.length : Int) > 1)).flatten.length = 0) := fun e => c (hm.1 e)
      rw [beq_eq_false_iff_ne.2 (show (B.length : Int) ≠ (fs.length : Int) by omega), beq_eq_false_iff_ne.2 (show (((B.filter fun b => decide ((b.length : Int) > 1)).flatten.length : Nat) : Int) ≠ 0 by omega)]
      rfl
  | succ d ih =>
    intro i hd k hk
    obtain ⟨k, rfl⟩ : ∃ z, k = z + 2 := ⟨k - 2, by omega⟩
    have h1 : (B.take (i + 1)).flatten.length = (B.take i).flatten.length + B[i].length := by
      rw [List.take_succ_eq_append_getElem (by omega), List.flatten_append, List.length_append]
      simp
    have hle : (B.take (i + 1)).flatten.length ≤ B.flatten.length := by
      have := congrArg (fun x => x.flatten.length) (List.take_append_drop (i + 1) B)
      simp only [List.flatten_append, List.length_append] at this
      omega
    have hR : ∀ k, 8000300 + 20 * d < k → laws_FnBlocks.l0 k B ((B.take (i + 1)).flatten.length : Int) (((B.take (i + 1)).filter fun b => decide ((b.length : Int) > 1)).flatten.length : Int) ((i + 1 : Nat) : Int) l fs = some true := fun k hk => ih (i + 1) (by omega) k hk
    have hb14 := bls_mem_len l fs fs.length fs.length B[i] (by rw [hB]; exact List.getElem_mem _)
    have hin := fun (n m : Int) (hR : ∀ k, 8000300 + 20 * d < k → laws_FnBlocks.l0 k B n m ((i + 1 : Nat) : Int) l fs = some true) => lawIn l hl fs hf hg hv B hB i (by omega) n m true (8000300 + 20 * d) (by omega) hR B[i].length 0 (by rw [getD_lt B [] i (by omega)]; omega) k (by omega)
    rw [laws_FnBlocks.l0, if_pos (by omega), if_pos (by omega), rdL_lt B i (by omega), show wrap64 (((B.take i).flatten.length : Int) + (B[i].length : Int)) = ((B.take (i + 1)).flatten.length : Int) by rw [w64 (by omega) (by omega), h1]; omega]
    by_cases c : (B[i].length : Int) > 1
    · have h2 : ((B.take (i + 1)).filter fun b => decide ((b.length : Int) > 1)).flatten.length = ((B.take i).filter fun b => decide ((b.length : Int) > 1)).flatten.length + B[i].length := by
        rw [List.take_succ_eq_append_getElem (by omega), List.filter_append, List.filter_cons_of_pos (by exact decide_eq_true c), List.filter_nil, List.flatten_append, List.length_append]
        simp
      have hle2 : ((B.take (i + 1)).filter fun b => decide ((b.length : Int) > 1)).flatten.length ≤ 1048576 := by
        have hx : ∀ bs : List (List Int), (bs.filter fun b => decide ((b.length : Int) > 1)).flatten.length ≤ bs.flatten.length := by
          intro bs
          induction bs with
          | nil => simp
          | cons b bs ihb =>
            rw [List.flatten_cons, List.length_append]
            by_cases e : (b.length : Int) > 1
            · rw [List.filter_cons_of_pos (by exact decide_eq_true e), List.flatten_cons, List.length_append]; omega
            · rw [List.filter_cons_of_neg (by rw [decide_eq_false e]; decide)]; omega
        have := hx (B.take (i + 1))
        omega
      rw [if_pos c, laws_FnBlocks.j1, show wrap64 ((((B.take i).filter fun b => decide ((b.length : Int) > 1)).flatten.length : Int) + (B[i].length : Int)) = ((((B.take (i + 1)).filter fun b => decide ((b.length : Int) > 1)).flatten.length : Nat) : Int) by rw [w64 (by omega) (by omega), h2]; omega]
      exact hin _ _ hR
    · have h2 : ((B.take (i + 1)).filter fun b => decide ((b.length : Int) > 1)) = (B.take i).filter fun b => decide ((b.length : Int) > 1) := by
        rw [List.take_succ_eq_append_getElem (by omega), List.filter_append, List.filter_cons_of_neg (by rw [decide_eq_false c]; decide), List.filter_nil, List.append_nil]
      rw [if_neg c, laws_FnBlocks.j1, ← h2]
      exact hin _ _ hR

theorem FnBlocks : laws_FnBlocks.Pure := by
  intro s hs1 hs2 hs3
  refine ⟨9000001, ?_⟩
  generalize hk : (9000001 : Nat) = k
  unfold laws_FnBlocks.f
  rw [bigT, Option.bind_some]
  by_cases c : (s.length : Int) > 1048576
  · rw [decide_eq_true c, if_pos rfl]
  rw [decide_eq_false c, if_neg (by decide)]
  obtain ⟨l, fs, e1, a1, a2, a3⟩ := drBlocks s (by omega) k (by omega)
  have hf := a3.1
  have hg : ∀ y ∈ fs, y.f1.length ≤ 1048576 := fun y hy => by have := a3.2 y hy; omega
  rw [e1, Option.bind_some]
  dsimp only
  rw [BlsI l (by omega) fs (by omega) hg k (by omega), Option.bind_some, vDS l (by omega) fs (by omega) hg k (by omega), Option.bind_some]
  by_cases hv : vDb l fs = true
  · rw [if_pos hv, if_pos hv]
    obtain ⟨q1, q2, q3, q4⟩ := vDb_parts l fs hv
    have hBl := bls_len l fs fs.length fs.length
    have := lawOut l (by omega) fs (by omega) hg hv _ rfl (bls l fs fs.length fs.length).length 0 (by omega) k (by omega)
    exact this
  · rw [if_neg hv, if_neg hv]
    rfl
end Go.Proofs.Ytbdeimhlohhhiaa.Pure
