/- The law FnExactFormatFact answers true for every relations and fact that the row admits: both texts answer alike, and the arguments are left as they were. -/
import Derived.Test.YtdpaopfghggiaaaDoorGFnExactFormatFact
import Derived.Test.YtdpaopfghggiaaaDoorBase
import Derived.Lib.ItoaLen
namespace Go.Proofs.YtdpaopfghggiaaaDoor.Pure
open Go.RowKit Go.Proofs.YtdpaopfghggiaaaDoor.PFnExactFormatFact Go.Proofs.YtdpaopfghggiaaaDoorW.PrintWords Go.Proofs.YtdpaopfghggiaaaDoorW.PrintLast Go.Proofs.YtdpaopfghggiaaaDoorW.PrintMore Go.Proofs.YtdpaopfghggiaaaDoor.Base
set_option linter.unusedVariables false
set_option linter.unusedSimpArgs false

/-! ### relations: what the laws' own functions on them come to -/
def cvR (x : S25) : S28 := ⟨x.f0, x.f1, x.f2⟩

theorem szR (n a b v : _) (hn : n.size ≤ maxLen) (hv : 0 ≤ v) (hv1 : v ≤ 1048576) : ∃ r, laws_szRelation.f n a b v = some r ∧ r ≤ v ∧ -1 ≤ r ∧ (0 ≤ r → (n.size : Int) ≤ v) := by
  unfold maxLen at hn
  unfold laws_szRelation.f
  rw [w64 (by omega) (by omega)]
  by_cases h : v - (n.size : Int) < 0
  · exact ⟨-1, if_pos h, by omega, by omega, fun h => absurd h (by decide)⟩
  · exact ⟨_, if_neg h, by omega, by omega, fun _ => by omega⟩

theorem szRSl (l : List S25) (hl : l.length ≤ maxLen) (hg : ∀ y ∈ l, y.f0.size ≤ maxLen) (d : Nat) : ∀ (i v : Int), 0 ≤ i → (l.length : Int) - i = d → 0 ≤ v → v ≤ 1048576 → ∃ r, r ≤ v ∧ -1 ≤ r ∧ ∀ k, d < k → laws_szRelationS.l0 k l v i = some r := by
  unfold maxLen at hl
  induction d with
  | zero =>
    intro i v h0 hd hv _
    refine ⟨v, by omega, by omega, fun k hk => ?_⟩
    obtain ⟨k, rfl, hk⟩ := fuel hk
    rw [laws_szRelationS.l0, if_neg (by omega)]
  | succ d ih =>
    intro i v h0 hd hv hv1
    obtain ⟨r, hr, h1, h2, _⟩ := szR (rd_T25 l i).f0 (rd_T25 l i).f1 (rd_T25 l i).f2 v (hg _ (getD_mem l _ _ (by omega))) hv hv1
    by_cases hneg : r < 0
    · refine ⟨-1, by omega, by omega, fun k hk => ?_⟩
      obtain ⟨k, rfl, hk⟩ := fuel hk
      rw [laws_szRelationS.l0, if_pos (by omega), if_pos h0, hr]
      simp only [Option.bind_some]
      rw [if_pos hneg]
    · obtain ⟨r', h3, h4, h5⟩ := ih (i + 1) r (by omega) (by omega) (by omega) (by omega)
      refine ⟨r', by omega, h4, fun k hk => ?_⟩
      obtain ⟨k, rfl, hk⟩ := fuel hk
      rw [laws_szRelationS.l0, if_pos (by omega), if_pos h0, hr]
      simp only [Option.bind_some]
      rw [if_neg hneg, w64 (by omega) (by omega)]
      exact h5 k (by omega)

theorem szRS (l : List S25) (hl : l.length ≤ maxLen) (hg : ∀ y ∈ l, y.f0.size ≤ maxLen) (v : Int) (hv : 0 ≤ v) (hv1 : v ≤ 1048576) : ∃ r, r ≤ v ∧ -1 ≤ r ∧ (0 ≤ r → (l.length : Int) ≤ v) ∧ ∀ k, l.length < k → laws_szRelationS.f k l v = some r := by
  have hl' := hl
  unfold maxLen at hl'
  unfold laws_szRelationS.f
  rw [w64 (by omega) (by omega)]
  by_cases h : v - (l.length : Int) < 0
  · exact ⟨-1, by omega, by omega, fun h => absurd h (by decide), fun k _ => if_pos h⟩
  · obtain ⟨r, h1, h2, h3⟩ := szRSl l hl hg l.length 0 (v - l.length) (by omega) (by omega) (by omega) (by omega)
    exact ⟨r, by omega, h2, fun _ => by omega, fun k hk => by rw [if_neg h]; exact h3 k hk⟩

theorem toRSl (l : List S25) (hl : l.length ≤ 1048576) (d : Nat) : ∀ (i : Nat) (xs : List S28), (l.length : Int) - i = d → xs.length = l.length → xs.take i = (l.take i).map cvR → ∀ k, d < k → laws_toRelationS.l0 k l xs i = some (l.map cvR) := by
  induction d with
  | zero =>
    intro i xs hd hx ht k hk
    obtain ⟨k, rfl, hk⟩ := fuel hk
    rw [laws_toRelationS.l0, if_neg (by omega)]
    rw [List.take_of_length_le (by omega), List.take_of_length_le (by omega)] at ht
    rw [ht]
  | succ d ih =>
    intro i xs hd hx ht k hk
    obtain ⟨k, rfl, hk⟩ := fuel hk
    rw [laws_toRelationS.l0, if_pos (by omega), if_pos (by omega), laws_toRelation.f]
    simp only [Option.bind_some]
    rw [if_pos (by omega), show wrap64 ((i : Int) + 1) = ((i + 1 : Nat) : Int) by rw [w64 (by omega) (by omega)]; omega]
    refine ih (i + 1) _ (by omega) (by simpa using hx) ?_ k (by omega)
    rw [Int.toNat_natCast, take_set_succ _ _ _ (by omega), take_map_succ cvR z25 l i (by omega), ht]
    rfl

theorem toRS (l : List S25) (hl : l.length ≤ 1048576) (k : Nat) (hk : l.length < k) : laws_toRelationS.f k l = some (l.map cvR) := by
  unfold laws_toRelationS.f
  rw [if_pos (by omega), Int.toNat_natCast, if_pos (by omega)]
  exact toRSl l hl l.length 0 _ (by omega) (by simp) (by simp) k hk

theorem eqR (a : S28) : laws_eqRelation.f a.f0 a.f1 a.f2 a.f0 a.f1 a.f2 = some true := by
  unfold laws_eqRelation.f
  rw [if_pos rfl, if_pos rfl, if_pos rfl]
theorem eqRSl (l : List S28) (hl : l.length ≤ 1048576) (d : Nat) : ∀ (i : Int), 0 ≤ i → (l.length : Int) - i = d → ∀ k, d < k → laws_eqRelationS.l0 k l l i = some true := by
  induction d with
  | zero =>
    intro i h0 hd k hk
    obtain ⟨k, rfl, hk⟩ := fuel hk
    rw [laws_eqRelationS.l0, if_neg (by omega)]
  | succ d ih =>
    intro i h0 hd k hk
    obtain ⟨k, rfl, hk⟩ := fuel hk
    rw [laws_eqRelationS.l0, if_pos (by omega), if_pos h0, if_pos (by omega), eqR]
    simp only [Option.bind_some, if_true]
    rw [w64 (by omega) (by omega)]
    exact ih (i + 1) (by omega) (by omega) k (by omega)
theorem eqRS (l : List S28) (hl : l.length ≤ 1048576) (k : Nat) (hk : l.length < k) : laws_eqRelationS.f k l l = some true := by
  unfold laws_eqRelationS.f
  rw [if_pos rfl]
  exact eqRSl l hl l.length 0 (by omega) (by omega) k hk

/-! ### facts: what the laws' own functions on them come to -/
theorem szI (l : List Int) (v : Int) (hl : l.length ≤ maxLen) (hv : 0 ≤ v) (hv1 : v ≤ 1048576) : ∃ r, laws_szIntS.f l v = some r ∧ r ≤ v ∧ -1 ≤ r ∧ (0 ≤ r → (l.length : Int) ≤ v) := by
  unfold maxLen at hl
  unfold laws_szIntS.f
  rw [w64 (by omega) (by omega)]
  by_cases h : v - (l.length : Int) < 0
  · exact ⟨-1, if_pos h, by omega, by omega, fun h => absurd h (by decide)⟩
  · exact ⟨_, if_neg h, by omega, by omega, fun _ => by omega⟩
theorem szF (a : Int) (l : List Int) (v : Int) (hl : l.length ≤ maxLen) (hv : 0 ≤ v) (hv1 : v ≤ 1048576) : ∃ r, laws_szFact.f a l v = some r ∧ r ≤ v ∧ -1 ≤ r ∧ (0 ≤ r → (l.length : Int) ≤ v) := by
  obtain ⟨r, h1, h2, h3, h4⟩ := szI l v hl hv hv1
  unfold laws_szFact.f
  rw [h1]
  simp only [Option.bind_some]
  by_cases h : r < 0
  · exact ⟨-1, if_pos h, by omega, by omega, fun h => absurd h (by decide)⟩
  · exact ⟨r, if_neg h, h2, h3, h4⟩
/-! ### lists of numbers: what the laws' own functions on them come to -/
theorem toIl (l : List Int) (hl : l.length ≤ 1048576) (d : Nat) : ∀ (i : Nat) (xs : List Int), (l.length : Int) - i = d → xs.length = l.length → xs.take i = l.take i → ∀ k, d < k → laws_toIntS.l0 k l xs i = some l := by
  induction d with
  | zero =>
    intro i xs hd hx ht k hk
    obtain ⟨k, rfl, hk⟩ := fuel hk
    rw [laws_toIntS.l0, if_neg (by omega)]
    rw [List.take_of_length_le (by omega), List.take_of_length_le (by omega)] at ht
    rw [ht]
  | succ d ih =>
    intro i xs hd hx ht k hk
    obtain ⟨k, rfl, hk⟩ := fuel hk
    rw [laws_toIntS.l0, if_pos (by omega), if_pos (by omega), if_pos (by omega), show wrap64 ((i : Int) + 1) = ((i + 1 : Nat) : Int) by rw [w64 (by omega) (by omega)]; omega]
    refine ih (i + 1) _ (by omega) (by simpa using hx) ?_ k (by omega)
    rw [Int.toNat_natCast, take_set_succ _ _ _ (by omega), ht, List.take_succ_eq_append_getElem (by omega)]
    congr 2
    unfold rd
    rw [Int.toNat_natCast, getD_lt l _ i (by omega)]
theorem toI (l : List Int) (hl : l.length ≤ 1048576) (k : Nat) (hk : l.length < k) : laws_toIntS.f k l = some l := by
  unfold laws_toIntS.f
  rw [if_pos (by omega), Int.toNat_natCast, if_pos (by omega)]
  exact toIl l hl l.length 0 _ (by omega) (by simp) (by simp) k hk
theorem eqIl (l : List Int) (hl : l.length ≤ 1048576) (d : Nat) : ∀ (i : Int), 0 ≤ i → (l.length : Int) - i = d → ∀ k, d < k → laws_eqIntS.l0 k l l i = some true := by
  induction d with
  | zero =>
    intro i h0 hd k hk
    obtain ⟨k, rfl, hk⟩ := fuel hk
    rw [laws_eqIntS.l0, if_neg (by omega)]
  | succ d ih =>
    intro i h0 hd k hk
    obtain ⟨k, rfl, hk⟩ := fuel hk
    rw [laws_eqIntS.l0, if_pos (by omega), if_pos h0, if_pos (by omega), if_pos rfl, w64 (by omega) (by omega)]
    exact ih (i + 1) (by omega) (by omega) k (by omega)
theorem eqI (l : List Int) (hl : l.length ≤ 1048576) (k : Nat) (hk : l.length < k) : laws_eqIntS.f k l l = some true := by
  unfold laws_eqIntS.f
  rw [if_pos rfl]
  exact eqIl l hl l.length 0 (by omega) (by omega) k hk

theorem toF (a : Int) (l : List Int) (hl : l.length ≤ 1048576) (k : Nat) (hk : l.length < k) : laws_toFact.f k a l = some (a, l) := by
  unfold laws_toFact.f
  rw [toI l hl k hk]
  rfl
theorem eqF (a : Int) (l : List Int) (hl : l.length ≤ 1048576) (k : Nat) (hk : l.length < k) : laws_eqFact.f k a l a l = some true := by
  unfold laws_eqFact.f
  rw [if_pos rfl, eqI l hl k hk]
  rfl

/-! ### valid facts -/
/-- A fact of these relations: its relation is one of them, it has vs many values vs that one asks, each a value. -/
def fits (l : List S28) (a : Int) (vs : List Int) : Bool := decide (0 ≤ a ∧ a < (l.length : Int) ∧ (vs.length : Int) = (rd_T28 l a).f1) && !vs.any noVal
def vFact (l : List S28) (a : Int) (vs : List Int) : Bool := vRels l && fits l a vs

theorem in1 (x a b : Int) : spec_l1In.f x a b = some (decide (a ≤ x ∧ x ≤ b)) := by
  unfold spec_l1In.f
  by_cases h : a ≤ x
  · rw [if_pos h]; simp [h]
  · rw [if_neg h]; simp [h]
theorem vFSl (a : Int) (vs : List Int) (hs : vs.length ≤ 1048576) (d : Nat) : ∀ (i : Nat), i + d = vs.length → ∀ k, d < k → spec_IsValidFact.l0 k i a vs = some (!(vs.drop i).any noVal) := by
  induction d with
  | zero =>
    intro i hd k hk
    obtain ⟨k, rfl, hk⟩ := fuel hk
    rw [spec_IsValidFact.l0, if_neg (by omega), List.drop_of_length_le (by omega)]
    rfl
  | succ d ih =>
    intro i hd k hk
    obtain ⟨k, rfl, hk⟩ := fuel hk
    rw [spec_IsValidFact.l0, if_pos (by omega), if_pos (by omega), in1, Option.bind_some, List.drop_eq_getElem_cons (i := i) (l := vs) (by omega), List.any_cons]
    rw [show wrap64 ((i : Int) + 1) = ((i + 1 : Nat) : Int) by rw [w64 (by omega) (by omega)]; omega, show rd vs (i : Int) = vs[i] by unfold rd; rw [Int.toNat_natCast, getD_lt vs _ i (by omega)]]
    by_cases h : 0 ≤ vs[i] ∧ vs[i] ≤ 9
    · rw [if_pos (by simpa using h), ih (i + 1) (by omega) k (by omega)]
      have : noVal vs[i] = false := by simp [noVal, h]
      rw [this, Bool.false_or]
    · rw [if_neg (by simpa using h)]
      have : noVal vs[i] = true := by
        unfold noVal
        by_cases h1 : 0 ≤ vs[i]
        · have h2 : ¬ vs[i] ≤ 9 := fun h2 => h ⟨h1, h2⟩
          simp [h2]
        · simp [h1]
      rw [this, Bool.true_or]
      rfl
theorem vFS (l : List S28) (hl : l.length ≤ 1048576) (a : Int) (vs : List Int) (hs : vs.length ≤ 1048576) (k : Nat) (hk : vs.length + 1 < k) : spec_IsValidFact.f k l a vs = some (vFact l a vs) := by
  obtain ⟨k, rfl⟩ : ∃ z, k = z + 1 := ⟨k - 1, by omega⟩
  unfold spec_IsValidFact.f spec_AreValidRelations.f vFact fits
  rw [Option.bind_some, in1, Option.bind_some, w64 (by omega) (by omega)]
  by_cases h0 : vRels l = true
  · rw [if_pos h0]
    by_cases h1 : 0 ≤ a ∧ a < (l.length : Int)
    · rw [if_pos (by simpa using (by omega : 0 ≤ a ∧ a ≤ (l.length : Int) - 1)), if_pos h1.1, if_pos h1.2, spec_IsValidFact.j0]
      by_cases h2 : (vs.length : Int) = (rd_T28 l a).f1
      · rw [if_neg (by simpa using h2), show (0 : Int) = ((0 : Nat) : Int) from rfl, vFSl a vs hs vs.length 0 (by omega) k (by omega), h0, decide_eq_true (by exact ⟨h1.1, h1.2, h2⟩)]
        simp
      · rw [if_pos (by simpa using h2), decide_eq_false (by intro h; exact h2 h.2.2)]
        simp
    · rw [if_neg (by simpa using (by omega : 0 ≤ a → ¬ a ≤ (l.length : Int) - 1)), spec_IsValidFact.j0, if_pos rfl, decide_eq_false (by intro h; exact h1 ⟨h.1, h.2.1⟩)]
      simp
  · rw [if_neg h0, spec_IsValidFact.j0, if_pos rfl]
    simp [h0]
theorem fitI (l : List S28) (hl : l.length ≤ 9223372036854775807) (a : Int) (vs : List Int) : impl_isFact.f l a vs = some (fits l a vs) := by
  unfold impl_isFact.f impl_areValues.f fits
  rw [inI, Option.bind_some, Option.bind_some, w64 (by omega) (by omega)]
  by_cases h1 : 0 ≤ a ∧ a < (l.length : Int)
  · rw [if_pos (by unfold inB; simpa using (by omega : 0 ≤ a ∧ a ≤ (l.length : Int) - 1)), if_pos h1.1, if_pos h1.2]
    by_cases h2 : (vs.length : Int) = (rd_T28 l a).f1
    · rw [if_pos h2, decide_eq_true (by exact ⟨h1.1, h1.2, h2⟩)]
      simp
    · rw [if_neg h2, decide_eq_false (by intro h; exact h2 h.2.2)]
      simp
  · rw [if_neg (by unfold inB; simpa using (by omega : 0 ≤ a → ¬ a ≤ (l.length : Int) - 1)), decide_eq_false (by intro h; exact h1 ⟨h.1, h.2.1⟩)]
    simp


/-! ### valid facts, the program's own question -/
theorem vFI (l : List S28) (hl : l.length ≤ 1048576) (a : Int) (vs : List Int) : impl_IsValidFact.f l a vs = some (vFact l a vs) := by
  unfold impl_IsValidFact.f impl_AreValidRelations.f vFact
  rw [Option.bind_some, fitI l (by omega), Option.bind_some]
  by_cases h0 : vRels l = true
  · rw [if_pos h0, h0]; rfl
  · rw [if_neg h0]; simp [h0]

theorem inB_iff (x a b : Int) : inB x a b = true ↔ a ≤ x ∧ x ≤ b := by unfold inB; exact decide_eq_true_iff
theorem vRelsFrom_at (l : List S28) : ∀ (d i : Nat), vRelsFrom l d i = true → ∀ j, i ≤ j → j < i + d → vRel (l.getD j z28) = true
  | 0, i, _, j, h1, h2 => by omega
  | d + 1, i, h, j, h1, h2 => by
    rw [vRelsFrom, Bool.and_eq_true, Bool.and_eq_true] at h
    by_cases hj : j = i
    · subst hj
      exact h.1.1
    · exact vRelsFrom_at l d (i + 1) h.2 j (by omega) (by omega)
theorem vRels_at (l : List S28) (h : vRels l = true) (a : Int) (h0 : 0 ≤ a) (h1 : a < (l.length : Int)) : vRel (rd_T28 l a) = true := by
  unfold rd_T28
  exact vRelsFrom_at l l.length 0 h a.toNat (by omega) (by omega)
theorem fits_iff (l : List S28) (a : Int) (vs : List Int) : fits l a vs = true ↔ (0 ≤ a ∧ a < (l.length : Int) ∧ (vs.length : Int) = (rd_T28 l a).f1) ∧ vs.any noVal = false := by
  unfold fits
  rw [Bool.and_eq_true, decide_eq_true_iff, Bool.not_eq_true']
theorem key_ok (l : List S28) (hr : vRels l = true) (a : Int) (vs : List Int) (h : fits l a vs = true) :
    0 ≤ a ∧ a < (l.length : Int) ∧ 0 ≤ (rd_T28 l a).f2 ∧ (rd_T28 l a).f2 ≤ (vs.length : Int) ∧ (vs.length : Int) = (rd_T28 l a).f1 ∧ vs.length ≤ 3 := by
  obtain ⟨⟨h0, h1, h2⟩, _⟩ := (fits_iff l a vs).1 h
  have hv := vRels_at l hr a h0 h1
  unfold vRel at hv
  rw [Bool.and_eq_true, Bool.and_eq_true, inB_iff, inB_iff] at hv
  exact ⟨h0, h1, by omega, by omega, h2, by omega⟩

/-- What FormatInt lays for a number's magnitude: nothing for 0, else its digits. -/
def dig (u : Nat) : List UInt8 := if u = 0 then [] else Lib.decDigits u
theorem dig_step (u : Nat) (h : 0 < u) : dig u = dig (u / 10) ++ [UInt8.ofNat (48 + u % 10)] := by
  unfold dig
  rw [if_neg (by omega), Lib.decDigits]
  by_cases c : u < 10
  · rw [dif_pos c, if_pos (by omega), List.nil_append, Nat.mod_eq_of_lt c]
  · rw [dif_neg c, if_neg (by omega)]
theorem sn_cons (z : Int) (l : List UInt8) : strOfNums [z] ++ (⟨l.toArray⟩ : ByteArray) = ⟨(UInt8.ofNat z.toNat :: l).toArray⟩ := by
  apply ByteArray.ext
  apply Array.ext'
  rw [ByteArray.data_append, Array.toList_append, sn_toList]
  simp
theorem sz_mk (l : List UInt8) : (⟨l.toArray⟩ : ByteArray).size = l.length := by
  rw [show (⟨l.toArray⟩ : ByteArray).size = (⟨l.toArray⟩ : ByteArray).data.size from rfl]; simp
def fin (neg : Bool) (l : List UInt8) : ByteArray := if neg = true then ⟨(45 :: l).toArray⟩ else ⟨l.toArray⟩
theorem fil (d : Nat) : ∀ (u : Nat) (x : Int) (neg : Bool) (l : List UInt8), (x = u ∨ x = -(u : Int)) → u < 10 ^ d → u ≤ 9223372036854775808 → l.length + d ≤ 1000 → ∀ k, d < k → spec_FormatInt.l0 k x ⟨l.toArray⟩ neg = some (fin neg (dig u ++ l)) := by
  induction d with
  | zero =>
    intro u x neg l hx hu _ hl k hk
    obtain ⟨k, rfl, hk⟩ := fuel hk
    rw [Nat.pow_zero] at hu
    rw [spec_FormatInt.l0, if_pos (by omega), show u = 0 by omega]
    unfold fin dig
    rw [if_pos rfl, List.nil_append]
    by_cases h : neg = true
    · rw [if_pos h, if_pos h, if_pos (by rw [sz_mk]; omega)]
      congr 1
    · rw [if_neg h, if_neg h]
  | succ d ih =>
    intro u x neg l hx hu hb hl k hk
    obtain ⟨k, rfl, hk⟩ := fuel hk
    by_cases h0 : u = 0
    · rw [spec_FormatInt.l0, if_pos (by omega), h0]
      unfold fin dig
      rw [if_pos rfl, List.nil_append]
      by_cases h : neg = true
      · rw [if_pos h, if_pos h, if_pos (by rw [sz_mk]; omega)]
        congr 1
      · rw [if_neg h, if_neg h]
    · have hm : Int.tmod x 10 = (u % 10 : Nat) ∨ Int.tmod x 10 = -((u % 10 : Nat) : Int) := by
        rcases hx with rfl | rfl
        · left; rw [Int.tmod_eq_emod_of_nonneg (by omega)]; omega
        · right; rw [Int.neg_tmod, Int.tmod_eq_emod_of_nonneg (by omega)]; omega
      have hd : Int.tdiv x 10 = (u / 10 : Nat) ∨ Int.tdiv x 10 = -((u / 10 : Nat) : Int) := by
        rcases hx with rfl | rfl
        · left; rw [Int.tdiv_eq_ediv_of_nonneg (by omega)]; omega
        · right; rw [Int.neg_tdiv, Int.tdiv_eq_ediv_of_nonneg (by omega)]; omega
      have h1 : (strOfNums [((48 + u % 10 : Nat) : Int)]).size = 1 := by rw [sn_size]; rfl
      have hs := ih (u / 10) (Int.tdiv x 10) neg (UInt8.ofNat (48 + u % 10) :: l) hd (by rw [Nat.pow_succ] at hu; omega) (by omega) (by simp only [List.length_cons]; omega) k (by omega)
      have hz : wrap64 (Int.tdiv x 10) = Int.tdiv x 10 := w64 (by omega) (by omega)
      have hn : ∀ z : Int, z = ((u % 10 : Nat) : Int) → wrap64 (48 + z) % 256 = ((48 + u % 10 : Nat) : Int) := by
        intro z e
        rw [w64 (by omega) (by omega)]
        omega
      have hfin : spec_FormatInt.l0 k (wrap64 (Int.tdiv x 10)) (strOfNums [((48 + u % 10 : Nat) : Int)] ++ ⟨l.toArray⟩) neg = some (fin neg (dig u ++ l)) := by
        rw [hz, sn_cons, Int.toNat_natCast, hs, dig_step u (by omega), List.append_assoc]
        rfl
      rw [spec_FormatInt.l0, if_neg (by omega)]
      by_cases hc : Int.tmod x 10 < 0
      · rw [if_pos hc, Option.bind_some, hn _ (by rw [w64 (by omega) (by omega)]; omega), if_pos (by rw [h1, sz_mk]; omega)]
        exact hfin
      · rw [if_neg hc, Option.bind_some, hn _ (by omega), if_pos (by rw [h1, sz_mk]; omega)]
        exact hfin
theorem fiS (n : Int) (h0 : -9223372036854775808 ≤ n) (h1 : n ≤ 9223372036854775807) (k : Nat) (hk : 30 < k) : spec_FormatInt.f k n = some ⟨(Lib.itoa n).toArray⟩ := by
  unfold spec_FormatInt.f
  by_cases h : n = 0
  · rw [if_pos h, h]
    unfold Lib.itoa
    rw [if_neg (by omega), show (0 : Int).toNat = 0 from rfl, Lib.decDigits, dif_pos (by omega)]
    rfl
  · rw [if_neg h]
    have hp : (10 : Nat) ^ 20 = 100000000000000000000 := by decide
    have := fil 20 n.natAbs n (decide (n < 0)) [] (by omega) (by omega) (by omega) (by simp) k (by omega)
    rw [show (⟨#[]⟩ : ByteArray) = ⟨([] : List UInt8).toArray⟩ from rfl, this, List.append_nil]
    unfold fin dig Lib.itoa
    rw [if_neg (show ¬ n.natAbs = 0 by omega)]
    by_cases hn : n < 0
    · rw [if_pos (decide_eq_true hn), if_pos hn]
    · rw [if_neg (by simpa using hn), if_neg hn, show n.natAbs = n.toNat by omega]

theorem vRel_sz (x : S28) (h : vRel x = true) : x.f0.size ≤ 1048576 := by
  unfold vRel at h
  rw [Bool.and_eq_true, Bool.and_eq_true, decide_eq_true_iff] at h
  have := h.1.1.1
  omega
theorem fiI (n : Int) (h0 : -9223372036854775808 ≤ n) (h1 : n ≤ 9223372036854775807) : impl_FormatInt.f n = some ⟨(Lib.itoa n).toArray⟩ := by
  unfold impl_FormatInt.f strconv_Itoa_52.f
  rw [if_pos h0, if_pos h1, Option.bind_some]
def numB (v : Int) : ByteArray := ⟨(Lib.itoa v).toArray⟩
theorem numB_sz (v : Int) (h0 : -9223372036854775808 ≤ v) (h1 : v ≤ 9223372036854775807) : (numB v).size ≤ 21 := by
  unfold numB; rw [sz_mk]; exact Lib.itoa_length_le v h0 h1
def ffs (f2 : Nat) : Nat → List Int → ByteArray → ByteArray
  | _, [], s => s
  | i, v :: vs, s => ffs f2 (i + 1) vs ((if i = f2 then s ++ (⟨#[124]⟩ : ByteArray) else s) ++ numB v)
theorem ffSl (l : List S28) (a : Int) (ha : 0 ≤ a) (ha' : a < (l.length : Int)) (f2 : Nat) (h2 : (rd_T28 l a).f2 = f2) (vs : List Int) (hn : vs.length ≤ 3) (hb : ∀ v ∈ vs, -9223372036854775808 ≤ v ∧ v ≤ 9223372036854775807) (d : Nat) : ∀ (i : Nat) (s : ByteArray), i + d = vs.length → s.size + 30 * d ≤ 1000000000 → ∀ k, d + 40 < k → spec_FormatFact.l0 k l s i a vs = some (ffs f2 i (vs.drop i) s) := by
  induction d with
  | zero =>
    intro i s hd _ k hk
    obtain ⟨k, rfl, hk⟩ := fuel hk
    rw [spec_FormatFact.l0, if_neg (by omega), List.drop_eq_nil_of_le (by omega), ffs]
  | succ d ih =>
    intro i s hd hs k hk
    obtain ⟨k, rfl, hk⟩ := fuel hk
    have hv := hb vs[i] (List.getElem_mem _)
    have hz := numB_sz vs[i] hv.1 hv.2
    have hr : rd vs (i : Int) = vs[i] := by unfold rd; rw [Int.toNat_natCast, getD_lt _ _ i (by omega)]
    have l1 : (⟨#[124]⟩ : ByteArray).size = 1 := rfl
    have hf : spec_FormatInt.f k vs[i] = some (numB vs[i]) := fiS _ hv.1 hv.2 k (by omega)
    rw [spec_FormatFact.l0, if_pos (by omega), if_pos ha, if_pos ha', h2, hr, hf, List.drop_eq_getElem_cons (by omega), ffs, show wrap64 ((i : Int) + 1) = ((i + 1 : Nat) : Int) by rw [w64 (by omega) (by omega)]; omega]
    simp only [Option.bind_some]
    by_cases c : i = f2
    · rw [if_pos (by omega), if_pos (by omega), if_pos (by omega), if_pos (by rw [ByteArray.size_append]; omega), if_pos c]
      exact ih (i + 1) _ (by omega) (by rw [ByteArray.size_append, ByteArray.size_append]; omega) k (by omega)
    · rw [if_neg (by omega), if_pos (by omega), if_pos (by omega), if_neg c]
      exact ih (i + 1) _ (by omega) (by rw [ByteArray.size_append]; omega) k (by omega)
def bar (xs : List ByteArray) (f2 : Nat) : ByteArray := if (f2 : Int) < (xs.length : Int) then (⟨(Shelf.cat_ (xs.take f2)).toArray⟩ : ByteArray) ++ ((⟨#[124]⟩ : ByteArray) ++ (⟨(Shelf.cat_ (xs.drop f2)).toArray⟩ : ByteArray)) else (⟨(Shelf.cat_ (xs.take f2)).toArray⟩ : ByteArray)
theorem cat_sz : ∀ xs : List ByteArray, (∀ x ∈ xs, x.size ≤ 21) → (Shelf.cat_ xs).length ≤ 21 * xs.length
  | [], _ => by rw [Shelf.cat_]; simp
  | x :: xs, h => by
    have := cat_sz xs fun y hy => h y (List.mem_cons_of_mem _ hy)
    have hx := h x (List.mem_cons_self ..)
    have e : x.toList.length = x.size := by rw [tl_eq, Array.length_toList]; rfl
    rw [Shelf.cat_, List.length_append, List.length_cons, e]
    omega
theorem bar_sz (xs : List ByteArray) (f2 : Nat) (hn : xs.length ≤ 3) (h : ∀ x ∈ xs, x.size ≤ 21) : (bar xs f2).size ≤ 1000 := by
  have h1 := cat_sz xs h
  have h2 := Shelf.cat_len xs f2
  have l1 : (⟨#[124]⟩ : ByteArray).size = 1 := rfl
  unfold bar
  split
  · rw [ByteArray.size_append, ByteArray.size_append, sz_mk, l1, sz_mk]; omega
  · rw [sz_mk]; omega
theorem ffIl (l : List S28) (a : Int) (ha : 0 ≤ a) (ha' : a < (l.length : Int)) (f2 : Nat) (h2 : (rd_T28 l a).f2 = f2) (vs : List Int) (hn : vs.length ≤ 3) (hf : f2 ≤ vs.length) (hsz : (rd_T28 l a).f0.size ≤ 1048576) (hb : ∀ v ∈ vs, -9223372036854775808 ≤ v ∧ v ≤ 9223372036854775807) (d : Nat) : ∀ (i : Nat), i + d = vs.length → ∀ k, d < k → impl_FormatFact.l0 k l ((vs.take i).map numB) vs vs.length i a vs = some ((rd_T28 l a).f0 ++ bar (vs.map numB) f2) := by
  have hm : ∀ x ∈ vs.map numB, x.size ≤ 21 := by
    intro x hx
    obtain ⟨v, hv, rfl⟩ := List.mem_map.1 hx
    exact numB_sz v (hb v hv).1 (hb v hv).2
  have hml : (vs.map numB).length = vs.length := List.length_map ..
  induction d with
  | zero =>
    intro i hd k hk
    obtain ⟨k, rfl, hk⟩ := fuel hk
    have hc := cat_sz _ hm
    have hbz := bar_sz (vs.map numB) f2 (by omega) hm
    have hbr : impl_barred.f (vs.map numB) f2 = some (bar (vs.map numB) f2) := by
      unfold impl_barred.f bar
      rw [if_pos (by omega), if_pos (by omega), Int.toNat_natCast]
    rw [impl_FormatFact.l0, if_neg (by omega), if_pos ha, if_pos ha', h2, List.take_of_length_le (by omega), hbr, Option.bind_some, if_pos (by omega)]
  | succ d ih =>
    intro i hd k hk
    obtain ⟨k, rfl, hk⟩ := fuel hk
    have hv := hb vs[i] (List.getElem_mem _)
    have hr : rd vs (i : Int) = vs[i] := by unfold rd; rw [Int.toNat_natCast, getD_lt _ _ i (by omega)]
    have hfi : impl_FormatInt.f vs[i] = some (numB vs[i]) := fiI _ hv.1 hv.2
    rw [impl_FormatFact.l0, if_pos (by omega), if_pos (by omega), if_pos (by omega), hr, hfi, Option.bind_some, if_pos (by rw [List.length_map, List.length_take]; omega), show wrap64 ((i : Int) + 1) = ((i + 1 : Nat) : Int) by rw [w64 (by omega) (by omega)]; omega, show (vs.take i).map numB ++ [numB vs[i]] = (vs.take (i + 1)).map numB by rw [List.take_succ_eq_append_getElem (by omega), List.map_append]; rfl]
    exact ih (i + 1) (by omega) k (by omega)
theorem ba_app (s : ByteArray) (l m : List UInt8) : s ++ (⟨(l ++ m).toArray⟩ : ByteArray) = (s ++ (⟨l.toArray⟩ : ByteArray)) ++ (⟨m.toArray⟩ : ByteArray) := by
  apply ByteArray.ext
  apply Array.ext'
  simp [ByteArray.data_append]
theorem ba_num (s x : ByteArray) (l : List UInt8) : s ++ (⟨(x.toList ++ l).toArray⟩ : ByteArray) = (s ++ x) ++ (⟨l.toArray⟩ : ByteArray) := by
  rw [ba_app, tl_eq]
theorem ffs_past (f2 : Nat) : ∀ (vs : List Int) (i : Nat) (s : ByteArray), f2 < i → ffs f2 i vs s = s ++ (⟨(Shelf.cat_ (vs.map numB)).toArray⟩ : ByteArray)
  | [], i, s, _ => by
    rw [ffs, List.map_nil, Shelf.cat_]
    apply ByteArray.ext; apply Array.ext'; simp [ByteArray.data_append]
  | v :: vs, i, s, h => by rw [ffs, if_neg (by omega), ffs_past f2 vs (i + 1) _ (by omega), List.map_cons, Shelf.cat_, ba_num]
theorem ffs_bar : ∀ (vs : List Int) (i f2 : Nat) (s : ByteArray), i ≤ f2 → ffs f2 i vs s = s ++ bar (vs.map numB) (f2 - i)
  | [], i, f2, s, h => by
    rw [ffs, List.map_nil]
    unfold bar
    rw [if_neg (by simp), List.take_nil, Shelf.cat_]
    apply ByteArray.ext; apply Array.ext'; simp [ByteArray.data_append]
  | v :: vs, i, f2, s, h => by
    rw [ffs]
    by_cases c : i = f2
    · rw [if_pos c, ffs_past f2 vs (i + 1) _ (by omega), show f2 - i = 0 by omega]
      unfold bar
      rw [if_pos (by simp), List.take_zero, List.drop_zero, List.map_cons, Shelf.cat_, Shelf.cat_, tl_eq]
      apply ByteArray.ext; apply Array.ext'; simp [ByteArray.data_append]
    · rw [if_neg c, ffs_bar vs (i + 1) f2 _ (by omega), show f2 - i = (f2 - (i + 1)) + 1 by omega]
      unfold bar
      rw [List.map_cons, List.take_succ_cons, List.drop_succ_cons, List.length_cons, Shelf.cat_, tl_eq]
      by_cases q : ((f2 - (i + 1) : Nat) : Int) < ((vs.map numB).length : Int)
      · rw [if_pos q, if_pos (by push_cast; omega)]
        apply ByteArray.ext; apply Array.ext'; simp [ByteArray.data_append]
      · rw [if_neg q, if_neg (by push_cast; omega)]
        apply ByteArray.ext; apply Array.ext'; simp [ByteArray.data_append]
theorem ffB (l : List S28) (hl : l.length ≤ 1048576) (a : Int) (vs : List Int) (hs : vs.length ≤ 1048576) (hb : ∀ v ∈ vs, -9223372036854775808 ≤ v ∧ v ≤ 9223372036854775807) (k : Nat) (hk : 2000000 < k) : ∃ S, spec_FormatFact.f k l a vs = some S ∧ impl_FormatFact.f k l a vs = some S := by
  unfold spec_FormatFact.f impl_FormatFact.f
  rw [vFS l hl a vs hs k (by omega), vFI l hl a vs, Option.bind_some, Option.bind_some]
  by_cases h : vFact l a vs = true
  · have hv := h
    unfold vFact at hv
    rw [Bool.and_eq_true] at hv
    obtain ⟨h0, h1, h2, h3, h4, h5⟩ := key_ok l hv.1 a vs hv.2
    have hn := vRels_at l hv.1 a h0 h1
    have hsz : (rd_T28 l a).f0.size ≤ 1048576 := vRel_sz _ hn
    rw [if_pos h, if_pos h, if_pos h0, if_pos h1]
    have e1 := ffSl l a h0 h1 (rd_T28 l a).f2.toNat (by omega) vs h5 hb vs.length 0 (rd_T28 l a).f0 (by omega) (by omega) k (by omega)
    have e2 := ffIl l a h0 h1 (rd_T28 l a).f2.toNat (by omega) vs h5 (by omega) hsz hb vs.length 0 (by omega) k (by omega)
    rw [List.drop_zero, ffs_bar vs 0 _ _ (by omega), Nat.sub_zero] at e1
    exact ⟨_, e1, e2⟩
  · rw [if_neg h, if_neg h]
    exact ⟨_, rfl, rfl⟩


theorem FnExactFormatFact : FnExactFormatFactPure := by
  intro l x hl hx
  obtain ⟨r, h1, h2, h3, h4⟩ := szRS l hl.1 (fun y hy => (hl.2 y hy).1) 1048576 (by omega) (by omega)
  by_cases hr : r < 0
  · refine ⟨l.length + 1, ?_⟩
    unfold laws_FnExactFormatFact.f
    rw [h4 _ (by omega), Option.bind_some, if_pos hr]
  obtain ⟨r', g1, g2, g3, g4⟩ := szF x.f0 x.f1 r hx.2.1 (by omega) (by omega)
  by_cases hr' : r' < 0
  · refine ⟨l.length + 1, ?_⟩
    unfold laws_FnExactFormatFact.f
    rw [h4 _ (by omega), Option.bind_some, if_neg hr, g1, Option.bind_some, if_pos hr']
  have hl' : l.length ≤ 1048576 := by have := h3 (by omega); omega
  have hx' : x.f1.length ≤ 1048576 := by have := g4 (by omega); omega
  have hm : (l.map cvR).length = l.length := by simp
  have hb : ∀ v ∈ x.f1, -9223372036854775808 ≤ v ∧ v ≤ 9223372036854775807 := fun v hv => wfb (hx.2.2 v hv)
  refine ⟨2000001, ?_⟩
  generalize hk : (2000001 : Nat) = k
  obtain ⟨S, s1, s2⟩ := ffB (l.map cvR) (by omega) x.f0 x.f1 hx' hb k (by omega)
  unfold laws_FnExactFormatFact.f
  rw [h4 _ (by omega), Option.bind_some, if_neg hr, g1, Option.bind_some, if_neg hr', toRS l hl' _ (by omega), toF _ _ hx' _ (by omega)]
  simp only [Option.bind_some]
  rw [s1, s2]
  simp only [Option.bind_some, if_true]
  rw [eqRS _ (by omega) _ (by omega), eqF _ _ hx' _ (by omega)]
  simp

end Go.Proofs.YtdpaopfghggiaaaDoor.Pure
